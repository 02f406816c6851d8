import PyProof.Rows.All
import Wide.All
import OpenK.AllK
import Wide.FinOn
import HandS.ForMost
import HandS.EndBits
import HandS.Evl
import HandS.IsInst
import HandS.SetFor
import HandS.SortInts
import HandS.Style
import HandS.Wide
import HandS.Walk
import PySem.Challenge.RW_doorturns_k04_whole_compared
set_option Elab.async false
set_option linter.all false
set_option maxRecDepth 100000
set_option maxHeartbeats 4000000
/-! Plain laws about turners and doors; core Lean alone. -/
namespace Dt

/-- how many of the turners go into d -/
def hits (ts : List Int) (d : Int) : Nat := ts.countP fun t => decide (d % t = 0)
/-- whether door d stands open behind ts -/
def opn (ts : List Int) (d : Int) : Bool := decide (hits ts d % 2 = 1)

theorem hits_nil (d : Int) : hits [] d = 0 := rfl
theorem hits_app (a b : List Int) (d : Int) : hits (a ++ b) d = hits a d + hits b d := List.countP_append
theorem hits_one (t d : Int) : hits [t] d = if d % t = 0 then 1 else 0 := by
  unfold hits
  by_cases h : d % t = 0 <;> simp [List.countP_cons, h]
theorem hits_cons (t : Int) (r : List Int) (d : Int) : hits (t :: r) d = hits r d + if d % t = 0 then 1 else 0 := by
  have := hits_app [t] r d
  rw [List.singleton_append, hits_one] at this
  omega
theorem opn_nil (d : Int) : opn [] d = false := rfl
theorem par_not (n : Nat) : decide ((n + 1) % 2 = 1) = !decide (n % 2 = 1) := by
  by_cases h : n % 2 = 1
  · rw [decide_eq_true h, decide_eq_false (by omega)]; rfl
  · rw [decide_eq_false h, decide_eq_true (by omega)]; rfl
theorem par_add (m n : Nat) : decide ((m + n) % 2 = 1) = (decide (m % 2 = 1) != decide (n % 2 = 1)) := by
  by_cases h : m % 2 = 1 <;> by_cases g : n % 2 = 1
  · rw [decide_eq_true h, decide_eq_true g, decide_eq_false (by omega)]; rfl
  · rw [decide_eq_true h, decide_eq_false g, decide_eq_true (by omega)]; rfl
  · rw [decide_eq_false h, decide_eq_true g, decide_eq_true (by omega)]; rfl
  · rw [decide_eq_false h, decide_eq_false g, decide_eq_false (by omega)]; rfl
theorem opn_app (a b : List Int) (d : Int) : opn (a ++ b) d = (opn a d != opn b d) := by
  unfold opn
  rw [hits_app, par_add]
theorem opn_snoc (a : List Int) (t d : Int) : opn (a ++ [t]) d = if d % t = 0 then !opn a d else opn a d := by
  unfold opn
  rw [hits_app, hits_one]
  by_cases h : d % t = 0
  · rw [if_pos h, if_pos h, par_not]
  · rw [if_neg h, if_neg h]; rfl
theorem opn_rev (a : List Int) (d : Int) : opn a.reverse d = opn a d := by
  unfold opn hits
  rw [List.countP_reverse]
theorem opn_take {ts : List Int} {i : Nat} {t : Int} (h : ts[i]? = some t) (d : Int) : opn (ts.take (i + 1)) d = if d % t = 0 then !opn (ts.take i) d else opn (ts.take i) d := by
  rw [List.take_add_one, h]
  exact opn_snoc _ _ _
/-- the program's own word for it -/
theorem opn_len (ts : List Int) (d : Int) : decide (((ts.filter fun t => decide (d % t = 0)).length : Int) % 2 = 1) = opn ts d := by
  unfold opn hits
  rw [List.countP_eq_length_filter]
  by_cases h : (ts.filter fun t => decide (d % t = 0)).length % 2 = 1
  · rw [decide_eq_true h, decide_eq_true (by omega)]
  · rw [decide_eq_false h, decide_eq_false (by omega)]

/-! ### kept turners -/
/-- ks: those that stand in ts an odd count of times, rising -/
structure IsKept (ts ks : List Int) : Prop where
  rise : ks.Pairwise (· < ·)
  mem : ∀ x, x ∈ ks ↔ ts.count x % 2 = 1

theorem nodup_of_rise {ks : List Int} (h : ks.Pairwise (· < ·)) : ks.Nodup := h.imp (fun h e => by omega)
theorem rise_eq {a b : List Int} (ha : a.Pairwise (· < ·)) (hb : b.Pairwise (· < ·)) (h : ∀ x, x ∈ a ↔ x ∈ b) : a = b :=
  List.Perm.eq_of_pairwise (le := (· < ·)) (fun x y _ _ h1 h2 => by omega) ha hb ((List.perm_ext_iff_of_nodup (nodup_of_rise ha) (nodup_of_rise hb)).mpr h)
theorem IsKept.uniq {ts a b : List Int} (ha : IsKept ts a) (hb : IsKept ts b) : a = b := rise_eq ha.rise hb.rise fun x => (ha.mem x).trans (hb.mem x).symm
/-- the same counts, the same kept -/
theorem IsKept.of_par {ts us ks : List Int} (h : IsKept ts ks) (e : ∀ x, us.count x % 2 = ts.count x % 2) : IsKept us ks := ⟨h.rise, fun x => by rw [h.mem x, e x]⟩
theorem IsKept.self {ts ks : List Int} (h : IsKept ts ks) : IsKept ks ks := ⟨h.rise, fun x => by
  rw [(nodup_of_rise h.rise).count]
  by_cases e : x ∈ ks
  · simp [e]
  · simp [e]⟩
theorem IsKept.pos {ts ks : List Int} (h : IsKept ts ks) {P : Int → Prop} (hp : ∀ t ∈ ts, P t) : ∀ k ∈ ks, P k := fun k hk => hp k (List.count_pos_iff.mp (by
  have := (h.mem k).mp hk
  omega))

def tog : List Int → List Int
  | [] => []
  | t :: r => if t ∈ tog r then (tog r).erase t else t :: tog r
theorem tog_ok : ∀ ts : List Int, (tog ts).Nodup ∧ (∀ x, x ∈ tog ts ↔ ts.count x % 2 = 1) ∧ ∀ d, hits (tog ts) d % 2 = hits ts d % 2
  | [] => ⟨List.nodup_nil, fun x => by simp [tog], fun d => rfl⟩
  | t :: r => by
    obtain ⟨h1, h2, h3⟩ := tog_ok r
    unfold tog
    by_cases ht : t ∈ tog r
    · rw [if_pos ht]
      refine ⟨h1.erase t, fun x => ?_, fun d => ?_⟩
      · rw [h1.mem_erase_iff, h2 x, List.count_cons]
        have q := (h2 t).mp ht
        by_cases e : x = t
        · subst e
          simp
          omega
        · have e' : (t == x) = false := by simp; exact fun z => e z.symm
          simp [e, e']
      · have p := (List.perm_cons_erase ht).countP_eq fun t => decide (d % t = 0)
        have p' : hits (tog r) d = hits (t :: (tog r).erase t) d := p
        rw [hits_cons] at p'
        have q := h3 d
        rw [hits_cons]
        split at p' <;> split <;> omega
    · rw [if_neg ht]
      refine ⟨List.nodup_cons.mpr ⟨ht, h1⟩, fun x => ?_, fun d => ?_⟩
      · rw [List.mem_cons, h2 x, List.count_cons]
        have q : ¬ (r.count t % 2 = 1) := fun z => ht ((h2 t).mpr z)
        by_cases e : x = t
        · subst e
          simp
          omega
        · have e' : (t == x) = false := by simp; exact fun z => e z.symm
          simp [e, e']
      · rw [hits_cons, hits_cons]
        have q := h3 d
        split <;> omega
theorem IsKept.hits {ts ks : List Int} (h : IsKept ts ks) (d : Int) : hits ks d % 2 = hits ts d % 2 := by
  obtain ⟨h1, h2, h3⟩ := tog_ok ts
  have p : ks.Perm (tog ts) := (List.perm_ext_iff_of_nodup (nodup_of_rise h.rise) h1).mpr fun x => (h.mem x).trans (h2 x).symm
  have q : Dt.hits ks d = Dt.hits (tog ts) d := p.countP_eq _
  rw [q]
  exact h3 d
theorem IsKept.opn {ts ks : List Int} (h : IsKept ts ks) (d : Int) : opn ks d = opn ts d := by
  unfold Dt.opn
  rw [h.hits d]

/-! ### the two loops that find them, over the sorted turners -/
/-- the program's loop: after a front part of the sorted list, the odd ones of it, rising -/
structure LoInv (ts pre f : List Int) : Prop where
  rise : f.Pairwise (· < ·)
  mem : ∀ x, x ∈ f ↔ x ∈ pre ∧ ts.count x % 2 = 1
theorem LoInv.nil (ts : List Int) : LoInv ts [] [] := ⟨List.Pairwise.nil, fun x => by simp⟩
theorem LoInv.skip {ts pre f : List Int} {one : Int} (h : LoInv ts pre f) (hn : ¬ (ts.count one % 2 = 1 ∧ one ∉ f)) : LoInv ts (pre ++ [one]) f := ⟨h.rise, fun x => by
  rw [h.mem x, List.mem_append, List.mem_singleton]
  constructor
  · exact fun z => ⟨.inl z.1, z.2⟩
  · rintro ⟨z | z, w⟩
    · exact ⟨z, w⟩
    · subst z
      by_cases q : x ∈ f
      · exact (h.mem x).mp q
      · exact absurd ⟨w, q⟩ hn⟩
theorem LoInv.put {ts pre f : List Int} {one : Int} (h : LoInv ts pre f) (hs : ∀ x ∈ pre, x ≤ one) (h1 : ts.count one % 2 = 1) (h2 : one ∉ f) : LoInv ts (pre ++ [one]) (f ++ [one]) := by
  refine ⟨List.pairwise_append.mpr ⟨h.rise, List.pairwise_singleton _ _, fun a ha b hb => ?_⟩, fun x => ?_⟩
  · have e : b = one := List.mem_singleton.mp hb
    subst e
    have q := hs a ((h.mem a).mp ha).1
    by_cases e : a = b
    · subst e; exact absurd ha h2
    · omega
  · rw [List.mem_append, h.mem x, List.mem_append, List.mem_singleton]
    constructor
    · rintro (z | z)
      · exact ⟨.inl z.1, z.2⟩
      · subst z; exact ⟨.inr rfl, h1⟩
    · rintro ⟨z | z, w⟩
      · exact .inl ⟨z, w⟩
      · exact .inr z
theorem LoInv.kept {ts s f : List Int} (h : LoInv ts s f) (p : s.Perm ts) : IsKept ts f := ⟨h.rise, fun x => by
  rw [h.mem x]
  constructor
  · exact fun z => z.2
  · exact fun z => ⟨p.mem_iff.mpr (List.count_pos_iff.mp (by omega)), z⟩⟩

/-- the law's own loop: IsKept of the front part itself -/
theorem kept_nil : IsKept [] [] := ⟨List.Pairwise.nil, fun x => by simp⟩
theorem kept_pop {pre f : List Int} {one : Int} (h : IsKept pre (f ++ [one])) : IsKept (pre ++ [one]) f := by
  have hr := List.pairwise_append.mp h.rise
  refine ⟨hr.1, fun x => ?_⟩
  rw [List.count_append, List.count_singleton]
  have q := h.mem x
  rw [List.mem_append, List.mem_singleton] at q
  by_cases e : x = one
  · subst e
    have n : x ∉ f := fun z => by
      have := hr.2.2 x z x (List.mem_singleton.mpr rfl)
      omega
    have w := q.mp (.inr rfl)
    simp only [beq_self_eq_true, if_true]
    constructor
    · exact fun z => absurd z n
    · intro z; omega
  · have e' : (one == x) = false := by simp; exact fun z => e z.symm
    rw [e']
    constructor
    · exact fun z => q.mp (.inl z)
    · intro z
      rcases q.mpr z with w | w
      · exact w
      · exact absurd w e
theorem kept_push {pre f : List Int} {one : Int} (h : IsKept pre f) (hs : ∀ x ∈ pre, x ≤ one) (hl : f.getLast? ≠ some one) : IsKept (pre ++ [one]) (f ++ [one]) := by
  have n : one ∉ f := fun z => by
    have h1 : ∃ g l, f = g ++ [l] := by
      rcases List.eq_nil_or_concat f with e | ⟨g, l, e⟩
      · subst e; cases z
      · exact ⟨g, l, by rw [e, List.concat_eq_append]⟩
    obtain ⟨g, l, rfl⟩ := h1
    have hr := List.pairwise_append.mp h.rise
    rw [List.getLast?_concat] at hl
    rcases List.mem_append.mp z with w | w
    · have a := hr.2.2 one w l (List.mem_singleton.mpr rfl)
      have b := hs l (List.count_pos_iff.mp (by
        have := (h.mem l).mp (List.mem_append.mpr (.inr (List.mem_singleton.mpr rfl)))
        omega))
      omega
    · exact hl (by rw [List.mem_singleton.mp w])
  refine ⟨List.pairwise_append.mpr ⟨h.rise, List.pairwise_singleton _ _, fun a ha b hb => ?_⟩, fun x => ?_⟩
  · have e : b = one := List.mem_singleton.mp hb
    subst e
    have q := hs a (List.count_pos_iff.mp (by
      have := (h.mem a).mp ha
      omega))
    by_cases e : a = b
    · subst e; exact absurd ha n
    · omega
  · rw [List.mem_append, List.mem_singleton, h.mem x, List.count_append, List.count_singleton]
    by_cases e : x = one
    · subst e
      have w : ¬ (pre.count x % 2 = 1) := fun z => n ((h.mem x).mpr z)
      simp
      omega
    · have e' : (one == x) = false := by simp; exact fun z => e z.symm
      simp [e, e']
theorem kept_perm {s ts f : List Int} (h : IsKept s f) (p : s.Perm ts) : IsKept ts f := h.of_par fun x => by rw [p.count_eq]
theorem len_sub : ∀ {ks ts : List Int}, ks.Nodup → (∀ k ∈ ks, k ∈ ts) → ks.length ≤ ts.length
  | [], _, _, _ => Nat.zero_le _
  | k :: r, ts, nd, h => by
    obtain ⟨n1, n2⟩ := List.nodup_cons.mp nd
    have hk := h k List.mem_cons_self
    have ih := len_sub (ks := r) (ts := ts.erase k) n2 fun x hx => by
      have : x ≠ k := fun z => n1 (z ▸ hx)
      exact (List.mem_erase_of_ne this).mpr (h x (List.mem_cons_of_mem _ hx))
    rw [List.length_erase_of_mem hk] at ih
    have : 0 < ts.length := List.length_pos_of_mem hk
    rw [List.length_cons]
    omega
theorem IsKept.len {ts ks : List Int} (h : IsKept ts ks) : ks.length ≤ ts.length := len_sub (nodup_of_rise h.rise) (h.pos fun _ z => z)
/-- a look at written lists -/
def keptB (ts ks : List Int) : Bool := decide (ks.Pairwise (· < ·)) && ks.all (fun k => decide (ts.count k % 2 = 1)) && ts.all fun t => !decide (ts.count t % 2 = 1) || decide (t ∈ ks)
theorem kept_by {ts ks : List Int} (h : keptB ts ks = true) : IsKept ts ks := by
  unfold keptB at h
  simp only [Bool.and_eq_true, decide_eq_true_eq, List.all_eq_true, Bool.or_eq_true, Bool.not_eq_true', decide_eq_false_iff_not] at h
  obtain ⟨⟨h1, h2⟩, h3⟩ := h
  refine ⟨h1, fun x => ⟨h2 x, fun z => ?_⟩⟩
  rcases h3 x (List.count_pos_iff.mp (by omega)) with w | w
  · exact absurd z w
  · exact w
end Dt
namespace Dt
/-! ### the turners that bring told doors (k03) -/
/-- d's multiples: t goes into d, both from 1 on, so t ≤ d -/
theorem le_of_goes {t d : Int} (hd : 0 < d) (h : d % t = 0) : t ≤ d := Int.le_of_dvd hd (Int.dvd_of_emod_eq_zero h)
theorem hits_filter (ts : List Int) (d : Int) : hits ts d = (ts.filter fun t => decide (d % t = 0)).length := List.countP_eq_length_filter
/-- two rising rows that open the same doors up to n, all of them from 1 to n, are one -/
theorem same_rows {a b : List Int} {n : Int} (ha : a.Pairwise (· < ·)) (hb : b.Pairwise (· < ·)) (ra : ∀ x ∈ a, 1 ≤ x ∧ x ≤ n) (rb : ∀ x ∈ b, 1 ≤ x ∧ x ≤ n)
    (h : ∀ d : Int, 1 ≤ d → d ≤ n → opn a d = opn b d) : a = b := by
  have key : ∀ k : Nat, ∀ x : Int, 1 ≤ x → x ≤ k → x ≤ n → (x ∈ a ↔ x ∈ b) := by
    intro k
    induction k with
    | zero => intro x h1 h2; exact absurd h1 (by omega)
    | succ k ih =>
      intro x h1 h2 h3
      by_cases hx : x ≤ (k : Int)
      · exact ih x h1 hx h3
      · have ho := h x h1 h3
        unfold opn at ho
        have sp : ∀ l : List Int, l.Nodup → hits l x = (l.filter fun t => decide (x % t = 0) && decide (t ≠ x)).length + if x ∈ l then 1 else 0 := by
          intro l
          induction l with
          | nil => intro _; simp [hits_nil]
          | cons t r ihl =>
            intro nd
            obtain ⟨nt, nr⟩ := List.nodup_cons.mp nd
            rw [hits_cons, ihl nr, List.filter_cons]
            by_cases e : t = x
            · subst e
              have e1 : t % t = 0 := Int.emod_self
              simp [e1, nt]
            · by_cases g : x % t = 0
              · have e2 : x ≠ t := fun z => e z.symm
                simp [g, e, e2]
                omega
              · have e2 : x ≠ t := fun z => e z.symm
                simp [g, e2]
        have pa := sp a (nodup_of_rise ha)
        have pb := sp b (nodup_of_rise hb)
        have eq : (a.filter fun t => decide (x % t = 0) && decide (t ≠ x)) = (b.filter fun t => decide (x % t = 0) && decide (t ≠ x)) := by
          refine rise_eq (ha.filter _) (hb.filter _) fun y => ?_
          rw [List.mem_filter, List.mem_filter]
          constructor
          · rintro ⟨m, c⟩
            simp only [Bool.and_eq_true, decide_eq_true_eq] at c
            have l1 := le_of_goes (by omega) c.1
            exact ⟨(ih y (ra y m).1 (by omega) (by omega)).mp m, by simp [c.1, c.2]⟩
          · rintro ⟨m, c⟩
            simp only [Bool.and_eq_true, decide_eq_true_eq] at c
            have l1 := le_of_goes (by omega) c.1
            exact ⟨(ih y (rb y m).1 (by omega) (by omega)).mpr m, by simp [c.1, c.2]⟩
        rw [pa, pb, eq] at ho
        by_cases m1 : x ∈ a <;> by_cases m2 : x ∈ b
        · exact ⟨fun _ => m2, fun _ => m1⟩
        · rw [if_pos m1, if_neg m2] at ho
          exfalso
          rw [par_not] at ho
          revert ho
          rw [Nat.add_zero]
          cases decide ((b.filter fun t => decide (x % t = 0) && decide (t ≠ x)).length % 2 = 1) <;> simp
        · rw [if_neg m1, if_pos m2] at ho
          exfalso
          rw [par_not] at ho
          revert ho
          rw [Nat.add_zero]
          cases decide ((b.filter fun t => decide (x % t = 0) && decide (t ≠ x)).length % 2 = 1) <;> simp
        · exact ⟨fun z => absurd z m1, fun z => absurd z m2⟩
  refine rise_eq ha hb fun x => ?_
  constructor
  · intro m
    obtain ⟨h1, h2⟩ := ra x m
    exact (key x.toNat x h1 (by omega) h2).mp m
  · intro m
    obtain ⟨h1, h2⟩ := rb x m
    exact (key x.toNat x h1 (by omega) h2).mpr m

/-- the doors 1 .. n by a test, rising -/
def upto (n : Nat) : List Int := (List.range n).map fun i : Nat => 1 + (i : Int)
theorem mem_upto {n : Nat} {x : Int} : x ∈ upto n ↔ 1 ≤ x ∧ x ≤ n := by
  unfold upto
  rw [List.mem_map]
  constructor
  · rintro ⟨i, hi, rfl⟩
    have := List.mem_range.mp hi
    omega
  · intro h
    exact ⟨(x - 1).toNat, List.mem_range.mpr (by omega), by omega⟩
theorem upto_rise (n : Nat) : (upto n).Pairwise (· < ·) := by
  unfold upto
  rw [List.pairwise_map]
  exact List.pairwise_lt_range.imp fun h => by omega
theorem upto_succ (n : Nat) : upto (n + 1) = upto n ++ [1 + (n : Int)] := by
  unfold upto
  rw [List.range_succ, List.map_append]
  rfl
theorem upto_len (n : Nat) : (upto n).length = n := by
  unfold upto
  simp
/-- which of the first doors stand open -/
def opens (ts : List Int) (n : Nat) : List Int := (upto n).filter fun d => opn ts d
theorem mem_opens {ts : List Int} {n : Nat} {x : Int} : x ∈ opens ts n ↔ (1 ≤ x ∧ x ≤ n) ∧ opn ts x = true := by
  unfold opens
  rw [List.mem_filter, mem_upto]
theorem opens_rise (ts : List Int) (n : Nat) : (opens ts n).Pairwise (· < ·) := (upto_rise n).filter _
theorem opens_succ (ts : List Int) (n : Nat) : opens ts (n + 1) = if opn ts (1 + (n : Int)) = true then opens ts n ++ [1 + (n : Int)] else opens ts n := by
  unfold opens
  rw [upto_succ, List.filter_append]
  by_cases h : opn ts (1 + (n : Int)) = true
  · rw [if_pos h]; simp [h]
  · rw [if_neg h]; simp [h]
/-- a rising list of doors 1 .. n is told by its test -/
theorem opens_eq {ts D : List Int} {n : Nat} (hr : D.Pairwise (· < ·)) (hm : ∀ x ∈ D, 1 ≤ x ∧ x ≤ n) (h : ∀ d : Int, 1 ≤ d → d ≤ n → (opn ts d = true ↔ d ∈ D)) : opens ts n = D :=
  rise_eq (opens_rise ts n) hr fun x => by
    rw [mem_opens]
    constructor
    · rintro ⟨⟨h1, h2⟩, h3⟩
      exact (h x h1 h2).mp h3
    · intro m
      obtain ⟨h1, h2⟩ := hm x m
      exact ⟨⟨h1, h2⟩, (h x h1 h2).mpr m⟩

/-- the sieve's word behind i doors: F found so far; B: which doors are still due -/
structure Sv (D : List Int) (n i : Nat) (F : List Int) (B : Int → Bool) : Prop where
  rise : F.Pairwise (· < ·)
  rng : ∀ x ∈ F, 1 ≤ x ∧ x ≤ i
  due : ∀ d : Int, 1 ≤ d → d ≤ n → B d = (decide (d ∈ D) != opn F d)
  off : ∀ d : Int, 1 ≤ d → d ≤ i → B d = false
theorem Sv.start (D : List Int) (n : Nat) : Sv D n 0 [] (fun d => decide (d ∈ D)) := ⟨List.Pairwise.nil, (fun _ h => nomatch h), fun d _ _ => by rw [opn_nil]; simp, fun d h1 h2 => absurd h1 (by omega)⟩
theorem Sv.skip {D F : List Int} {n i : Nat} {B : Int → Bool} (h : Sv D n i F B) (hi : i < n) (hb : B (1 + (i : Int)) = false) : Sv D n (i + 1) F B :=
  ⟨h.rise, fun x m => by have := h.rng x m; omega, h.due, fun d h1 h2 => by
    by_cases e : d ≤ i
    · exact h.off d h1 e
    · have : d = 1 + (i : Int) := by omega
      rw [this]; exact hb⟩
theorem Sv.put {D F : List Int} {n i : Nat} {B : Int → Bool} (h : Sv D n i F B) (hi : i < n) (hb : B (1 + (i : Int)) = true) :
    Sv D n (i + 1) (F ++ [1 + (i : Int)]) (fun d => if d % (1 + (i : Int)) = 0 then !B d else B d) := by
  refine ⟨List.pairwise_append.mpr ⟨h.rise, List.pairwise_singleton _ _, fun a ha b hb => ?_⟩, fun x m => ?_, fun d h1 h2 => ?_, fun d h1 h2 => ?_⟩
  · have := h.rng a ha
    rw [List.mem_singleton.mp hb]; omega
  · rcases List.mem_append.mp m with m | m
    · have := h.rng x m; omega
    · rw [List.mem_singleton.mp m]; omega
  · rw [opn_snoc]
    by_cases g : d % (1 + (i : Int)) = 0
    · rw [if_pos g, if_pos g, h.due d h1 h2]
      cases decide (d ∈ D) <;> cases opn F d <;> rfl
    · rw [if_neg g, if_neg g]; exact h.due d h1 h2
  · by_cases e : d ≤ i
    · have g : ¬ d % (1 + (i : Int)) = 0 := fun z => by
        have := le_of_goes (by omega) z
        omega
      show (if d % (1 + (i : Int)) = 0 then !B d else B d) = false
      rw [if_neg g]; exact h.off d h1 e
    · have e1 : d = 1 + (i : Int) := by omega
      subst e1
      show (if (1 + (i : Int)) % (1 + (i : Int)) = 0 then !B (1 + (i : Int)) else B (1 + (i : Int))) = false
      rw [if_pos Int.emod_self, hb]; rfl
theorem Sv.done {D F : List Int} {n : Nat} {B : Int → Bool} (h : Sv D n n F B) : ∀ d : Int, 1 ≤ d → d ≤ n → (opn F d = true ↔ d ∈ D) := fun d h1 h2 => by
  have a := h.due d h1 h2
  rw [h.off d h1 h2] at a
  by_cases m : d ∈ D
  · rw [decide_eq_true m] at a
    cases q : opn F d
    · rw [q] at a; cases a
    · exact ⟨fun _ => m, fun _ => rfl⟩
  · rw [decide_eq_false m] at a
    cases q : opn F d
    · exact ⟨(fun z => nomatch z), fun z => absurd z m⟩
    · rw [q] at a; cases a

/-! ### two rows compared (k04) -/
theorem kept_app {a b k1 k2 k3 : List Int} (h1 : IsKept a k1) (h2 : IsKept b k2) (h3 : IsKept (a ++ b) k3) : k1 = k2 ↔ k3 = [] := by
  constructor
  · intro e
    subst e
    refine List.eq_nil_iff_forall_not_mem.mpr fun x m => ?_
    have q := (h3.mem x).mp m
    rw [List.count_append] at q
    by_cases z : x ∈ k1
    · have w1 := (h1.mem x).mp z
      have w2 := (h2.mem x).mp z
      omega
    · have w1 : ¬ (a.count x % 2 = 1) := fun w => z ((h1.mem x).mpr w)
      have w2 : ¬ (b.count x % 2 = 1) := fun w => z ((h2.mem x).mpr w)
      omega
  · intro e
    subst e
    refine rise_eq h1.rise h2.rise fun x => ?_
    have q : ¬ ((a ++ b).count x % 2 = 1) := fun w => by cases (h3.mem x).mpr w
    rw [List.count_append] at q
    rw [h1.mem, h2.mem]
    constructor <;> (intro z; omega)
theorem opn_below {ks : List Int} {x d : Int} (hr : (x :: ks).Pairwise (· < ·)) (hp : 0 < d) (hd : d < x) : opn (x :: ks) d = false := by
  unfold opn hits
  have e : (x :: ks).countP (fun t => decide (d % t = 0)) = 0 := by
    rw [List.countP_eq_zero]
    intro t ht
    have hx : x ≤ t := by
      rcases List.mem_cons.mp ht with e | m
      · omega
      · have := (List.pairwise_cons.mp hr).1 t m; omega
    simp only [decide_eq_true_eq]
    intro z
    have := le_of_goes hp z
    omega
  rw [e]; rfl
theorem opn_first {ks : List Int} {x : Int} (hr : (x :: ks).Pairwise (· < ·)) (hp : 0 < x) : opn (x :: ks) x = true := by
  unfold opn
  rw [hits_cons, if_pos Int.emod_self]
  have e : hits ks x = 0 := by
    unfold hits
    rw [List.countP_eq_zero]
    intro t ht
    have := (List.pairwise_cons.mp hr).1 t ht
    simp only [decide_eq_true_eq]
    intro z
    have := le_of_goes hp z
    omega
  rw [e]; rfl
end Dt
namespace Dt
/-! ### Euclid (common, both) -/
theorem gcd_step {a b : Int} (ha : 0 ≤ a) (hb : 0 < b) : Int.gcd b (a % b) = Int.gcd a b := by
  obtain ⟨m, rfl⟩ := Int.eq_ofNat_of_zero_le ha
  obtain ⟨n, rfl⟩ := Int.eq_ofNat_of_zero_le (Int.le_of_lt hb)
  show Nat.gcd n (m % n) = Nat.gcd m n
  rw [Nat.gcd_comm m n, Nat.gcd_rec n m, Nat.gcd_comm]
def lcmI (a b : Int) : Int := (Int.lcm a b : Nat)
theorem lcm_goes {a b d : Int} : d % lcmI a b = 0 ↔ d % a = 0 ∧ d % b = 0 := by
  unfold lcmI
  rw [← Int.dvd_iff_emod_eq_zero, ← Int.dvd_iff_emod_eq_zero, ← Int.dvd_iff_emod_eq_zero]
  constructor
  · intro h
    exact ⟨Int.dvd_trans (Int.dvd_lcm_left a b) h, Int.dvd_trans (Int.dvd_lcm_right a b) h⟩
  · rintro ⟨h1, h2⟩
    exact Int.coe_lcm_dvd h1 h2
theorem lcm_prog {a b : Int} (ha : 0 < a) (hb : 0 < b) : a / (Int.gcd a b : Nat) * b = lcmI a b := by
  obtain ⟨m, rfl⟩ := Int.eq_ofNat_of_zero_le (Int.le_of_lt ha)
  obtain ⟨n, rfl⟩ := Int.eq_ofNat_of_zero_le (Int.le_of_lt hb)
  show ((m : Int) / (Nat.gcd m n : Nat)) * (n : Int) = ((Nat.lcm m n : Nat) : Int)
  rw [← Int.natCast_ediv, ← Int.natCast_mul]
  congr 1
  unfold Nat.lcm
  rw [Nat.div_mul_right_comm (Nat.gcd_dvd_left m n)]
theorem gcd_pos {a b : Int} (ha : 0 < a) : 0 < ((Int.gcd a b : Nat) : Int) := by
  have : 0 < Int.gcd a b := Int.gcd_pos_of_ne_zero_left b (by omega)
  omega
theorem gcd_le_right {a b : Int} (hb : 0 < b) : ((Int.gcd a b : Nat) : Int) ≤ b := Int.le_of_dvd hb (Int.gcd_dvd_right a b)
theorem gcd_le_left {a b : Int} (ha : 0 < a) : ((Int.gcd a b : Nat) : Int) ≤ a := Int.le_of_dvd ha (Int.gcd_dvd_left a b)
theorem lcm_pos {a b : Int} (ha : 0 < a) (hb : 0 < b) : 0 < lcmI a b := by
  unfold lcmI
  have : 0 < Int.lcm a b := Int.lcm_pos (by omega) (by omega)
  omega
theorem lcm_le {a b : Int} (ha : 0 < a) (hb : 0 < b) : lcmI a b ≤ a * b := Int.le_of_dvd (Int.mul_pos ha hb) (Int.coe_lcm_dvd (Int.dvd_mul_right a b) (Int.dvd_mul_left a b))
theorem lcm_one (a : Int) (ha : 0 < a) : lcmI 1 a = a := by
  have h1 : lcmI 1 a ∣ a := Int.coe_lcm_dvd (Int.one_dvd a) (Int.dvd_refl a)
  have h2 : a ∣ lcmI 1 a := Int.dvd_lcm_right 1 a
  have p := lcm_pos (a := 1) (by decide) ha
  have := Int.le_of_dvd ha h1
  have := Int.le_of_dvd p h2
  omega

/-! ### how many (k05) -/
abbrev Term := Int × Int
def nextT (one : Int) (ts : List Term) : List Term := ts ++ ts.map fun p => (lcmI p.1 one, -2 * p.2)
def terms : List Int → List Term → List Term
  | [], ts => ts
  | k :: r, ts => terms r (nextT k ts)
/-- the terms' worth at one door -/
def tv (ts : List Term) (d : Int) : Int := (ts.map fun p => if d % p.1 = 0 then p.2 else 0).sum
/-- the terms' worth over n doors, as the program adds it up -/
def tw (ts : List Term) (n : Int) : Int := (ts.map fun p => p.2 * (n / p.1)).sum
theorem tv_app (a b : List Term) (d : Int) : tv (a ++ b) d = tv a d + tv b d := by
  unfold tv
  rw [List.map_append, List.sum_append]
theorem tv_lcm (one d : Int) : ∀ ts : List Term, tv (ts.map fun p => (lcmI p.1 one, -2 * p.2)) d = if d % one = 0 then -2 * tv ts d else 0
  | [] => by simp [tv]
  | p :: r => by
    have ih := tv_lcm one d r
    unfold tv at ih ⊢
    simp only [List.map_cons, List.sum_cons]
    rw [ih]
    by_cases h : d % one = 0
    · rw [if_pos h, if_pos h]
      by_cases g : d % p.1 = 0
      · rw [if_pos (lcm_goes.mpr ⟨g, h⟩), if_pos g]; omega
      · rw [if_neg (fun z => g (lcm_goes.mp z).1), if_neg g]; omega
    · rw [if_neg h, if_neg h, if_neg (fun z => h (lcm_goes.mp z).2)]; rfl
theorem tv_next (one d : Int) (ts : List Term) : tv (nextT one ts) d = if d % one = 0 then - tv ts d else tv ts d := by
  unfold nextT
  rw [tv_app, tv_lcm]
  split <;> omega
/-- 1 at a shut door, -1 at an open one -/
def sg (b : Bool) : Int := if b then -1 else 1
theorem sg_not (b : Bool) : sg (!b) = - sg b := by cases b <;> rfl
theorem tv_snoc {ts : List Term} {pre : List Int} {k d : Int} (h : tv ts d = sg (opn pre d)) : tv (nextT k ts) d = sg (opn (pre ++ [k]) d) := by
  rw [tv_next, opn_snoc, h]
  by_cases g : d % k = 0
  · rw [if_pos g, if_pos g, sg_not]
  · rw [if_neg g, if_neg g]
theorem tv_start (d : Int) : tv [(1, 1)] d = sg (opn [] d) := by
  rw [opn_nil]
  simp [tv, sg, Int.emod_one]
/-- how many of the first n doors stand open -/
def cnt (ts : List Int) : Nat → Nat
  | 0 => 0
  | n + 1 => cnt ts n + if opn ts (1 + (n : Int)) = true then 1 else 0
theorem cnt_opens (ts : List Int) : ∀ n, (opens ts n).length = cnt ts n
  | 0 => rfl
  | n + 1 => by
    rw [opens_succ, cnt, ← cnt_opens ts n]
    split <;> simp
theorem cnt_le (ts : List Int) : ∀ n, cnt ts n ≤ n
  | 0 => Nat.le_refl _
  | n + 1 => by
    have := cnt_le ts n
    rw [cnt]
    split <;> omega
theorem div_succ {n : Nat} {s : Int} (hs : 0 < s) : ((n : Int) + 1) / s = (n : Int) / s + if (1 + (n : Int)) % s = 0 then 1 else 0 := by
  obtain ⟨m, rfl⟩ := Int.eq_ofNat_of_zero_le (Int.le_of_lt hs)
  have e : ((n : Int) + 1) / (m : Int) = (((n + 1) / m : Nat) : Int) := by rw [Int.natCast_ediv]; rfl
  rw [e, Nat.succ_div]
  have e2 : ((n : Int)) / (m : Int) = ((n / m : Nat) : Int) := by rw [Int.natCast_ediv]
  rw [e2]
  have e3 : (m ∣ n + 1) ↔ (1 + (n : Int)) % (m : Int) = 0 := by
    rw [← Int.dvd_iff_emod_eq_zero, ← Int.natCast_dvd_natCast]
    have : ((n + 1 : Nat) : Int) = 1 + (n : Int) := by omega
    rw [this]
  by_cases h : m ∣ n + 1
  · rw [if_pos h, if_pos (e3.mp h)]; rfl
  · rw [if_neg h, if_neg (fun z => h (e3.mpr z))]; rfl
theorem tw_succ {n : Nat} : ∀ {ts : List Term}, (∀ p ∈ ts, 0 < p.1) → tw ts ((n : Int) + 1) = tw ts n + tv ts (1 + (n : Int))
  | [], _ => rfl
  | p :: r, h => by
    have ih := tw_succ (n := n) (ts := r) fun q hq => h q (List.mem_cons_of_mem _ hq)
    unfold tw tv at ih ⊢
    simp only [List.map_cons, List.sum_cons]
    rw [ih, div_succ (h p List.mem_cons_self)]
    by_cases g : (1 + (n : Int)) % p.1 = 0
    · rw [if_pos g, if_pos g, Int.mul_add, Int.mul_one]; omega
    · rw [if_neg g, if_neg g, Int.add_zero]; omega
theorem tw_zero : ∀ ts : List Term, tw ts 0 = 0
  | [] => rfl
  | p :: r => by
    have ih := tw_zero r
    unfold tw at ih ⊢
    simp only [List.map_cons, List.sum_cons]
    rw [ih]; simp
theorem tw_cnt {ts : List Term} {ks : List Int} (hp : ∀ p ∈ ts, 0 < p.1) (h : ∀ d, tv ts d = sg (opn ks d)) : ∀ n : Nat, tw ts n = (n : Int) - 2 * (cnt ks n : Int)
  | 0 => by rw [show ((0 : Nat) : Int) = 0 from rfl, tw_zero]; rfl
  | n + 1 => by
    have ih := tw_cnt hp h n
    rw [show ((n + 1 : Nat) : Int) = (n : Int) + 1 from rfl, tw_succ hp, ih, h, cnt]
    cases opn ks (1 + (n : Int)) <;> simp [sg] <;> omega
/-- the program's end: without the first term, by -2 -/
theorem tw_end {r : List Term} {ks : List Int} (hp : ∀ p ∈ r, 0 < p.1) (h : ∀ d, tv ((1, 1) :: r) d = sg (opn ks d)) (n : Nat) : (tw r n).fdiv (-2) = (cnt ks n : Int) := by
  have a := tw_cnt (ts := (1, 1) :: r) (fun p hm => by
    rcases List.mem_cons.mp hm with e | m
    · rw [e]; decide
    · exact hp p m) h n
  have b : tw ((1, 1) :: r) n = (n : Int) + tw r n := by
    unfold tw
    simp only [List.map_cons, List.sum_cons]
    simp
  rw [b] at a
  have c : tw r n = (cnt ks n : Int) * (-2) := by omega
  rw [c, Int.mul_fdiv_cancel _ (by decide)]
theorem nextT_head (k : Int) (r : List Term) : nextT k ((1, 1) :: r) = (1, 1) :: (r ++ (((1, 1) :: r).map fun p => (lcmI p.1 k, -2 * p.2))) := rfl
theorem nextT_pos {k : Int} {ts : List Term} (hk : 0 < k) (hp : ∀ p ∈ ts, 0 < p.1) : ∀ p ∈ nextT k ts, 0 < p.1 := fun p hm => by
  rcases List.mem_append.mp hm with m | m
  · exact hp p m
  · obtain ⟨q, hq, rfl⟩ := List.mem_map.mp m
    exact lcm_pos (hp q hq) hk

/-! ### the round -/
def rnd (ks : List Int) : Int := ks.foldl lcmI 1
theorem rnd_snoc (ks : List Int) (k : Int) : rnd (ks ++ [k]) = lcmI (rnd ks) k := by
  unfold rnd
  rw [List.foldl_append]; rfl
theorem foldl_lcm : ∀ (ks : List Int) (a : Int), 0 < a → (∀ k ∈ ks, 0 < k) → 0 < ks.foldl lcmI a ∧ ∀ d, d % (ks.foldl lcmI a) = 0 ↔ d % a = 0 ∧ ∀ k ∈ ks, d % k = 0
  | [], a, ha, _ => ⟨ha, fun d => by simp⟩
  | k :: r, a, ha, h => by
    obtain ⟨h1, h2⟩ := foldl_lcm r (lcmI a k) (lcm_pos ha (h k List.mem_cons_self)) fun q hq => h q (List.mem_cons_of_mem _ hq)
    refine ⟨h1, fun d => ?_⟩
    show d % (r.foldl lcmI (lcmI a k)) = 0 ↔ _
    rw [h2 d, lcm_goes]
    constructor
    · rintro ⟨⟨p, q⟩, s⟩
      exact ⟨p, fun x hx => (List.mem_cons.mp hx).elim (fun e => e ▸ q) (s x)⟩
    · rintro ⟨p, s⟩
      exact ⟨⟨p, s k List.mem_cons_self⟩, fun x hx => s x (List.mem_cons_of_mem _ hx)⟩
theorem rnd_pos {ks : List Int} (h : ∀ k ∈ ks, 0 < k) : 0 < rnd ks := (foldl_lcm ks 1 (by decide) h).1
theorem rnd_goes {ks : List Int} (h : ∀ k ∈ ks, 0 < k) (d : Int) : d % rnd ks = 0 ↔ ∀ k ∈ ks, d % k = 0 := by
  have := (foldl_lcm ks 1 (by decide) h).2 d
  unfold rnd
  rw [this]
  constructor
  · exact fun z => z.2
  · exact fun z => ⟨Int.emod_one d, z⟩
theorem into_rnd {ks : List Int} (h : ∀ k ∈ ks, 0 < k) : ∀ k ∈ ks, k ∣ rnd ks := fun k hk => Int.dvd_of_emod_eq_zero ((rnd_goes h (rnd ks)).mp Int.emod_self k hk)
theorem hits_shift {ks : List Int} {p : Int} (h : ∀ k ∈ ks, k ∣ p) (d : Int) : hits ks (d + p) = hits ks d := by
  unfold hits
  refine List.countP_congr fun k hk => ?_
  obtain ⟨c, rfl⟩ := h k hk
  simp only [decide_eq_true_eq]
  rw [Int.add_mul_emod_self_left]
theorem opn_shift {ks : List Int} {p : Int} (h : ∀ k ∈ ks, k ∣ p) (d : Int) : opn ks (d + p) = opn ks d := by
  unfold opn
  rw [hits_shift h]
theorem cnt_shift {ks : List Int} {L : Nat} (h : ∀ k ∈ ks, k ∣ (L : Int)) : ∀ m, cnt ks (L + m) = cnt ks L + cnt ks m
  | 0 => rfl
  | m + 1 => by
    rw [← Nat.add_assoc, cnt, cnt, cnt_shift h m]
    have e : (1 + ((L + m : Nat) : Int)) = (1 + (m : Int)) + (L : Int) := by omega
    rw [e, opn_shift h]
    omega
theorem cnt_mul {ks : List Int} {L : Nat} (h : ∀ k ∈ ks, k ∣ (L : Int)) (r : Nat) : ∀ q, cnt ks (q * L + r) = q * cnt ks L + cnt ks r
  | 0 => by simp
  | q + 1 => by
    rw [Nat.succ_mul, Nat.succ_mul, Nat.add_assoc, Nat.add_comm L r, ← Nat.add_assoc, Nat.add_comm _ L, cnt_shift h, cnt_mul h r q]
    omega

/-! ### no lesser round (k06) -/
theorem free_part (a : Nat) : ∀ n L : Nat, L ≤ n → 0 < L → ∃ c N, Nat.Coprime c a ∧ L ∣ c * a ^ N
  | 0, L, h, h0 => absurd h (by omega)
  | n + 1, L, h, h0 => by
    by_cases g : Nat.gcd L a = 1
    · exact ⟨L, 0, g, by rw [Nat.pow_zero, Nat.mul_one]; exact Nat.dvd_refl L⟩
    · have gp : 0 < Nat.gcd L a := Nat.gcd_pos_of_pos_left a h0
      obtain ⟨L1, e⟩ := Nat.gcd_dvd_left L a
      have l0 : 0 < L1 := Nat.pos_of_ne_zero fun z => by rw [z, Nat.mul_zero] at e; omega
      have l1 : L1 < L := by
        have : 2 * L1 ≤ Nat.gcd L a * L1 := Nat.mul_le_mul_right _ (by omega)
        omega
      obtain ⟨c, N, hc, hd⟩ := free_part a n L1 (by omega) l0
      refine ⟨c, N + 1, hc, ?_⟩
      have : Nat.gcd L a * L1 ∣ a * (c * a ^ N) := Nat.mul_dvd_mul (Nat.gcd_dvd_right L a) hd
      rw [← e] at this
      rw [Nat.pow_succ, ← Nat.mul_assoc, Nat.mul_comm (c * a ^ N) a]
      exact this
theorem lift_coprime {a m L : Nat} (hL : 0 < L) (h : Nat.Coprime a m) : ∃ j, Nat.Coprime (a + j * m) L := by
  obtain ⟨c, N, hc, hd⟩ := free_part a L L (Nat.le_refl L) hL
  refine ⟨c, ?_⟩
  have h1 : Nat.Coprime (a + c * m) c := by
    show Nat.gcd (a + c * m) c = 1
    rw [Nat.gcd_add_mul_left_left]
    exact hc.symm
  have h2 : Nat.Coprime (a + c * m) a := by
    show Nat.gcd (a + c * m) a = 1
    have e : a + c * m = c * m + a * 1 := by omega
    rw [e, Nat.gcd_add_mul_left_left]
    have : Nat.Coprime (c * m) a := (Nat.Coprime.mul_right hc.symm h).symm
    exact this
  exact Nat.Coprime.coprime_dvd_right hd (Nat.Coprime.mul_right h1 (Nat.Coprime.pow_right N h2))
theorem far_door {k p L : Nat} (hk : 0 < k) (hL : 0 < L) : ∃ j, ∀ s, s ∣ L → (s ∣ k + j * p ↔ s ∣ k ∧ s ∣ p) := by
  have hg : 0 < Nat.gcd k p := Nat.gcd_pos_of_pos_left p hk
  obtain ⟨j, hj⟩ := lift_coprime (L := L) hL (Nat.coprime_div_gcd_div_gcd hg)
  refine ⟨j, fun s hs => ⟨fun h => ?_, fun h => Nat.dvd_add h.1 (Nat.dvd_mul_left_of_dvd h.2 j)⟩⟩
  have e : k + j * p = Nat.gcd k p * (k / Nat.gcd k p + j * (p / Nat.gcd k p)) := by
    rw [Nat.mul_add, Nat.mul_div_cancel' (Nat.gcd_dvd_left k p), ← Nat.mul_assoc, Nat.mul_comm _ j, Nat.mul_assoc, Nat.mul_div_cancel' (Nat.gcd_dvd_right k p)]
  have c : Nat.Coprime s (k / Nat.gcd k p + j * (p / Nat.gcd k p)) := (Nat.Coprime.coprime_dvd_right hs hj).symm
  rw [e] at h
  have q := c.dvd_of_dvd_mul_right h
  exact Nat.dvd_gcd_iff.mp q
theorem goes_nat {t d : Nat} : ((d : Int) % (t : Int) = 0) ↔ t ∣ d := by rw [← Int.dvd_iff_emod_eq_zero, Int.natCast_dvd_natCast]
/-- in a rising row the least k that doesn't go into p: at the door k + j p just those of k's divisors that go into p count -/
theorem no_less {ks : List Int} {p : Int} (hr : ks.Pairwise (· < ·)) (hp : ∀ k ∈ ks, 0 < k) (h1 : 1 ≤ p) (hall : ∀ d : Int, 1 ≤ d → opn ks d = opn ks (d + p)) : ∀ k ∈ ks, k ∣ p := by
  have hj : ∀ (j : Nat) (d : Int), 1 ≤ d → opn ks d = opn ks (d + j * p) := by
    intro j
    induction j with
    | zero => intro d _; simp
    | succ j ih =>
      intro d hd
      have h0 : 0 ≤ (j : Int) * p := Int.mul_nonneg (by omega) (by omega)
      rw [ih d hd, hall (d + j * p) (by omega)]
      have e : ((j + 1 : Nat) : Int) * p = (j : Int) * p + p := by
        rw [show ((j + 1 : Nat) : Int) = (j : Int) + 1 from rfl, Int.add_mul, Int.one_mul]
      rw [e, Int.add_assoc]
  have key : ∀ n : Nat, ∀ k ∈ ks, k ≤ n → k ∣ p := by
    intro n
    induction n with
    | zero => intro k hk hn; have := hp k hk; omega
    | succ n ih =>
      intro k hk hn
      by_cases hlt : k ≤ n
      · exact ih k hk hlt
      · by_cases hd : k ∣ p
        · exact hd
        · exfalso
          have kp := hp k hk
          have Lp := rnd_pos hp
          obtain ⟨kn, ek⟩ := Int.eq_ofNat_of_zero_le (Int.le_of_lt kp)
          obtain ⟨pn, ep⟩ := Int.eq_ofNat_of_zero_le (show 0 ≤ p by omega)
          obtain ⟨Ln, eL⟩ := Int.eq_ofNat_of_zero_le (Int.le_of_lt Lp)
          obtain ⟨j, hjs⟩ := far_door (k := kn) (p := pn) (L := Ln) (by omega) (by omega)
          have a := hj j k (by omega)
          -- at k: those below that go into k and p, and k itself
          have e1 : hits ks (k + j * p) = (ks.filter fun t => decide (k % t = 0) && decide (p % t = 0)).length := by
            rw [hits_filter]
            refine congrArg List.length (List.filter_congr fun t ht => ?_)
            have tp := hp t ht
            obtain ⟨tn, et⟩ := Int.eq_ofNat_of_zero_le (Int.le_of_lt tp)
            have dl : tn ∣ Ln := by
              have := into_rnd hp t ht
              rw [et, eL] at this
              exact Int.natCast_dvd_natCast.mp this
            have q := hjs tn dl
            have w : (k + j * p) = ((kn + j * pn : Nat) : Int) := by
              rw [ek, ep]
              show (kn : Int) + (j : Int) * (pn : Int) = _
              rw [Int.natCast_add, Int.natCast_mul]
            rw [w, ek, ep, et]
            show decide (((kn + j * pn : Nat) : Int) % (tn : Int) = 0) = (decide ((kn : Int) % (tn : Int) = 0) && decide ((pn : Int) % (tn : Int) = 0))
            rw [Bool.eq_iff_iff, Bool.and_eq_true, decide_eq_true_eq, decide_eq_true_eq, decide_eq_true_eq, goes_nat, goes_nat, goes_nat]
            exact q
          have e2 : ∀ l : List Int, l.Nodup → (∀ t ∈ l, t ∈ ks) → hits l k = (l.filter fun t => decide (k % t = 0) && decide (p % t = 0)).length + if k ∈ l then 1 else 0 := by
            intro l
            induction l with
            | nil => intro _ _; simp [hits_nil]
            | cons t r ihl =>
              intro nd sub
              obtain ⟨nt, nr⟩ := List.nodup_cons.mp nd
              rw [hits_cons, ihl nr fun t ht => sub t (List.mem_cons_of_mem _ ht), List.filter_cons]
              have tk := sub t List.mem_cons_self
              by_cases e : t = k
              · subst e
                have f : ¬ p % t = 0 := fun z => hd (Int.dvd_of_emod_eq_zero z)
                have f2 : t % t = 0 := Int.emod_self
                simp [f, f2, nt]
              · have e' : k ≠ t := fun z => e z.symm
                by_cases g : k % t = 0
                · have l1 := le_of_goes kp g
                  have g2 : p % t = 0 := Int.emod_eq_zero_of_dvd (ih t tk (by omega))
                  simp [g, g2, e']
                  omega
                · simp [g, e']
          have e3 := e2 ks (nodup_of_rise hr) fun _ h => h
          rw [if_pos hk] at e3
          unfold opn at a
          rw [e1, e3, par_not] at a
          revert a
          cases decide ((ks.filter fun t => decide (k % t = 0) && decide (p % t = 0)).length % 2 = 1) <;> simp
  intro k hk
  exact key k.toNat k hk (by have := hp k hk; omega)
/-- a number below the round is no round: some of the first doors, as many as the round, tells -/
theorem round_least {ks : List Int} {p : Int} (hr : ks.Pairwise (· < ·)) (hp : ∀ k ∈ ks, 0 < k) (h1 : 1 ≤ p) (h2 : p < rnd ks) : ¬ ∀ d : Int, 1 ≤ d → d ≤ rnd ks → opn ks d = opn ks (d + p) := by
  intro h
  have Lp := rnd_pos hp
  have inL := into_rnd hp
  have all : ∀ (n : Nat) (d : Int), 1 ≤ d → d ≤ n → opn ks d = opn ks (d + p) := by
    intro n
    induction n with
    | zero => intro d a b; omega
    | succ n ih =>
      intro d a b
      by_cases c : d ≤ rnd ks
      · exact h d a c
      · have q := ih (d - rnd ks) (by omega) (by omega)
        have s1 := opn_shift inL (d - rnd ks)
        have s2 := opn_shift inL (d - rnd ks + p)
        rw [show d - rnd ks + rnd ks = d by omega] at s1
        rw [show d - rnd ks + p + rnd ks = d + p by omega] at s2
        rw [s1, s2, q]
  have k := no_less hr hp h1 fun d hd => all d.toNat d hd (by omega)
  have z := (rnd_goes hp p).mpr fun x hx => Int.emod_eq_zero_of_dvd (k x hx)
  have := Int.le_of_dvd (by omega) (Int.dvd_of_emod_eq_zero z)
  omega
theorem cnt_same {a b : List Int} (h : ∀ d, opn a d = opn b d) : ∀ n, cnt a n = cnt b n
  | 0 => rfl
  | n + 1 => by rw [cnt, cnt, cnt_same h n, h]
theorem cnt_one : ∀ n, cnt [1] n = n
  | 0 => rfl
  | n + 1 => by
    have : opn [1] (1 + (n : Int)) = true := by
      unfold opn
      rw [hits_one, if_pos (Int.emod_one _)]
      rfl
    rw [cnt, cnt_one n, if_pos this]
/-- the terms behind the first i turners -/
structure TmOk (B i : Nat) (ks : List Int) (ts : List Term) : Prop where
  hd : ∃ r, ts = (1, 1) :: r
  len : ts.length = 2 ^ i
  val : ∀ d, tv ts d = sg (opn (ks.take i) d)
  pos : ∀ p ∈ ts, 0 < p.1
  step : ∀ p ∈ ts, p.1.natAbs < 2 ^ (i * B + 1)
  oft : ∀ p ∈ ts, p.2.natAbs ≤ 2 ^ i
theorem TmOk.start (B : Nat) (ks : List Int) : TmOk B 0 ks [(1, 1)] where
  hd := ⟨[], rfl⟩
  len := rfl
  val := fun d => by rw [List.take_zero]; exact tv_start d
  pos := fun p hp => by rw [List.mem_singleton.mp hp]; decide
  step := fun p hp => by rw [List.mem_singleton.mp hp, Nat.zero_mul]; decide
  oft := fun p hp => by rw [List.mem_singleton.mp hp]; decide
theorem TmOk.next {B i : Nat} {ks : List Int} {ts : List Term} {k : Int} (h : TmOk B i ks ts) (hg : ks[i]? = some k) (hk : 0 < k) (hB : k.natAbs < 2 ^ B) : TmOk B (i + 1) ks (nextT k ts) where
  hd := by
    obtain ⟨r, rfl⟩ := h.hd
    exact ⟨_, nextT_head k r⟩
  len := by
    unfold nextT
    rw [List.length_append, List.length_map, h.len, Nat.pow_succ]
    omega
  val := fun d => by
    rw [List.take_add_one, hg]
    exact tv_snoc (h.val d)
  pos := nextT_pos hk h.pos
  step := fun p hp => by
    have e : (i + 1) * B + 1 = i * B + 1 + B := by rw [Nat.succ_mul]; omega
    rcases List.mem_append.mp hp with m | m
    · refine Nat.lt_of_lt_of_le (h.step p m) (Nat.pow_le_pow_right (by decide) (by omega))
    · obtain ⟨q, hq, rfl⟩ := List.mem_map.mp m
      have l := lcm_le (h.pos q hq) hk
      have l0 := lcm_pos (h.pos q hq) hk
      have w : (q.1 * k).natAbs < 2 ^ (i * B + 1) * 2 ^ B := by
        rw [Int.natAbs_mul]
        exact Nat.mul_lt_mul'' (h.step q hq) hB
      rw [← Nat.pow_add, ← e] at w
      refine Nat.lt_of_le_of_lt ?_ w
      show (lcmI q.1 k).natAbs ≤ _
      omega
  oft := fun p hp => by
    have e : (2 : Nat) ^ (i + 1) = 2 ^ i * 2 := Nat.pow_succ ..
    rcases List.mem_append.mp hp with m | m
    · have := h.oft p m
      omega
    · obtain ⟨q, hq, rfl⟩ := List.mem_map.mp m
      have := h.oft q hq
      show (-2 * q.2).natAbs ≤ _
      rw [Int.natAbs_mul]
      show 2 * q.2.natAbs ≤ _
      omega
end Dt
namespace Dt
/-! ### the root (k07) -/
structure IsRoot (n r : Int) : Prop where
  nn : 0 ≤ r
  le : r * r ≤ n
  lt : n < (r + 1) * (r + 1)
theorem sq_mono {a b : Int} (ha : 0 ≤ a) (h : a ≤ b) : a * a ≤ b * b := Int.mul_le_mul h h ha (by omega)
theorem IsRoot.uniq {n r s : Int} (hr : IsRoot n r) (hs : IsRoot n s) : r = s := by
  have h1 := hr.le; have h2 := hr.lt; have h3 := hs.le; have h4 := hs.lt
  have p := hr.nn; have q := hs.nn
  by_cases a : r < s
  · have := sq_mono (a := r + 1) (b := s) (by omega) (by omega)
    omega
  · by_cases b : s < r
    · have := sq_mono (a := s + 1) (b := r) (by omega) (by omega)
      omega
    · omega
theorem IsRoot.sq {r : Int} (h : 0 ≤ r) : IsRoot (r * r) r := ⟨h, Int.le_refl _, by
  have : (r + 1) * (r + 1) = r * r + 2 * r + 1 := by
    rw [Int.add_mul, Int.mul_add, Int.one_mul, Int.mul_one]; omega
  omega⟩
theorem IsRoot.sq_less {r : Int} (h : 0 < r) : IsRoot (r * r - 1) (r - 1) := ⟨by omega, by
  have : (r - 1) * (r - 1) = r * r - 2 * r + 1 := by
    rw [Int.sub_mul, Int.mul_sub, Int.one_mul, Int.mul_one]; omega
  omega, by rw [show r - 1 + 1 = r by omega]; omega⟩
theorem le_sq {h n : Int} (h1 : 1 ≤ h) (h2 : h * h ≤ n) : h ≤ n := by
  have : h * 1 ≤ h * h := Int.mul_le_mul_of_nonneg_left h1 (by omega)
  omega

/-! ### a stretch of turners (k07) -/
def inR (f l d : Int) : Bool := decide (f ≤ d) && decide (d ≤ l)
def dv (f l n d : Int) : Bool := decide (n % d = 0) && inR f l d
def pa (f l n at_ d : Int) : Bool := dv f l n d && (decide (d < at_) || decide (n / d < at_))
/-- those of the stretch that go into n, told so far; all of them -/
def cS (f l n at_ : Int) : Nat := (upto n.toNat).countP (pa f l n at_)
def cA (f l n : Int) : Nat := (upto n.toNat).countP (dv f l n)
theorem upto_nodup (n : Nat) : (upto n).Nodup := nodup_of_rise (upto_rise n)
theorem countP_one {l : List Int} {p q : Int → Bool} {x : Int} (nd : l.Nodup) (hx : x ∈ l) (px : p x = false) (h : ∀ d ∈ l, q d = (p d || decide (d = x))) : l.countP q = l.countP p + 1 := by
  induction l with
  | nil => cases hx
  | cons t r ih =>
    obtain ⟨nt, nr⟩ := List.nodup_cons.mp nd
    rw [List.countP_cons, List.countP_cons]
    have ht := h t List.mem_cons_self
    by_cases e : t = x
    · subst e
      have same : r.countP q = r.countP p := List.countP_congr fun d hd => by
        have : d ≠ t := fun z => nt (z ▸ hd)
        rw [h d (List.mem_cons_of_mem _ hd)]; simp [this]
      rw [same, ht, px]; simp
    · have hx' : x ∈ r := (List.mem_cons.mp hx).resolve_left fun z => e z.symm
      have a := ih nr hx' fun d hd => h d (List.mem_cons_of_mem _ hd)
      rw [a, ht]
      simp [e]
      omega
theorem cS_start (f l n : Int) : cS f l n 1 = 0 := by
  unfold cS
  rw [List.countP_eq_zero]
  intro d hd
  have h := mem_upto.mp hd
  unfold pa
  have a : ¬ d < 1 := by omega
  have b : ¬ n / d < 1 := by
    have : 1 ≤ n / d := (Int.le_ediv_iff_mul_le (by omega)).mpr (by omega)
    omega
  simp [a, b]
theorem mul_div_self {a e : Int} (ha : 0 < a) : a * e / a = e := Int.mul_ediv_cancel_left e (by omega)
theorem cS_none {f l n at_ : Int} (h1 : 1 ≤ at_) (hg : ¬ n % at_ = 0) : cS f l n (at_ + 1) = cS f l n at_ := by
  unfold cS
  refine List.countP_congr fun d hd => ?_
  have h := mem_upto.mp hd
  unfold pa dv
  by_cases g : n % d = 0
  · have a : d ≠ at_ := fun z => hg (z ▸ g)
    have b : n / d ≠ at_ := fun z => hg (by
      have e : d * (n / d) = n := Int.mul_ediv_cancel' (Int.dvd_of_emod_eq_zero g)
      rw [z] at e
      rw [← e]; exact Int.mul_emod_left d at_)
    have c1 : d < at_ + 1 ↔ d < at_ := by omega
    have c2 : n / d < at_ + 1 ↔ n / d < at_ := by omega
    simp [g, c1, c2]
  · simp [g]
theorem cS_step {f l at_ e : Int} (h1 : 1 ≤ at_) (h2 : at_ ≤ e) :
    cS f l (at_ * e) (at_ + 1) = cS f l (at_ * e) at_ + (if inR f l at_ = true then 1 else 0) + (if at_ < e then (if inR f l e = true then 1 else 0) else 0) := by
  have hn : 1 ≤ at_ * e := by
    have : 1 * 1 ≤ at_ * e := Int.mul_le_mul h1 (by omega) (by omega) (by omega)
    omega
  have hea : e ≤ at_ * e := by
    have : 1 * e ≤ at_ * e := Int.mul_le_mul_of_nonneg_right h1 (by omega)
    omega
  have m1 : at_ ∈ upto (at_ * e).toNat := mem_upto.mpr (by omega)
  have m2 : e ∈ upto (at_ * e).toNat := mem_upto.mpr (by omega)
  have d1 : at_ * e % at_ = 0 := Int.mul_emod_right at_ e
  have d2 : at_ * e % e = 0 := Int.mul_emod_left at_ e
  have q1 : at_ * e / at_ = e := mul_div_self (by omega)
  have q2 : at_ * e / e = at_ := Int.mul_ediv_cancel at_ (by omega)
  have p1 : pa f l (at_ * e) at_ at_ = false := by
    unfold pa
    rw [q1]
    have : ¬ e < at_ := by omega
    simp [this]
  have p2 : pa f l (at_ * e) at_ e = false := by
    unfold pa
    rw [q2]
    have : ¬ e < at_ := by omega
    simp [this]
  -- the test of the next turn
  have nx : ∀ d ∈ upto (at_ * e).toNat, pa f l (at_ * e) (at_ + 1) d = (pa f l (at_ * e) at_ d || (inR f l d && (decide (d = at_) || decide (d = e)))) := by
    intro d hd
    have h := mem_upto.mp hd
    unfold pa dv
    by_cases g : at_ * e % d = 0
    · have ed : d * (at_ * e / d) = at_ * e := Int.mul_ediv_cancel' (Int.dvd_of_emod_eq_zero g)
      have c2 : (at_ * e / d = at_) ↔ d = e := by
        constructor
        · intro z
          rw [z, Int.mul_comm d at_] at ed
          exact Int.eq_of_mul_eq_mul_left (by omega) ed
        · intro z
          rw [z]; exact q2
      have c1 : d < at_ + 1 ↔ d < at_ ∨ d = at_ := by omega
      have c3 : at_ * e / d < at_ + 1 ↔ at_ * e / d < at_ ∨ at_ * e / d = at_ := by omega
      have k1 : decide (d < at_ + 1) = (decide (d < at_) || decide (d = at_)) := by rw [Bool.eq_iff_iff]; simp [c1]
      have k2 : decide (at_ * e / d < at_ + 1) = (decide (at_ * e / d < at_) || decide (d = e)) := by rw [Bool.eq_iff_iff]; simp [c3, c2]
      rw [k1, k2, decide_eq_true g]
      cases inR f l d <;> cases decide (d < at_) <;> cases decide (d = at_) <;> cases decide (at_ * e / d < at_) <;> cases decide (d = e) <;> rfl
    · have a1 : d ≠ at_ := fun z => g (z ▸ d1)
      have a2 : d ≠ e := fun z => g (z ▸ d2)
      simp [g, a1, a2]
  unfold cS
  have nd := upto_nodup (at_ * e).toNat
  by_cases hlt : at_ < e
  · rw [if_pos hlt]
    by_cases i1 : inR f l at_ = true
    · -- at_ counts
      have s1 : (upto (at_ * e).toNat).countP (fun d => pa f l (at_ * e) at_ d || decide (d = at_)) = (upto (at_ * e).toNat).countP (pa f l (at_ * e) at_) + 1 := countP_one nd m1 p1 fun d _ => rfl
      by_cases i2 : inR f l e = true
      · have ne : e ≠ at_ := by omega
        have s2 : (upto (at_ * e).toNat).countP (pa f l (at_ * e) (at_ + 1)) = (upto (at_ * e).toNat).countP (fun d => pa f l (at_ * e) at_ d || decide (d = at_)) + 1 :=
          countP_one nd m2 (by simp [p2, ne]) fun d hd => by
            rw [nx d hd]
            by_cases z1 : d = at_
            · subst z1; simp [i1]
            · by_cases z2 : d = e
              · subst z2; simp [i2]
              · simp [z1, z2]
        rw [s2, s1, if_pos i1, if_pos i2]
      · have s2 : (upto (at_ * e).toNat).countP (pa f l (at_ * e) (at_ + 1)) = (upto (at_ * e).toNat).countP (fun d => pa f l (at_ * e) at_ d || decide (d = at_)) := List.countP_congr fun d hd => by
            rw [nx d hd]
            by_cases z1 : d = at_
            · subst z1; simp [i1]
            · by_cases z2 : d = e
              · subst z2; simp [i2, z1]
              · simp [z1, z2]
        rw [s2, s1, if_pos i1, if_neg i2]
    · by_cases i2 : inR f l e = true
      · have s2 : (upto (at_ * e).toNat).countP (pa f l (at_ * e) (at_ + 1)) = (upto (at_ * e).toNat).countP (pa f l (at_ * e) at_) + 1 :=
          countP_one nd m2 p2 fun d hd => by
            rw [nx d hd]
            by_cases z2 : d = e
            · subst z2; simp [i2]
            · by_cases z1 : d = at_
              · subst z1; simp [i1, z2]
              · simp [z1, z2]
        rw [s2, if_neg i1, if_pos i2]
      · have s2 : (upto (at_ * e).toNat).countP (pa f l (at_ * e) (at_ + 1)) = (upto (at_ * e).toNat).countP (pa f l (at_ * e) at_) := List.countP_congr fun d hd => by
            rw [nx d hd]
            by_cases z1 : d = at_
            · subst z1; simp [i1]
            · by_cases z2 : d = e
              · subst z2; simp [i2]
              · simp [z1, z2]
        rw [s2, if_neg i1, if_neg i2, Nat.add_zero]
  · have ee : e = at_ := by omega
    subst ee
    rw [if_neg hlt]
    by_cases i1 : inR f l e = true
    · have s2 : (upto (e * e).toNat).countP (pa f l (e * e) (e + 1)) = (upto (e * e).toNat).countP (pa f l (e * e) e) + 1 :=
        countP_one nd m1 p1 fun d hd => by
          rw [nx d hd]
          by_cases z1 : d = e
          · subst z1; simp [i1]
          · simp [z1]
      rw [s2, if_pos i1]
    · have s2 : (upto (e * e).toNat).countP (pa f l (e * e) (e + 1)) = (upto (e * e).toNat).countP (pa f l (e * e) e) := List.countP_congr fun d hd => by
          rw [nx d hd]
          by_cases z1 : d = e
          · subst z1; simp [i1]
          · simp [z1]
      rw [s2, if_neg i1, Nat.add_zero]
theorem cS_end {f l n at_ : Int} (h1 : 1 ≤ at_) (hn : n < at_ * at_) : cS f l n at_ = cA f l n := by
  unfold cS cA
  refine List.countP_congr fun d hd => ?_
  have h := mem_upto.mp hd
  unfold pa
  by_cases g : dv f l n d = true
  · have gd : n % d = 0 := by
      unfold dv at g
      simp only [Bool.and_eq_true, decide_eq_true_eq] at g
      exact g.1
    have ed : d * (n / d) = n := Int.mul_ediv_cancel' (Int.dvd_of_emod_eq_zero gd)
    have : d < at_ ∨ n / d < at_ := by
      by_cases a : d < at_
      · exact .inl a
      · refine .inr ?_
        by_cases b : n / d < at_
        · exact b
        · exfalso
          have : at_ * at_ ≤ d * (n / d) := Int.mul_le_mul (by omega) (by omega) (by omega) (by omega)
          omega
    rcases this with a | a <;> simp [g, a]
  · simp [g]
theorem countP_split {l : List Int} {p q r : Int → Bool} (h : ∀ d ∈ l, r d = (p d || q d) ∧ (p d && q d) = false) : l.countP r = l.countP p + l.countP q := by
  induction l with
  | nil => rfl
  | cons t l ih =>
    rw [List.countP_cons, List.countP_cons, List.countP_cons, ih fun d hd => h d (List.mem_cons_of_mem _ hd)]
    obtain ⟨a, b⟩ := h t List.mem_cons_self
    rw [a]
    cases x : p t <;> cases y : q t <;> simp [x, y] at b ⊢ <;> omega
/-- two stretches put together -/
theorem cA_join {f m l n : Int} (h1 : f ≤ m + 1) (h2 : m ≤ l) : cA f l n = cA f m n + cA (m + 1) l n := by
  unfold cA
  refine countP_split fun d _ => ?_
  unfold dv inR
  cases decide (n % d = 0)
  · exact ⟨rfl, rfl⟩
  · by_cases a : f ≤ d <;> by_cases b : d ≤ m <;> by_cases c : d ≤ l
    all_goals first
      | (have b' : ¬ (m + 1 ≤ d) := by omega
         simp [a, b, c, b']; done)
      | (have b' : m + 1 ≤ d := by omega
         simp [a, b, c, b']; done)
      | (exfalso; omega)
/-- the stretch from 1 to the door or beyond: an odd count just of a square -/
theorem cS_par {l n : Int} (hl : n ≤ l) (hn : 1 ≤ n) : ∀ k : Nat, ((k : Int)) * (k : Int) ≤ n → (cS 1 l n ((k : Int) + 1) % 2 = 1 ↔ (k : Int) * (k : Int) = n)
  | 0, _ => by
    have : cS 1 l n (((0 : Nat) : Int) + 1) = 0 := cS_start 1 l n
    rw [this]
    constructor
    · intro z; omega
    · intro z
      have : ((0 : Nat) : Int) * ((0 : Nat) : Int) = 0 := rfl
      omega
  | k + 1, hk => by
    have hkk : (k : Int) * (k : Int) < ((k + 1 : Nat) : Int) * ((k + 1 : Nat) : Int) := by
      have e : ((k + 1 : Nat) : Int) * ((k + 1 : Nat) : Int) = (k : Int) * (k : Int) + 2 * (k : Int) + 1 := by
        rw [show ((k + 1 : Nat) : Int) = (k : Int) + 1 from rfl, Int.add_mul, Int.mul_add, Int.one_mul, Int.mul_one]; omega
      omega
    have ih := cS_par hl hn k (by omega)
    have ev : ¬ (cS 1 l n ((k : Int) + 1) % 2 = 1) := fun z => by
      have := ih.mp z
      omega
    have e0 : ((k + 1 : Nat) : Int) = (k : Int) + 1 := rfl
    by_cases g : n % ((k : Int) + 1) = 0
    · have ed : ((k : Int) + 1) * (n / ((k : Int) + 1)) = n := Int.mul_ediv_cancel' (Int.dvd_of_emod_eq_zero g)
      have le1 : (k : Int) + 1 ≤ n / ((k : Int) + 1) := (Int.le_ediv_iff_mul_le (by omega)).mpr (by rw [← e0]; exact hk)
      have hle : n / ((k : Int) + 1) ≤ n := Int.ediv_le_self _ (by omega)
      have s := cS_step (f := 1) (l := l) (at_ := (k : Int) + 1) (e := n / ((k : Int) + 1)) (by omega) le1
      rw [ed] at s
      have i1 : inR 1 l ((k : Int) + 1) = true := by unfold inR; simp; omega
      have i2 : inR 1 l (n / ((k : Int) + 1)) = true := by unfold inR; simp; omega
      rw [if_pos i1, if_pos i2] at s
      rw [e0, s]
      by_cases lt : (k : Int) + 1 < n / ((k : Int) + 1)
      · rw [if_pos lt]
        have ne : ((k : Int) + 1) * ((k : Int) + 1) < n := by
          have : ((k : Int) + 1) * ((k : Int) + 1) < ((k : Int) + 1) * (n / ((k : Int) + 1)) := Int.mul_lt_mul_of_pos_left lt (by omega)
          omega
        constructor <;> (intro z; omega)
      · rw [if_neg lt]
        have eq : n / ((k : Int) + 1) = (k : Int) + 1 := by omega
        rw [eq] at ed
        constructor
        · intro _; exact ed
        · intro _; omega
    · rw [e0, cS_none (by omega) g]
      constructor
      · intro z; exact absurd z ev
      · intro z
        exfalso
        apply g
        rw [← z]
        exact Int.mul_emod_right _ _
theorem cA_square {l n r : Int} (hl : n ≤ l) (hn : 1 ≤ n) (hr : IsRoot n r) : (cA 1 l n % 2 = 1 ↔ r * r = n) := by
  obtain ⟨k, rfl⟩ := Int.eq_ofNat_of_zero_le hr.nn
  have a := cS_par hl hn k hr.le
  have b := cS_end (f := 1) (l := l) (n := n) (at_ := (k : Int) + 1) (by omega) hr.lt
  rw [b] at a
  exact a
/-- the law's own count, over the numbers of the stretch themselves -/
theorem cA_list {f l n : Int} (hf : 1 ≤ f) (k : Nat) (hk : (k : Int) = (if n < l then n else l) + 1 - f ∨ (k = 0 ∧ (if n < l then n else l) + 1 - f < 0)) :
    (List.range k).countP (fun i : Nat => decide (n % (f + (i : Int)) = 0)) = cA f l n := by
  unfold cA
  rw [List.countP_eq_length_filter, List.countP_eq_length_filter]
  have e : ((List.range k).filter fun i : Nat => decide (n % (f + (i : Int)) = 0)).map (fun i : Nat => f + (i : Int)) = (upto n.toNat).filter (dv f l n) := by
    refine rise_eq ?_ ((upto_rise _).filter _) fun x => ?_
    · rw [List.pairwise_map]
      exact (List.pairwise_lt_range.filter _).imp fun h => by omega
    · rw [List.mem_map, List.mem_filter, mem_upto]
      constructor
      · rintro ⟨i, hi, rfl⟩
        obtain ⟨h1, h2⟩ := List.mem_filter.mp hi
        have h1 := List.mem_range.mp h1
        unfold dv inR
        rw [h2]
        have : f + (i : Int) ≤ n ∧ f + (i : Int) ≤ l := by
          rcases hk with hk | hk
          · split at hk <;> omega
          · omega
        refine ⟨by omega, ?_⟩
        simp
        omega
      · rintro ⟨h1, h2⟩
        unfold dv inR at h2
        simp only [Bool.and_eq_true, decide_eq_true_eq] at h2
        refine ⟨(x - f).toNat, List.mem_filter.mpr ⟨List.mem_range.mpr ?_, ?_⟩, by omega⟩
        · rcases hk with hk | hk
          · split at hk <;> omega
          · obtain ⟨_, hk⟩ := hk
            split at hk <;> omega
        · have : f + (((x - f).toNat : Nat) : Int) = x := by omega
          rw [this]
          exact decide_eq_true h2.1
  rw [← e, List.length_map]
end Dt
/-! What serves every law: readings step by step (c_*), own rules. -/
namespace Dt
open PySem PySem.Spec PyProof.Rows L2 Evl
section
variable {σ : L2.St} {H : Hp} {i : Nat} {v x y z : V} {ta tb tc te : TE} {Q : VK} {D : Ends} {K : PySem.W.Frag} {ts tu tw : TS} {t u : TT} {QB : Bool → Hp → Prop} {QA : List V → Hp → Prop} {r r' : R2} {tr : TA} {E : XK} {sp : Sp} {dvs : List V}
theorem c_var (h : σ[i]? = some (some v)) (k : Q v H) : tVar i σ H Q := ⟨v, h, k⟩
theorem c_c (k : Q v H) : tC v σ H Q := k
theorem c_op (k : ta σ H fun x H1 => tb σ H1 fun y H2 => r x y H2 Q) : tOp r ta tb σ H Q := k
theorem c_un {ru : V → Hp → VK → Prop} (k : ta σ H fun x H1 => ru x H1 Q) : tUn ru ta σ H Q := k
theorem c_U {g : Int → V} {a : Int} (k : Q (g a) H) : rU g (.int a) H Q := ⟨a, rfl, k⟩
theorem c_I0 {g : Int → Int → V} {a b : Int} (k : Q (g a b) H) : rI0 g (.int a) (.int b) H Q := ⟨a, b, rfl, rfl, k⟩
theorem c_I {C : Int → Int → Prop} {g : Int → Int → V} {a b : Int} (hc : C a b) (k : Q (g a b) H) : rI C g (.int a) (.int b) H Q := ⟨a, b, rfl, rfl, hc, k⟩
theorem c_eqI {a b : Int} (k : Q (.bl (decide (a = b))) H) : rEq (.int a) (.int b) H Q := ⟨rfl, by
  have e : decide (V.int a = V.int b) = decide (a = b) := by rw [Bool.eq_iff_iff]; simp
  rw [e]; exact k⟩
theorem c_neI {a b : Int} (k : Q (.bl (!decide (a = b))) H) : rNe (.int a) (.int b) H Q := ⟨rfl, by
  have e : decide (V.int a = V.int b) = decide (a = b) := by rw [Bool.eq_iff_iff]; simp
  rw [e]; exact k⟩
theorem c_eqB {a b : Bool} (k : Q (.bl (decide (a = b))) H) : rEq (.bl a) (.bl b) H Q := ⟨rfl, by
  have e : decide (V.bl a = V.bl b) = decide (a = b) := by rw [Bool.eq_iff_iff]; simp
  rw [e]; exact k⟩
theorem c_neB {a b : Bool} (k : Q (.bl (!decide (a = b))) H) : rNe (.bl a) (.bl b) H Q := ⟨rfl, by
  have e : decide (V.bl a = V.bl b) = decide (a = b) := by rw [Bool.eq_iff_iff]; simp
  rw [e]; exact k⟩
theorem c_isB {a b : Bool} (k : Q (.bl (decide (a = b))) H) : rIsB (.bl a) (.bl b) H Q := ⟨a, b, rfl, rfl, k⟩
theorem c_notB {a b : Bool} (k : Q (.bl (!decide (a = b))) H) : rNotB (.bl a) (.bl b) H Q := ⟨a, b, rfl, rfl, k⟩
theorem c_cb {rc : List V → Hp → VK → Prop} (k : tr σ H fun vs H1 => rc vs H1 Q) : tCB rc tr σ H Q := k
theorem c_call (k : tr σ H fun vs H1 => sp (vs ++ dvs) H1 Q E) : tCall sp dvs E tr σ H Q := k
theorem c_nil (k : QA [] H) : tNil σ H QA := k
theorem c_cons (k : ta σ H fun x H1 => tr σ H1 fun xs H2 => QA (x :: xs) H2) : tCons ta tr σ H QA := k
theorem c_lst (k : tr σ H fun xs H1 => xs.length ≤ sizeLine ∧ ∀ p, H1 p = none → Q (.ref p) (upd H1 p (.lst xs))) : tLst tr σ H Q := k
theorem c_tup (k : tr σ H fun xs H1 => xs.length ≤ sizeLine ∧ ∀ p, H1 p = none → Q (.ref p) (upd H1 p (.tup xs))) : tTup tr σ H Q := k
theorem c_test (k : te σ H fun x H1 => ∃ b, x = .bl b ∧ QB b H1) : tTest te σ H QB := k
theorem c_B (k : te σ H fun x H1 => ∃ b, x = .bl b ∧ QB b H1) : tB te σ H QB := k
theorem c_k {R : Bool → Prop} {b : Bool} (k : R b) : ∃ c, V.bl b = .bl c ∧ R c := ⟨b, rfl, k⟩
theorem c_and (k : t σ H fun b H1 => if b = true then u σ H1 QB else QB false H1) : tAnd t u σ H QB := k
theorem c_or (k : t σ H fun b H1 => if b = true then QB true H1 else u σ H1 QB) : tOr t u σ H QB := k
theorem c_not (k : t σ H fun b H1 => QB (!b) H1) : tNot t σ H QB := k
theorem c_yes (k : QB true H) : tYes σ H QB := k
theorem c_andV (k : ta σ H fun x H1 => ∃ c, x = .bl c ∧ if c = true then tb σ H1 Q else Q (.bl false) H1) : tAndV ta tb σ H Q := k
theorem c_orV (k : ta σ H fun x H1 => ∃ c, x = .bl c ∧ if c = true then Q (.bl true) H1 else tb σ H1 Q) : tOrV ta tb σ H Q := k
theorem c_notV (k : ta σ H fun x H1 => ∃ c, x = .bl c ∧ Q (.bl (!c)) H1) : tNotV ta σ H Q := k
theorem c_if (k : t σ H fun b H1 => if b = true then ta σ H1 Q else tb σ H1 Q) : tIf t ta tb σ H Q := k
theorem c_chain (k : ta σ H fun x H1 => tb σ H1 fun y H2 => r x y H2 fun z H3 => ∃ k, z = .bl k ∧ (if k = true then tc σ H3 fun w' H4 => r' y w' H4 Q else Q (.bl false) H3)) : tChain r r' ta tb tc σ H Q := k
theorem c_sl {rs : V → Option Int → Option Int → Hp → VK → Prop} {tl th : TO} (k : te σ H fun x H1 => tl σ H1 fun l H2 => th σ H2 fun u H3 => rs x l u H3 Q) : tSl rs te tl th σ H Q := k
theorem c_rev (k : te σ H fun x H1 => ∃ a xs, x = .ref a ∧ SqL K H1 a xs ∧ ∀ p, H1 p = none → Q (.ref p) (upd H1 p (.lst xs.reverse))) : tRevL K te σ H Q := k
theorem c_bm {T : String} {rm : V → List V → Hp → VK → Prop} (k : te σ H fun x H1 => tyV K T x H1 ∧ tr σ H1 fun xs H2 => rm x xs H2 Q) : tBM K T rm te tr σ H Q := k
theorem c_noP {QO : Option Int → Hp → Prop} (k : QO none H) : tNoPart σ H QO := k
theorem c_part {QO : Option Int → Hp → Prop} (k : te σ H fun x H1 => ∃ i, x = .int i ∧ QO (some i) H1) : tPart te σ H QO := k
theorem c_ki {R : Int → Prop} {a : Int} (k : R a) : ∃ i, V.int a = .int i ∧ R i := ⟨a, rfl, k⟩
/-! statements -/
theorem c_seq (k : ts { D with nx := tu D } σ H) : tSeq ts tu D σ H := k
theorem c_asg (k : te σ H fun x H1 => D.nx (σ.set i (some x)) H1) : tAsg te (gName i) D σ H := k
theorem c_asgG {g : TG} (k : te σ H fun x H1 => g x σ H1 D.nx) : tAsg te g D σ H := k
theorem c_ret (k : te σ H D.rt) : tRet te D σ H := k
theorem c_drop (k : te σ H fun _ H1 => D.nx σ H1) : tDrop te D σ H := k
theorem c_ifS (k : t σ H fun b H1 => if b = true then ts D σ H1 else tu D σ H1) : tIfS t ts tu D σ H := k
theorem c_next (k : D.nx σ H) : tNext D σ H := k
theorem c_par {j : Nat} (k : tr σ H fun vs H1 => ∃ v w, vs = [v, w] ∧ D.nx ((σ.set i (some v)).set j (some w)) H1) : tPar i j tr D σ H := k
theorem c_kpar {R : V → V → Prop} {a b : V} (k : R a b) : ∃ v w, [a, b] = [v, w] ∧ R v w := ⟨a, b, rfl, k⟩
/-- what a for's body owes, once its iterator stands -/
def FL (J : It) (g : TG) (ts : TS) (D : Ends) (σ : L2.St) (H1 : Hp) : Prop := ∃ W : Nat → Nat → L2.St → Hp → Prop, (∃ m, W 0 m σ H1) ∧ ∀ i m σ H, W i m σ H →
  (J.stop i H ∧ D.nx σ H) ∨ (J.go i H ∧ ∃ N : L2.St → Hp → Prop, (∀ σ' H', N σ' H' → ∃ m', m' < m ∧ W (i + 1) m' σ' H') ∧ ∀ x H', J.yld i H x H' → g x σ H' fun σ2 H2 => ts { D with nx := N, ct := N, bk := D.nx } σ2 H2)
theorem c_for {wi : TI} {g : TG} (k : wi σ H fun J H1 => FL J g ts D σ H1) : tFor wi g ts D σ H := k
theorem f_list {a : Addr} {xs : List V} {g : TG} (Pv : Nat → L2.St → Hp → Prop) (h0 : Pv 0 σ H) (hl : ∀ i σ H, i ≤ xs.length → Pv i σ H → SqL K H a xs)
    (hs : ∀ i x σ H, xs[i]? = some x → Pv i σ H → g x σ H fun σ2 H2 => ts { D with nx := Pv (i + 1), ct := Pv (i + 1), bk := D.nx } σ2 H2) (hd : ∀ σ H, Pv xs.length σ H → D.nx σ H) : FL (Itl K a) g ts D σ H := for_list Pv h0 hl hs hd
theorem f_tup {a : Addr} {xs : List V} {g : TG} (Pv : Nat → L2.St → Hp → Prop) (h0 : Pv 0 σ H) (hl : ∀ i σ H, i ≤ xs.length → Pv i σ H → SqT K H a xs)
    (hs : ∀ i x σ H, xs[i]? = some x → Pv i σ H → g x σ H fun σ2 H2 => ts { D with nx := Pv (i + 1), ct := Pv (i + 1), bk := D.nx } σ2 H2) (hd : ∀ σ H, Pv xs.length σ H → D.nx σ H) : FL (Itt K a) g ts D σ H := for_tup Pv h0 hl hs hd
theorem f_range {lo : Int} {n : Nat} {g : TG} (Pv : Nat → L2.St → Hp → Prop) (h0 : Pv 0 σ H)
    (hs : ∀ i σ H, i < n → Pv i σ H → g (.int (lo + i)) σ H fun σ2 H2 => ts { D with nx := Pv (i + 1), ct := Pv (i + 1), bk := D.nx } σ2 H2) (hd : ∀ σ H, Pv n σ H → D.nx σ H) : FL (Itr lo n) g ts D σ H := for_range Pv h0 hs hd
theorem f_it {J : It} {n : Nat} {G : Hp → Prop} {Y : Nat → Hp → V → Hp → Prop} (w : Walk J n G Y) {g : TG} (Pv : Nat → L2.St → Hp → Prop) (h0 : Pv 0 σ H) (hG : ∀ i σ H, i ≤ n → Pv i σ H → G H)
    (hs : ∀ i x σ H H', i < n → Pv i σ H → Y i H x H' → g x σ H' fun σ2 H2 => ts { D with nx := Pv (i + 1), ct := Pv (i + 1), bk := D.nx } σ2 H2) (hd : ∀ σ H, Pv n σ H → D.nx σ H) : FL J g ts D σ H := for_it w Pv h0 hG hs hd
theorem c_iE {R : It → Hp → Prop} (k : tr σ H fun vs H1 => ∃ a xs, vs = [.ref a] ∧ SqL K H1 a xs ∧ R (Ite K a) H1) : iEnum K tr σ H R := k
theorem c_g {i : Nat} {R : L2.St → Hp → Prop} (k : R (σ.set i (some v)) H) : gName i v σ H R := k
theorem c_iL {R : It → Hp → Prop} (k : te σ H fun x H1 => ∃ a, x = .ref a ∧ (∃ xs, SqL K H1 a xs) ∧ R (Itl K a) H1) : iList K te σ H R := k
theorem c_iR1 {R : It → Hp → Prop} (k : tr σ H fun vs H1 => ∃ j : Int, vs = [.int j] ∧ -(2 ^ 62) ≤ j ∧ j < 2 ^ 62 ∧ R (Itr 0 j.toNat) H1) : iRng1 tr σ H R := k
theorem c_iR2 {R : It → Hp → Prop} (k : tr σ H fun vs H1 => ∃ i j : Int, vs = [.int i, .int j] ∧ (-(2 ^ 62) ≤ i ∧ i < 2 ^ 62 ∧ -(2 ^ 62) ≤ j ∧ j < 2 ^ 62) ∧ R (Itr i (j - i).toNat) H1) : iRng2 tr σ H R := k
/-! ways -/
theorem w_t {A B : Prop} {b : Bool} (hb : b = true) (h : A) : if b = true then A else B := by rw [if_pos hb]; exact h
theorem w_f {A B : Prop} {b : Bool} (hb : b = false) (h : B) : if b = true then A else B := by rw [if_neg (by rw [hb]; exact Bool.false_ne_true)]; exact h
theorem w_2 {A B : Prop} {b : Bool} (h1 : b = true → A) (h2 : b = false → B) : if b = true then A else B := by
  cases b with
  | true => exact w_t rfl (h1 rfl)
  | false => exact w_f rfl (h2 rfl)
end
/-! ### own rules -/
section
variable {X : Cx}
def rAbs : List V → Hp → VK → Prop := fun xs H Q => ∃ i, xs = [.int i] ∧ Q (.int (if i < 0 then -i else i)) H
def rMin2 : List V → Hp → VK → Prop := fun xs H Q => ∃ i j, xs = [.int i, .int j] ∧ Q (.int (if j < i then j else i)) H
theorem call_len_s : CallR X (.builtin "len") (rLenS X.K) := call_len_seq
theorem call_list_s : CallR X (.type "list") (rListS X.K) := call_list_of
theorem call_abs_s : CallR X (.builtin "abs") rAbs := call_abs
theorem call_min2_s (hc : X.calm = true) : CallR X (.builtin "min") rMin2 := call_min2 hc
theorem op_mulB : OpR X (binaryOp .Mult) (rI IntMulOk fun i j => .int (i * j)) := opI fun _ _ _ _ _ _ _ hc q => mul_int q hc
end
theorem bits_le {x : Int} {n : Nat} (h : x.natAbs < 2 ^ n) : Builtin.Int.intBits x ≤ n := by
  unfold Builtin.Int.intBits
  split
  · exact Nat.zero_le _
  · rename_i hx
    have h0 : x.natAbs ≠ 0 := fun z => hx (by simp [Int.natAbs_eq_zero.mp z])
    exact Nat.succ_le_of_lt ((Nat.log2_lt h0).mpr h)
theorem mulOk {i j : Int} {a b : Nat} (ha : i.natAbs < 2 ^ a) (hb : j.natAbs < 2 ^ b) (h : a + b ≤ 134000000) : IntMulOk i j := by
  have h1 := bits_le ha
  have h2 := bits_le hb
  have e : bitsLine = 134217728 := by decide
  unfold IntMulOk
  intro z
  rw [Bool.and_eq_true] at z
  have z2 := z.2
  unfold Builtin.Int.intTooBig at z2
  have z3 := of_decide_eq_true z2
  rw [e] at z3
  omega
/-- the built-ins' names are free -/
structure Blt (mg : Str → Option Value) : Prop where
  isinstance_ : mg "isinstance" = none
  len_ : mg "len" = none
  all_ : mg "all" = none
  any_ : mg "any" = none
  sum_ : mg "sum" = none
  abs_ : mg "abs" = none
  max_ : mg "max" = none
  min_ : mg "min" = none
  range_ : mg "range" = none
  sorted_ : mg "sorted" = none
  enumerate_ : mg "enumerate" = none
  int_ : mg "int" = none
  bool_ : mg "bool" = none
  list_ : mg "list" = none
  set_ : mg "set" = none
  str_ : mg "str" = none
  tuple_ : mg "tuple" = none
  ValueError_ : mg "ValueError" = none

/-! ### defs of the text: standing, kept -/
structure Df (K : PySem.W.Frag) (mg : Str → Option Value) (x : Str) (st : Stmt) (ps : List Str) : Prop where
  ex : ∃ (f : Addr) (fd : FuncData), Fun K x x st f fd ∧ mg x = some (.ref f) ∧ Binds K fd ps []
theorem df_mk {K : PySem.W.Frag} {mg : Str → Option Value} {h : Heap} {x : Str} {st : Stmt} {ps : List Str} {f : Addr} {oc : Value} {od an : Option Addr} {osl : Array (Option Value)} {kV doc pm cdv ct : Value} (X : K.In h) (G : h.Ns mainGlobals mg)
    (a : PySem.W.nsIn K mainGlobals x = some (some (.ref f))) (l : K.lookup f = some ⟨oc, od, .func (PySem.W.fnOf x x (defArgs st) (defBody st) (defScope st) .none kV doc pm an cdv ct), osl⟩) (c : PySem.W.codeIn K cdv x = true) (k : PySem.W.keepIn K (.ref f) = true)
    (hb : ∀ (kV doc pm : Value) (an : Option Addr) (cdv ct : Value) (us : List Value), us.length = ps.length → bindArgs (PySem.W.fnOf x x (defArgs st) (defBody st) (defScope st) .none kV doc pm an cdv ct) ⟨us, []⟩ = pure (ps.zip us)) : Df K mg x st ps :=
  ⟨f, _, fun_mk l c k, PySem.W.mg_of X G a, (fun_mk l c k).binds hb⟩
/-- what a def promises, callable by its name -/
structure Cal (P : Program) (w : World) (K : PySem.W.Frag) (mg : Str → Option Value) (base : Heap) (CX : CXT) (k : Nat) (x : Str) (sp : Sp) : Prop where
  ex : ∃ (f : Addr) (fd : FuncData) (ps : List Str), FnOk P w K mg base CX k f fd ps sp ∧ mg x = some (.ref f) ∧ PySem.W.keepIn K (.ref f) = true ∧ Binds K fd ps []
section
variable {P : Program} {w : World} {K : PySem.W.Frag} {mg : Str → Option Value} {base : Heap}
theorem Df.ok {x : Str} {st : Stmt} {N ps : List Str} {k : Nat} {sp : Sp} (F : Df K mg x st ps) (S : FnScope N ps (defScope st)) (len : ∀ vs H Q E, sp vs H Q E → vs.length = ps.length)
    (hbody : ∀ (f : Addr) (cdv : Value) (A : Around) (outer : List Env) (s : Shared) (H : Hp) (vs : List V) (Q : VK) (E : XK), Room k (A.deeper (envOfC x (defScope st) s.heap.objs.size f cdv)) → sp vs H Q E →
      ∃ t, PSs (cxOf CX0 P w K mg base N x (defScope st) f cdv A outer s H E).nox (defBody st) t ∧ t { nx := fun _ H' => Q .non H', rt := Q } (start N vs) H) : Cal P w K mg base CX0 (k + 1) x sp := by
  obtain ⟨f, fd, F, m, b⟩ := F.ex
  exact ⟨f, fd, ps, F.ok S len fun cdv A outer s H vs Q E => hbody f cdv A outer s H vs Q E, m, F.kp, b⟩
theorem Cal.mono {CX : CXT} {x : Str} {j k : Nat} {sp : Sp} (c : Cal P w K mg base CX j x sp) (h : j ≤ k) : Cal P w K mg base CX k x sp := by
  obtain ⟨f, fd, ps, F, r⟩ := c.ex
  exact ⟨f, fd, ps, F.mono h, r⟩
theorem Cal.imp {CX : CXT} {x : Str} {k : Nat} {sp sp' : Sp} (c : Cal P w K mg base CX k x sp) (h : ∀ vs H Q E, sp' vs H Q E → sp vs H Q E) : Cal P w K mg base CX k x sp' := by
  obtain ⟨f, fd, ps, F, r⟩ := c.ex
  exact ⟨f, fd, ps, F.imp h, r⟩
end
section
variable {X : Cx} {k j : Nat} {x : Str} {sp : Sp} {p pos : Pos} {e : Expr} {es : List Expr} {t : TA}
theorem pe_d (c : Cal X.prog X.w X.K X.mg X.base CX0 k x sp) (hr : Room j X.A) (hk : k ≤ j) (hg : Gl X x) (ha : PA X (e :: es) t)
    (hdb : (x == ("__debug__" : Str)) = false := by decide) (he : starEach (e :: es) X.env = (false, eval e X.env) :: starEach es X.env := by rfl) (hpl : (backTo pos (starEach es X.env)).any (·.1) = false := by rfl) :
    PE X (.Call (.Name x p) (e :: es) [] pos) (tCall sp [] E0 t) := by
  obtain ⟨f, fd, ps, F, hm, kp, b⟩ := c.ex
  exact pe_call F (hr.mono hk) hg hm kp b .nil pass0 ha hdb he hpl
theorem pe_d0 (c : Cal X.prog X.w X.K X.mg X.base CX0 k x sp) (hr : Room j X.A) (hk : k ≤ j) (hg : Gl X x)
    (hdb : (x == ("__debug__" : Str)) = false := by decide) : PE X (.Call (.Name x p) [] [] pos) (tCall sp [] E0 tNil) := by
  obtain ⟨f, fd, ps, F, hm, kp, b⟩ := c.ex
  exact pe_call0 F (hr.mono hk) hg hm kp b .nil pass0 hdb
end
/-! ### lists of ints -/
theorem intsD (ns : List Int) : ∀ K H, DpAll K H (ns.map V.int) (ns.map PyData.int) := by
  intro K H
  induction ns with
  | nil => exact .nil
  | cons n r ih => exact .cons (.int n) ih
theorem ints_lay : ∀ ns : List Int, PyData.canLayAll0 (ns.map PyData.int) = true
  | [] => rfl
  | n :: r => by
    have ih := ints_lay r
    simp [PyData.canLayAll0, PyData.canLay0, ih]
theorem ints_depth : ∀ ns : List Int, PyData.depthAll (ns.map PyData.int) ≤ 1
  | [] => by simp [PyData.depthAll]
  | n :: r => by
    have ih := ints_depth r
    simp [PyData.depthAll, PyData.depth]
    omega
theorem ints_shaped (ns : List Int) : SeqAt.shaped (.list (ns.map PyData.int)) = true := by
  unfold SeqAt.shaped
  have h1 := ints_lay ns
  have h2 := ints_depth ns
  simp [PyData.canLay0, PyData.depth, h1]
  omega
theorem ints_eqv : ∀ a b : List Int, PyData.eqvAll (a.map PyData.int) (b.map PyData.int) = decide (a = b)
  | [], [] => rfl
  | [], _ :: _ => by simp [PyData.eqvAll]
  | _ :: _, [] => by simp [PyData.eqvAll]
  | x :: a, y :: b => by
    have ih := ints_eqv a b
    rw [List.map_cons, List.map_cons, PyData.eqvAll, PyData.eqv, ih, Bool.eq_iff_iff]
    simp
section
variable {K : PySem.W.Frag} {H H' : Hp} {Q : VK} {a b : Addr} {xs ys : List Int}
theorem c_eqL (ha : SqL K H a (xs.map V.int)) (hb : SqL K H b (ys.map V.int)) (k : Q (.bl (decide (xs = ys))) H) : rEqD K (.ref a) (.ref b) H Q :=
  ⟨_, _, .lst ha (intsD xs K H), .lst hb (intsD ys K H), ints_shaped xs, ints_shaped ys, by
    rw [PyData.eqv, ints_eqv]; exact k⟩
theorem c_neL (ha : SqL K H a (xs.map V.int)) (hb : SqL K H b (ys.map V.int)) (k : Q (.bl (!decide (xs = ys))) H) : rNeD K (.ref a) (.ref b) H Q :=
  ⟨_, _, .lst ha (intsD xs K H), .lst hb (intsD ys K H), ints_shaped xs, ints_shaped ys, by
    rw [PyData.eqv, ints_eqv]; exact k⟩
theorem tyL {vs : List V} (h : SqL K H a vs) : TyX K H (.ref a) (.type "list") := by
  rcases h with (h | ⟨o, h⟩) | ⟨o, its, n, hk, hc, _⟩
  · exact .base (.lst h)
  · exact .base (.frz h)
  · exact .kList hk hc
/-- isinstance of a known kind -/
theorem c_isi {x : V} {T t : String} {r : Bool} (ty : TyX K H x (.type T)) (hk : kitB T t = some r) (k : Q (.bl r) H) : rIsi K [x, .ty t] H Q := ⟨x, .ty t, .type T, .type t, r, rfl, .ty t, ty, kit_ty hk, k⟩
theorem k_ii : kitB "int" "int" = some true := by decide +kernel
theorem k_ib : kitB "int" "bool" = some false := by decide +kernel
theorem k_bb : kitB "bool" "bool" = some true := by decide +kernel
theorem k_bi : kitB "bool" "int" = some true := by decide +kernel
theorem k_ll : kitB "list" "list" = some true := by decide +kernel
theorem c_isiI {n : Int} (k : Q (.bl true) H) : rIsi K [.int n, .ty "int"] H Q := c_isi (.base (.int n)) k_ii k
theorem c_isiIb {n : Int} (k : Q (.bl false) H) : rIsi K [.int n, .ty "bool"] H Q := c_isi (.base (.int n)) k_ib k
theorem c_isiB {n : Bool} (k : Q (.bl true) H) : rIsi K [.bl n, .ty "bool"] H Q := c_isi (.base (.bl n)) k_bb k
theorem c_isiL {vs : List V} (h : SqL K H a vs) (k : Q (.bl true) H) : rIsi K [.ref a, .ty "list"] H Q := c_isi (tyL h) k_ll k
theorem c_len {vs : List V} (h : SqL K H a vs) (k : Q (.int vs.length) H) : rLenS K [.ref a] H Q := ⟨a, vs, rfl, .inl h, k⟩
theorem c_list {vs : List V} (h : SqL K H a vs) (k : ∀ l, H l = none → Q (.ref l) (upd H l (.lst vs))) : rListS K [.ref a] H Q := ⟨a, vs, rfl, .inl h, k⟩
theorem c_abs {n : Int} (k : Q (.int n.natAbs) H) : rAbs [.int n] H Q := ⟨n, rfl, by rw [show (if n < 0 then -n else n) = (n.natAbs : Int) by split <;> omega]; exact k⟩
theorem c_min2 {m n : Int} (k : Q (.int (if n < m then n else m)) H) : rMin2 [.int m, .int n] H Q := ⟨m, n, rfl, k⟩
theorem c_sum (h : SqL K H a (xs.map V.int)) (k : Q (.int xs.sum) H) : rSum K [.ref a] H Q := ⟨a, xs, rfl, h, k⟩
theorem same_new {p : Addr} {o : HO} (h : H p = none) : Ex H (upd H p o) := Ex.new h
theorem abs_nn (n : Int) : (if n < 0 then -n else n) = (n.natAbs : Int) := by split <;> omega
end
/-- up to forty turners, from 1 on -/
structure Good (ts : List Int) : Prop where
  len : ts.length ≤ 40
  pos : ∀ t ∈ ts, 1 ≤ t
/-- a comprehension's list of ints, by its test -/
theorem given_filter (ts : List Int) (p : Int → Bool) : given ts.length (fun i => p (ts.getD i 0)) (fun i => V.int (ts.getD i 0)) = (ts.filter p).map V.int := by
  have key : ∀ (l : List Int), ((List.range l.length).filter fun i => p (l.getD i 0)).map (fun i => l.getD i 0) = l.filter p := by
    intro l
    induction l with
    | nil => rfl
    | cons x r ih =>
      rw [List.length_cons, List.range_succ_eq_map, List.filter_cons, List.filter_map]
      have e1 : ((fun i => p ((x :: r).getD i 0)) ∘ Nat.succ) = fun i => p (r.getD i 0) := by funext i; simp
      have e2 : ((fun i => (x :: r).getD i 0) ∘ Nat.succ) = fun i => r.getD i 0 := by funext i; simp
      rw [List.filter_cons]
      by_cases h : p x = true
      · have h' : p ((x :: r).getD 0 0) = true := by simpa using h
        rw [if_pos h', if_pos h, List.map_cons, List.map_map, e1, e2, ih]
        simp
      · have h' : ¬ p ((x :: r).getD 0 0) = true := by simpa using h
        rw [if_neg h', if_neg h, List.map_map, e1, e2, ih]
  unfold given
  rw [← key ts, List.map_map]
  rfl
theorem given_all (ts : List Int) (f : Int → Bool) : given ts.length (fun _ => true) (fun i => V.bl (f (ts.getD i 0))) = (ts.map f).map V.bl := by
  have key : ∀ (l : List Int), (List.range l.length).map (fun i => f (l.getD i 0)) = l.map f := by
    intro l
    induction l with
    | nil => rfl
    | cons x r ih =>
      rw [List.length_cons, List.range_succ_eq_map, List.map_cons, List.map_map, List.map_cons]
      have e2 : ((fun i => f ((x :: r).getD i 0)) ∘ Nat.succ) = fun i => f (r.getD i 0) := by funext i; simp
      rw [e2, ih]
      simp
  unfold given
  rw [← key ts, List.map_map]
  have : (List.range ts.length).filter (fun _ => true) = List.range ts.length := List.filter_eq_self.mpr fun _ _ => rfl
  rw [this]
  rfl
theorem getD_of {ts : List Int} {i : Nat} {x : V} (h : (ts.map V.int)[i]? = some x) : x = .int (ts.getD i 0) ∧ i < ts.length ∧ ts[i]? = some (ts.getD i 0) := by
  rw [List.getElem?_map] at h
  cases e : ts[i]? with
  | none => rw [e] at h; cases h
  | some n =>
    rw [e] at h
    have hi := (List.getElem?_eq_some_iff.mp e).1
    have e' : ts.getD i 0 = n := by rw [List.getD_eq_getElem?_getD, e]; rfl
    rw [e']
    exact ⟨(Option.some.inj h).symm, hi, rfl⟩
theorem getD_mem {ts : List Int} {i : Nat} (h : i < ts.length) : ts.getD i 0 ∈ ts := by
  rw [List.getD_eq_getElem?_getD, List.getElem?_eq_getElem h]
  exact List.getElem_mem h
/-! ### cuts, comprehensions over range(a, b) -/
theorem c_ev {te : TE} {σ : L2.St} {H : Hp} {Q : VK} (P : V → Hp → Prop) (h1 : ∀ Q' : VK, (∀ v H1, P v H1 → Q' v H1) → te σ H Q') (h2 : ∀ v H1, P v H1 → Q v H1) : te σ H Q := h1 Q h2
theorem c_ev2 {tt : TT} {σ : L2.St} {H : Hp} {Q : Bool → Hp → Prop} (P : Bool → Hp → Prop) (h1 : ∀ Q' : Bool → Hp → Prop, (∀ b H1, P b H1 → Q' b H1) → tt σ H Q') (h2 : ∀ b H1, P b H1 → Q b H1) : tt σ H Q := h1 Q h2
theorem el_lcR2 {σ : L2.St} {H : Hp} {te : TE} {t : TT} {ta : TA} {j : Nat} {vs : List Nat} {lo hi : Int} (f : Nat → Bool) (v : Nat → V) (h : EvA ta σ H [.int lo, .int hi]) (hb : -(2 ^ 61) ≤ lo ∧ lo ≤ 2 ^ 61 ∧ -(2 ^ 61) ≤ hi ∧ hi ≤ 2 ^ 61) (hn : (hi - lo).toNat ≤ 40000) (hw : ∀ x, wipe ((wipe σ vs).set j (some x)) vs = wipe σ vs)
    (ht : ∀ (i : Nat) H1, Ex H H1 → i < (hi - lo).toNat → EvT t ((wipe σ vs).set j (some (.int (lo + (i : Int))))) H1 (f i)) (he : ∀ (i : Nat) H1, Ex H H1 → i < (hi - lo).toNat → f i = true → Ev te ((wipe σ vs).set j (some (.int (lo + (i : Int))))) H1 (v i)) :
    EvL (tLc (iRng2 ta) (gName j) t te vs) σ H (given (hi - lo).toNat f v) := fun H0 e Q q => h H0 e _ fun H1 e1 => ⟨lo, hi, rfl, ⟨by omega, by omega, by omega, by omega⟩, fun Dl hD =>
  lc_range (lo := lo) (n := (hi - lo).toNat) (Cw H1 f v Dl) ⟨hD, Ex.new hD, upd_same⟩ (fun i H' hi' p => ⟨hw _, cw_turn p (by omega) (ht i H1 (e.trans e1) hi') (fun hf => he i H1 (e.trans e1) hi' hf)⟩) (fun H' p => q Dl H' (fresh_back e1 p.1) (e1.trans p.2.1) p.2.2)⟩
/-! ### sizes -/
def big : Nat := 1048600
theorem num_div {x j : Int} {n : Nat} (h : x.natAbs < 2 ^ n) : (x / j).natAbs < 2 ^ n := Nat.lt_of_le_of_lt (Int.natAbs_ediv_le_natAbs x j) h
theorem num_add {c y : Int} {n : Nat} (hc : c.natAbs < 2 ^ n) (hn : 64 ≤ n) (hy : y.natAbs < 2 ^ 64) : (c + y).natAbs < 2 ^ (n + 1) := by
  have h1 : (2 : Nat) ^ 64 ≤ 2 ^ n := Nat.pow_le_pow_right (by decide) hn
  have h2 : (2 : Nat) ^ (n + 1) = 2 ^ n + 2 ^ n := by rw [Nat.pow_succ]; omega
  have h3 : (c + y).natAbs ≤ c.natAbs + y.natAbs := Int.natAbs_add_le c y
  omega
theorem num_le {x : Int} {m n : Nat} (h : x.natAbs < 2 ^ m) (hmn : m ≤ n) : x.natAbs < 2 ^ n := Nat.lt_of_lt_of_le h (Nat.pow_le_pow_right (by decide) hmn)
theorem num_bits {x : Int} {n : Nat} (h : Builtin.Int.intBits x ≤ n) : x.natAbs < 2 ^ n := by
  unfold Builtin.Int.intBits at h
  split at h
  · rename_i hx
    have e : x = 0 := by simpa using hx
    subst e
    exact Nat.pow_pos (by decide)
  · rename_i hx
    have h0 : x.natAbs ≠ 0 := fun z => hx (by simp [Int.natAbs_eq_zero.mp z])
    exact (Nat.log2_lt h0).mp (by omega)
theorem num_sum : ∀ {l : List Int} {n : Nat}, (∀ z ∈ l, z.natAbs < 2 ^ n) → l.sum.natAbs ≤ l.length * 2 ^ n
  | [], n, _ => by simp
  | x :: r, n, h => by
    have ih := num_sum (l := r) (n := n) fun z hz => h z (List.mem_cons_of_mem _ hz)
    have hx := h x List.mem_cons_self
    have h3 : (x + r.sum).natAbs ≤ x.natAbs + r.sum.natAbs := Int.natAbs_add_le _ _
    rw [List.sum_cons, List.length_cons, Nat.succ_mul]
    omega
theorem num_sum63 {l : List Int} {n : Nat} (h : ∀ z ∈ l, z.natAbs < 2 ^ n) (hl : l.length ≤ 63) : l.sum.natAbs < 2 ^ (n + 6) := by
  have h1 := num_sum h
  have h2 : (2 : Nat) ^ (n + 6) = 64 * 2 ^ n := by rw [Nat.pow_add]; omega
  have h3 : l.length * 2 ^ n ≤ 63 * 2 ^ n := Nat.mul_le_mul_right _ hl
  have h4 : 0 < (2 : Nat) ^ n := Nat.pow_pos (by decide)
  omega
theorem cut63 {xs : List V} (h : xs.length ≤ 63) : cutV xs none (some 63) = xs := by
  unfold cutV
  rw [show HT.sIx xs.length xs.length (some 63) = min 63 xs.length from HT.sIx_nat xs.length xs.length 63, HT.sIx_none, Nat.min_eq_right h]
  simp
theorem atI_int {cs : List Int} {ix : Int} (h0 : 0 ≤ ix) (h1 : ix < cs.length) : atI (cs.map V.int) ix = some (.int (cs.getD ix.toNat 0)) := by
  obtain ⟨n, rfl⟩ := Int.eq_ofNat_of_zero_le h0
  refine atI_nat ?_
  have hn : n < cs.length := by omega
  rw [List.getElem?_map, Int.toNat_natCast, List.getD_eq_getElem?_getD, List.getElem?_eq_getElem hn]
  rfl
section
variable {K : PySem.W.Frag} {H H' : Hp} {Q : VK} {a b : Addr} {xs ys : List Int} {k : Int}
theorem in_ints (k : Int) : ∀ xs : List Int, inV (.int k) (xs.map V.int) = decide (k ∈ xs)
  | [] => rfl
  | x :: r => by
    have ih := in_ints k r
    unfold inV at ih ⊢
    rw [List.map_cons, List.any_cons, ih, Bool.eq_iff_iff]
    simp [eqV]
    constructor
    · rintro (z | z)
      · exact .inl z.symm
      · exact .inr z
    · rintro (z | z)
      · exact .inl z.symm
      · exact .inr z
theorem flat_ints (xs : List Int) : (xs.map V.int).all flatV = true := by
  rw [List.all_map, List.all_eq_true]
  intro x _
  rfl
theorem c_notIn (h : SqL K H a (xs.map V.int)) (q : Q (.bl (!decide (k ∈ xs))) H) : rIn K true (.int k) (.ref a) H Q := ⟨a, _, rfl, .inl h, rfl, flat_ints xs, by rw [if_pos rfl, in_ints]; exact q⟩
theorem c_cnt (h : SqL K H a (xs.map V.int)) (q : Q (.int (xs.count k : Nat)) H) : rCntI K (.ref a) [.int k] H Q := ⟨a, xs, k, rfl, rfl, h, q⟩
theorem tyLl {vs : List V} (h : SqL K H a vs) : tyV K "list" (.ref a) H := .inl ⟨rfl, vs, h⟩
theorem c_app {vs : List V} {v : V} (h : H a = some (.lst vs)) (hz : vs.length < 100000) (q : Q .non (upd H a (.lst (vs ++ [v])))) : rAppend (.ref a) [v] H Q := ⟨a, vs, v, rfl, rfl, h, sz_lt hz, q⟩
theorem c_cat {us vs : List V} (h : H a = some (.lst us)) (h' : H b = some (.lst vs)) (hz : us.length + vs.length ≤ 100000) (q : ∀ p, H p = none → Q (.ref p) (upd H p (.lst (us ++ vs)))) : rCat (.ref a) (.ref b) H Q := ⟨a, b, us, vs, rfl, rfl, h, h', sz_of hz, q⟩
end
theorem cut_last (fs : List Int) : cutV (fs.map V.int) (some (-1)) none = (fs.drop (fs.length - 1)).map V.int := by
  unfold cutV
  have e : HT.sIx (fs.map V.int).length 0 (some (-1)) = fs.length - 1 := by
    rw [List.length_map]
    unfold HT.sIx
    simp
    omega
  rw [e, HT.sIx_none, List.map_drop, List.length_map]
  exact List.take_of_length_le (by rw [List.length_drop, List.length_map]; omega)
theorem cut_init (g : List Int) (x : Int) : cutV ((g ++ [x]).map V.int) none (some (-1)) = g.map V.int := by
  unfold cutV
  have e : HT.sIx ((g ++ [x]).map V.int).length ((g ++ [x]).map V.int).length (some (-1)) = g.length := by
    rw [List.length_map, List.length_append]
    unfold HT.sIx
    simp
    omega
  rw [e, HT.sIx_none, List.map_append]
  simp
/-! ### whiles -/
theorem n_self {W : Nat → L2.St → Hp → Prop} {m : Nat} {R : (L2.St → Hp → Prop) → Prop} (h : R (fun σ' H' => ∃ m', m' < m ∧ W m' σ' H')) : ∃ N : L2.St → Hp → Prop, (∀ σ' H', N σ' H' → ∃ m', m' < m ∧ W m' σ' H') ∧ R N := ⟨_, fun _ _ z => z, h⟩
def wid : Nat := 9000
def far : Nat := 3000000
theorem given_true (n : Nat) (g : Nat → Bool) : given n (fun _ => true) (fun i => V.bl (g i)) = ((List.range n).map g).map V.bl := by
  unfold given
  have : (List.range n).filter (fun _ => true) = List.range n := List.filter_eq_self.mpr fun _ _ => rfl
  rw [this, List.map_map]
  rfl
theorem given_trueI (n : Nat) (g : Nat → Int) : given n (fun _ => true) (fun i => V.int (g i)) = ((List.range n).map g).map V.int := by
  unfold given
  have : (List.range n).filter (fun _ => true) = List.range n := List.filter_eq_self.mpr fun _ _ => rfl
  rw [this, List.map_map]
  rfl
section
variable {K : PySem.W.Frag} {H : Hp} {Q : VK} {a : Addr} {bs : List Bool}
theorem c_all (h : SqL K H a (bs.map V.bl)) (q : Q (.bl (bs.all id)) H) : rAll K [.ref a] H Q := ⟨a, bs, rfl, h, q⟩
theorem c_any (h : SqL K H a (bs.map V.bl)) (q : Q (.bl (bs.any id)) H) : rAny K [.ref a] H Q := ⟨a, bs, rfl, h, q⟩
end
theorem rnd_lt {ks : List Int} {B : Nat} (h : ∀ k ∈ ks, 0 < k ∧ k.natAbs < 2 ^ B) : ∀ i : Nat, (rnd (ks.take i)).natAbs < 2 ^ (i * B + 1) ∧ 0 < rnd (ks.take i)
  | 0 => by simp [rnd]
  | i + 1 => by
    obtain ⟨h1, h2⟩ := rnd_lt h i
    have le : 2 ^ (i * B + 1) ≤ 2 ^ ((i + 1) * B + 1) := Nat.pow_le_pow_right (by decide) (by rw [Nat.succ_mul]; omega)
    rw [List.take_add_one]
    cases e : ks[i]? with
    | none =>
      rw [Option.toList_none, List.append_nil]
      exact ⟨Nat.lt_of_lt_of_le h1 le, h2⟩
    | some k =>
      obtain ⟨k0, kB⟩ := h k (List.mem_of_getElem? e)
      rw [Option.toList_some, rnd_snoc]
      have p := lcm_pos h2 k0
      refine ⟨?_, p⟩
      have l := lcm_le h2 k0
      have w := wide_lt h1 kB
      have e2 : i * B + 1 + B = (i + 1) * B + 1 := by rw [Nat.succ_mul]; omega
      rw [e2] at w
      refine Nat.lt_of_le_of_lt ?_ w
      omega
theorem rnd_take {ks : List Int} {i : Nat} {k : Int} (h : ks[i]? = some k) : rnd (ks.take (i + 1)) = lcmI (rnd (ks.take i)) k := by
  rw [List.take_add_one, h]
  exact rnd_snoc _ _
def Bits (ns : List Int) : Prop := ∀ z ∈ ns, Builtin.Int.intBits z ≤ 1048576
def huge : Nat := 2100000
theorem num_dbl {n x : Int} {B : Nat} (hn : n.natAbs < 2 ^ B) (h0 : 0 ≤ n) (x0 : 0 ≤ x) (x1 : x ≤ 2 * n + 1) : x.natAbs < 2 ^ (B + 1) := by
  have e2 : (2 : Nat) ^ (B + 1) = 2 ^ B + 2 ^ B := by rw [Nat.pow_succ]; omega
  omega
theorem cut4 (ns : List Int) : cutV (ns.map V.int) none (some 4) = (ns.take 4).map V.int := by
  unfold cutV
  rw [show HT.sIx (ns.map V.int).length (ns.map V.int).length (some 4) = min 4 (ns.map V.int).length from HT.sIx_nat _ _ 4, HT.sIx_none, List.map_take]
  rw [List.drop_zero, Nat.sub_zero]
  by_cases h : 4 ≤ (ns.map V.int).length
  · rw [Nat.min_eq_left h]
  · rw [Nat.min_eq_right (by omega), List.take_length, List.take_of_length_le (by omega)]
theorem cut_tail (v : V) (vs : List V) : cutV (v :: vs) (some 1) none = vs := by
  unfold cutV
  rw [show HT.sIx (v :: vs).length 0 (some 1) = min 1 (v :: vs).length from HT.sIx_nat _ _ 1, HT.sIx_none, List.length_cons, Nat.min_eq_left (by omega)]
  show List.take (vs.length + 1 - 1) vs = vs
  rw [Nat.add_sub_cancel]
  exact List.take_length
end Dt
/-! A class without own __init__ made; a method of an instance of one of two classes. -/
namespace Dt
open PySem PySem.Spec PyProof.Rows L2 Evl
/-- a class without an own __init__, to be made -/
structure Mk0 (K : PySem.W.Frag) (C : Addr) : Prop where
  makes : PySem.W.makesIn K C = true
  init : PySem.W.findIn K (.ref C) "__init__" = some (some (.builtin "object.__init__"))
  top : PySem.W.mroIn K C (.type "object") = some true
  kp : PySem.W.keepIn K (.ref C) = true
/-- C(): a new instance and its dict -/
def tMake0 (C : Addr) : TE := fun σ H Q => ∀ x dx, H x = none → H dx = none → dx ≠ x → Q (.ref x) (upd (upd H dx (.own x)) x (.ins C dx []))
section
variable {X : Cx} {C : Addr} {x m : Str} {p pos apos : Pos} {e o : Expr} {es : List Expr} {ta : TE} {t : TA}
theorem run_make0 {pins : List (Addr × Obj)} {σ : L2.St} {H : Hp} {s : Shared} {Q : VK} (M : Mk0 X.K C) (I : Inv X pins σ H s)
    (h : ∀ x dx, H x = none → H dx = none → dx ≠ x → Q (.ref x) (upd (upd H dx (.own x)) x (.ins C dx []))) :
    wpAny (model X.prog X.w) X.A (call (.ref C) []) (EP X pins σ Q) X.xe s := by
  have I2 := Inv.made (C := C) I
  have hq := h (s.heap.objs.size + 1) s.heap.objs.size (I.hok.fresh (Nat.le_succ _)) (I.hok.fresh (Nat.le_refl _)) (Nat.ne_of_lt (Nat.lt_succ_self _))
  refine wpAny_call (make_map0 I.kIn M.makes M.init (fun self => PySem.W.Looks.of_pure (PySem.W.oi_bind self)) ?_)
  have at2 : ((s.heap.push PySem.W.emptyDict).push (PySem.W.instObj C s.heap.objs.size)).get? (s.heap.objs.size + 1) = some (PySem.W.instObj C s.heap.objs.size) := by
    have := Heap.get?_push_size (s.heap.push PySem.W.emptyDict) (o := PySem.W.instObj C s.heap.objs.size) rfl
    rwa [Heap.size_push] at this
  have t1 : PySem.W.Looks (model X.prog X.w) ((s.heap.push PySem.W.emptyDict).push (PySem.W.instObj C s.heap.objs.size)) (typeOf (.ref (s.heap.objs.size + 1))) (.ref C) := (PySem.W.Looks.ld at2).andThen .now
  have t2 : PySem.W.Looks (model X.prog X.w) ((s.heap.push PySem.W.emptyDict).push (PySem.W.instObj C s.heap.objs.size)) (isInstance (.ref (s.heap.objs.size + 1)) (.type "object")) true := t1.andThen (PySem.W.looks_mroIn I2.kIn M.top)
  refine codeAny_call_builtin PySem.W.oi_plain PySem.W.entry_oi (@PySem.W.check_slot (model X.prog X.w) _ _ _ "object.__init__" "object" "__init__" (.ref (s.heap.objs.size + 1)) [] [] _ PySem.W.oi_kind PySem.W.oi_split t2 (PySem.W.oi_args (.ref (s.heap.objs.size + 1))) ?_)
  rw [PySem.W.oi_run]
  exact wpAny_pure (And.intro rfl ⟨V.ref (s.heap.objs.size + 1), _, I2, rfl, hq⟩)
theorem pe_make00 (M : Mk0 X.K C) (hg : Gl X x) (hm : X.mg x = some (.ref C)) (hdb : (x == ("__debug__" : Str)) = false := by decide) : PE X (.Call (.Name x p) [] [] pos) (tMake0 C) := by
  refine ⟨fun pins s σ H Q I h => ?_⟩
  refine wpAny_Call_Name_kw (ld_glob I hg hm ?_ hdb)
  exact PySem.W.callWith_K0 I.kIn M.kp (run_make0 M I h)
/-- a method's promise -/
structure MetC (P : Program) (w : World) (K : PySem.W.Frag) (mg : Str → Option Value) (base : Heap) (k : Nat) (C : Addr) (m : Str) (sp : Sp) : Prop where
  ex : ∃ (f : Addr) (fd : FuncData) (ps : List Str), Cls K C ∧ Meth K C m f ∧ FnOk P w K mg base CX0 k f fd ps sp ∧ Binds K fd ps []
/-- o.m(e, ..) of an instance of one of two classes -/
def tMeth2 (C D : Addr) (m : Str) (spC spD : Sp) (ta : TE) (t : TA) : TE := fun σ H Q => ta σ H fun x H1 => ∃ a B dx fs, x = .ref a ∧ H1 a = some (.ins B dx fs) ∧ fs.lookup m = none ∧
  ((B = C ∧ t σ H1 fun vs H2 => spC (x :: vs) H2 Q E0) ∨ (B = D ∧ t σ H1 fun vs H2 => spD (x :: vs) H2 Q E0))
theorem pe_meth2 {pl : Sem Bool} {k j : Nat} {D : Addr} {spC spD : Sp} (c : MetC X.prog X.w X.K X.mg X.base k C m spC) (d : MetC X.prog X.w X.K X.mg X.base k D m spD) (hr : Room j X.A) (hk : k ≤ j) (he : PE X o ta) (ha : PA X (e :: es) t)
    (hst : starEach (e :: es) X.env = (false, eval e X.env) :: starEach es X.env := by rfl) (hpl : (backTo pos (starEach es X.env)).any (·.1) = false := by rfl)
    (ht : eval (.Call (.Attribute o m apos) (e :: es) [] pos) X.env = (do
      let ov ← eval o X.env
      standAt apos.atName
      let (f, first) ← holding [ov] (getMethod ov m pl)
      callWith pos f first (backTo pos (starEach (e :: es) X.env)) (backToKw pos (keywordEach [] X.env))) := by rfl) :
    PE X (.Call (.Attribute o m apos) (e :: es) [] pos) (tMeth2 C D m spC spD ta t) := by
  obtain ⟨f1, fd1, ps1, c1, m1, F1, b1⟩ := c.ex
  obtain ⟨f2, fd2, ps2, c2, m2, F2, b2⟩ := d.ex
  refine ⟨fun pins s σ H Q I h => ?_⟩
  refine PySem.W.methodCall_KW (pl := pl) (thn (he.run pins s σ H _ I h) fun u s1 ⟨x, H1, I1, rx, a, B, dx, fs, ex, ea, l, q⟩ => ?_) ht
  subst ex
  obtain rfl : u = Value.ref a := rx
  rcases q with ⟨rfl, q⟩ | ⟨rfl, q⟩
  · refine getmeth_ok I1 ea c1 m1 l ?_
    refine PySem.W.callWith_K (first := [.ref a]) (h₀ := X.base) I.ok.mod.kin m1.kp (thn (ha.run pos pins s1 σ H1 _ I1 q) fun us s2 ⟨vs, H2, I2, r, q2⟩ => ⟨I2.kIn, ?_⟩) hst hpl
    exact run_fn (us := .ref a :: us) (vs := .ref a :: vs) (dvs := []) F1 (hr.mono hk) b1 .nil pass0 I2 (.cons rfl r) (by rw [List.append_nil]; exact q2)
  · refine getmeth_ok I1 ea c2 m2 l ?_
    refine PySem.W.callWith_K (first := [.ref a]) (h₀ := X.base) I.ok.mod.kin m2.kp (thn (ha.run pos pins s1 σ H1 _ I1 q) fun us s2 ⟨vs, H2, I2, r, q2⟩ => ⟨I2.kIn, ?_⟩) hst hpl
    exact run_fn (us := .ref a :: us) (vs := .ref a :: vs) (dvs := []) F2 (hr.mono hk) b2 .nil pass0 I2 (.cons rfl r) (by rw [List.append_nil]; exact q2)
end
/-! ### the text's classes -/
/-- a class that may be made by its name, by its __init__ -/
structure MakC (P : Program) (w : World) (K : PySem.W.Frag) (mg : Str → Option Value) (base : Heap) (k : Nat) (x : Str) (C : Addr) (sp : Sp) : Prop where
  ex : ∃ (f : Addr) (fd : FuncData) (ps : List Str), Mk K C f ∧ FnOk P w K mg base CX0 k f fd ps sp ∧ mg x = some (.ref C) ∧ Binds K fd ps []
theorem pe_mkc {X : Cx} {k j : Nat} {C : Addr} {x : Str} {sp : Sp} {p pos : Pos} {e : Expr} {es : List Expr} {t : TA} (c : MakC X.prog X.w X.K X.mg X.base k x C sp) (hr : Room j X.A) (hk : k + 1 ≤ j) (hg : Gl X x) (ha : PA X (e :: es) t)
    (hdb : (x == ("__debug__" : Str)) = false := by decide) (he : starEach (e :: es) X.env = (false, eval e X.env) :: starEach es X.env := by rfl) (hpl : (backTo pos (starEach es X.env)).any (·.1) = false := by rfl) :
    PE X (.Call (.Name x p) (e :: es) [] pos) (tMake C sp [] E0 t) := by
  obtain ⟨f, fd, ps, M, F, hm, b⟩ := c.ex
  exact pe_make M F (hr.mono hk) hg hm b .nil pass0 ha hdb he hpl
structure DfM (K : PySem.W.Frag) (C : Addr) (m qual : Str) (st : Stmt) (ps : List Str) : Prop where
  ex : ∃ (f : Addr) (fd : FuncData), Fun K m qual st f fd ∧ Cls K C ∧ Meth K C m f ∧ Binds K fd ps []
structure DfI (K : PySem.W.Frag) (mg : Str → Option Value) (x : Str) (C : Addr) (qual : Str) (st : Stmt) (ps : List Str) : Prop where
  ex : ∃ (f : Addr) (fd : FuncData), Fun K "__init__" qual st f fd ∧ Mk K C f ∧ mg x = some (.ref C) ∧ Binds K fd ps []
section
variable {P : Program} {w : World} {K : PySem.W.Frag} {mg : Str → Option Value} {base : Heap}
theorem DfM.ok {C : Addr} {m qual : Str} {st : Stmt} {N ps : List Str} {k : Nat} {sp : Sp} (F : DfM K C m qual st ps) (S : FnScope N ps (defScope st)) (len : ∀ vs H Q E, sp vs H Q E → vs.length = ps.length)
    (hbody : ∀ (f : Addr) (cdv : Value) (A : Around) (outer : List Env) (s : Shared) (H : Hp) (vs : List V) (Q : VK) (E : XK), Room k (A.deeper (envOfC qual (defScope st) s.heap.objs.size f cdv)) → sp vs H Q E →
      ∃ t, PSs (cxOf CX0 P w K mg base N qual (defScope st) f cdv A outer s H E).nox (defBody st) t ∧ t { nx := fun _ H' => Q .non H', rt := Q } (start N vs) H) : MetC P w K mg base (k + 1) C m sp := by
  obtain ⟨f, fd, F, c, me, b⟩ := F.ex
  exact ⟨f, fd, ps, c, me, F.ok S len fun cdv A outer s H vs Q E => hbody f cdv A outer s H vs Q E, b⟩
theorem DfI.ok {C : Addr} {x qual : Str} {st : Stmt} {N ps : List Str} {k : Nat} {sp : Sp} (F : DfI K mg x C qual st ps) (S : FnScope N ps (defScope st)) (len : ∀ vs H Q E, sp vs H Q E → vs.length = ps.length)
    (hbody : ∀ (f : Addr) (cdv : Value) (A : Around) (outer : List Env) (s : Shared) (H : Hp) (vs : List V) (Q : VK) (E : XK), Room k (A.deeper (envOfC qual (defScope st) s.heap.objs.size f cdv)) → sp vs H Q E →
      ∃ t, PSs (cxOf CX0 P w K mg base N qual (defScope st) f cdv A outer s H E).nox (defBody st) t ∧ t { nx := fun _ H' => Q .non H', rt := Q } (start N vs) H) : MakC P w K mg base (k + 1) x C sp := by
  obtain ⟨f, fd, F, M, g, b⟩ := F.ex
  exact ⟨f, fd, ps, M, F.ok S len fun cdv A outer s H vs Q E => hbody f cdv A outer s H vs Q E, g, b⟩
theorem MetC.mono {C : Addr} {m : Str} {j k : Nat} {sp : Sp} (c : MetC P w K mg base j C m sp) (h : j ≤ k) : MetC P w K mg base k C m sp := by
  obtain ⟨f, fd, ps, c1, m1, F, b⟩ := c.ex
  exact ⟨f, fd, ps, c1, m1, F.mono h, b⟩
end
/-! ### isinstance's answers, by the classes' rows -/
theorem kit_by {K : PySem.W.Frag} {C D : Addr} {b : Bool} (h2 : PySem.W.isClsIn K D = true) (h3 : PySem.W.typeIn K (.ref D) = some (.type "type")) (h4 : PySem.W.subIn K (.ref C) (.ref D) = some b) (h5 : PySem.W.subIn K (.ref C) (.ref C) = some true) : PySem.W.kitOne K (.ref C) (.ref D) = some b := by
  unfold PySem.W.kitOne
  by_cases e : (Value.ref C == Value.ref D) = true
  · rw [if_pos e]
    have e2 : C = D := by
      have := beq_iff_eq.mp e
      cases this
      rfl
    subst e2
    rw [h5] at h4
    exact h4
  · rw [if_neg e]
    have e2 : ((PySem.W.clsIn K D).isSome && PySem.W.typeIn K (.ref D) == some (.type "type")) = true := by
      have h2' : (PySem.W.clsIn K D).isSome = true := h2
      rw [h2', h3] <;> rfl
    show (if ((PySem.W.clsIn K D).isSome && PySem.W.typeIn K (.ref D) == some (.type "type")) = true then PySem.W.subIn K (.ref C) (.ref D) else none) = some b
    rw [if_pos e2]
    exact h4
/-! ### readings step by step -/
section
variable {σ : L2.St} {H : Hp} {Q : VK} {ta tv : TE} {t : TA} {K : PySem.W.Frag} {C B : Addr} {m f : Str} {spC spD sp : Sp} {D : Ends} {E : XK}
theorem c_meth2 (k : ta σ H fun x H1 => ∃ a A dx fs, x = .ref a ∧ H1 a = some (.ins A dx fs) ∧ fs.lookup m = none ∧ ((A = C ∧ t σ H1 fun vs H2 => spC (x :: vs) H2 Q E0) ∨ (A = B ∧ t σ H1 fun vs H2 => spD (x :: vs) H2 Q E0))) : tMeth2 C B m spC spD ta t σ H Q := k
theorem c_mk (k : t σ H fun vs H1 => ∀ x dx, H1 x = none → H1 dx = none → dx ≠ x → sp (.ref x :: (vs ++ [])) (upd (upd H1 dx (.own x)) x (.ins C dx [])) (fun v H2 => v = .non ∧ Q (.ref x) H2) E) : tMake C sp [] E t σ H Q := k
theorem c_mk0 (k : ∀ x dx, H x = none → H dx = none → dx ≠ x → Q (.ref x) (upd (upd H dx (.own x)) x (.ins C dx []))) : tMake0 C σ H Q := k
theorem c_fld (k : ta σ H fun x H1 => ∃ a C dx fs v, x = .ref a ∧ H1 a = some (.ins C dx fs) ∧ Cls K C ∧ NoAttr K C f ∧ fs.lookup f = some v ∧ Q v H1) : tFld K ta f σ H Q := k
end
end Dt
namespace Dt
open PySem PySem.Spec PyProof.Rows L2 Evl
local macro_rules | `(tactic| walk_at "st0") => `(tactic| first
  | (with_reducible refine c_seq ?_) | (with_reducible refine c_asg ?_) | (with_reducible refine c_asgG ?_) | (with_reducible refine c_ret ?_) | (with_reducible refine c_drop ?_) | (with_reducible refine c_ifS ?_) | (with_reducible refine c_next ?_) | (with_reducible refine c_par ?_) | (with_reducible refine c_for ?_) | (with_reducible refine c_g ?_) | (with_reducible refine c_iL ?_) | (with_reducible refine c_iR1 ?_) | (with_reducible refine c_iR2 ?_) | (with_reducible refine c_iE ?_)
  | (with_reducible refine c_op ?_) | (with_reducible refine c_un ?_) | (with_reducible refine c_cb ?_) | (with_reducible refine c_call ?_) | (with_reducible refine c_nil ?_) | (with_reducible refine c_cons ?_)
  | (with_reducible refine c_c ?_) | ((with_reducible refine' c_var ?hv ?_); (case hv => exact rfl))
  | (with_reducible refine c_test ?_) | (with_reducible refine c_B ?_) | (with_reducible refine c_k ?_) | (with_reducible refine c_and ?_) | (with_reducible refine c_or ?_) | (with_reducible refine c_not ?_)
  | (with_reducible refine c_yes ?_) | (with_reducible refine c_andV ?_) | (with_reducible refine c_orV ?_) | (with_reducible refine c_notV ?_) | (with_reducible refine c_chain ?_)
  | (with_reducible refine c_lst ?_) | (with_reducible refine c_tup ?_) | (with_reducible refine c_sl ?_) | (with_reducible refine c_rev ?_) | (with_reducible refine c_bm ?_) | (with_reducible refine c_noP ?_) | (with_reducible refine c_part ?_) | (with_reducible refine c_ki ?_) | (with_reducible refine c_kpar ?_)
  | (with_reducible refine c_I0 ?_) | (with_reducible refine c_U ?_) | (with_reducible refine c_eqI ?_) | (with_reducible refine c_neI ?_) | (with_reducible refine c_eqB ?_) | (with_reducible refine c_neB ?_) | (with_reducible refine c_isB ?_) | (with_reducible refine c_notB ?_)
  | (with_reducible refine c_isiI ?_) | (with_reducible refine c_isiIb ?_) | (with_reducible refine c_isiB ?_)
  | ((with_reducible refine' w_t ?hb ?_); (case hb => exact rfl)) | ((with_reducible refine' w_f ?hb ?_); (case hb => exact rfl)))
local macro_rules | `(tactic| walk_at "st") => `(tactic| first | walk_at "st0" | (with_reducible refine c_if ?_))
local macro_rules | `(tactic| walk_at "goI") => `(tactic| ((repeat walk_at "st0"); (try dsimp only)))
local macro_rules | `(tactic| walk_at "go") => `(tactic| ((repeat walk_at "st"); (try dsimp only)))
local macro_rules | `(tactic| walk_at "go1") => `(tactic| ((repeat (first | (with_reducible refine c_seq ?_) | (with_reducible refine c_asg ?_))); (try dsimp only)))
/-! ### the text -/
def topS (i : Nat) : Stmt := PySem.Challenge.pw_doorturns_k04_whole_compared.main.body.getD i (.Pass ⟨0, 0, 0, 0⟩)
local macro_rules | `(tactic| walk_at "gm") => `(tactic| ((repeat (first | walk_at "st" | (with_reducible refine c_meth2 ?_) | (with_reducible refine c_mk ?_) | (with_reducible refine c_mk0 ?_) | (with_reducible refine c_fld ?_))); (try dsimp only)))
abbrev s_is_number : Stmt := topS 5
section
variable {P : Program} {w : World} {K : PySem.W.Frag} {mg : Str → Option Value} {base : Heap}
/-! is_number, of an int -/
def spNum : Sp := fun vs H Q _ => ∃ n : Int, vs = [.int n] ∧ Q (.bl (decide (0 < n))) H
theorem ok_is_number (F : Df K mg "is_number" s_is_number ["thing"]) (B : Blt mg) : Cal P w K mg base CX0 1 "is_number" spNum := by
  have sc : FnScope ["thing"] ["thing"] (defScope s_is_number) := ⟨rfl, rfl, rfl, by decide +kernel, rfl, by decide +kernel, by decide +kernel⟩
  refine F.ok sc (fun vs H Q E h => ?_) (fun f cdv A outer s H vs Q E hr h => ?_)
  · obtain ⟨n, rfl, _⟩ := h
    rfl
  · obtain ⟨n, rfl, q⟩ := h
    refine ⟨_, (pss_one (ps_ret (pe_and (pe_callB call_isi (by rfl) B.isinstance_ boot_isinstance (pa_cons (pv 0) (pa_cons (pe_bltn (v := .ty "int") (by rfl) B.int_ boot_int rfl) pa_nil))) (pe_and (pe_not (pe_callB call_isi (by rfl) B.isinstance_ boot_isinstance (pa_cons (pv 0) (pa_cons (pe_bltn (v := .ty "bool") (by rfl) B.bool_ boot_bool rfl) pa_nil)))) (pe_one (pe_cmpR op_gt (pv 0) pe_int (nomark _))))))), ?_⟩
    walk_at "go"
    exact q
end
abbrev s_asked_turners : Stmt := topS 6
section
variable {P : Program} {w : World} {K : PySem.W.Frag} {mg : Str → Option Value} {base : Heap}
/-! asked_turners, of turners -/
def spAskT (K : PySem.W.Frag) : Sp := fun vs H Q _ => ∃ (a : Addr) (ts : List Int), vs = [.ref a] ∧ SqL K H a (ts.map V.int) ∧ Good ts ∧ RetV .non H Q
theorem ok_asked_turners (F : Df K mg "asked_turners" s_asked_turners ["turners"]) (B : Blt mg) (g_MOST : ∃ t, mg "MOST" = some (.int 40 t)) (c_is_number : Cal P w K mg base CX0 1 "is_number" spNum) : Cal P w K mg base CX0 2 "asked_turners" (spAskT K) := by
  obtain ⟨tm, g_MOST⟩ := g_MOST
  have sc : FnScope ["turners", "one"] ["turners"] (defScope s_asked_turners) := ⟨rfl, rfl, rfl, by decide +kernel, rfl, by decide +kernel, by decide +kernel⟩
  refine F.ok sc (fun vs H Q E h => ?_) (fun f cdv A outer s H vs Q E hr h => ?_)
  · obtain ⟨a, ts, rfl, _⟩ := h
    rfl
  · obtain ⟨a, ts, rfl, hS, hG, q⟩ := h
    refine ⟨_, (pss_one (ps_if (PW.pt (pw_or (pt_not (pt_val (pe_callB call_isi (by rfl) B.isinstance_ boot_isinstance (pa_cons (pv 0) (pa_cons (pe_bltn (v := .ty "list") (by rfl) B.list_ boot_list rfl) pa_nil))))) (pw_or (pt_cmpR op_gt (pe_callB call_len_s (by rfl) B.len_ boot_len (pa_cons (pv 0) pa_nil)) (pe_glob (v := .int 40) (by rfl) g_MOST ⟨_, rfl⟩) (nomark _)) (pw_or1 (pt_not (pt_val (pe_callB (cr_all rfl) (by rfl) B.all_ boot_all (pa_cons (pe_lc (own := [("one", 1)]) (g := (gName 1)) (by rfl) sc.nd (pi_list (pv 0)) (blkOk_by (own := [("one", 1)]) (N := ["turners", "one"]) (sc := defScope s_asked_turners) (by decide +kernel)) (fun _ _ _ _ _ => (pg_name (i := 1) sc.nd rfl (by first | exact Or.inl rfl | exact Or.inr rfl))) (fun _ _ _ _ _ => pts_nil) (fun _ _ _ _ _ => (pe_d c_is_number hr (by decide) (by rfl) (pa_cons (pv 1) pa_nil)))) pa_nil))))))))
      (pss_one ps_never) pss_nil)), ?_⟩
    walk_at "go"
    refine c_isiL hS ?_
    walk_at "go"
    refine c_len hS ?_
    walk_at "go"
    refine w_f (decide_eq_false (by rw [List.length_map]; have := hG.len; omega)) ?_
    walk_at "go"
    refine el_lcL (K := K) (σ := [some (.ref a), none]) (fun _ => true) (fun i => V.bl (decide (0 < ts.getD i 0))) (ev_var rfl) hS (by rw [List.length_map]; have := hG.len; omega) (fun x => rfl) (fun i x H1 e hx => ?_) (fun i x H1 e hx _ => ?_) H (Ex.refl H) _ (fun p H2 hp e2 h2 => ?_)
    · exact fun H2 _ QB k => k H2 (Ex.refl H2)
    · obtain ⟨rfl, hi, _⟩ := getD_of hx
      intro H2 e2 Q2 k
      walk_at "go"
      exact ⟨_, rfl, k H2 (Ex.refl H2)⟩
    · rw [List.length_map, given_all ts fun n => decide (0 < n)] at h2
      walk_at "go"
      refine ⟨p, _, rfl, .inl (.inl h2), ?_⟩
      have e : (ts.map fun n => decide (0 < n)).all id = true := by
        rw [List.all_map, List.all_eq_true]
        intro t ht
        have := hG.pos t ht
        simp; omega
      rw [e]
      walk_at "go"
      exact q H2 e2
end
abbrev s_left_over : Stmt := topS 7
section
variable {P : Program} {w : World} {K : PySem.W.Frag} {mg : Str → Option Value} {base : Heap}
/-! left_over -/
def spLeft (K : PySem.W.Frag) : Sp := fun vs H Q _ => ∃ (a : Addr) (ts : List Int), vs = [.ref a] ∧ SqL K H a (ts.map V.int) ∧ ts.length ≤ 1000 ∧ ∀ ks, IsKept ts ks → RetL (ks.map V.int) H Q
theorem ok_left_over (F : Df K mg "left_over" s_left_over ["turners"]) (B : Blt mg) : Cal P w K mg base CX0 1 "left_over" (spLeft K) := by
  have sc : FnScope ["turners", "found", "one"] ["turners"] (defScope s_left_over) := ⟨rfl, rfl, rfl, by decide +kernel, rfl, by decide +kernel, by decide +kernel⟩
  refine F.ok sc (fun vs H Q E h => ?_) (fun f cdv A outer s H vs Q E hr h => ?_)
  · obtain ⟨a, ts, rfl, _⟩ := h
    rfl
  · obtain ⟨a, ts, rfl, hS, hl, q⟩ := h
    refine ⟨_, (pss_cons (ps_set (i := 1) sc.nd rfl (by first | exact Or.inl rfl | exact Or.inr rfl) (pe_lst pa_nil))
      (pss_cons (ps_for PassesOwn.never rfl (pi_list (pe_callB cr_sortedI (by rfl) B.sorted_ boot_sorted (pa_cons (pv 0) pa_nil))) (pg_name (i := 2) sc.nd rfl (by first | exact Or.inl rfl | exact Or.inr rfl))
      (pss_one (ps_if (PW.pt (pw_and (pt_cmpR op_eq (pe_op op_mod (pe_bm PySem.F.plainAttrs_list PySem.F.slot_list_count PySem.F.type_list_count mt_lcount (pv 0) (pa_cons (pv 2) pa_nil)) pe_int) pe_int (nomark _)) (pw_and1 (pt_cmpR op_notIn_seq (pv 2) (pv 1) (by rfl)))))
      (pss_one (ps_expr (pe_bm PySem.F.plainAttrs_list PySem.F.slot_list_append PySem.F.type_list_append mt_append (pv 1) (pa_cons (pv 2) pa_nil)))) pss_nil)))
      (pss_one (ps_ret (pv 1))))), ?_⟩
    walk_at "go"
    refine ⟨Nat.zero_le _, fun fo nfo => ?_⟩
    have e1 : Ex H (upd H fo (.lst [])) := Ex.new nfo
    walk_at "go"
    refine ⟨a, ts, rfl, ex_l e1 hS, fun so p perm rise np => ?_⟩
    have e2 : Ex (upd H fo (.lst [])) (upd (upd H fo (.lst [])) p (.lst (so.map V.int))) := Ex.new np
    have npf : p ≠ fo := fun z => by rw [z, upd_same] at np; cases np
    have np0 : H p = none := fresh_back e1 np
    refine ⟨p, rfl, ⟨_, .inl (.inl upd_same)⟩, f_list (xs := so.map V.int) (fun i σ H' => ∃ y fs, σ = [some (.ref a), some (.ref fo), y] ∧ Ex H H' ∧ H' p = some (.lst (so.map V.int)) ∧ H' fo = some (.lst (fs.map V.int)) ∧ LoInv ts (so.take i) fs ∧ fs.length ≤ i)
      ⟨none, [], rfl, e1.trans e2, upd_same, e2 _ _ upd_same, LoInv.nil ts, Nat.le_refl _⟩ (fun i σ H' _ h => by obtain ⟨_, _, _, _, h, _⟩ := h; exact .inl (.inl h)) (fun i x σ H' hx h => ?_) (fun σ H' h => ?_)⟩
    · obtain ⟨y, fs, rfl, e3, hp, hf, inv, hfl⟩ := h
      obtain ⟨rfl, hi, hg⟩ := getD_of hx
      have hsl : so.length = ts.length := perm.length_eq
      have tk : so.take (i + 1) = so.take i ++ [so.getD i 0] := by rw [List.take_add_one, hg]; rfl
      have below : ∀ z ∈ so.take i, z ≤ so.getD i 0 := by
        intro z hz
        obtain ⟨j, hj, e⟩ := List.getElem_of_mem hz
        rw [List.length_take] at hj
        rw [List.getElem_take] at e
        have := List.pairwise_iff_getElem.mp rise j i (by omega) hi (by omega)
        rw [List.getD_eq_getElem?_getD, List.getElem?_eq_getElem hi]
        show z ≤ so[i]
        omega
      generalize so.getD i 0 = one at hg tk below
      walk_at "go"
      refine ⟨tyLl (ex_l e3 hS), ?_⟩
      walk_at "go"
      refine c_cnt (ex_l e3 hS) ?_
      walk_at "go"
      refine c_I (by decide) ?_
      walk_at "go"
      refine w_2 (fun hb => ?_) (fun hb => ?_)
      · have hodd : ts.count one % 2 = 1 := by have := of_decide_eq_true hb; omega
        walk_at "go"
        refine c_notIn (.inl (.inl hf)) ?_
        walk_at "go"
        refine w_2 (fun hb2 => ?_) (fun hb2 => ?_)
        · have hn : one ∉ fs := by simpa using hb2
          walk_at "go"
          refine ⟨tyLl (.inl (.inl hf)), ?_⟩
          walk_at "go"
          refine c_app hf (by rw [List.length_map]; omega) ?_
          refine ⟨_, fs ++ [one], rfl, e3.mut nfo, ?_, ?_, ?_, ?_⟩
          · rw [upd_ne npf]; exact hp
          · rw [upd_same, List.map_append]; rfl
          · rw [tk]; exact inv.put below hodd hn
          · rw [List.length_append]; show fs.length + 1 ≤ i + 1; omega
        · have hn : one ∈ fs := by simpa using hb2
          walk_at "go"
          exact ⟨_, fs, rfl, e3, hp, hf, by rw [tk]; exact inv.skip fun z => z.2 hn, by omega⟩
      · have hev : ¬ ts.count one % 2 = 1 := by have := of_decide_eq_false hb; omega
        walk_at "go"
        exact ⟨_, fs, rfl, e3, hp, hf, by rw [tk]; exact inv.skip fun z => hev z.1, by omega⟩
    · obtain ⟨y, fs, rfl, e3, hp, hf, inv, hfl⟩ := h
      rw [List.length_map, List.take_length] at inv
      walk_at "go"
      exact q fs (inv.kept perm) fo H' nfo e3 hf
end
abbrev s__law_number : Stmt := topS 15
section
variable {P : Program} {w : World} {K : PySem.W.Frag} {mg : Str → Option Value} {base : Heap}
/-- any number that a cell gives, of bounded size -/
def spLawNumber : Sp := fun vs H Q _ => ∃ c at_ wh : Int, vs = [.int c, .int at_, .int wh] ∧ c.natAbs < 2 ^ big ∧ 0 ≤ at_ ∧ at_ ≤ 10000 ∧ ∀ n : Int, n.natAbs < 2 ^ (2 * big + 200) → Q (.int n) H
theorem ok__law_number (F : Df K mg "_law_number" s__law_number ["_law_cell", "_law_at", "_law_whole"]) : Cal P w K mg base CX0 1 "_law_number" spLawNumber := by
  have sc : FnScope ["_law_cell", "_law_at", "_law_whole", "_law_blend", "_law_more"] ["_law_cell", "_law_at", "_law_whole"] (defScope s__law_number) := ⟨rfl, rfl, rfl, by decide +kernel, rfl, by decide +kernel, by decide +kernel⟩
  refine F.ok sc (fun vs H Q E h => ?_) (fun f cdv A outer s H vs Q E hr h => ?_)
  · obtain ⟨c, at_, wh, rfl, _⟩ := h
    rfl
  · obtain ⟨c, at_, wh, rfl, hc, h0, h1, q⟩ := h
    refine ⟨_, (pss_cons (ps_if (pt_cmpR op_ge (pv 0) (pe_op op_pow pe_int pe_int) (nomark _))
      (pss_one (ps_ret (pe_op op_fdiv (pv 0) (pe_op op_add pe_int (pe_op op_mod (pv 1) pe_int))))) pss_nil)
      (pss_cons (ps_set (i := 3) sc.nd rfl (by first | exact Or.inl rfl | exact Or.inr rfl) (pe_op op_mod (pe_op op_add (pe_op op_mul (pe_op op_add (pv 0) (pe_op op_mul pe_int (pv 1))) pe_int) (pv 2)) pe_int))
      (pss_cons (ps_set (i := 4) sc.nd rfl (by first | exact Or.inl rfl | exact Or.inr rfl) (pe_op op_mul (pv 3) (pe_op op_add (pe_op op_add (pv 0) (pe_op op_mul pe_int (pv 1))) pe_int)))
      (pss_one (ps_ret (pe_op op_fdiv (pe_op op_mul (pe_op op_mulB (pv 4) (pe_op op_add (pe_op op_add (pv 3) (pv 0)) pe_int)) (pe_op op_add (pe_op op_mul (pv 3) (pv 3)) pe_int)) (pe_op op_add pe_int (pv 1)))))))), ?_⟩
    walk_at "go"
    refine c_I ⟨by decide, by decide, by decide⟩ ?_
    walk_at "go"
    refine w_2 (fun hb => ?_) (fun hb => ?_)
    · walk_at "go"
      refine c_I (by decide) ?_
      walk_at "go"
      have m0 : 0 ≤ at_ % 7 := Int.emod_nonneg _ (by decide)
      have m1 : at_ % 7 < 7 := Int.emod_lt_of_pos _ (by decide)
      refine c_I ⟨by omega, by omega⟩ ?_
      exact q _ (num_div (num_le hc (by omega)))
    · walk_at "go"
      refine c_I (.inl ⟨by decide, by decide⟩) ?_
      walk_at "go"
      refine c_I (.inr ⟨by decide, by decide⟩) ?_
      walk_at "go"
      refine c_I (by decide) ?_
      walk_at "go"
      generalize hbl : ((c + 977 * at_) * 48271 + wh) % 2147483647 = bl
      have b0 : 0 ≤ bl := by rw [← hbl]; exact Int.emod_nonneg _ (by decide)
      have b1 : bl < 2147483647 := by rw [← hbl]; exact Int.emod_lt_of_pos _ (by decide)
      refine c_I (.inl ⟨by decide, by decide⟩) ?_
      walk_at "go"
      refine c_I (.inl ⟨by omega, by omega⟩) ?_
      walk_at "go"
      have k1 : (c + 31 * at_ + 7).natAbs < 2 ^ (big + 1) := by
        rw [Int.add_assoc]
        exact num_add hc (by decide) (by omega)
      have k2 : (bl + c + 5).natAbs < 2 ^ (big + 1) := by
        rw [show bl + c + 5 = c + (bl + 5) by omega]
        exact num_add hc (by decide) (by omega)
      have kb : bl.natAbs < 2 ^ 31 := by omega
      have k3 : (bl * (c + 31 * at_ + 7)).natAbs < 2 ^ (31 + (big + 1)) := wide_lt kb k1
      refine c_I (mulOk k3 k2 (by decide)) ?_
      have k4 := wide_lt k3 k2
      walk_at "go"
      refine c_I (.inl ⟨by omega, by omega⟩) ?_
      walk_at "go"
      have k5 : 0 ≤ bl * bl := Int.mul_nonneg b0 b0
      have k6 : bl * bl ≤ 2147483647 * 2147483647 := Int.mul_le_mul (by omega) (by omega) b0 (by decide)
      refine c_I (.inr ⟨by omega, by omega⟩) ?_
      walk_at "go"
      refine c_I ⟨by omega, by omega⟩ ?_
      have k7 : (bl * bl + 11).natAbs < 2 ^ 63 := by omega
      exact q _ (num_div (num_le (wide_lt k4 k7) (by omega)))
end
abbrev s__law_turners : Stmt := topS 16
section
variable {P : Program} {w : World} {K : PySem.W.Frag} {mg : Str → Option Value} {base : Heap}
/-- turners by the cells: some, from 1 on, none beyond 10 ** 20 -/
structure Made (most : Int) (ts : List Int) : Prop where
  len : (ts.length : Int) ≤ most
  pos : ∀ t ∈ ts, 1 ≤ t
  le : ∀ t ∈ ts, t ≤ 100000000000000000000
theorem Made.good {most : Int} {ts : List Int} (h : Made most ts) (hm : most ≤ 40) : Good ts := ⟨by have := h.len; omega, h.pos⟩
def spLawTurners (K : PySem.W.Frag) : Sp := fun vs H Q _ => ∃ (a : Addr) (ns : List Int) (by_ most : Int), vs = [.ref a, .int by_, .int most] ∧ SqL K H a (ns.map V.int) ∧ ns.length ≤ 63 ∧ Bits ns ∧ 0 ≤ by_ ∧ by_ ≤ 100 ∧ 0 ≤ most ∧ most ≤ 100 ∧
  ∀ ts, Made most ts → RetL (ts.map V.int) H Q
theorem ok__law_turners (F : Df K mg "_law_turners" s__law_turners ["_law_script", "_law_by", "_law_most"]) (B : Blt mg) (c__law_number : Cal P w K mg base CX0 1 "_law_number" spLawNumber) : Cal P w K mg base CX0 2 "_law_turners" (spLawTurners K) := by
  have sc : FnScope ["_law_script", "_law_by", "_law_most", "_law_cells", "_law_whole", "_law_wide", "_law_found", "_law_at"] ["_law_script", "_law_by", "_law_most"] (defScope s__law_turners) := ⟨rfl, rfl, rfl, by decide +kernel, rfl, by decide +kernel, by decide +kernel⟩
  refine F.ok sc (fun vs H Q E h => ?_) (fun f cdv A outer s H vs Q E hr h => ?_)
  · obtain ⟨a, ns, by_, most, rfl, _⟩ := h
    rfl
  · obtain ⟨a, ns, by_, most, rfl, hS, hl, hB, b0, b1, m0, m1, q⟩ := h
    refine ⟨_, (pss_cons (ps_set (i := 3) sc.nd rfl (by first | exact Or.inl rfl | exact Or.inr rfl) (pe_ifExp (pt_cmpR (op_neD hr.units) (pv 0) (pe_lst pa_nil) (nomark _)) (pe_slice sl_list (pv 0) po_none (po_some pe_int)) (pe_lst (pa_cons pe_int pa_nil))))
      (pss_cons (ps_set (i := 4) sc.nd rfl (by first | exact Or.inl rfl | exact Or.inr rfl) (pe_op op_add (pe_callB call_abs_s (by rfl) B.abs_ boot_abs (pa_cons (pe_callB (cr_sum rfl) (by rfl) B.sum_ boot_sum (pa_cons (pv 3) pa_nil)) pa_nil)) (pv 1)))
      (pss_cons (ps_set (i := 5) sc.nd rfl (by first | exact Or.inl rfl | exact Or.inr rfl) (pe_ix ix_tup (pe_tup (pa_cons pe_int (pa_cons pe_int (pa_cons pe_int (pa_cons (pe_op op_pow pe_int pe_int) pa_nil))))) (pe_op op_mod (pe_op op_fdiv (pv 4) pe_int) pe_int) (fun _ _ => rfl)))
      (pss_cons (ps_set (i := 6) sc.nd rfl (by first | exact Or.inl rfl | exact Or.inr rfl) (pe_lst pa_nil))
      (pss_cons (ps_for PassesOwn.never rfl (pi_range1 (by rfl) B.range_ (pa_cons (pe_op op_mod (pv 4) (pe_op op_add (pv 2) pe_int)) pa_nil)) (pg_name (i := 7) sc.nd rfl (by first | exact Or.inl rfl | exact Or.inr rfl))
      (pss_one (ps_expr (pe_bm PySem.F.plainAttrs_list PySem.F.slot_list_append PySem.F.type_list_append mt_append (pv 6) (pa_cons (pe_op op_add pe_int (pe_op op_mod (pe_op op_fdiv (pe_d c__law_number hr (by decide) (by rfl) (pa_cons (pe_ix ix_list (pv 3) (pe_op op_mod (pe_op op_add (pv 7) (pv 1)) (pe_callB call_len_s (by rfl) B.len_ boot_len (pa_cons (pv 3) pa_nil))) (fun _ _ => rfl)) (pa_cons (pe_op op_add (pv 7) (pv 1)) (pa_cons (pv 4) pa_nil)))) pe_int) (pv 5))) pa_nil)))))
      (pss_one (ps_ret (pv 6)))))))), ?_⟩
    walk_at "go1"
    -- the cells: a list that is not empty
    refine c_ev (fun v H1 => ∃ cs c, v = .ref c ∧ Ex H H1 ∧ H1 c = some (.lst (cs.map V.int)) ∧ cs ≠ [] ∧ cs.length ≤ 63 ∧ ∀ z ∈ cs, z.natAbs < 2 ^ big) (fun Q' k => ?_) (fun v H1 hv => ?_)
    · walk_at "go"
      refine ⟨Nat.zero_le _, fun p np => ?_⟩
      have eP : Ex H (upd H p (.lst [])) := Ex.new np
      refine c_neL (xs := ns) (ys := []) (ex_l eP hS) (.inl (.inl upd_same)) ?_
      walk_at "go"
      refine w_2 (fun hb => ?_) (fun hb => ?_)
      · walk_at "go"
        refine ⟨a, _, rfl, ex_l eP hS, fun c nc => k _ _ ⟨ns, c, rfl, eP.trans (Ex.new nc), ?_, ?_, hl, fun z hz => num_le (num_bits (hB z hz)) (by decide)⟩⟩
        · rw [upd_same, cut63 (by rw [List.length_map]; exact hl)]
        · intro z
          rw [decide_eq_true z] at hb
          cases hb
      · walk_at "go"
        refine ⟨by show 1 ≤ sizeLine; decide, fun c nc => k _ _ ⟨[5], c, rfl, eP.trans (Ex.new nc), ?_, by simp, by simp, fun z hz => ?_⟩⟩
        · rw [upd_same]; rfl
        · rw [List.mem_singleton.mp hz]
          exact num_le (n := big) (m := 3) (by decide) (by decide)
    obtain ⟨cs, c, rfl, e1, hc, hne, hcl, hcb⟩ := hv
    walk_at "go"
    refine c_sum (.inl (.inl hc)) ?_
    walk_at "go"
    refine c_abs ?_
    walk_at "go"
    generalize hW : ((cs.sum.natAbs : Int) + by_) = W
    have W0 : 0 ≤ W := by omega
    walk_at "go"
    refine c_I ⟨by decide, by decide, by decide⟩ ?_
    walk_at "go"
    refine ⟨by show 4 ≤ sizeLine; decide, fun tp ntp => ?_⟩
    walk_at "go"
    refine c_I ⟨by decide, by decide⟩ ?_
    walk_at "go"
    refine c_I (by decide) ?_
    have i0 : 0 ≤ W / 5 % 4 := Int.emod_nonneg _ (by decide)
    have i1 : W / 5 % 4 < 4 := Int.emod_lt_of_pos _ (by decide)
    have hwd : ∃ wd : Int, atI [V.int 4, .int 12, .int 60, .int (10 ^ (20 : Int).toNat)] (W / 5 % 4) = some (.int wd) ∧ 1 ≤ wd ∧ wd ≤ 100000000000000000000 := by
      have c4 : W / 5 % 4 = 0 ∨ W / 5 % 4 = 1 ∨ W / 5 % 4 = 2 ∨ W / 5 % 4 = 3 := by omega
      rcases c4 with z | z | z | z <;> rw [z]
      · exact ⟨4, rfl, by decide, by decide⟩
      · exact ⟨12, rfl, by decide, by decide⟩
      · exact ⟨60, rfl, by decide, by decide⟩
      · exact ⟨100000000000000000000, rfl, by decide, by decide⟩
    obtain ⟨wd, hwd, w1, w2⟩ := hwd
    have e2 : Ex H1 (upd H1 tp (.tup [V.int 4, .int 12, .int 60, .int (10 ^ (20 : Int).toNat)])) := Ex.new ntp
    refine ⟨tp, _, _, _, rfl, rfl, .inl (.inl upd_same), hwd, ?_⟩
    generalize upd H1 tp (.tup [V.int 4, .int 12, .int 60, .int (10 ^ (20 : Int).toNat)]) = H2 at e2 ⊢
    walk_at "go"
    refine ⟨Nat.zero_le _, fun fo nfo => ?_⟩
    have e3 : Ex H2 (upd H2 fo (.lst [])) := Ex.new nfo
    have e13 := (e1.trans e2).trans e3
    have nfo0 : H fo = none := fresh_back (e1.trans e2) nfo
    have hc3 : (upd H2 fo (.lst [])) c = some (.lst (cs.map V.int)) := e3 _ _ (e2 _ _ hc)
    have hne3 : c ≠ fo := fun z => by rw [z] at hc; rw [fresh_back e2 nfo] at hc; cases hc
    have hcl' : 0 < (cs.length : Int) := by
      cases cs with
      | nil => exact absurd rfl hne
      | cons x r => rw [List.length_cons]; omega
    walk_at "go1"
    refine s_forR1 (n := W % (most + 1)) (fun H4 e4 Q4 k => ?_) ⟨Int.emod_nonneg _ (by omega), by have := Int.emod_lt_of_pos W (show 0 < most + 1 by omega); omega⟩
      (fun i σ H4 => ∃ y, σ = [some (.ref a), some (.int by_), some (.int most), some (.ref c), some (.int W), some (.int wd), some (.ref fo), y] ∧ Ex H H4 ∧ H4 c = some (.lst (cs.map V.int)) ∧
        ∃ ts : List Int, H4 fo = some (.lst (ts.map V.int)) ∧ ts.length = i ∧ ∀ t ∈ ts, 1 ≤ t ∧ t ≤ 100000000000000000000)
      (fun H4 e4 => ⟨none, rfl, e13.trans e4, e4 _ _ hc3, [], e4 _ _ upd_same, rfl, fun t ht => nomatch ht⟩) (fun i σ H4 hi hP => ?_) (fun σ H4 hP => ?_)
    · walk_at "go"
      refine c_I (by omega) ?_
      walk_at "go"
      exact k H4 (Ex.refl H4)
    · obtain ⟨y, rfl, e4, hc4, ts, hf4, htl, hts⟩ := hP
      have hi2 : (i : Int) < most + 1 := by have := Int.emod_lt_of_pos W (show 0 < most + 1 by omega); omega
      refine c_drop ?_
      refine ⟨.ref fo, rfl, .inl ⟨rfl, _, .inl (.inl hf4)⟩, ?_⟩
      walk_at "go"
      refine c_len (.inl (.inl hc4)) ?_
      walk_at "go"
      refine c_I (by rw [List.length_map]; exact hcl') ?_
      rw [List.length_map]
      generalize hx : ((i : Int) + by_) % (cs.length : Int) = ix
      have x0 : 0 ≤ ix := by rw [← hx]; exact Int.emod_nonneg _ (by omega)
      have x1 : ix < cs.length := by rw [← hx]; exact Int.emod_lt_of_pos _ hcl'
      refine ⟨c, _, _, _, rfl, rfl, .inl (.inl hc4), atI_int x0 x1, ?_⟩
      walk_at "go"
      refine ⟨_, _, _, rfl, hcb _ (getD_mem (by omega)), by omega, by omega, fun nn _ => ?_⟩
      walk_at "go"
      refine c_I ⟨by decide, by decide⟩ ?_
      walk_at "go"
      refine c_I (by omega) ?_
      walk_at "go"
      have r0 := Int.emod_nonneg (nn / 3) (show wd ≠ 0 by omega)
      have r1 := Int.emod_lt_of_pos (nn / 3) (show 0 < wd by omega)
      refine ⟨fo, _, _, rfl, rfl, hf4, ?_, ?_⟩
      · rw [List.length_map]
        exact sz_lt (by omega)
      · refine ⟨some (.int i), rfl, e4.mut nfo0, ?_, ts ++ [1 + nn / 3 % wd], ?_, ?_, ?_⟩
        · rw [upd_ne hne3]; exact hc4
        · rw [upd_same, List.map_append]; rfl
        · rw [List.length_append, htl]; rfl
        · intro t ht
          rcases List.mem_append.mp ht with z | z
          · exact hts t z
          · rw [List.mem_singleton.mp z]; omega
    · obtain ⟨y, rfl, e4, hc4, ts, hf4, htl, hts⟩ := hP
      have := Int.emod_lt_of_pos W (show 0 < most + 1 by omega)
      walk_at "go"
      exact q ts ⟨by omega, fun t ht => (hts t ht).1, fun t ht => (hts t ht).2⟩ fo H4 nfo0 e4 hf4
end
abbrev s__law_open : Stmt := topS 17
section
variable {P : Program} {w : World} {K : PySem.W.Frag} {mg : Str → Option Value} {base : Heap}
/-! _law_open: turned one by one -/
def spLawOpen (K : PySem.W.Frag) : Sp := fun vs H Q _ => ∃ (a : Addr) (ts : List Int) (d : Int), vs = [.ref a, .int d] ∧ SqL K H a (ts.map V.int) ∧ (∀ t ∈ ts, 1 ≤ t) ∧ Q (.bl (opn ts d)) H
theorem ok__law_open (F : Df K mg "_law_open" s__law_open ["_law_turners_here", "_law_door"]) : Cal P w K mg base CX0 1 "_law_open" (spLawOpen K) := by
  have sc : FnScope ["_law_turners_here", "_law_door", "_law_found", "_law_one"] ["_law_turners_here", "_law_door"] (defScope s__law_open) := ⟨rfl, rfl, rfl, by decide +kernel, rfl, by decide +kernel, by decide +kernel⟩
  refine F.ok sc (fun vs H Q E h => ?_) (fun f cdv A outer s H vs Q E hr h => ?_)
  · obtain ⟨a, ts, d, rfl, _⟩ := h
    rfl
  · obtain ⟨a, ts, d, rfl, hS, hp, q⟩ := h
    refine ⟨_, (pss_cons (ps_set (i := 2) sc.nd rfl (by first | exact Or.inl rfl | exact Or.inr rfl) pe_bl)
      (pss_cons (ps_for PassesOwn.never rfl (pi_list (pv 0)) (pg_name (i := 3) sc.nd rfl (by first | exact Or.inl rfl | exact Or.inr rfl))
      (pss_one (ps_if (pt_cmpR op_eq (pe_op op_mod (pv 1) (pv 3)) pe_int (nomark _))
      (pss_one (ps_set (i := 2) sc.nd rfl (by first | exact Or.inl rfl | exact Or.inr rfl) (pe_not (pv 2)))) pss_nil)))
      (pss_one (ps_ret (pv 2))))), ?_⟩
    walk_at "go"
    refine ⟨a, rfl, ⟨_, hS⟩, f_list (xs := ts.map V.int) (fun i σ H' => ∃ y, σ = [some (.ref a), some (.int d), some (.bl (opn (ts.take i) d)), y] ∧ H' = H) ⟨none, rfl, rfl⟩ (fun i σ H' _ h => by obtain ⟨y, rfl, rfl⟩ := h; exact hS) (fun i x σ H' hx h => ?_) (fun σ H' h => ?_)⟩
    · obtain ⟨y, rfl, rfl⟩ := h
      obtain ⟨rfl, hi, hg⟩ := getD_of hx
      walk_at "go"
      refine c_I (by have := hp _ (getD_mem hi); omega) ?_
      walk_at "go"
      refine w_2 (fun hb => ?_) (fun hb => ?_)
      · walk_at "go"
        refine ⟨some (.int (ts.getD i 0)), ?_, rfl⟩
        rw [opn_take hg, if_pos (of_decide_eq_true hb)]
        rfl
      · walk_at "go"
        refine ⟨some (.int (ts.getD i 0)), ?_, rfl⟩
        rw [opn_take hg, if_neg (of_decide_eq_false hb)]
        rfl
    · obtain ⟨y, rfl, rfl⟩ := h
      rw [List.length_map, List.take_length]
      walk_at "go"
      exact q
end
abbrev s__law_kept : Stmt := topS 18
section
variable {P : Program} {w : World} {K : PySem.W.Frag} {mg : Str → Option Value} {base : Heap}
/-! _law_kept -/
def spLawKept (K : PySem.W.Frag) : Sp := fun vs H Q _ => ∃ (a : Addr) (ts : List Int), vs = [.ref a] ∧ SqL K H a (ts.map V.int) ∧ ts.length ≤ 1000 ∧ ∀ ks, IsKept ts ks → RetL (ks.map V.int) H Q
theorem ok__law_kept (F : Df K mg "_law_kept" s__law_kept ["_law_turners_here"]) (B : Blt mg) : Cal P w K mg base CX0 1 "_law_kept" (spLawKept K) := by
  have sc : FnScope ["_law_turners_here", "_law_found", "_law_one"] ["_law_turners_here"] (defScope s__law_kept) := ⟨rfl, rfl, rfl, by decide +kernel, rfl, by decide +kernel, by decide +kernel⟩
  refine F.ok sc (fun vs H Q E h => ?_) (fun f cdv A outer s H vs Q E hr h => ?_)
  · obtain ⟨a, ts, rfl, _⟩ := h
    rfl
  · obtain ⟨a, ts, rfl, hS, hl, q⟩ := h
    refine ⟨_, (pss_cons (ps_set (i := 1) sc.nd rfl (by first | exact Or.inl rfl | exact Or.inr rfl) (pe_lst pa_nil))
      (pss_cons (ps_for PassesOwn.never rfl (pi_list (pe_callB cr_sortedI (by rfl) B.sorted_ boot_sorted (pa_cons (pv 0) pa_nil))) (pg_name (i := 2) sc.nd rfl (by first | exact Or.inl rfl | exact Or.inr rfl))
      (pss_one (ps_set (i := 1) sc.nd rfl (by first | exact Or.inl rfl | exact Or.inr rfl) (pe_ifExp (pt_cmpR (op_eqD hr.units) (pe_slice sl_list (pv 1) (po_some (pe_un un_neg pe_int)) po_none) (pe_lst (pa_cons (pv 2) pa_nil)) (nomark _)) (pe_slice sl_list (pv 1) po_none (po_some (pe_un un_neg pe_int))) (pe_op op_cat (pv 1) (pe_lst (pa_cons (pv 2) pa_nil)))))))
      (pss_one (ps_ret (pv 1))))), ?_⟩
    walk_at "go"
    refine ⟨Nat.zero_le _, fun fo nfo => ?_⟩
    have e1 : Ex H (upd H fo (.lst [])) := Ex.new nfo
    walk_at "go"
    refine ⟨a, ts, rfl, ex_l e1 hS, fun so p perm rise np => ?_⟩
    have e2 : Ex (upd H fo (.lst [])) (upd (upd H fo (.lst [])) p (.lst (so.map V.int))) := Ex.new np
    have np0 : H p = none := fresh_back e1 np
    refine ⟨p, rfl, ⟨_, .inl (.inl upd_same)⟩, f_list (xs := so.map V.int) (fun i σ H' => ∃ y fo fs, σ = [some (.ref a), some (.ref fo), y] ∧ H fo = none ∧ Ex H H' ∧ H' p = some (.lst (so.map V.int)) ∧ H' fo = some (.lst (fs.map V.int)) ∧ IsKept (so.take i) fs ∧ fs.length ≤ i)
      ⟨none, fo, [], rfl, nfo, e1.trans e2, upd_same, e2 _ _ upd_same, kept_nil, Nat.le_refl _⟩ (fun i σ H' _ h => by obtain ⟨_, _, _, _, _, _, h, _⟩ := h; exact .inl (.inl h)) (fun i x σ H' hx h => ?_) (fun σ H' h => ?_)⟩
    · obtain ⟨y, fo, fs, rfl, nfo, e3, hp, hf, inv, hfl⟩ := h
      obtain ⟨rfl, hi, hg⟩ := getD_of hx
      have hsl : so.length = ts.length := perm.length_eq
      have tk : so.take (i + 1) = so.take i ++ [so.getD i 0] := by rw [List.take_add_one, hg]; rfl
      have below : ∀ z ∈ so.take i, z ≤ so.getD i 0 := by
        intro z hz
        obtain ⟨j, hj, e⟩ := List.getElem_of_mem hz
        rw [List.length_take] at hj
        rw [List.getElem_take] at e
        have := List.pairwise_iff_getElem.mp rise j i (by omega) hi (by omega)
        rw [List.getD_eq_getElem?_getD, List.getElem?_eq_getElem hi]
        show z ≤ so[i]
        omega
      generalize so.getD i 0 = one at hg tk below
      walk_at "go"
      refine ⟨fo, _, rfl, .inl (.inl hf), fun c nc => ?_⟩
      have e4 : Ex H' (upd H' c (.lst (cutV (fs.map V.int) (some (-1)) none))) := Ex.new nc
      walk_at "go"
      refine ⟨by show 1 ≤ sizeLine; decide, fun o no => ?_⟩
      have e5 := e4.trans (Ex.new (o := .lst [.int one]) no)
      refine c_eqL (xs := fs.drop (fs.length - 1)) (ys := [one]) (.inl (.inl (Ex.new no _ _ (by rw [upd_same, cut_last])))) (.inl (.inl upd_same)) ?_
      generalize upd (upd H' c (.lst (cutV (fs.map V.int) (some (-1)) none))) o (.lst [.int one]) = H5 at e5 ⊢
      walk_at "go"
      refine w_2 (fun hb => ?_) (fun hb => ?_)
      · have hb := of_decide_eq_true hb
        walk_at "go"
        refine ⟨fo, _, rfl, .inl (.inl (e5 _ _ hf)), fun r nr => ?_⟩
        obtain ⟨g, rfl⟩ : ∃ g, fs = g ++ [one] := by
          refine ⟨fs.take (fs.length - 1), ?_⟩
          rw [← hb, List.take_append_drop]
        walk_at "go"
        refine ⟨_, r, g, rfl, fresh_back e3 (fresh_back e5 nr), e3.trans (e5.trans (Ex.new nr)), Ex.new nr _ _ (e5 _ _ hp), ?_, by rw [tk]; exact kept_pop inv, ?_⟩
        · rw [upd_same, cut_init]
        · rw [List.length_append] at hfl; omega
      · have hb := of_decide_eq_false hb
        walk_at "go"
        refine ⟨by show 1 ≤ sizeLine; decide, fun o2 no2 => ?_⟩
        refine c_cat (us := fs.map V.int) (vs := [.int one]) (Ex.new no2 _ _ (e5 _ _ hf)) upd_same (by rw [List.length_map]; show fs.length + 1 ≤ _; omega) fun r nr => ?_
        walk_at "go"
        refine ⟨_, r, fs ++ [one], rfl, fresh_back e3 (fresh_back e5 (fresh_back (Ex.new no2) nr)), e3.trans (e5.trans ((Ex.new no2).trans (Ex.new nr))), Ex.new nr _ _ (Ex.new no2 _ _ (e5 _ _ hp)), ?_, ?_, ?_⟩
        · rw [upd_same, List.map_append]; rfl
        · rw [tk]
          refine kept_push inv below fun z => hb ?_
          rcases List.eq_nil_or_concat fs with e | ⟨g, l, e⟩
          · subst e; cases z
          · rw [List.concat_eq_append] at e
            subst e
            rw [List.getLast?_concat] at z
            cases z
            rw [List.length_append]
            simp
        · rw [List.length_append]; show fs.length + 1 ≤ i + 1; omega
    · obtain ⟨y, fo, fs, rfl, nfo, e3, hp, hf, inv, hfl⟩ := h
      rw [List.length_map, List.take_length] at inv
      walk_at "go"
      exact q fs (kept_perm inv perm) fo H' nfo e3 hf
end
abbrev s_compared : Stmt := topS 13
abbrev s_Same_shows : Stmt := inClass (topS 10) 0
abbrev s_Unlike___init__ : Stmt := inClass (topS 11) 0
abbrev s_Unlike_shows : Stmt := inClass (topS 11) 1
/-! ### kept, of every row -/
theorem kept_ex (ts : List Int) : ∃ ks, IsKept ts ks := by
  have srt : (ts.mergeSort (fun a b => decide (a ≤ b))).Pairwise (fun a b => decide (a ≤ b) = true) := List.pairwise_mergeSort (fun a b c h1 h2 => by simp at h1 h2 ⊢; omega) (fun a b => by simp; omega) ts
  have prm : (ts.mergeSort (fun a b => decide (a ≤ b))).Perm ts := List.mergeSort_perm ts _
  generalize ts.mergeSort (fun a b => decide (a ≤ b)) = so at srt prm
  have key : ∀ i : Nat, i ≤ so.length → ∃ f, IsKept (so.take i) f := by
    intro i
    induction i with
    | zero => intro _; exact ⟨[], by rw [List.take_zero]; exact kept_nil⟩
    | succ i ih =>
      intro hi
      obtain ⟨f, hf⟩ := ih (by omega)
      have tk : so.take (i + 1) = so.take i ++ [so[i]] := by rw [List.take_add_one, List.getElem?_eq_getElem (by omega)]; rfl
      rw [tk]
      by_cases hl : f.getLast? = some so[i]
      · obtain ⟨g, rfl⟩ : ∃ g, f = g ++ [so[i]] := by
          obtain ⟨g, hg⟩ := List.getLast?_eq_some_iff.mp hl
          exact ⟨g, hg⟩
        exact ⟨g, kept_pop hf⟩
      · refine ⟨_, kept_push hf (fun x hx => ?_) hl⟩
        obtain ⟨j, hj, e⟩ := List.getElem_of_mem hx
        rw [List.length_take] at hj
        rw [List.getElem_take] at e
        have := List.pairwise_iff_getElem.mp srt j i (by omega) (by omega) (by omega)
        rw [e] at this
        exact of_decide_eq_true this
  obtain ⟨f, hf⟩ := key so.length (Nat.le_refl _)
  rw [List.take_length] at hf
  exact ⟨f, kept_perm hf prm⟩
theorem at_head (k : Int) (r : List Int) : atI ((k :: r).map V.int) 0 = some (.int k) := atI_int (cs := k :: r) (ix := 0) (by decide) (by rw [List.length_cons]; omega)
/-! ### answers -/
/-- an answer's object: none: that they are the same; some d: the door d -/
def insO (CS CU dx : Addr) : Option Int → HO
  | none => .ins CS dx []
  | some d => .ins CU dx [("door", .int d)]
/-- what an answer's word is due to be -/
def said : Option Int → List Int → Bool
  | none, ks => decide (ks = [])
  | some d, ks => decide (ks.head? = some d)
theorem said_own (ks : List Int) : said ks.head? ks = true := by
  cases ks with
  | nil => rfl
  | cons k r => show decide (some k = some k) = true; simp
/-- the classes of the text -/
structure Own (K : PySem.W.Frag) (mg : Str → Option Value) (CA CS CU : Addr) : Prop where
  gA : mg "Answer" = some (.ref CA)
  gS : mg "Same" = some (.ref CS)
  gU : mg "Unlike" = some (.ref CU)
  clS : Cls K CS
  clU : Cls K CU
  m0 : Mk0 K CS
  noD : NoAttr K CU "door"
  acS : PySem.W.findIn K (.ref CS) "__class__" = some (some (.builtin "object.__class__"))
  acU : PySem.W.findIn K (.ref CU) "__class__" = some (some (.builtin "object.__class__"))
  hn : PySem.W.specialIn K (.builtin "object.__class__") "__get__" = some (some (.builtin "getset_descriptor.__get__"))
  htk : PySem.W.takesIn K (.builtin "object.__class__") = some true
  mU : PySem.W.mroIn K CU (.type "object") = some true
  kSA : PySem.W.kitOne K (.ref CS) (.ref CA) = some true
  kSS : PySem.W.kitOne K (.ref CS) (.ref CS) = some true
  kSU : PySem.W.kitOne K (.ref CS) (.ref CU) = some false
  kUA : PySem.W.kitOne K (.ref CU) (.ref CA) = some true
  kUS : PySem.W.kitOne K (.ref CU) (.ref CS) = some false
  kUU : PySem.W.kitOne K (.ref CU) (.ref CU) = some true
section
variable {P : Program} {w : World} {K : PySem.W.Frag} {mg : Str → Option Value} {base : Heap} {CA CS CU : Addr}
theorem Own.isA (O : Own K mg CA CS CU) {H : Hp} {Q : VK} {p dx : Addr} {A : Option Int} (h : H p = some (insO CS CU dx A)) (k : Q (.bl true) H) : rIsi K [.ref p, .ref CA] H Q := by
  cases A with
  | none => exact ⟨_, _, _, _, _, rfl, .own CA, .base (.ins h O.clS O.acS O.hn O.htk O.m0.top), O.kSA, k⟩
  | some d => exact ⟨_, _, _, _, _, rfl, .own CA, .base (.ins h O.clU O.acU O.hn O.htk O.mU), O.kUA, k⟩
theorem Own.isS (O : Own K mg CA CS CU) {H : Hp} {Q : VK} {p dx : Addr} {A : Option Int} (h : H p = some (insO CS CU dx A)) (k : Q (.bl A.isNone) H) : rIsi K [.ref p, .ref CS] H Q := by
  cases A with
  | none => exact ⟨_, _, _, _, _, rfl, .own CS, .base (.ins h O.clS O.acS O.hn O.htk O.m0.top), O.kSS, k⟩
  | some d => exact ⟨_, _, _, _, _, rfl, .own CS, .base (.ins h O.clU O.acU O.hn O.htk O.mU), O.kUS, k⟩
theorem Own.isU (O : Own K mg CA CS CU) {H : Hp} {Q : VK} {p dx : Addr} {A : Option Int} (h : H p = some (insO CS CU dx A)) (k : Q (.bl A.isSome) H) : rIsi K [.ref p, .ref CU] H Q := by
  cases A with
  | none => exact ⟨_, _, _, _, _, rfl, .own CU, .base (.ins h O.clS O.acS O.hn O.htk O.m0.top), O.kSU, k⟩
  | some d => exact ⟨_, _, _, _, _, rfl, .own CU, .base (.ins h O.clU O.acU O.hn O.htk O.mU), O.kUU, k⟩
/-- an answer's own word, asked of two rows -/
def spShows (K : PySem.W.Frag) (CS CU : Addr) (un : Bool) : Sp := fun vs H Q _ => ∃ (p dx a b : Addr) (A : Option Int) (ts us : List Int), vs = [.ref p, .ref a, .ref b] ∧ A.isSome = un ∧ H p = some (insO CS CU dx A) ∧ H a = some (.lst (ts.map V.int)) ∧ H b = some (.lst (us.map V.int)) ∧ ts.length ≤ 100 ∧ us.length ≤ 100 ∧
  ∀ ks, IsKept (ts ++ us) ks → RetV (.bl (said A ks)) H Q
theorem ok_Same_shows (F : DfM K CS "shows" "Same.shows" s_Same_shows ["self", "one", "other"]) (c_left_over : Cal P w K mg base CX0 1 "left_over" (spLeft K)) : MetC P w K mg base 2 CS "shows" (spShows K CS CU false) := by
  have sc : FnScope ["self", "one", "other"] ["self", "one", "other"] (defScope s_Same_shows) := ⟨rfl, rfl, rfl, by decide +kernel, rfl, by decide +kernel, by decide +kernel⟩
  refine F.ok sc (fun vs H Q E h => ?_) (fun f cdv A outer s H vs Q E hr h => ?_)
  · obtain ⟨p, dx, a, b, A, ts, us, rfl, _⟩ := h
    rfl
  · obtain ⟨p, dx, a, b, An, ts, us, rfl, hA, hp, ha, hb, l1, l2, q⟩ := h
    cases An with
    | some d => cases hA
    | none =>
      refine ⟨_, (pss_one (ps_ret (pe_cmpR (op_eqD hr.units) (pe_d c_left_over hr (by decide) (by rfl) (pa_cons (pv 1) pa_nil)) (pe_d c_left_over hr (by decide) (by rfl) (pa_cons (pv 2) pa_nil)) (nomark _)))), ?_⟩
      walk_at "gm"
      refine ⟨a, ts, rfl, .inl (.inl ha), by omega, fun k1 hk1 p1 H1 n1 e1 h1 => ?_⟩
      walk_at "gm"
      refine ⟨b, us, rfl, .inl (.inl (e1 _ _ hb)), by omega, fun k2 hk2 p2 H2 n2 e2 h2 => ?_⟩
      walk_at "gm"
      refine c_eqL (.inl (.inl (e2 _ _ h1))) (.inl (.inl h2)) ?_
      obtain ⟨k3, hk3⟩ := kept_ex (ts ++ us)
      have z := q k3 hk3 H2 (e1.trans e2)
      have e : said none k3 = decide (k1 = k2) := by
        show decide (k3 = []) = decide (k1 = k2)
        rw [Bool.eq_iff_iff]
        simp [kept_app hk1 hk2 hk3]
      rw [e] at z
      exact z
def spInit (CU : Addr) : Sp := fun vs H Q _ => ∃ (x dx : Addr) (v : V), vs = [.ref x, v] ∧ H x = some (.ins CU dx []) ∧ Q .non (upd H x (.ins CU dx [("door", v)]))
theorem ok_Unlike___init__ (O : Own K mg CA CS CU) (F : DfI K mg "Unlike" CU "Unlike.__init__" s_Unlike___init__ ["self", "door"]) : MakC P w K mg base 1 "Unlike" CU (spInit CU) := by
  have sc : FnScope ["self", "door"] ["self", "door"] (defScope s_Unlike___init__) := ⟨rfl, rfl, rfl, by decide +kernel, rfl, by decide +kernel, by decide +kernel⟩
  refine F.ok sc (fun vs H Q E h => ?_) (fun f cdv A outer s H vs Q E hr h => ?_)
  · obtain ⟨x, dx, v, rfl, _⟩ := h
    rfl
  · obtain ⟨x, dx, v, rfl, hx, q⟩ := h
    refine ⟨_, (pss_one (ps_fld (pv 0) (pv 1) rfl)), ?_⟩
    exact ⟨v, rfl, _, rfl, x, CU, dx, [], rfl, hx, O.clU, O.noD, by decide, q⟩
theorem ok_Unlike_shows (O : Own K mg CA CS CU) (F : DfM K CU "shows" "Unlike.shows" s_Unlike_shows ["self", "one", "other"]) (c_left_over : Cal P w K mg base CX0 1 "left_over" (spLeft K)) : MetC P w K mg base 2 CU "shows" (spShows K CS CU true) := by
  have sc : FnScope ["self", "one", "other", "apart"] ["self", "one", "other"] (defScope s_Unlike_shows) := ⟨rfl, rfl, rfl, by decide +kernel, rfl, by decide +kernel, by decide +kernel⟩
  refine F.ok sc (fun vs H Q E h => ?_) (fun f cdv A outer s H vs Q E hr h => ?_)
  · obtain ⟨p, dx, a, b, A, ts, us, rfl, _⟩ := h
    rfl
  · obtain ⟨p, dx, a, b, An, ts, us, rfl, hA, hp, ha, hb, l1, l2, q⟩ := h
    cases An with
    | none => cases hA
    | some d =>
      refine ⟨_, (pss_cons (ps_set (i := 3) sc.nd rfl (by first | exact Or.inl rfl | exact Or.inr rfl) (pe_d c_left_over hr (by decide) (by rfl) (pa_cons (pe_op op_cat (pv 1) (pv 2)) pa_nil)))
      (pss_one (ps_ret (pe_and (pe_cmpR (op_neD hr.units) (pv 3) (pe_lst pa_nil) (nomark _)) (pe_one (pe_cmpR op_eq (pe_fld (pv 0) rfl) (pe_ix ix_list (pv 3) pe_int (fun _ _ => rfl)) (nomark _))))))), ?_⟩
      walk_at "gm"
      refine c_cat ha hb (by rw [List.length_map, List.length_map]; omega) fun l nl => ?_
      have e1 : Ex H (upd H l (.lst (ts.map V.int ++ us.map V.int))) := Ex.new nl
      walk_at "gm"
      refine ⟨l, ts ++ us, rfl, .inl (.inl (by rw [upd_same, List.map_append])), by rw [List.length_append]; omega, fun ks hk ap H2 nap e2 hap => ?_⟩
      have z := q ks hk
      walk_at "gm"
      refine ⟨Nat.zero_le _, fun m nm => ?_⟩
      have e3 : Ex H2 (upd H2 m (.lst [])) := Ex.new nm
      refine c_neL (xs := ks) (ys := []) (.inl (.inl (e3 _ _ hap))) (.inl (.inl upd_same)) ?_
      generalize upd H2 m (.lst []) = H3 at e3 ⊢
      have e13 := (e1.trans e2).trans e3
      walk_at "gm"
      cases ks with
      | nil => exact z H3 e13
      | cons k r =>
        refine w_t (by simp) ?_
        walk_at "gm"
        refine ⟨p, CU, dx, _, .int d, rfl, e13 _ _ hp, O.clU, O.noD, rfl, ?_⟩
        walk_at "gm"
        refine ⟨ap, _, _, .int k, rfl, rfl, .inl (.inl (e3 _ _ hap)), at_head k r, ?_⟩
        refine c_eqI ?_
        have e : said (some d) (k :: r) = decide (d = k) := by
          show decide (some k = some d) = decide (d = k)
          rw [Bool.eq_iff_iff]
          simp
          exact eq_comm
        have z2 := z H3 e13
        rw [e] at z2
        exact z2
/-- compared: the answer of its class -/
def spComp (K : PySem.W.Frag) (CS CU : Addr) : Sp := fun vs H Q _ => ∃ (a b : Addr) (ts us : List Int), vs = [.ref a, .ref b] ∧ H a = some (.lst (ts.map V.int)) ∧ H b = some (.lst (us.map V.int)) ∧ Good ts ∧ Good us ∧
  ∀ ks, IsKept (ts ++ us) ks → ∀ p dx H2, H p = none → Ex H H2 → H2 p = some (insO CS CU dx ks.head?) → Q (.ref p) H2
theorem ok_compared (O : Own K mg CA CS CU) (F : Df K mg "compared" s_compared ["one", "other"]) (c_asked_turners : Cal P w K mg base CX0 2 "asked_turners" (spAskT K)) (c_left_over : Cal P w K mg base CX0 1 "left_over" (spLeft K))
    (mk_Unlike : MakC P w K mg base 1 "Unlike" CU (spInit CU)) : Cal P w K mg base CX0 3 "compared" (spComp K CS CU) := by
  have m0_Same := O.m0
  have gC_Same := O.gS
  have sc : FnScope ["one", "other", "apart"] ["one", "other"] (defScope s_compared) := ⟨rfl, rfl, rfl, by decide +kernel, rfl, by decide +kernel, by decide +kernel⟩
  refine F.ok sc (fun vs H Q E h => ?_) (fun f cdv A outer s H vs Q E hr h => ?_)
  · obtain ⟨a, b, ts, us, rfl, _⟩ := h
    rfl
  · obtain ⟨a, b, ts, us, rfl, ha, hb, g1, g2, q⟩ := h
    have l1 := g1.len
    have l2 := g2.len
    refine ⟨_, (pss_cons (ps_expr (pe_d c_asked_turners hr (by decide) (by rfl) (pa_cons (pv 0) pa_nil)))
      (pss_cons (ps_expr (pe_d c_asked_turners hr (by decide) (by rfl) (pa_cons (pv 1) pa_nil)))
      (pss_cons (ps_set (i := 2) sc.nd rfl (by first | exact Or.inl rfl | exact Or.inr rfl) (pe_d c_left_over hr (by decide) (by rfl) (pa_cons (pe_op op_cat (pv 0) (pv 1)) pa_nil)))
      (pss_one (ps_ret (pe_ifExp (pt_cmpR (op_eqD hr.units) (pv 2) (pe_lst pa_nil) (nomark _)) (pe_make00 m0_Same (by rfl) gC_Same) (pe_mkc mk_Unlike hr (by decide) (by rfl) (pa_cons (pe_ix ix_list (pv 2) pe_int (fun _ _ => rfl)) pa_nil)))))))), ?_⟩
    walk_at "gm"
    refine ⟨a, ts, rfl, .inl (.inl ha), g1, fun H1 e1 => ?_⟩
    walk_at "gm"
    refine ⟨b, us, rfl, .inl (.inl (e1 _ _ hb)), g2, fun H2 e2 => ?_⟩
    have e12 := e1.trans e2
    walk_at "gm"
    refine c_cat (e12 _ _ ha) (e12 _ _ hb) (by rw [List.length_map, List.length_map]; omega) fun l nl => ?_
    have e3 : Ex H (upd H2 l (.lst (ts.map V.int ++ us.map V.int))) := e12.trans (Ex.new nl)
    walk_at "gm"
    refine ⟨l, ts ++ us, rfl, .inl (.inl (by rw [upd_same, List.map_append])), by rw [List.length_append]; omega, fun ks hk ap H4 nap e4 hap => ?_⟩
    have z := q ks hk
    walk_at "gm"
    refine ⟨Nat.zero_le _, fun m nm => ?_⟩
    have e5 : Ex H4 (upd H4 m (.lst [])) := Ex.new nm
    refine c_eqL (xs := ks) (ys := []) (.inl (.inl (e5 _ _ hap))) (.inl (.inl upd_same)) ?_
    generalize upd H4 m (.lst []) = H5 at e5 ⊢
    have e15 := (e3.trans e4).trans e5
    walk_at "gm"
    cases ks with
    | nil =>
      refine w_t (by simp) ?_
      walk_at "gm"
      intro x dx nx ndx ne
      have nx2 : (upd H5 dx (.own x)) x = none := by rw [upd_ne (Ne.symm ne)]; exact nx
      exact z x dx _ (fresh_back e15 nx) ((e15.trans (Ex.new ndx)).trans (Ex.new nx2)) upd_same
    | cons k r =>
      refine w_f (by simp) ?_
      walk_at "gm"
      refine ⟨ap, _, _, .int k, rfl, rfl, .inl (.inl (e5 _ _ hap)), at_head k r, ?_⟩
      walk_at "gm"
      intro x dx nx ndx ne
      have nx2 : (upd H5 dx (.own x)) x = none := by rw [upd_ne (Ne.symm ne)]; exact nx
      have e6 : Ex H (upd (upd H5 dx (.own x)) x (.ins CU dx [])) := (e15.trans (Ex.new ndx)).trans (Ex.new nx2)
      exact ⟨x, dx, .int k, rfl, upd_same, rfl, z x dx _ (fresh_back e15 nx) (e6.mut (fresh_back e15 nx)) upd_same⟩
end
abbrev s__law_due : Stmt := topS 19
abbrev s__law_right : Stmt := topS 20
section
variable {K : PySem.W.Frag} {H : Hp} {Q : VK}
theorem two_shaped (xs ys : List Int) : SeqAt.shaped (.list [.list (xs.map PyData.int), .list (ys.map PyData.int)]) = true := by
  unfold SeqAt.shaped
  have h1 := ints_lay xs
  have h2 := ints_depth xs
  have h3 := ints_lay ys
  have h4 := ints_depth ys
  simp [PyData.canLay0, PyData.depth, PyData.canLayAll0, PyData.depthAll, h1, h3]
  omega
/-- two pairs of lists of ints, compared -/
theorem c_neLL {p a b p' a' b' : Addr} {xs ys : List Int} (h : SqL K H p [.ref a, .ref b]) (ha : SqL K H a (xs.map V.int)) (hb : SqL K H b (ys.map V.int)) (h' : SqL K H p' [.ref a', .ref b']) (ha' : SqL K H a' (xs.map V.int)) (hb' : SqL K H b' (ys.map V.int))
    (k : Q (.bl false) H) : rNeD K (.ref p) (.ref p') H Q :=
  ⟨_, _, .lst h (.cons (.lst ha (intsD xs K H)) (.cons (.lst hb (intsD ys K H)) .nil)), .lst h' (.cons (.lst ha' (intsD xs K H)) (.cons (.lst hb' (intsD ys K H)) .nil)), two_shaped xs ys, two_shaped xs ys, by
    have e : PyData.eqv (.list [.list (xs.map PyData.int), .list (ys.map PyData.int)]) (.list [.list (xs.map PyData.int), .list (ys.map PyData.int)]) = true := by
      simp [PyData.eqv, PyData.eqvAll, ints_eqv]
    rw [e]; exact k⟩
/-- two pairs of truths, compared -/
theorem c_neBB {p p' : Addr} {x y x' y' : Bool} (h : SqL K H p [.bl x, .bl y]) (h' : SqL K H p' [.bl x', .bl y']) (k : Q (.bl (!(decide (x = x') && decide (y = y')))) H) : rNeD K (.ref p) (.ref p') H Q :=
  ⟨_, _, .lst h (.cons (.bl x) (.cons (.bl y) .nil)), .lst h' (.cons (.bl x') (.cons (.bl y') .nil)), by cases x <;> cases y <;> decide, by cases x' <;> cases y' <;> decide, by
    have e : PyData.eqv (.list [.bool x, .bool y]) (.list [.bool x', .bool y']) = (decide (x = x') && decide (y = y')) := by
      cases x <;> cases y <;> cases x' <;> cases y' <;> decide
    rw [e]; exact k⟩
end
section
variable {P : Program} {w : World} {K : PySem.W.Frag} {mg : Str → Option Value} {base : Heap} {CA CS CU : Addr}
def spDue (K : PySem.W.Frag) (CS CU : Addr) : Sp := fun vs H Q _ => ∃ (a b p dx : Addr) (A : Option Int) (ts us : List Int), vs = [.ref a, .ref b, .ref p] ∧ H p = some (insO CS CU dx A) ∧ H a = some (.lst (ts.map V.int)) ∧ H b = some (.lst (us.map V.int)) ∧ ts.length ≤ 100 ∧ us.length ≤ 100 ∧
  ∀ ks, IsKept (ts ++ us) ks → RetV (.bl (said A ks)) H Q
theorem ok__law_due (O : Own K mg CA CS CU) (F : Df K mg "_law_due" s__law_due ["_law_one", "_law_other", "_law_answer"]) (B : Blt mg) (c__law_kept : Cal P w K mg base CX0 1 "_law_kept" (spLawKept K)) : Cal P w K mg base CX0 2 "_law_due" (spDue K CS CU) := by
  have gC_Same := O.gS
  have sc : FnScope ["_law_one", "_law_other", "_law_answer", "_law_apart"] ["_law_one", "_law_other", "_law_answer"] (defScope s__law_due) := ⟨rfl, rfl, rfl, by decide +kernel, rfl, by decide +kernel, by decide +kernel⟩
  refine F.ok sc (fun vs H Q E h => ?_) (fun f cdv A outer s H vs Q E hr h => ?_)
  · obtain ⟨a, b, p, dx, A, ts, us, rfl, _⟩ := h
    rfl
  · obtain ⟨a, b, p, dx, An, ts, us, rfl, hp, ha, hb, l1, l2, q⟩ := h
    refine ⟨_, (pss_cons (ps_set (i := 3) sc.nd rfl (by first | exact Or.inl rfl | exact Or.inr rfl) (pe_d c__law_kept hr (by decide) (by rfl) (pa_cons (pe_op op_cat (pv 0) (pv 1)) pa_nil)))
      (pss_one (ps_ret (pe_ifExp (pt_val (pe_callB call_isi (by rfl) B.isinstance_ boot_isinstance (pa_cons (pv 2) (pa_cons (pe_glob (v := .ref _) (by rfl) gC_Same rfl) pa_nil)))) (pe_cmpR (op_eqD hr.units) (pv 3) (pe_lst pa_nil) (nomark _)) (pe_and (pe_cmpR (op_neD hr.units) (pv 3) (pe_lst pa_nil) (nomark _)) (pe_one (pe_cmpR op_eq (pe_fld (pv 2) rfl) (pe_ix ix_list (pv 3) pe_int (fun _ _ => rfl)) (nomark _)))))))), ?_⟩
    walk_at "gm"
    refine c_cat ha hb (by rw [List.length_map, List.length_map]; omega) fun l nl => ?_
    have e1 : Ex H (upd H l (.lst (ts.map V.int ++ us.map V.int))) := Ex.new nl
    walk_at "gm"
    refine ⟨l, ts ++ us, rfl, .inl (.inl (by rw [upd_same, List.map_append])), by rw [List.length_append]; omega, fun ks hk ap H2 nap e2 hap => ?_⟩
    have z := q ks hk
    have e12 := e1.trans e2
    walk_at "gm"
    refine O.isS (e12 _ _ hp) ?_
    cases An with
    | none =>
      walk_at "gm"
      refine ⟨Nat.zero_le _, fun m nm => ?_⟩
      have e3 : Ex H2 (upd H2 m (.lst [])) := Ex.new nm
      refine c_eqL (xs := ks) (ys := []) (.inl (.inl (e3 _ _ hap))) (.inl (.inl upd_same)) ?_
      exact z _ (e12.trans e3)
    | some d =>
      walk_at "gm"
      refine ⟨Nat.zero_le _, fun m nm => ?_⟩
      have e3 : Ex H2 (upd H2 m (.lst [])) := Ex.new nm
      refine c_neL (xs := ks) (ys := []) (.inl (.inl (e3 _ _ hap))) (.inl (.inl upd_same)) ?_
      generalize upd H2 m (.lst []) = H3 at e3 ⊢
      have e13 := e12.trans e3
      walk_at "gm"
      cases ks with
      | nil => exact z H3 e13
      | cons k r =>
        refine w_t (by simp) ?_
        walk_at "gm"
        refine ⟨p, CU, dx, _, .int d, rfl, e13 _ _ hp, O.clU, O.noD, rfl, ?_⟩
        walk_at "gm"
        refine ⟨ap, _, _, .int k, rfl, rfl, .inl (.inl (e3 _ _ hap)), at_head k r, ?_⟩
        refine c_eqI ?_
        have e : said (some d) (k :: r) = decide (d = k) := by
          show decide (some k = some d) = decide (d = k)
          rw [Bool.eq_iff_iff]
          simp
          exact eq_comm
        have z2 := z H3 e13
        rw [e] at z2
        exact z2
/-- one of two methods, by the answer -/
theorem shows_at {σ : L2.St} {H1 : Hp} {p dx : Addr} {A : Option Int} {t : TA} {Q : VK} (h : H1 p = some (insO CS CU dx A)) (ht : ∀ un, A.isSome = un → t σ H1 fun vs H2 => spShows K CS CU un (.ref p :: vs) H2 Q E0) :
    ∃ a B dx fs, V.ref p = .ref a ∧ H1 a = some (.ins B dx fs) ∧ fs.lookup ("shows" : Str) = none ∧ ((B = CS ∧ t σ H1 fun vs H2 => spShows K CS CU false (.ref p :: vs) H2 Q E0) ∨ (B = CU ∧ t σ H1 fun vs H2 => spShows K CS CU true (.ref p :: vs) H2 Q E0)) := by
  cases A with
  | none => exact ⟨p, CS, dx, [], rfl, h, rfl, .inl ⟨rfl, ht _ rfl⟩⟩
  | some d => exact ⟨p, CU, dx, _, rfl, h, by rfl, .inr ⟨rfl, ht _ rfl⟩⟩
def spRight (K : PySem.W.Frag) : Sp := fun vs H Q _ => ∃ (a b c : Addr) (ts us vs' : List Int), vs = [.ref a, .ref b, .ref c] ∧ H a = some (.lst (ts.map V.int)) ∧ H b = some (.lst (us.map V.int)) ∧ H c = some (.lst (vs'.map V.int)) ∧ Good ts ∧ Good us ∧ ts.length ≤ 30 ∧ vs'.length ≤ 40 ∧ RetV (.bl true) H Q
theorem ok__law_right (O : Own K mg CA CS CU) (F : Df K mg "_law_right" s__law_right ["_law_one", "_law_other", "_law_far"]) (B : Blt mg) (c__law_kept : Cal P w K mg base CX0 1 "_law_kept" (spLawKept K)) (c__law_open : Cal P w K mg base CX0 1 "_law_open" (spLawOpen K)) (c__law_due : Cal P w K mg base CX0 2 "_law_due" (spDue K CS CU))
    (c_compared : Cal P w K mg base CX0 3 "compared" (spComp K CS CU)) (met_Same_shows : MetC P w K mg base 2 CS "shows" (spShows K CS CU false)) (met_Unlike_shows : MetC P w K mg base 2 CU "shows" (spShows K CS CU true)) : Cal P w K mg base CX0 4 "_law_right" (spRight K) := by
  have gC_Same := O.gS
  have gC_Unlike := O.gU
  have gC_Answer := O.gA
  have sc : FnScope ["_law_one", "_law_other", "_law_far", "_law_handed", "_law_apart", "_law_again", "_law_answer", "_law_door", "_law_less"] ["_law_one", "_law_other", "_law_far"] (defScope s__law_right) := ⟨rfl, rfl, rfl, by decide +kernel, rfl, by decide +kernel, by decide +kernel⟩
  refine F.ok sc (fun vs H Q E h => ?_) (fun f cdv A outer s H vs Q E hr h => ?_)
  · obtain ⟨a, b, c, ts, us, vs, rfl, _⟩ := h
    rfl
  · obtain ⟨a, b, c, ts, us, fs, rfl, ha, hb, hc, g1, g2, l1, l3, q⟩ := h
    have l2 := g2.len
    refine ⟨_, (pss_cons (ps_set (i := 3) sc.nd rfl (by first | exact Or.inl rfl | exact Or.inr rfl) (pe_lst (pa_cons (pe_callTy call_list_s (by rfl) B.list_ boot_list (pa_cons (pv 0) pa_nil)) (pa_cons (pe_callTy call_list_s (by rfl) B.list_ boot_list (pa_cons (pv 1) pa_nil)) pa_nil))))
      (pss_cons (ps_set (i := 4) sc.nd rfl (by first | exact Or.inl rfl | exact Or.inr rfl) (pe_d c__law_kept hr (by decide) (by rfl) (pa_cons (pe_op op_cat (pv 0) (pv 1)) pa_nil)))
      (pss_cons (ps_for PassesOwn.never rfl (pi_range1 (by rfl) B.range_ (pa_cons pe_int pa_nil)) (pg_name (i := 5) sc.nd rfl (by first | exact Or.inl rfl | exact Or.inr rfl))
      (pss_cons (ps_set (i := 6) sc.nd rfl (by first | exact Or.inl rfl | exact Or.inr rfl) (pe_d c_compared hr (by decide) (by rfl) (pa_cons (pe_ix ix_list (pv 3) pe_int (fun _ _ => rfl)) (pa_cons (pe_ix ix_list (pv 3) pe_int (fun _ _ => rfl)) pa_nil))))
      (pss_cons (ps_if (PW.pt (pw_or (pt_not (pt_val (pe_callB call_isi (by rfl) B.isinstance_ boot_isinstance (pa_cons (pv 6) (pa_cons (pe_glob (v := .ref _) (by rfl) gC_Answer rfl) pa_nil))))) (pw_or1 (pt_cmpR (op_neD hr.units) (pv 3) (pe_lst (pa_cons (pv 0) (pa_cons (pv 1) pa_nil))) (nomark _)))))
      (pss_one (ps_ret pe_bl)) pss_nil)
      (pss_cons (ps_if (pt_cmpR (op_neD hr.units) (pe_lst (pa_cons (pe_callB call_isi (by rfl) B.isinstance_ boot_isinstance (pa_cons (pv 6) (pa_cons (pe_glob (v := .ref _) (by rfl) gC_Same rfl) pa_nil))) (pa_cons (pe_callB call_isi (by rfl) B.isinstance_ boot_isinstance (pa_cons (pv 6) (pa_cons (pe_glob (v := .ref _) (by rfl) gC_Unlike rfl) pa_nil))) pa_nil))) (pe_lst (pa_cons (pe_cmpR (op_eqD hr.units) (pv 4) (pe_lst pa_nil) (nomark _)) (pa_cons (pe_cmpR (op_neD hr.units) (pv 4) (pe_lst pa_nil) (nomark _)) pa_nil))) (nomark _))
      (pss_one (ps_ret pe_bl)) pss_nil)
      (pss_cons (ps_if (PW.pt (pw_or (pt_cmpR op_notBl (pe_meth2 met_Same_shows met_Unlike_shows hr (by decide) (pv 6) (pa_cons (pv 0) (pa_cons (pv 1) pa_nil))) pe_bl (nomark _)) (pw_or1 (pt_cmpR op_ne (pe_meth2 met_Same_shows met_Unlike_shows hr (by decide) (pv 6) (pa_cons (pv 0) (pa_cons (pv 2) pa_nil))) (pe_d c__law_due hr (by decide) (by rfl) (pa_cons (pv 0) (pa_cons (pv 2) (pa_cons (pv 6) pa_nil)))) (nomark _)))))
      (pss_one (ps_ret pe_bl)) pss_nil)
      (pss_one (ps_if (pt_cmpR (op_neD hr.units) (pv 4) (pe_lst pa_nil) (nomark _))
      (pss_cons (ps_set (i := 7) sc.nd rfl (by first | exact Or.inl rfl | exact Or.inr rfl) (pe_fld (pv 6) rfl))
      (pss_cons (ps_if (PW.pt (pw_or (pt_val (pe_callB call_isi (by rfl) B.isinstance_ boot_isinstance (pa_cons (pv 7) (pa_cons (pe_bltn (v := .ty "bool") (by rfl) B.bool_ boot_bool rfl) pa_nil)))) (pw_or (pt_not (pt_val (pe_callB call_isi (by rfl) B.isinstance_ boot_isinstance (pa_cons (pv 7) (pa_cons (pe_bltn (v := .ty "int") (by rfl) B.int_ boot_int rfl) pa_nil))))) (pw_or1 (pt_not (pt_val (pe_d c__law_due hr (by decide) (by rfl) (pa_cons (pv 0) (pa_cons (pv 1) (pa_cons (pv 6) pa_nil))))))))))
      (pss_one (ps_ret pe_bl)) pss_nil)
      (pss_cons (ps_if (pt_cmpR op_eq (pe_d c__law_open hr (by decide) (by rfl) (pa_cons (pv 0) (pa_cons (pv 7) pa_nil))) (pe_d c__law_open hr (by decide) (by rfl) (pa_cons (pv 1) (pa_cons (pv 7) pa_nil))) (nomark _))
      (pss_one (ps_ret pe_bl)) pss_nil)
      (pss_one (ps_if (pt_val (pe_callB (cr_any rfl) (by rfl) B.any_ boot_any (pa_cons (pe_lc (own := [("_law_less", 8)]) (g := (gName 8)) (by rfl) sc.nd (pi_range2 (by rfl) B.range_ (pa_cons pe_int (pa_cons (pe_callB (call_min2_s rfl) (by rfl) B.min_ boot_min (pa_cons (pv 7) (pa_cons pe_int pa_nil))) pa_nil))) (blkOk_by (own := [("_law_less", 8)]) (N := ["_law_one", "_law_other", "_law_far", "_law_handed", "_law_apart", "_law_again", "_law_answer", "_law_door", "_law_less"]) (sc := defScope s__law_right) (by decide +kernel)) (fun _ _ _ _ _ => (pg_name (i := 8) sc.nd rfl (by first | exact Or.inl rfl | exact Or.inr rfl))) (fun _ _ _ _ _ => pts_nil) (fun _ _ _ _ _ => (pe_cmpR op_ne (pe_d c__law_open hr (by decide) (by rfl) (pa_cons (pv 0) (pa_cons (pv 8) pa_nil))) (pe_d c__law_open hr (by decide) (by rfl) (pa_cons (pv 1) (pa_cons (pv 8) pa_nil))) (nomark _)))) pa_nil)))
      (pss_one (ps_ret pe_bl)) pss_nil))))) pss_nil)))))))
      (pss_cut (ps_if (pt_cmpR (op_eqD hr.units) (pe_ix ix_list (pv 3) pe_int (fun _ _ => rfl)) (pe_lst pa_nil) (nomark _))
      (pss_one (ps_expr (pe_bm PySem.F.plainAttrs_list PySem.F.slot_list_append PySem.F.type_list_append mt_append (pe_ix ix_list (pv 3) pe_int (fun _ _ => rfl)) (pa_cons pe_int pa_nil)))) (pss_one (ps_asg (pe_op op_add (pe_ix ix_list (pe_ix ix_list (pv 3) pe_int (fun _ _ => rfl)) pe_int (fun _ _ => rfl)) pe_int) (pg_sub (pe_ix ix_list (pv 3) pe_int (fun _ _ => rfl)) pe_int set_list))))
      (pss_cons (ps_set (i := 6) sc.nd rfl (by first | exact Or.inl rfl | exact Or.inr rfl) (pe_d c_compared hr (by decide) (by rfl) (pa_cons (pe_ix ix_list (pv 3) pe_int (fun _ _ => rfl)) (pa_cons (pe_ix ix_list (pv 3) pe_int (fun _ _ => rfl)) pa_nil))))
      (pss_cons (ps_if (pt_cmpR op_eq (pe_callB call_isi (by rfl) B.isinstance_ boot_isinstance (pa_cons (pv 6) (pa_cons (pe_glob (v := .ref _) (by rfl) gC_Same rfl) pa_nil))) (pe_callB call_isi (by rfl) B.isinstance_ boot_isinstance (pa_cons (pv 6) (pa_cons (pe_glob (v := .ref _) (by rfl) gC_Unlike rfl) pa_nil))) (nomark _))
      (pss_one (ps_ret pe_bl)) pss_nil)
      (pss_one (ps_ret (pe_d c__law_due hr (by decide) (by rfl) (pa_cons (pe_ix ix_list (pv 3) pe_int (fun _ _ => rfl)) (pa_cons (pe_ix ix_list (pv 3) pe_int (fun _ _ => rfl)) (pa_cons (pv 6) pa_nil)))))))))))), ?_⟩
    walk_at "gm"
    refine c_list (.inl (.inl ha)) fun h1 n1 => ?_
    have e1 : Ex H (upd H h1 (.lst (ts.map V.int))) := Ex.new n1
    have hh1 : (upd H h1 (.lst (ts.map V.int))) h1 = some (.lst (ts.map V.int)) := upd_same
    generalize upd H h1 (.lst (ts.map V.int)) = H1 at e1 hh1 ⊢
    walk_at "gm"
    refine c_list (.inl (.inl (e1 _ _ hb))) fun h2 n2 => ?_
    have e2 : Ex H1 (upd H1 h2 (.lst (us.map V.int))) := Ex.new n2
    have hh2 : (upd H1 h2 (.lst (us.map V.int))) h2 = some (.lst (us.map V.int)) := upd_same
    have ne12 : h2 ≠ h1 := fun z => by rw [z] at n2; rw [hh1] at n2; cases n2
    generalize upd H1 h2 (.lst (us.map V.int)) = H2 at e2 hh2 ⊢
    walk_at "gm"
    refine ⟨by show 2 ≤ sizeLine; decide, fun hl n3 => ?_⟩
    have e3 : Ex H2 (upd H2 hl (.lst [.ref h1, .ref h2])) := Ex.new n3
    have hhl : (upd H2 hl (.lst [.ref h1, .ref h2])) hl = some (.lst [.ref h1, .ref h2]) := upd_same
    have hh13 := e3 _ _ (e2 _ _ hh1)
    have hh23 := e3 _ _ hh2
    have nel1 : hl ≠ h1 := fun z => by rw [z] at n3; rw [e2 _ _ hh1] at n3; cases n3
    generalize upd H2 hl (.lst [.ref h1, .ref h2]) = H3 at e3 hhl hh13 hh23 ⊢
    have e13 : Ex H H3 := (e1.trans e2).trans e3
    walk_at "gm"
    refine c_cat (e13 _ _ ha) (e13 _ _ hb) (by rw [List.length_map, List.length_map]; omega) fun l nl => ?_
    have e4 : Ex H3 (upd H3 l (.lst (ts.map V.int ++ us.map V.int))) := Ex.new nl
    walk_at "gm"
    refine ⟨l, ts ++ us, rfl, .inl (.inl (by rw [upd_same, List.map_append])), by rw [List.length_append]; omega, fun ks hk ap H5 nap e5 hap => ?_⟩
    have e35 : Ex H3 H5 := e4.trans e5
    have e05 := e13.trans e35
    have kpos := hk.pos (P := fun t => 1 ≤ t) fun t ht => by
      rcases List.mem_append.mp ht with z | z
      · exact g1.pos t z
      · exact g2.pos t z
    walk_at "gm"
    refine ⟨2, rfl, by decide, by decide, f_range (fun i σ H' => ∃ y5 y6 y7 y8, σ = [some (.ref a), some (.ref b), some (.ref c), some (.ref hl), some (.ref ap), y5, y6, y7, y8] ∧ Ex H5 H') ⟨_, _, _, _, rfl, Ex.refl _⟩ (fun i σ H6 hi hP => ?_) (fun σ H6 hP => ?_)⟩
    · obtain ⟨y5, y6, y7, y8, rfl, e6⟩ := hP
      have e06 := e05.trans e6
      have e36 := e35.trans e6
      walk_at "gm"
      refine ⟨hl, _, _, .ref h1, rfl, rfl, .inl (.inl (e36 _ _ hhl)), by rfl, ?_⟩
      walk_at "gm"
      refine ⟨hl, _, _, .ref h2, rfl, rfl, .inl (.inl (e36 _ _ hhl)), by rfl, ?_⟩
      walk_at "gm"
      refine ⟨h1, h2, ts, us, rfl, e36 _ _ hh13, e36 _ _ hh23, g1, g2, fun ks' hk' p dx H7 np e7 hp => ?_⟩
      have ek := hk.uniq hk'
      subst ek
      have e07 := e06.trans e7
      have e37 := e36.trans e7
      walk_at "gm"
      refine O.isA hp ?_
      walk_at "gm"
      refine ⟨by show 2 ≤ sizeLine; decide, fun l2' nl2 => ?_⟩
      have e8 : Ex H7 (upd H7 l2' (.lst [.ref a, .ref b])) := Ex.new nl2
      refine c_neLL (.inl (.inl (e8 _ _ (e37 _ _ hhl)))) (.inl (.inl (e8 _ _ (e37 _ _ hh13)))) (.inl (.inl (e8 _ _ (e37 _ _ hh23)))) (.inl (.inl upd_same)) (.inl (.inl (e8 _ _ (e07 _ _ ha)))) (.inl (.inl (e8 _ _ (e07 _ _ hb)))) ?_
      generalize upd H7 l2' (.lst [.ref a, .ref b]) = H8 at e8 ⊢
      have hp8 := e8 _ _ hp
      have e58 := (e6.trans e7).trans e8
      walk_at "gm"
      refine O.isS hp8 ?_
      walk_at "gm"
      refine O.isU hp8 ?_
      walk_at "gm"
      refine ⟨by show 2 ≤ sizeLine; decide, fun l3' nl3 => ?_⟩
      have e9 : Ex H8 (upd H8 l3' (.lst [.bl ks.head?.isNone, .bl ks.head?.isSome])) := Ex.new nl3
      have h9 : (upd H8 l3' (.lst [.bl ks.head?.isNone, .bl ks.head?.isSome])) l3' = some (.lst [.bl ks.head?.isNone, .bl ks.head?.isSome]) := upd_same
      generalize upd H8 l3' (.lst [.bl ks.head?.isNone, .bl ks.head?.isSome]) = H9 at e9 h9 ⊢
      walk_at "gm"
      refine ⟨Nat.zero_le _, fun m1 nm1 => ?_⟩
      have e10 : Ex H9 (upd H9 m1 (.lst [])) := Ex.new nm1
      refine c_eqL (xs := ks) (ys := []) (.inl (.inl (e10 _ _ (e9 _ _ (e58 _ _ hap))))) (.inl (.inl upd_same)) ?_
      generalize upd H9 m1 (.lst []) = H10 at e10 ⊢
      walk_at "gm"
      refine ⟨Nat.zero_le _, fun m2 nm2 => ?_⟩
      have e11 : Ex H10 (upd H10 m2 (.lst [])) := Ex.new nm2
      refine c_neL (xs := ks) (ys := []) (.inl (.inl (e11 _ _ (e10 _ _ (e9 _ _ (e58 _ _ hap)))))) (.inl (.inl upd_same)) ?_
      generalize upd H10 m2 (.lst []) = H11 at e11 ⊢
      walk_at "gm"
      refine ⟨by show 2 ≤ sizeLine; decide, fun l4' nl4 => ?_⟩
      have e12 := Ex.new (o := .lst [.bl (decide (ks = [])), .bl (!decide (ks = []))]) nl4
      refine c_neBB (.inl (.inl (e12 _ _ (e11 _ _ (e10 _ _ h9))))) (.inl (.inl upd_same)) ?_
      generalize upd H11 l4' (.lst [.bl (decide (ks = [])), .bl (!decide (ks = []))]) = H12 at e12 ⊢
      rw [show (!(decide (ks.head?.isNone = decide (ks = [])) && decide (ks.head?.isSome = !decide (ks = [])))) = false by cases ks <;> simp]
      have e912 := ((e9.trans e10).trans e11).trans e12
      have e512 := e58.trans e912
      have e012 := e05.trans e512
      have hp12 := e912 _ _ hp8
      walk_at "gm"
      refine shows_at hp12 fun un hun => ?_
      walk_at "gm"
      refine ⟨p, dx, a, b, _, ts, us, rfl, hun, hp12, e012 _ _ ha, e012 _ _ hb, by omega, by omega, fun ks' hk' H13 e13' => ?_⟩
      have ek := hk.uniq hk'
      subst ek
      rw [said_own]
      walk_at "gm"
      refine shows_at (e13' _ _ hp12) fun un hun => ?_
      have e013 := e012.trans e13'
      walk_at "gm"
      refine ⟨p, dx, a, c, _, ts, fs, rfl, hun, e13' _ _ hp12, e013 _ _ ha, e013 _ _ hc, by omega, by omega, fun kf hkf H14 e14 => ?_⟩
      have e014 := e013.trans e14
      walk_at "gm"
      refine ⟨a, c, p, dx, _, ts, fs, rfl, e14 _ _ (e13' _ _ hp12), e014 _ _ ha, e014 _ _ hc, by omega, by omega, fun kf' hkf' H15 e15 => ?_⟩
      have ek := hkf.uniq hkf'
      subst ek
      have e1215 := (e13'.trans e14).trans e15
      have e515 := e512.trans e1215
      have e015 := e014.trans e15
      have hp15 := e1215 _ _ hp12
      walk_at "gm"
      refine w_f (by simp) ?_
      walk_at "gm"
      refine ⟨Nat.zero_le _, fun m3 nm3 => ?_⟩
      have e16 : Ex H15 (upd H15 m3 (.lst [])) := Ex.new nm3
      refine c_neL (xs := ks) (ys := []) (.inl (.inl (e16 _ _ (e515 _ _ hap)))) (.inl (.inl upd_same)) ?_
      generalize upd H15 m3 (.lst []) = H16 at e16 ⊢
      have e516 := e515.trans e16
      have e016 := e015.trans e16
      have hp16 := e16 _ _ hp15
      walk_at "gm"
      cases ks with
      | nil =>
        refine w_f (by simp) ?_
        walk_at "gm"
        exact ⟨_, _, _, _, rfl, e516⟩
      | cons k r =>
        refine w_t (by simp) ?_
        have k1 : 1 ≤ k := kpos k List.mem_cons_self
        walk_at "gm"
        refine ⟨p, CU, dx, _, .int k, rfl, hp16, O.clU, O.noD, rfl, ?_⟩
        walk_at "gm"
        refine ⟨a, b, p, dx, _, ts, us, rfl, hp16, e016 _ _ ha, e016 _ _ hb, by omega, by omega, fun ks' hk' H17 e17 => ?_⟩
        have ek := hk.uniq hk'
        subst ek
        rw [said_own]
        have e017 := e016.trans e17
        walk_at "gm"
        refine ⟨a, ts, k, rfl, .inl (.inl (e017 _ _ ha)), g1.pos, ?_⟩
        walk_at "gm"
        refine ⟨b, us, k, rfl, .inl (.inl (e017 _ _ hb)), g2.pos, ?_⟩
        walk_at "gm"
        have o1 : (opn ts k != opn us k) = true := by rw [← opn_app, ← hk.opn, opn_first hk.rise (by omega)]
        refine w_f (by revert o1; cases opn ts k <;> cases opn us k <;> simp) ?_
        walk_at "gm"
        have lo : 0 ≤ (if (60 : Int) < k then (60 : Int) else k) ∧ (if (60 : Int) < k then (60 : Int) else k) ≤ 60 ∧ (if (60 : Int) < k then (60 : Int) else k) ≤ k := by split <;> omega
        generalize hmn : (if (60 : Int) < k then (60 : Int) else k) = mn at lo
        refine el_lcR2 (σ := [some (.ref a), some (.ref b), some (.ref c), some (.ref hl), some (.ref ap), some (.int (0 + (i : Int))), some (.ref p), some (.int k), y8]) (lo := 1) (hi := mn) (fun _ => true) (fun i => V.bl false) (fun H18 e18 Q18 kk => ?_) (by omega) (by omega) (fun x => rfl) (fun j H18 e18 hj => ?_) (fun j H18 e18 hj _ => ?_) H17 (Ex.refl H17) _ (fun p3 H18 hp3 e18 h18 => ?_)
        · walk_at "gm"
          refine c_min2 ?_
          rw [hmn]
          walk_at "gm"
          exact kk H18 (Ex.refl H18)
        · exact fun H19 _ QB kk => kk H19 (Ex.refl H19)
        · intro H19 e19 Q19 kk
          have e019 := e017.trans (e18.trans e19)
          walk_at "gm"
          refine ⟨a, ts, _, rfl, .inl (.inl (e019 _ _ ha)), g1.pos, ?_⟩
          walk_at "gm"
          refine ⟨b, us, _, rfl, .inl (.inl (e019 _ _ hb)), g2.pos, ?_⟩
          walk_at "gm"
          have o2 : (opn ts (1 + (j : Int)) != opn us (1 + (j : Int))) = false := by rw [← opn_app, ← hk.opn, opn_below hk.rise (by omega) (by omega)]
          have o3 : opn ts (1 + (j : Int)) = opn us (1 + (j : Int)) := by revert o2; cases opn ts (1 + (j : Int)) <;> cases opn us (1 + (j : Int)) <;> simp
          rw [o3]
          simp only [decide_true, Bool.not_true]
          exact kk H19 (Ex.refl H19)
        rw [given_true (mn - 1).toNat fun _ => false, show (List.range (mn - 1).toNat).map (fun _ => false) = List.replicate (mn - 1).toNat false from by rw [List.map_const']; simp] at h18
        walk_at "gm"
        refine c_any (.inl (.inl h18)) ?_
        rw [show (List.replicate (mn - 1).toNat false).any id = false from by simp]
        walk_at "gm"
        exact ⟨_, _, _, _, rfl, e516.trans (e17.trans e18)⟩
    · obtain ⟨y5, y6, y7, y8, rfl, e6⟩ := hP
      have e06 := e05.trans e6
      have e36 := e35.trans e6
      have n10 : H h1 = none := n1
      refine ⟨fun σ' H' => σ' = [some (.ref a), some (.ref b), some (.ref c), some (.ref hl), some (.ref ap), y5, y6, y7, y8] ∧ Ex H H' ∧ H' hl = some (.lst [.ref h1, .ref h2]) ∧ H' h2 = some (.lst (us.map V.int)) ∧ ∃ ts', H' h1 = some (.lst (ts'.map V.int)) ∧ Good ts', ?_, fun σ' H' h => ?_⟩
      · walk_at "gm"
        refine ⟨hl, _, _, .ref h1, rfl, rfl, .inl (.inl (e36 _ _ hhl)), by rfl, ?_⟩
        walk_at "gm"
        refine ⟨Nat.zero_le _, fun m3 nm3 => ?_⟩
        have e7 : Ex H6 (upd H6 m3 (.lst [])) := Ex.new nm3
        refine c_eqL (xs := ts) (ys := []) (.inl (.inl (e7 _ _ (e36 _ _ hh13)))) (.inl (.inl upd_same)) ?_
        generalize upd H6 m3 (.lst []) = H7 at e7 ⊢
        have e37 := e36.trans e7
        have e07 := e06.trans e7
        walk_at "gm"
        cases ts with
        | nil =>
          refine w_t (by simp) ?_
          walk_at "gm"
          refine ⟨hl, _, _, .ref h1, rfl, rfl, .inl (.inl (e37 _ _ hhl)), by rfl, ?_⟩
          refine ⟨tyLl (.inl (.inl (e37 _ _ hh13))), ?_⟩
          walk_at "gm"
          refine c_app (e37 _ _ hh13) (by decide) ?_
          refine ⟨rfl, e07.mut n10, by rw [upd_ne nel1]; exact e37 _ _ hhl, by rw [upd_ne ne12]; exact e37 _ _ hh23, [3], by rw [upd_same]; rfl, ⟨by decide, by decide⟩⟩
        | cons t r =>
          refine w_f (by simp) ?_
          walk_at "gm"
          refine ⟨hl, _, _, .ref h1, rfl, rfl, .inl (.inl (e37 _ _ hhl)), by rfl, ?_⟩
          walk_at "gm"
          refine ⟨h1, _, _, .int t, rfl, rfl, .inl (.inl (e37 _ _ hh13)), at_head t r, ?_⟩
          walk_at "gm"
          refine ⟨.ref hl, rfl, hl, _, _, .ref h1, rfl, rfl, .inl (.inl (e37 _ _ hhl)), by rfl, h1, _, _, 0, rfl, rfl, e37 _ _ hh13, ixN_nat (j := 0) (by rw [List.length_map, List.length_cons]; exact Nat.succ_pos _), ?_⟩
          refine ⟨rfl, e07.mut n10, by rw [upd_ne nel1]; exact e37 _ _ hhl, by rw [upd_ne ne12]; exact e37 _ _ hh23, (t + 1) :: r, by rw [upd_same]; rfl, ⟨g1.len, fun x hx => ?_⟩⟩
          rcases List.mem_cons.mp hx with z | z
          · have := g1.pos t List.mem_cons_self
            omega
          · exact g1.pos x (List.mem_cons_of_mem _ z)
      · obtain ⟨rfl, e7, hhl7, hh27, ts', hh17, g1'⟩ := h
        have l1' := g1'.len
        walk_at "gm"
        refine ⟨hl, _, _, .ref h1, rfl, rfl, .inl (.inl hhl7), by rfl, ?_⟩
        walk_at "gm"
        refine ⟨hl, _, _, .ref h2, rfl, rfl, .inl (.inl hhl7), by rfl, ?_⟩
        walk_at "gm"
        refine ⟨h1, h2, ts', us, rfl, hh17, hh27, g1', g2, fun ks' hk' p dx H8 np e8 hp => ?_⟩
        walk_at "gm"
        refine O.isS hp ?_
        walk_at "gm"
        refine O.isU hp ?_
        walk_at "gm"
        refine w_f (by cases ks' <;> simp) ?_
        walk_at "gm"
        refine ⟨hl, _, _, .ref h1, rfl, rfl, .inl (.inl (e8 _ _ hhl7)), by rfl, ?_⟩
        walk_at "gm"
        refine ⟨hl, _, _, .ref h2, rfl, rfl, .inl (.inl (e8 _ _ hhl7)), by rfl, ?_⟩
        walk_at "gm"
        refine ⟨h1, h2, p, dx, _, ts', us, rfl, hp, e8 _ _ hh17, e8 _ _ hh27, by omega, by omega, fun k2 hk2 H9 e9 => ?_⟩
        have ek := hk'.uniq hk2
        subst ek
        rw [said_own]
        exact q H9 ((e7.trans e8).trans e9)
end
abbrev s_law : Stmt := topS 21
section
variable {P : Program} {w : World} {K : PySem.W.Frag} {mg : Str → Option Value} {base : Heap} {CA CS CU : Addr}
def spLaw (K : PySem.W.Frag) : Sp := fun vs H Q _ => ∃ (a : Addr) (ns : List Int), vs = [.ref a] ∧ SqL K H a (ns.map V.int) ∧ ns.length ≤ 63 ∧ Bits ns ∧ ∀ H', Q (.bl true) H'
theorem Bits.rev {ns : List Int} (h : Bits ns) : Bits ns.reverse := fun z hz => h z (List.mem_reverse.mp hz)
theorem ok_law (O : Own K mg CA CS CU) {f : Addr} {fd : FuncData} (F : Fun K "law" "law" s_law f fd) (B : Blt mg) (c__law_turners : Cal P w K mg base CX0 2 "_law_turners" (spLawTurners K)) (c__law_right : Cal P w K mg base CX0 4 "_law_right" (spRight K)) (c_compared : Cal P w K mg base CX0 3 "compared" (spComp K CS CU)) : FnOk P w K mg base CX0 5 f fd ["_law_script"] (spLaw K) := by
  have gC_Same := O.gS
  have sc : FnScope ["_law_script", "_law_whole", "_law_by", "_law_one", "_law_other", "_law_mine"] ["_law_script"] (defScope s_law) := ⟨rfl, rfl, rfl, by decide +kernel, rfl, by decide +kernel, by decide +kernel⟩
  refine F.ok sc (fun vs H Q E h => ?_) (fun cdv A outer s H vs Q E hr h => ?_)
  · obtain ⟨a, ns, rfl, _⟩ := h
    rfl
  · obtain ⟨a, ns, rfl, hS, hl, hB, q⟩ := h
    refine ⟨_, (pss_cons (ps_set (i := 1) sc.nd rfl (by first | exact Or.inl rfl | exact Or.inr rfl) (pe_callB call_abs_s (by rfl) B.abs_ boot_abs (pa_cons (pe_callB (cr_sum rfl) (by rfl) B.sum_ boot_sum (pa_cons (pe_slice sl_list (pv 0) po_none (po_some pe_int)) pa_nil)) pa_nil)))
      (pss_cons (ps_for PassesOwn.never rfl (pi_list (pe_lst (pa_cons pe_int (pa_cons pe_int (pa_cons pe_int pa_nil))))) (pg_name (i := 2) sc.nd rfl (by first | exact Or.inl rfl | exact Or.inr rfl))
      (pss_cons (ps_par (by rfl) sc.nd (i := 3) (j := 4) rfl rfl (by decide) rfl rfl (pa_cons (pe_d c__law_turners hr (by decide) (by rfl) (pa_cons (pv 0) (pa_cons (pv 2) (pa_cons pe_int pa_nil)))) (pa_cons (pe_d c__law_turners hr (by decide) (by rfl) (pa_cons (pe_revL (pv 0)) (pa_cons (pe_op op_add (pv 2) pe_int) (pa_cons pe_int pa_nil)))) pa_nil)) (by rfl))
      (pss_one (ps_for PassesOwn.never rfl (pi_list (pe_lst (pa_cons (pv 4) (pa_cons (pe_revL (pv 3)) (pa_cons (pe_op op_cat (pv 3) (pe_lst (pa_cons pe_int (pa_cons (pe_op op_add (pv 1) pe_int) (pa_cons pe_int (pa_cons (pe_op op_add (pv 1) pe_int) pa_nil)))))) (pa_cons (pe_op op_cat (pv 3) (pe_lst (pa_cons (pe_op op_add pe_int (pe_op op_mod (pv 1) pe_int)) pa_nil))) (pa_cons (pe_slice sl_list (pv 3) (po_some pe_int) po_none) (pa_cons (pe_lst pa_nil) pa_nil)))))))) (pg_name (i := 5) sc.nd rfl (by first | exact Or.inl rfl | exact Or.inr rfl))
      (pss_one (ps_if (pt_not (pt_val (pe_d c__law_right hr (by decide) (by rfl) (pa_cons (pv 3) (pa_cons (pv 5) (pa_cons (pv 4) pa_nil))))))
      (pss_one (ps_ret pe_bl)) pss_nil))))))
      (pss_one (ps_ret (pe_and (pe_cmpR op_eq (pe_fld (pe_d c_compared hr (by decide) (by rfl) (pa_cons (pe_lst (pa_cons pe_int (pa_cons pe_int pa_nil))) (pa_cons (pe_lst (pa_cons pe_int pa_nil)) pa_nil))) rfl) pe_int (nomark _)) (pe_one (pe_callB call_isi (by rfl) B.isinstance_ boot_isinstance (pa_cons (pe_d c_compared hr (by decide) (by rfl) (pa_cons (pe_lst (pa_cons pe_int (pa_cons pe_int (pa_cons pe_int pa_nil)))) (pa_cons (pe_lst (pa_cons pe_int pa_nil)) pa_nil))) (pa_cons (pe_glob (v := .ref _) (by rfl) gC_Same rfl) pa_nil))))))))), ?_⟩
    walk_at "gm"
    refine ⟨a, _, rfl, hS, fun c nc => ?_⟩
    rw [cut63 (by rw [List.length_map]; exact hl)]
    walk_at "gm"
    refine c_sum (.inl (.inl upd_same)) ?_
    walk_at "gm"
    refine c_abs ?_
    have ec : Ex H (upd H c (.lst (ns.map V.int))) := Ex.new nc
    generalize upd H c (.lst (ns.map V.int)) = Hc at ec ⊢
    generalize hW : (ns.sum.natAbs : Int) = W
    have W0 : 0 ≤ W := by omega
    walk_at "gm"
    refine ⟨by show 3 ≤ sizeLine; decide, fun bl nbl => ?_⟩
    have e0 : Ex H (upd Hc bl (.lst [.int 0, .int 1, .int 3])) := ec.trans (Ex.new nbl)
    have hbl : (upd Hc bl (.lst [.int 0, .int 1, .int 3])) bl = some (.lst [.int 0, .int 1, .int 3]) := upd_same
    generalize upd Hc bl (.lst [.int 0, .int 1, .int 3]) = Hb at e0 hbl ⊢
    refine ⟨bl, rfl, ⟨_, .inl (.inl hbl)⟩, f_list (xs := [.int 0, .int 1, .int 3]) (fun i σ H' => ∃ y2 y3 y4 y5, σ = [some (.ref a), some (.int W), y2, y3, y4, y5] ∧ Ex Hb H')
      ⟨_, _, _, _, rfl, Ex.refl _⟩ (fun i σ H' _ h => by obtain ⟨_, _, _, _, _, e⟩ := h; exact .inl (.inl (e _ _ hbl))) (fun i x σ H1 hx h => ?_) (fun σ H1 h => ?_)⟩
    · obtain ⟨y2, y3, y4, y5, rfl, e1⟩ := h
      obtain ⟨b, rfl, b0, b1⟩ : ∃ b : Int, x = .int b ∧ 0 ≤ b ∧ b ≤ 3 := by
        have hm := List.mem_of_getElem? hx
        simp only [List.mem_cons, List.not_mem_nil, or_false] at hm
        rcases hm with z | z | z <;> subst z
        · exact ⟨0, rfl, by decide, by decide⟩
        · exact ⟨1, rfl, by decide, by decide⟩
        · exact ⟨3, rfl, by decide, by decide⟩
      have e01 := e0.trans e1
      walk_at "gm"
      refine ⟨a, ns, b, 20, rfl, ex_l e01 hS, hl, hB, b0, by omega, by decide, by decide, fun ts hM T H2 nT e2 hT => ?_⟩
      have hG := hM.good (by decide)
      have hlen := hM.len
      walk_at "gm"
      refine ⟨a, _, rfl, ex_l (e01.trans e2) hS, fun rv nrv => ?_⟩
      rw [← List.map_reverse]
      have e3 : Ex H2 (upd H2 rv (.lst (ns.reverse.map V.int))) := Ex.new nrv
      have hrv : (upd H2 rv (.lst (ns.reverse.map V.int))) rv = some (.lst (ns.reverse.map V.int)) := upd_same
      generalize upd H2 rv (.lst (ns.reverse.map V.int)) = H3 at e3 hrv ⊢
      walk_at "gm"
      refine ⟨rv, ns.reverse, b + 2, 20, rfl, .inl (.inl hrv), by rw [List.length_reverse]; exact hl, hB.rev, by omega, by omega, by decide, by decide, fun us hM2 U H4 nU e4 hU => ?_⟩
      have hG2 := hM2.good (by decide)
      have hlen2 := hM2.len
      have hT4 := e4 _ _ (e3 _ _ hT)
      have e14 := (e1.trans e2).trans (e3.trans e4)
      walk_at "gm"
      refine ⟨T, _, rfl, .inl (.inl hT4), fun d2 nd2 => ?_⟩
      rw [← List.map_reverse]
      have e5 : Ex H4 (upd H4 d2 (.lst (ts.reverse.map V.int))) := Ex.new nd2
      have hd2 : (upd H4 d2 (.lst (ts.reverse.map V.int))) d2 = some (.lst (ts.reverse.map V.int)) := upd_same
      generalize upd H4 d2 (.lst (ts.reverse.map V.int)) = H5 at e5 hd2 ⊢
      walk_at "gm"
      refine ⟨by show 4 ≤ sizeLine; decide, fun l1 n1 => ?_⟩
      have e6 : Ex H5 (upd H5 l1 (.lst [.int 9, .int (W + 1), .int 9, .int (W + 1)])) := Ex.new n1
      have hl1 : (upd H5 l1 (.lst [.int 9, .int (W + 1), .int 9, .int (W + 1)])) l1 = some (.lst [.int 9, .int (W + 1), .int 9, .int (W + 1)]) := upd_same
      generalize upd H5 l1 (.lst [.int 9, .int (W + 1), .int 9, .int (W + 1)]) = H6 at e6 hl1 ⊢
      have hT6 := e6 _ _ (e5 _ _ hT4)
      walk_at "gm"
      refine c_cat hT6 hl1 (by rw [List.length_map]; show ts.length + 4 ≤ _; omega) fun d3 nd3 => ?_
      rw [show ts.map V.int ++ [.int 9, .int (W + 1), .int 9, .int (W + 1)] = (ts ++ [9, W + 1, 9, W + 1]).map V.int by rw [List.map_append]; rfl]
      have e7 : Ex H6 (upd H6 d3 (.lst ((ts ++ [9, W + 1, 9, W + 1]).map V.int))) := Ex.new nd3
      have hd3 : (upd H6 d3 (.lst ((ts ++ [9, W + 1, 9, W + 1]).map V.int))) d3 = some (.lst ((ts ++ [9, W + 1, 9, W + 1]).map V.int)) := upd_same
      generalize upd H6 d3 (.lst ((ts ++ [9, W + 1, 9, W + 1]).map V.int)) = H7 at e7 hd3 ⊢
      have hT7 := e7 _ _ hT6
      walk_at "gm"
      refine c_I (by decide) ?_
      walk_at "gm"
      have r0 := Int.emod_nonneg W (show (50 : Int) ≠ 0 by decide)
      refine ⟨by show 1 ≤ sizeLine; decide, fun l2 n2 => ?_⟩
      have e8 : Ex H7 (upd H7 l2 (.lst [.int (1 + W % 50)])) := Ex.new n2
      have hl2 : (upd H7 l2 (.lst [.int (1 + W % 50)])) l2 = some (.lst [.int (1 + W % 50)]) := upd_same
      generalize upd H7 l2 (.lst [.int (1 + W % 50)]) = H8 at e8 hl2 ⊢
      have hT8 := e8 _ _ hT7
      walk_at "gm"
      refine c_cat hT8 hl2 (by rw [List.length_map]; show ts.length + 1 ≤ _; omega) fun d4 nd4 => ?_
      rw [show ts.map V.int ++ [.int (1 + W % 50)] = (ts ++ [1 + W % 50]).map V.int by rw [List.map_append]; rfl]
      have e9 : Ex H8 (upd H8 d4 (.lst ((ts ++ [1 + W % 50]).map V.int))) := Ex.new nd4
      have hd4 : (upd H8 d4 (.lst ((ts ++ [1 + W % 50]).map V.int))) d4 = some (.lst ((ts ++ [1 + W % 50]).map V.int)) := upd_same
      generalize upd H8 d4 (.lst ((ts ++ [1 + W % 50]).map V.int)) = H9 at e9 hd4 ⊢
      have hT9 := e9 _ _ hT8
      walk_at "gm"
      refine ⟨T, _, rfl, .inl (.inl hT9), fun d5 nd5 => ?_⟩
      rw [show cutV (ts.map V.int) (some 1) none = (ts.drop 1).map V.int from by
        cases ts with
        | nil => rfl
        | cons t r => rw [List.map_cons, cut_tail]; rfl]
      have e10 : Ex H9 (upd H9 d5 (.lst ((ts.drop 1).map V.int))) := Ex.new nd5
      have hd5 : (upd H9 d5 (.lst ((ts.drop 1).map V.int))) d5 = some (.lst ((ts.drop 1).map V.int)) := upd_same
      generalize upd H9 d5 (.lst ((ts.drop 1).map V.int)) = H10 at e10 hd5 ⊢
      walk_at "gm"
      refine ⟨Nat.zero_le _, fun d6 nd6 => ?_⟩
      have e11 : Ex H10 (upd H10 d6 (.lst [])) := Ex.new nd6
      have hd6 : (upd H10 d6 (.lst [])) d6 = some (.lst (([] : List Int).map V.int)) := upd_same
      generalize upd H10 d6 (.lst []) = H11 at e11 hd6 ⊢
      walk_at "gm"
      refine ⟨by show 6 ≤ sizeLine; decide, fun li nli => ?_⟩
      have e12 : Ex H11 (upd H11 li (.lst [.ref U, .ref d2, .ref d3, .ref d4, .ref d5, .ref d6])) := Ex.new nli
      have hli : (upd H11 li (.lst [.ref U, .ref d2, .ref d3, .ref d4, .ref d5, .ref d6])) li = some (.lst [.ref U, .ref d2, .ref d3, .ref d4, .ref d5, .ref d6]) := upd_same
      generalize upd H11 li (.lst [.ref U, .ref d2, .ref d3, .ref d4, .ref d5, .ref d6]) = H12 at e12 hli ⊢
      have x1112 := e11.trans e12
      have x1012 := e10.trans x1112
      have x912 := e9.trans x1012
      have x812 := e8.trans x912
      have x712 := e7.trans x812
      have x612 := e6.trans x712
      have x512 := e5.trans x612
      have rows : ∀ x ∈ [V.ref U, .ref d2, .ref d3, .ref d4, .ref d5, .ref d6], ∃ (p : Addr) (vs : List Int), x = .ref p ∧ H12 p = some (.lst (vs.map V.int)) ∧ Good vs := by
        intro x hx
        simp only [List.mem_cons, List.not_mem_nil, or_false] at hx
        rcases hx with z | z | z | z | z | z <;> subst z
        · exact ⟨U, us, rfl, x512 _ _ hU, hG2⟩
        · exact ⟨d2, _, rfl, x612 _ _ hd2, ⟨by rw [List.length_reverse]; omega, fun t ht => hG.pos t (List.mem_reverse.mp ht)⟩⟩
        · refine ⟨d3, _, rfl, x812 _ _ hd3, ⟨by rw [List.length_append]; show ts.length + 4 ≤ 40; omega, fun t ht => ?_⟩⟩
          rcases List.mem_append.mp ht with z | z
          · exact hG.pos t z
          · simp only [List.mem_cons, List.not_mem_nil, or_false] at z
            omega
        · refine ⟨d4, _, rfl, x1012 _ _ hd4, ⟨by rw [List.length_append]; show ts.length + 1 ≤ 40; omega, fun t ht => ?_⟩⟩
          rcases List.mem_append.mp ht with z | z
          · exact hG.pos t z
          · simp only [List.mem_cons, List.not_mem_nil, or_false] at z
            omega
        · exact ⟨d5, _, rfl, x1112 _ _ hd5, ⟨by rw [List.length_drop]; omega, fun t ht => hG.pos t (List.mem_of_mem_drop ht)⟩⟩
        · exact ⟨d6, [], rfl, e12 _ _ hd6, ⟨by decide, fun t ht => nomatch ht⟩⟩
      refine ⟨li, rfl, ⟨_, .inl (.inl hli)⟩, f_list (xs := [.ref U, .ref d2, .ref d3, .ref d4, .ref d5, .ref d6]) (fun i σ H' => ∃ y5, σ = [some (.ref a), some (.int W), some (.int b), some (.ref T), some (.ref U), y5] ∧ Ex H12 H')
        ⟨_, rfl, Ex.refl _⟩ (fun i σ H' _ h => by obtain ⟨_, _, e⟩ := h; exact .inl (.inl (e _ _ hli))) (fun i x σ H13 hx h => ?_) (fun σ H13 h => ?_)⟩
      · obtain ⟨y5, rfl, e13⟩ := h
        obtain ⟨p, vs, rfl, hp, gv⟩ := rows x (List.mem_of_getElem? hx)
        walk_at "gm"
        refine ⟨T, p, U, ts, vs, us, rfl, e13 _ _ (x512 _ _ hT4), e13 _ _ hp, e13 _ _ (x512 _ _ hU), hG, gv, by omega, by omega, fun H14 e14' => ?_⟩
        walk_at "gm"
        exact ⟨_, rfl, e13.trans e14'⟩
      · obtain ⟨y5, rfl, e13⟩ := h
        exact ⟨_, _, _, _, rfl, e14.trans (x512.trans e13)⟩
    · obtain ⟨y2, y3, y4, y5, rfl, e1⟩ := h
      walk_at "gm"
      refine ⟨by show 2 ≤ sizeLine; decide, fun l1 n1 => ?_⟩
      walk_at "gm"
      refine ⟨by show 1 ≤ sizeLine; decide, fun l2 n2 => ?_⟩
      walk_at "gm"
      refine ⟨l1, l2, [2, 3], [3], rfl, Ex.new n2 _ _ upd_same, upd_same, ⟨by decide, by decide⟩, ⟨by decide, by decide⟩, fun ks hk p dx H2 np e2 hp => ?_⟩
      have ek := (kept_by (ts := [2, 3] ++ [3]) (ks := [2]) (by decide)).uniq hk
      subst ek
      walk_at "gm"
      refine ⟨p, CU, dx, _, .int 2, rfl, hp, O.clU, O.noD, rfl, ?_⟩
      walk_at "gm"
      refine ⟨by show 3 ≤ sizeLine; decide, fun l3 n3 => ?_⟩
      walk_at "gm"
      refine ⟨by show 1 ≤ sizeLine; decide, fun l4 n4 => ?_⟩
      walk_at "gm"
      refine ⟨l3, l4, [4, 6, 4], [6], rfl, Ex.new n4 _ _ upd_same, upd_same, ⟨by decide, by decide⟩, ⟨by decide, by decide⟩, fun ks hk p2 dx2 H4 np2 e4 hp2 => ?_⟩
      have ek := (kept_by (ts := [4, 6, 4] ++ [6]) (ks := []) (by decide)).uniq hk
      subst ek
      walk_at "gm"
      refine O.isS hp2 ?_
      exact q _
end
theorem all_mk {l : PySem.W.OpenLaw} {w : World} {K : PySem.W.Frag} {h : Heap} {mg : Str → Option Value} {fa : Addr} (X : K.In h) (G : h.Ns mainGlobals mg) (hfa : mg "law" = some (.ref fa))
    {C_Answer : Addr}
    {C_Same : Addr}
    {C_Unlike : Addr}
    {f_is_number : Addr} {od_is_number an_is_number : Option Addr} {sl_is_number : Array (Option Value)} {oc_is_number kV_is_number dc_is_number pm_is_number cd_is_number ct_is_number : Value}
    {f_asked_turners : Addr} {od_asked_turners an_asked_turners : Option Addr} {sl_asked_turners : Array (Option Value)} {oc_asked_turners kV_asked_turners dc_asked_turners pm_asked_turners cd_asked_turners ct_asked_turners : Value}
    {f_left_over : Addr} {od_left_over an_left_over : Option Addr} {sl_left_over : Array (Option Value)} {oc_left_over kV_left_over dc_left_over pm_left_over cd_left_over ct_left_over : Value}
    {f_Same_shows : Addr} {od_Same_shows an_Same_shows : Option Addr} {sl_Same_shows : Array (Option Value)} {oc_Same_shows kV_Same_shows dc_Same_shows pm_Same_shows cd_Same_shows ct_Same_shows : Value}
    {f_Unlike___init__ : Addr} {od_Unlike___init__ an_Unlike___init__ : Option Addr} {sl_Unlike___init__ : Array (Option Value)} {oc_Unlike___init__ kV_Unlike___init__ dc_Unlike___init__ pm_Unlike___init__ cd_Unlike___init__ ct_Unlike___init__ : Value}
    {f_Unlike_shows : Addr} {od_Unlike_shows an_Unlike_shows : Option Addr} {sl_Unlike_shows : Array (Option Value)} {oc_Unlike_shows kV_Unlike_shows dc_Unlike_shows pm_Unlike_shows cd_Unlike_shows ct_Unlike_shows : Value}
    {f_compared : Addr} {od_compared an_compared : Option Addr} {sl_compared : Array (Option Value)} {oc_compared kV_compared dc_compared pm_compared cd_compared ct_compared : Value}
    {f__law_number : Addr} {od__law_number an__law_number : Option Addr} {sl__law_number : Array (Option Value)} {oc__law_number kV__law_number dc__law_number pm__law_number cd__law_number ct__law_number : Value}
    {f__law_turners : Addr} {od__law_turners an__law_turners : Option Addr} {sl__law_turners : Array (Option Value)} {oc__law_turners kV__law_turners dc__law_turners pm__law_turners cd__law_turners ct__law_turners : Value}
    {f__law_open : Addr} {od__law_open an__law_open : Option Addr} {sl__law_open : Array (Option Value)} {oc__law_open kV__law_open dc__law_open pm__law_open cd__law_open ct__law_open : Value}
    {f__law_kept : Addr} {od__law_kept an__law_kept : Option Addr} {sl__law_kept : Array (Option Value)} {oc__law_kept kV__law_kept dc__law_kept pm__law_kept cd__law_kept ct__law_kept : Value}
    {f__law_due : Addr} {od__law_due an__law_due : Option Addr} {sl__law_due : Array (Option Value)} {oc__law_due kV__law_due dc__law_due pm__law_due cd__law_due ct__law_due : Value}
    {f__law_right : Addr} {od__law_right an__law_right : Option Addr} {sl__law_right : Array (Option Value)} {oc__law_right kV__law_right dc__law_right pm__law_right cd__law_right ct__law_right : Value}
    {f_law : Addr} {od_law an_law : Option Addr} {sl_law : Array (Option Value)} {oc_law kV_law dc_law pm_law cd_law ct_law : Value}
    {t_MOST : Tok}
    (aC_Answer : PySem.W.nsIn K mainGlobals "Answer" = some (some (.ref C_Answer)))
    (aC_Same : PySem.W.nsIn K mainGlobals "Same" = some (some (.ref C_Same)))
    (pg_Same : PySem.W.plainGet K C_Same Str.empty = true) (hd_Same : PySem.W.hasDictIn K C_Same = true) (po_Same : PySem.W.plainOver K C_Same = true) (sa_Same : PySem.W.findIn K (.ref C_Same) "__setattr__" = some (some (.builtin "object.__setattr__"))) (mk_Same : PySem.W.makesIn K C_Same = true) (kc_Same : PySem.W.keepIn K (.ref C_Same) = true) (tp_Same : PySem.W.mroIn K C_Same (.type "object") = some true) (ac_Same : PySem.W.findIn K (.ref C_Same) "__class__" = some (some (.builtin "object.__class__")))
    (aC_Unlike : PySem.W.nsIn K mainGlobals "Unlike" = some (some (.ref C_Unlike)))
    (pg_Unlike : PySem.W.plainGet K C_Unlike Str.empty = true) (hd_Unlike : PySem.W.hasDictIn K C_Unlike = true) (po_Unlike : PySem.W.plainOver K C_Unlike = true) (sa_Unlike : PySem.W.findIn K (.ref C_Unlike) "__setattr__" = some (some (.builtin "object.__setattr__"))) (mk_Unlike : PySem.W.makesIn K C_Unlike = true) (kc_Unlike : PySem.W.keepIn K (.ref C_Unlike) = true) (tp_Unlike : PySem.W.mroIn K C_Unlike (.type "object") = some true) (ac_Unlike : PySem.W.findIn K (.ref C_Unlike) "__class__" = some (some (.builtin "object.__class__")))
    (in_Same : PySem.W.findIn K (.ref C_Same) "__init__" = some (some (.builtin "object.__init__"))) (no_Unlike : PySem.W.findIn K (.ref C_Unlike) "door" = some none) (hn_O : PySem.W.specialIn K (.builtin "object.__class__") "__get__" = some (some (.builtin "getset_descriptor.__get__"))) (htk_O : PySem.W.takesIn K (.builtin "object.__class__") = some true)
    (su_Same_Answer : PySem.W.subIn K (.ref C_Same) (.ref C_Answer) = some true)
    (su_Same_Same : PySem.W.subIn K (.ref C_Same) (.ref C_Same) = some true)
    (su_Same_Unlike : PySem.W.subIn K (.ref C_Same) (.ref C_Unlike) = some false)
    (su_Unlike_Answer : PySem.W.subIn K (.ref C_Unlike) (.ref C_Answer) = some true)
    (su_Unlike_Same : PySem.W.subIn K (.ref C_Unlike) (.ref C_Same) = some false)
    (su_Unlike_Unlike : PySem.W.subIn K (.ref C_Unlike) (.ref C_Unlike) = some true)
    (ic_Answer : PySem.W.isClsIn K C_Answer = true) (ty_Answer : PySem.W.typeIn K (.ref C_Answer) = some (.type "type"))
    (ic_Same : PySem.W.isClsIn K C_Same = true) (ty_Same : PySem.W.typeIn K (.ref C_Same) = some (.type "type"))
    (ic_Unlike : PySem.W.isClsIn K C_Unlike = true) (ty_Unlike : PySem.W.typeIn K (.ref C_Unlike) = some (.type "type"))
    (a_is_number : PySem.W.nsIn K mainGlobals "is_number" = some (some (.ref f_is_number))) (l_is_number : K.lookup f_is_number = some ⟨oc_is_number, od_is_number, .func (PySem.W.fnOf "is_number" "is_number" (defArgs s_is_number) (defBody s_is_number) (defScope s_is_number) .none kV_is_number dc_is_number pm_is_number an_is_number cd_is_number ct_is_number), sl_is_number⟩) (q_is_number : PySem.W.codeIn K cd_is_number "is_number" = true) (k_is_number : PySem.W.keepIn K (.ref f_is_number) = true)
    (a_asked_turners : PySem.W.nsIn K mainGlobals "asked_turners" = some (some (.ref f_asked_turners))) (l_asked_turners : K.lookup f_asked_turners = some ⟨oc_asked_turners, od_asked_turners, .func (PySem.W.fnOf "asked_turners" "asked_turners" (defArgs s_asked_turners) (defBody s_asked_turners) (defScope s_asked_turners) .none kV_asked_turners dc_asked_turners pm_asked_turners an_asked_turners cd_asked_turners ct_asked_turners), sl_asked_turners⟩) (q_asked_turners : PySem.W.codeIn K cd_asked_turners "asked_turners" = true) (k_asked_turners : PySem.W.keepIn K (.ref f_asked_turners) = true)
    (a_left_over : PySem.W.nsIn K mainGlobals "left_over" = some (some (.ref f_left_over))) (l_left_over : K.lookup f_left_over = some ⟨oc_left_over, od_left_over, .func (PySem.W.fnOf "left_over" "left_over" (defArgs s_left_over) (defBody s_left_over) (defScope s_left_over) .none kV_left_over dc_left_over pm_left_over an_left_over cd_left_over ct_left_over), sl_left_over⟩) (q_left_over : PySem.W.codeIn K cd_left_over "left_over" = true) (k_left_over : PySem.W.keepIn K (.ref f_left_over) = true)
    (a_Same_shows : PySem.W.findIn K (.ref C_Same) "shows" = some (some (.ref f_Same_shows))) (i_Same_shows : PySem.W.isFn K (.ref f_Same_shows) = true) (l_Same_shows : K.lookup f_Same_shows = some ⟨oc_Same_shows, od_Same_shows, .func (PySem.W.fnOf "shows" "Same.shows" (defArgs s_Same_shows) (defBody s_Same_shows) (defScope s_Same_shows) .none kV_Same_shows dc_Same_shows pm_Same_shows an_Same_shows cd_Same_shows ct_Same_shows), sl_Same_shows⟩) (q_Same_shows : PySem.W.codeIn K cd_Same_shows "Same.shows" = true) (k_Same_shows : PySem.W.keepIn K (.ref f_Same_shows) = true)
    (a_Unlike___init__ : PySem.W.findIn K (.ref C_Unlike) "__init__" = some (some (.ref f_Unlike___init__))) (i_Unlike___init__ : PySem.W.isFn K (.ref f_Unlike___init__) = true) (l_Unlike___init__ : K.lookup f_Unlike___init__ = some ⟨oc_Unlike___init__, od_Unlike___init__, .func (PySem.W.fnOf "__init__" "Unlike.__init__" (defArgs s_Unlike___init__) (defBody s_Unlike___init__) (defScope s_Unlike___init__) .none kV_Unlike___init__ dc_Unlike___init__ pm_Unlike___init__ an_Unlike___init__ cd_Unlike___init__ ct_Unlike___init__), sl_Unlike___init__⟩) (q_Unlike___init__ : PySem.W.codeIn K cd_Unlike___init__ "Unlike.__init__" = true) (k_Unlike___init__ : PySem.W.keepIn K (.ref f_Unlike___init__) = true)
    (a_Unlike_shows : PySem.W.findIn K (.ref C_Unlike) "shows" = some (some (.ref f_Unlike_shows))) (i_Unlike_shows : PySem.W.isFn K (.ref f_Unlike_shows) = true) (l_Unlike_shows : K.lookup f_Unlike_shows = some ⟨oc_Unlike_shows, od_Unlike_shows, .func (PySem.W.fnOf "shows" "Unlike.shows" (defArgs s_Unlike_shows) (defBody s_Unlike_shows) (defScope s_Unlike_shows) .none kV_Unlike_shows dc_Unlike_shows pm_Unlike_shows an_Unlike_shows cd_Unlike_shows ct_Unlike_shows), sl_Unlike_shows⟩) (q_Unlike_shows : PySem.W.codeIn K cd_Unlike_shows "Unlike.shows" = true) (k_Unlike_shows : PySem.W.keepIn K (.ref f_Unlike_shows) = true)
    (a_compared : PySem.W.nsIn K mainGlobals "compared" = some (some (.ref f_compared))) (l_compared : K.lookup f_compared = some ⟨oc_compared, od_compared, .func (PySem.W.fnOf "compared" "compared" (defArgs s_compared) (defBody s_compared) (defScope s_compared) .none kV_compared dc_compared pm_compared an_compared cd_compared ct_compared), sl_compared⟩) (q_compared : PySem.W.codeIn K cd_compared "compared" = true) (k_compared : PySem.W.keepIn K (.ref f_compared) = true)
    (a__law_number : PySem.W.nsIn K mainGlobals "_law_number" = some (some (.ref f__law_number))) (l__law_number : K.lookup f__law_number = some ⟨oc__law_number, od__law_number, .func (PySem.W.fnOf "_law_number" "_law_number" (defArgs s__law_number) (defBody s__law_number) (defScope s__law_number) .none kV__law_number dc__law_number pm__law_number an__law_number cd__law_number ct__law_number), sl__law_number⟩) (q__law_number : PySem.W.codeIn K cd__law_number "_law_number" = true) (k__law_number : PySem.W.keepIn K (.ref f__law_number) = true)
    (a__law_turners : PySem.W.nsIn K mainGlobals "_law_turners" = some (some (.ref f__law_turners))) (l__law_turners : K.lookup f__law_turners = some ⟨oc__law_turners, od__law_turners, .func (PySem.W.fnOf "_law_turners" "_law_turners" (defArgs s__law_turners) (defBody s__law_turners) (defScope s__law_turners) .none kV__law_turners dc__law_turners pm__law_turners an__law_turners cd__law_turners ct__law_turners), sl__law_turners⟩) (q__law_turners : PySem.W.codeIn K cd__law_turners "_law_turners" = true) (k__law_turners : PySem.W.keepIn K (.ref f__law_turners) = true)
    (a__law_open : PySem.W.nsIn K mainGlobals "_law_open" = some (some (.ref f__law_open))) (l__law_open : K.lookup f__law_open = some ⟨oc__law_open, od__law_open, .func (PySem.W.fnOf "_law_open" "_law_open" (defArgs s__law_open) (defBody s__law_open) (defScope s__law_open) .none kV__law_open dc__law_open pm__law_open an__law_open cd__law_open ct__law_open), sl__law_open⟩) (q__law_open : PySem.W.codeIn K cd__law_open "_law_open" = true) (k__law_open : PySem.W.keepIn K (.ref f__law_open) = true)
    (a__law_kept : PySem.W.nsIn K mainGlobals "_law_kept" = some (some (.ref f__law_kept))) (l__law_kept : K.lookup f__law_kept = some ⟨oc__law_kept, od__law_kept, .func (PySem.W.fnOf "_law_kept" "_law_kept" (defArgs s__law_kept) (defBody s__law_kept) (defScope s__law_kept) .none kV__law_kept dc__law_kept pm__law_kept an__law_kept cd__law_kept ct__law_kept), sl__law_kept⟩) (q__law_kept : PySem.W.codeIn K cd__law_kept "_law_kept" = true) (k__law_kept : PySem.W.keepIn K (.ref f__law_kept) = true)
    (a__law_due : PySem.W.nsIn K mainGlobals "_law_due" = some (some (.ref f__law_due))) (l__law_due : K.lookup f__law_due = some ⟨oc__law_due, od__law_due, .func (PySem.W.fnOf "_law_due" "_law_due" (defArgs s__law_due) (defBody s__law_due) (defScope s__law_due) .none kV__law_due dc__law_due pm__law_due an__law_due cd__law_due ct__law_due), sl__law_due⟩) (q__law_due : PySem.W.codeIn K cd__law_due "_law_due" = true) (k__law_due : PySem.W.keepIn K (.ref f__law_due) = true)
    (a__law_right : PySem.W.nsIn K mainGlobals "_law_right" = some (some (.ref f__law_right))) (l__law_right : K.lookup f__law_right = some ⟨oc__law_right, od__law_right, .func (PySem.W.fnOf "_law_right" "_law_right" (defArgs s__law_right) (defBody s__law_right) (defScope s__law_right) .none kV__law_right dc__law_right pm__law_right an__law_right cd__law_right ct__law_right), sl__law_right⟩) (q__law_right : PySem.W.codeIn K cd__law_right "_law_right" = true) (k__law_right : PySem.W.keepIn K (.ref f__law_right) = true)
    (a_law : PySem.W.nsIn K mainGlobals "law" = some (some (.ref f_law))) (l_law : K.lookup f_law = some ⟨oc_law, od_law, .func (PySem.W.fnOf "law" "law" (defArgs s_law) (defBody s_law) (defScope s_law) .none kV_law dc_law pm_law an_law cd_law ct_law), sl_law⟩) (q_law : PySem.W.codeIn K cd_law "law" = true) (k_law : PySem.W.keepIn K (.ref f_law) = true)
    (h_MOST : PySem.W.nsIn K mainGlobals "MOST" = some (some (.int 40 t_MOST)))
    (z_isinstance : PySem.W.nsIn K mainGlobals "isinstance" = some none)
    (z_len : PySem.W.nsIn K mainGlobals "len" = some none)
    (z_all : PySem.W.nsIn K mainGlobals "all" = some none)
    (z_any : PySem.W.nsIn K mainGlobals "any" = some none)
    (z_sum : PySem.W.nsIn K mainGlobals "sum" = some none)
    (z_abs : PySem.W.nsIn K mainGlobals "abs" = some none)
    (z_max : PySem.W.nsIn K mainGlobals "max" = some none)
    (z_min : PySem.W.nsIn K mainGlobals "min" = some none)
    (z_range : PySem.W.nsIn K mainGlobals "range" = some none)
    (z_sorted : PySem.W.nsIn K mainGlobals "sorted" = some none)
    (z_enumerate : PySem.W.nsIn K mainGlobals "enumerate" = some none)
    (z_int : PySem.W.nsIn K mainGlobals "int" = some none)
    (z_bool : PySem.W.nsIn K mainGlobals "bool" = some none)
    (z_list : PySem.W.nsIn K mainGlobals "list" = some none)
    (z_set : PySem.W.nsIn K mainGlobals "set" = some none)
    (z_str : PySem.W.nsIn K mainGlobals "str" = some none)
    (z_tuple : PySem.W.nsIn K mainGlobals "tuple" = some none)
    (z_ValueError : PySem.W.nsIn K mainGlobals "ValueError" = some none)
    : ∃ fd : FuncData, (∀ (s : Shared) (v : Value), BindsTo s fd ⟨[v], []⟩ [("_law_script", v)]) ∧ ∀ base : Heap, K.In base → base.Ns mainGlobals mg → FnOk l.prog w K mg base CX0 5 fa fd ["_law_script"] (spLaw K) := by
  have e := hfa.symm.trans (PySem.W.mg_of X G a_law)
  cases e
  have ki_Same_Answer := kit_by ic_Answer ty_Answer su_Same_Answer su_Same_Same
  have ki_Same_Same := kit_by ic_Same ty_Same su_Same_Same su_Same_Same
  have ki_Same_Unlike := kit_by ic_Unlike ty_Unlike su_Same_Unlike su_Same_Same
  have ki_Unlike_Answer := kit_by ic_Answer ty_Answer su_Unlike_Answer su_Unlike_Unlike
  have ki_Unlike_Same := kit_by ic_Same ty_Same su_Unlike_Same su_Unlike_Unlike
  have ki_Unlike_Unlike := kit_by ic_Unlike ty_Unlike su_Unlike_Unlike su_Unlike_Unlike
  have O : Own K mg C_Answer C_Same C_Unlike := ⟨PySem.W.mg_of X G aC_Answer, PySem.W.mg_of X G aC_Same, PySem.W.mg_of X G aC_Unlike, ⟨pg_Same, hd_Same, po_Same, sa_Same⟩, ⟨pg_Unlike, hd_Unlike, po_Unlike, sa_Unlike⟩, ⟨mk_Same, in_Same, tp_Same, kc_Same⟩, no_Unlike, ac_Same, ac_Unlike, hn_O, htk_O, tp_Unlike, ki_Same_Answer, ki_Same_Same, ki_Same_Unlike, ki_Unlike_Answer, ki_Unlike_Same, ki_Unlike_Unlike⟩
  have D_is_number : Df K mg "is_number" s_is_number ["thing"] := df_mk X G a_is_number l_is_number q_is_number k_is_number (fun _ _ _ _ _ _ us hl => match us, hl with | [_], _ => rfl)
  have D_asked_turners : Df K mg "asked_turners" s_asked_turners ["turners"] := df_mk X G a_asked_turners l_asked_turners q_asked_turners k_asked_turners (fun _ _ _ _ _ _ us hl => match us, hl with | [_], _ => rfl)
  have D_left_over : Df K mg "left_over" s_left_over ["turners"] := df_mk X G a_left_over l_left_over q_left_over k_left_over (fun _ _ _ _ _ _ us hl => match us, hl with | [_], _ => rfl)
  have D_Same_shows : DfM K C_Same "shows" "Same.shows" s_Same_shows ["self", "one", "other"] := ⟨f_Same_shows, _, fun_mk (st := s_Same_shows) l_Same_shows q_Same_shows k_Same_shows, ⟨pg_Same, hd_Same, po_Same, sa_Same⟩, ⟨a_Same_shows, i_Same_shows, k_Same_shows⟩, (fun_mk (st := s_Same_shows) l_Same_shows q_Same_shows k_Same_shows).binds (ps := ["self", "one", "other"]) (fun _ _ _ _ _ _ us hl => match us, hl with | [_, _, _], _ => rfl)⟩
  have D_Unlike___init__ : DfI K mg "Unlike" C_Unlike "Unlike.__init__" s_Unlike___init__ ["self", "door"] := ⟨f_Unlike___init__, _, fun_mk (st := s_Unlike___init__) l_Unlike___init__ q_Unlike___init__ k_Unlike___init__, ⟨mk_Unlike, a_Unlike___init__, i_Unlike___init__, kc_Unlike⟩, PySem.W.mg_of X G aC_Unlike, (fun_mk (st := s_Unlike___init__) l_Unlike___init__ q_Unlike___init__ k_Unlike___init__).binds (ps := ["self", "door"]) (fun _ _ _ _ _ _ us hl => match us, hl with | [_, _], _ => rfl)⟩
  have D_Unlike_shows : DfM K C_Unlike "shows" "Unlike.shows" s_Unlike_shows ["self", "one", "other"] := ⟨f_Unlike_shows, _, fun_mk (st := s_Unlike_shows) l_Unlike_shows q_Unlike_shows k_Unlike_shows, ⟨pg_Unlike, hd_Unlike, po_Unlike, sa_Unlike⟩, ⟨a_Unlike_shows, i_Unlike_shows, k_Unlike_shows⟩, (fun_mk (st := s_Unlike_shows) l_Unlike_shows q_Unlike_shows k_Unlike_shows).binds (ps := ["self", "one", "other"]) (fun _ _ _ _ _ _ us hl => match us, hl with | [_, _, _], _ => rfl)⟩
  have D_compared : Df K mg "compared" s_compared ["one", "other"] := df_mk X G a_compared l_compared q_compared k_compared (fun _ _ _ _ _ _ us hl => match us, hl with | [_, _], _ => rfl)
  have D__law_number : Df K mg "_law_number" s__law_number ["_law_cell", "_law_at", "_law_whole"] := df_mk X G a__law_number l__law_number q__law_number k__law_number (fun _ _ _ _ _ _ us hl => match us, hl with | [_, _, _], _ => rfl)
  have D__law_turners : Df K mg "_law_turners" s__law_turners ["_law_script", "_law_by", "_law_most"] := df_mk X G a__law_turners l__law_turners q__law_turners k__law_turners (fun _ _ _ _ _ _ us hl => match us, hl with | [_, _, _], _ => rfl)
  have D__law_open : Df K mg "_law_open" s__law_open ["_law_turners_here", "_law_door"] := df_mk X G a__law_open l__law_open q__law_open k__law_open (fun _ _ _ _ _ _ us hl => match us, hl with | [_, _], _ => rfl)
  have D__law_kept : Df K mg "_law_kept" s__law_kept ["_law_turners_here"] := df_mk X G a__law_kept l__law_kept q__law_kept k__law_kept (fun _ _ _ _ _ _ us hl => match us, hl with | [_], _ => rfl)
  have D__law_due : Df K mg "_law_due" s__law_due ["_law_one", "_law_other", "_law_answer"] := df_mk X G a__law_due l__law_due q__law_due k__law_due (fun _ _ _ _ _ _ us hl => match us, hl with | [_, _, _], _ => rfl)
  have D__law_right : Df K mg "_law_right" s__law_right ["_law_one", "_law_other", "_law_far"] := df_mk X G a__law_right l__law_right q__law_right k__law_right (fun _ _ _ _ _ _ us hl => match us, hl with | [_, _, _], _ => rfl)
  have g_MOST : ∃ t, mg "MOST" = some (.int 40 t) := ⟨_, PySem.W.mg_of X G h_MOST⟩
  have B : Blt mg := ⟨PySem.W.mg_none_of X G z_isinstance, PySem.W.mg_none_of X G z_len, PySem.W.mg_none_of X G z_all, PySem.W.mg_none_of X G z_any, PySem.W.mg_none_of X G z_sum, PySem.W.mg_none_of X G z_abs, PySem.W.mg_none_of X G z_max, PySem.W.mg_none_of X G z_min, PySem.W.mg_none_of X G z_range, PySem.W.mg_none_of X G z_sorted, PySem.W.mg_none_of X G z_enumerate, PySem.W.mg_none_of X G z_int, PySem.W.mg_none_of X G z_bool, PySem.W.mg_none_of X G z_list, PySem.W.mg_none_of X G z_set, PySem.W.mg_none_of X G z_str, PySem.W.mg_none_of X G z_tuple, PySem.W.mg_none_of X G z_ValueError⟩
  have F_law := fun_mk (st := s_law) l_law q_law k_law
  refine ⟨PySem.W.fnOf "law" "law" (defArgs s_law) (defBody s_law) (defScope s_law) .none kV_law dc_law pm_law an_law cd_law ct_law, fun s v => .of_eq rfl, fun base _ _ => ?_⟩
  have c1 := ok_is_number (P := l.prog) (w := w) (base := base) D_is_number B
  have c2 := ok_asked_turners D_asked_turners B g_MOST c1
  have c3 := ok_left_over (P := l.prog) (w := w) (base := base) D_left_over B
  have c4 := ok_Same_shows (CU := C_Unlike) D_Same_shows c3
  have c5 := ok_Unlike___init__ (P := l.prog) (w := w) (base := base) O D_Unlike___init__
  have c6 := ok_Unlike_shows O D_Unlike_shows c3
  have c7 := ok_compared O D_compared c2 c3 c5
  have c8 := ok__law_number (P := l.prog) (w := w) (base := base) D__law_number
  have c9 := ok__law_turners D__law_turners B c8
  have c10 := ok__law_open (P := l.prog) (w := w) (base := base) D__law_open
  have c11 := ok__law_kept (P := l.prog) (w := w) (base := base) D__law_kept B
  have c12 := ok__law_due O D__law_due B c11
  have c13 := ok__law_right O D__law_right B c11 c10 c12 c7 c4 c6
  exact ok_law O F_law B c9 c13 c7
end Dt
open PySem PySem.W PyProof.Rows
set_option maxHeartbeats 0 in
theorem PySem.Challenge.cw_doorturns_k04_whole_compared_holds : PySem.Challenge.rw_doorturns_k04_whole_compared.Holds := by
  w_on; o_law; k_head; (case hw => w_witness2)
  k_fill
  refine L2.walk_ofB (l := PySem.Challenge.rw_doorturns_k04_whole_compared) (n := 63) (k := 5) (x := "_law_script") (CX := fun _ => L2.CX0) (sp := fun w => Dt.spLaw _) rfl (by decide) rfl ⟨rfl, by decide, by decide⟩ (fun w h Y => PySem.W.kIn_of Y) ?F (fun _ _ a ns hl hb _ hS => ⟨a, ns, rfl, hS, hl, hb, fun _ => rfl⟩) (fun _ _ _ _ _ h => h)
  case F =>
    intro w mg fa h KX G hmg
    refine' Dt.all_mk KX G hmg ?aC_Answer ?aC_Same ?pg_Same ?hd_Same ?po_Same ?sa_Same ?mk_Same ?kc_Same ?tp_Same ?ac_Same ?aC_Unlike ?pg_Unlike ?hd_Unlike ?po_Unlike ?sa_Unlike ?mk_Unlike ?kc_Unlike ?tp_Unlike ?ac_Unlike ?in_Same ?no_Unlike ?hn_O ?htk_O ?su_Same_Answer ?su_Same_Same ?su_Same_Unlike ?su_Unlike_Answer ?su_Unlike_Same ?su_Unlike_Unlike ?ic_Answer ?ty_Answer ?ic_Same ?ty_Same ?ic_Unlike ?ty_Unlike ?a_is_number ?l_is_number ?q_is_number ?k_is_number ?a_asked_turners ?l_asked_turners ?q_asked_turners ?k_asked_turners ?a_left_over ?l_left_over ?q_left_over ?k_left_over ?a_Same_shows ?i_Same_shows ?l_Same_shows ?q_Same_shows ?k_Same_shows ?a_Unlike___init__ ?i_Unlike___init__ ?l_Unlike___init__ ?q_Unlike___init__ ?k_Unlike___init__ ?a_Unlike_shows ?i_Unlike_shows ?l_Unlike_shows ?q_Unlike_shows ?k_Unlike_shows ?a_compared ?l_compared ?q_compared ?k_compared ?a__law_number ?l__law_number ?q__law_number ?k__law_number ?a__law_turners ?l__law_turners ?q__law_turners ?k__law_turners ?a__law_open ?l__law_open ?q__law_open ?k__law_open ?a__law_kept ?l__law_kept ?q__law_kept ?k__law_kept ?a__law_due ?l__law_due ?q__law_due ?k__law_due ?a__law_right ?l__law_right ?q__law_right ?k__law_right ?a_law ?l_law ?q_law ?k_law ?h_MOST ?z_isinstance ?z_len ?z_all ?z_any ?z_sum ?z_abs ?z_max ?z_min ?z_range ?z_sorted ?z_enumerate ?z_int ?z_bool ?z_list ?z_set ?z_str ?z_tuple ?z_ValueError
    (case aC_Answer => k_is)
    (case aC_Same => k_is)
    (case pg_Same => k_is)
    (case hd_Same => k_is)
    (case po_Same => k_is)
    (case sa_Same => k_is)
    (case mk_Same => k_is)
    (case kc_Same => k_is)
    (case tp_Same => k_is)
    (case ac_Same => k_is)
    (case aC_Unlike => k_is)
    (case pg_Unlike => k_is)
    (case hd_Unlike => k_is)
    (case po_Unlike => k_is)
    (case sa_Unlike => k_is)
    (case mk_Unlike => k_is)
    (case kc_Unlike => k_is)
    (case tp_Unlike => k_is)
    (case ac_Unlike => k_is)
    (case in_Same => k_is)
    (case no_Unlike => k_is)
    (case hn_O => k_is)
    (case htk_O => k_is)
    (case su_Same_Answer => first | rfl | k_is)
    (case su_Same_Same => first | rfl | k_is)
    (case su_Same_Unlike => first | rfl | k_is)
    (case su_Unlike_Answer => first | rfl | k_is)
    (case su_Unlike_Same => first | rfl | k_is)
    (case su_Unlike_Unlike => first | rfl | k_is)
    (case ic_Answer => k_is)
    (case ty_Answer => k_is)
    (case ic_Same => k_is)
    (case ty_Same => k_is)
    (case ic_Unlike => k_is)
    (case ty_Unlike => k_is)
    (case a_is_number => k_is)
    (case l_is_number => k_is)
    (case q_is_number => k_is)
    (case k_is_number => k_is)
    (case a_asked_turners => k_is)
    (case l_asked_turners => k_is)
    (case q_asked_turners => k_is)
    (case k_asked_turners => k_is)
    (case a_left_over => k_is)
    (case l_left_over => k_is)
    (case q_left_over => k_is)
    (case k_left_over => k_is)
    (case a_Same_shows => k_is)
    (case i_Same_shows => k_is)
    (case l_Same_shows => k_is)
    (case q_Same_shows => k_is)
    (case k_Same_shows => k_is)
    (case a_Unlike___init__ => k_is)
    (case i_Unlike___init__ => k_is)
    (case l_Unlike___init__ => k_is)
    (case q_Unlike___init__ => k_is)
    (case k_Unlike___init__ => k_is)
    (case a_Unlike_shows => k_is)
    (case i_Unlike_shows => k_is)
    (case l_Unlike_shows => k_is)
    (case q_Unlike_shows => k_is)
    (case k_Unlike_shows => k_is)
    (case a_compared => k_is)
    (case l_compared => k_is)
    (case q_compared => k_is)
    (case k_compared => k_is)
    (case a__law_number => k_is)
    (case l__law_number => k_is)
    (case q__law_number => k_is)
    (case k__law_number => k_is)
    (case a__law_turners => k_is)
    (case l__law_turners => k_is)
    (case q__law_turners => k_is)
    (case k__law_turners => k_is)
    (case a__law_open => k_is)
    (case l__law_open => k_is)
    (case q__law_open => k_is)
    (case k__law_open => k_is)
    (case a__law_kept => k_is)
    (case l__law_kept => k_is)
    (case q__law_kept => k_is)
    (case k__law_kept => k_is)
    (case a__law_due => k_is)
    (case l__law_due => k_is)
    (case q__law_due => k_is)
    (case k__law_due => k_is)
    (case a__law_right => k_is)
    (case l__law_right => k_is)
    (case q__law_right => k_is)
    (case k__law_right => k_is)
    (case a_law => k_is)
    (case l_law => k_is)
    (case q_law => k_is)
    (case k_law => k_is)
    (case h_MOST => k_is)
    (case z_isinstance => k_is)
    (case z_len => k_is)
    (case z_all => k_is)
    (case z_any => k_is)
    (case z_sum => k_is)
    (case z_abs => k_is)
    (case z_max => k_is)
    (case z_min => k_is)
    (case z_range => k_is)
    (case z_sorted => k_is)
    (case z_enumerate => k_is)
    (case z_int => k_is)
    (case z_bool => k_is)
    (case z_list => k_is)
    (case z_set => k_is)
    (case z_str => k_is)
    (case z_tuple => k_is)
    (case z_ValueError => k_is)

