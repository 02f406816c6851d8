import PyProof.Rows.All
import Wide.All
import OpenK.AllK
import Wide.FinOn
import HandS.ForMost
import HandS.EndBits
import HandS.Evl
import HandS.IsInst
import HandS.SetFor
import HandS.SortInts
import HandS.Style
import HandS.Wide
import HandS.Walk
import PySem.Challenge.RW_doorturns_k07_whole_all
set_option Elab.async false
set_option linter.all false
set_option maxRecDepth 100000
set_option maxHeartbeats 4000000
/-! Plain laws about turners and doors; core Lean alone. -/
namespace Dt

/-- how many of the turners go into d -/
def hits (ts : List Int) (d : Int) : Nat := ts.countP fun t => decide (d % t = 0)
/-- whether door d stands open behind ts -/
def opn (ts : List Int) (d : Int) : Bool := decide (hits ts d % 2 = 1)

theorem hits_nil (d : Int) : hits [] d = 0 := rfl
theorem hits_app (a b : List Int) (d : Int) : hits (a ++ b) d = hits a d + hits b d := List.countP_append
theorem hits_one (t d : Int) : hits [t] d = if d % t = 0 then 1 else 0 := by
  unfold hits
  by_cases h : d % t = 0 <;> simp [List.countP_cons, h]
theorem hits_cons (t : Int) (r : List Int) (d : Int) : hits (t :: r) d = hits r d + if d % t = 0 then 1 else 0 := by
  have := hits_app [t] r d
  rw [List.singleton_append, hits_one] at this
  omega
theorem opn_nil (d : Int) : opn [] d = false := rfl
theorem par_not (n : Nat) : decide ((n + 1) % 2 = 1) = !decide (n % 2 = 1) := by
  by_cases h : n % 2 = 1
  · rw [decide_eq_true h, decide_eq_false (by omega)]; rfl
  · rw [decide_eq_false h, decide_eq_true (by omega)]; rfl
theorem par_add (m n : Nat) : decide ((m + n) % 2 = 1) = (decide (m % 2 = 1) != decide (n % 2 = 1)) := by
  by_cases h : m % 2 = 1 <;> by_cases g : n % 2 = 1
  · rw [decide_eq_true h, decide_eq_true g, decide_eq_false (by omega)]; rfl
  · rw [decide_eq_true h, decide_eq_false g, decide_eq_true (by omega)]; rfl
  · rw [decide_eq_false h, decide_eq_true g, decide_eq_true (by omega)]; rfl
  · rw [decide_eq_false h, decide_eq_false g, decide_eq_false (by omega)]; rfl
theorem opn_app (a b : List Int) (d : Int) : opn (a ++ b) d = (opn a d != opn b d) := by
  unfold opn
  rw [hits_app, par_add]
theorem opn_snoc (a : List Int) (t d : Int) : opn (a ++ [t]) d = if d % t = 0 then !opn a d else opn a d := by
  unfold opn
  rw [hits_app, hits_one]
  by_cases h : d % t = 0
  · rw [if_pos h, if_pos h, par_not]
  · rw [if_neg h, if_neg h]; rfl
theorem opn_rev (a : List Int) (d : Int) : opn a.reverse d = opn a d := by
  unfold opn hits
  rw [List.countP_reverse]
theorem opn_take {ts : List Int} {i : Nat} {t : Int} (h : ts[i]? = some t) (d : Int) : opn (ts.take (i + 1)) d = if d % t = 0 then !opn (ts.take i) d else opn (ts.take i) d := by
  rw [List.take_add_one, h]
  exact opn_snoc _ _ _
/-- the program's own word for it -/
theorem opn_len (ts : List Int) (d : Int) : decide (((ts.filter fun t => decide (d % t = 0)).length : Int) % 2 = 1) = opn ts d := by
  unfold opn hits
  rw [List.countP_eq_length_filter]
  by_cases h : (ts.filter fun t => decide (d % t = 0)).length % 2 = 1
  · rw [decide_eq_true h, decide_eq_true (by omega)]
  · rw [decide_eq_false h, decide_eq_false (by omega)]

/-! ### kept turners -/
/-- ks: those that stand in ts an odd count of times, rising -/
structure IsKept (ts ks : List Int) : Prop where
  rise : ks.Pairwise (· < ·)
  mem : ∀ x, x ∈ ks ↔ ts.count x % 2 = 1

theorem nodup_of_rise {ks : List Int} (h : ks.Pairwise (· < ·)) : ks.Nodup := h.imp (fun h e => by omega)
theorem rise_eq {a b : List Int} (ha : a.Pairwise (· < ·)) (hb : b.Pairwise (· < ·)) (h : ∀ x, x ∈ a ↔ x ∈ b) : a = b :=
  List.Perm.eq_of_pairwise (le := (· < ·)) (fun x y _ _ h1 h2 => by omega) ha hb ((List.perm_ext_iff_of_nodup (nodup_of_rise ha) (nodup_of_rise hb)).mpr h)
theorem IsKept.uniq {ts a b : List Int} (ha : IsKept ts a) (hb : IsKept ts b) : a = b := rise_eq ha.rise hb.rise fun x => (ha.mem x).trans (hb.mem x).symm
/-- the same counts, the same kept -/
theorem IsKept.of_par {ts us ks : List Int} (h : IsKept ts ks) (e : ∀ x, us.count x % 2 = ts.count x % 2) : IsKept us ks := ⟨h.rise, fun x => by rw [h.mem x, e x]⟩
theorem IsKept.self {ts ks : List Int} (h : IsKept ts ks) : IsKept ks ks := ⟨h.rise, fun x => by
  rw [(nodup_of_rise h.rise).count]
  by_cases e : x ∈ ks
  · simp [e]
  · simp [e]⟩
theorem IsKept.pos {ts ks : List Int} (h : IsKept ts ks) {P : Int → Prop} (hp : ∀ t ∈ ts, P t) : ∀ k ∈ ks, P k := fun k hk => hp k (List.count_pos_iff.mp (by
  have := (h.mem k).mp hk
  omega))

def tog : List Int → List Int
  | [] => []
  | t :: r => if t ∈ tog r then (tog r).erase t else t :: tog r
theorem tog_ok : ∀ ts : List Int, (tog ts).Nodup ∧ (∀ x, x ∈ tog ts ↔ ts.count x % 2 = 1) ∧ ∀ d, hits (tog ts) d % 2 = hits ts d % 2
  | [] => ⟨List.nodup_nil, fun x => by simp [tog], fun d => rfl⟩
  | t :: r => by
    obtain ⟨h1, h2, h3⟩ := tog_ok r
    unfold tog
    by_cases ht : t ∈ tog r
    · rw [if_pos ht]
      refine ⟨h1.erase t, fun x => ?_, fun d => ?_⟩
      · rw [h1.mem_erase_iff, h2 x, List.count_cons]
        have q := (h2 t).mp ht
        by_cases e : x = t
        · subst e
          simp
          omega
        · have e' : (t == x) = false := by simp; exact fun z => e z.symm
          simp [e, e']
      · have p := (List.perm_cons_erase ht).countP_eq fun t => decide (d % t = 0)
        have p' : hits (tog r) d = hits (t :: (tog r).erase t) d := p
        rw [hits_cons] at p'
        have q := h3 d
        rw [hits_cons]
        split at p' <;> split <;> omega
    · rw [if_neg ht]
      refine ⟨List.nodup_cons.mpr ⟨ht, h1⟩, fun x => ?_, fun d => ?_⟩
      · rw [List.mem_cons, h2 x, List.count_cons]
        have q : ¬ (r.count t % 2 = 1) := fun z => ht ((h2 t).mpr z)
        by_cases e : x = t
        · subst e
          simp
          omega
        · have e' : (t == x) = false := by simp; exact fun z => e z.symm
          simp [e, e']
      · rw [hits_cons, hits_cons]
        have q := h3 d
        split <;> omega
theorem IsKept.hits {ts ks : List Int} (h : IsKept ts ks) (d : Int) : hits ks d % 2 = hits ts d % 2 := by
  obtain ⟨h1, h2, h3⟩ := tog_ok ts
  have p : ks.Perm (tog ts) := (List.perm_ext_iff_of_nodup (nodup_of_rise h.rise) h1).mpr fun x => (h.mem x).trans (h2 x).symm
  have q : Dt.hits ks d = Dt.hits (tog ts) d := p.countP_eq _
  rw [q]
  exact h3 d
theorem IsKept.opn {ts ks : List Int} (h : IsKept ts ks) (d : Int) : opn ks d = opn ts d := by
  unfold Dt.opn
  rw [h.hits d]

/-! ### the two loops that find them, over the sorted turners -/
/-- the program's loop: after a front part of the sorted list, the odd ones of it, rising -/
structure LoInv (ts pre f : List Int) : Prop where
  rise : f.Pairwise (· < ·)
  mem : ∀ x, x ∈ f ↔ x ∈ pre ∧ ts.count x % 2 = 1
theorem LoInv.nil (ts : List Int) : LoInv ts [] [] := ⟨List.Pairwise.nil, fun x => by simp⟩
theorem LoInv.skip {ts pre f : List Int} {one : Int} (h : LoInv ts pre f) (hn : ¬ (ts.count one % 2 = 1 ∧ one ∉ f)) : LoInv ts (pre ++ [one]) f := ⟨h.rise, fun x => by
  rw [h.mem x, List.mem_append, List.mem_singleton]
  constructor
  · exact fun z => ⟨.inl z.1, z.2⟩
  · rintro ⟨z | z, w⟩
    · exact ⟨z, w⟩
    · subst z
      by_cases q : x ∈ f
      · exact (h.mem x).mp q
      · exact absurd ⟨w, q⟩ hn⟩
theorem LoInv.put {ts pre f : List Int} {one : Int} (h : LoInv ts pre f) (hs : ∀ x ∈ pre, x ≤ one) (h1 : ts.count one % 2 = 1) (h2 : one ∉ f) : LoInv ts (pre ++ [one]) (f ++ [one]) := by
  refine ⟨List.pairwise_append.mpr ⟨h.rise, List.pairwise_singleton _ _, fun a ha b hb => ?_⟩, fun x => ?_⟩
  · have e : b = one := List.mem_singleton.mp hb
    subst e
    have q := hs a ((h.mem a).mp ha).1
    by_cases e : a = b
    · subst e; exact absurd ha h2
    · omega
  · rw [List.mem_append, h.mem x, List.mem_append, List.mem_singleton]
    constructor
    · rintro (z | z)
      · exact ⟨.inl z.1, z.2⟩
      · subst z; exact ⟨.inr rfl, h1⟩
    · rintro ⟨z | z, w⟩
      · exact .inl ⟨z, w⟩
      · exact .inr z
theorem LoInv.kept {ts s f : List Int} (h : LoInv ts s f) (p : s.Perm ts) : IsKept ts f := ⟨h.rise, fun x => by
  rw [h.mem x]
  constructor
  · exact fun z => z.2
  · exact fun z => ⟨p.mem_iff.mpr (List.count_pos_iff.mp (by omega)), z⟩⟩

/-- the law's own loop: IsKept of the front part itself -/
theorem kept_nil : IsKept [] [] := ⟨List.Pairwise.nil, fun x => by simp⟩
theorem kept_pop {pre f : List Int} {one : Int} (h : IsKept pre (f ++ [one])) : IsKept (pre ++ [one]) f := by
  have hr := List.pairwise_append.mp h.rise
  refine ⟨hr.1, fun x => ?_⟩
  rw [List.count_append, List.count_singleton]
  have q := h.mem x
  rw [List.mem_append, List.mem_singleton] at q
  by_cases e : x = one
  · subst e
    have n : x ∉ f := fun z => by
      have := hr.2.2 x z x (List.mem_singleton.mpr rfl)
      omega
    have w := q.mp (.inr rfl)
    simp only [beq_self_eq_true, if_true]
    constructor
    · exact fun z => absurd z n
    · intro z; omega
  · have e' : (one == x) = false := by simp; exact fun z => e z.symm
    rw [e']
    constructor
    · exact fun z => q.mp (.inl z)
    · intro z
      rcases q.mpr z with w | w
      · exact w
      · exact absurd w e
theorem kept_push {pre f : List Int} {one : Int} (h : IsKept pre f) (hs : ∀ x ∈ pre, x ≤ one) (hl : f.getLast? ≠ some one) : IsKept (pre ++ [one]) (f ++ [one]) := by
  have n : one ∉ f := fun z => by
    have h1 : ∃ g l, f = g ++ [l] := by
      rcases List.eq_nil_or_concat f with e | ⟨g, l, e⟩
      · subst e; cases z
      · exact ⟨g, l, by rw [e, List.concat_eq_append]⟩
    obtain ⟨g, l, rfl⟩ := h1
    have hr := List.pairwise_append.mp h.rise
    rw [List.getLast?_concat] at hl
    rcases List.mem_append.mp z with w | w
    · have a := hr.2.2 one w l (List.mem_singleton.mpr rfl)
      have b := hs l (List.count_pos_iff.mp (by
        have := (h.mem l).mp (List.mem_append.mpr (.inr (List.mem_singleton.mpr rfl)))
        omega))
      omega
    · exact hl (by rw [List.mem_singleton.mp w])
  refine ⟨List.pairwise_append.mpr ⟨h.rise, List.pairwise_singleton _ _, fun a ha b hb => ?_⟩, fun x => ?_⟩
  · have e : b = one := List.mem_singleton.mp hb
    subst e
    have q := hs a (List.count_pos_iff.mp (by
      have := (h.mem a).mp ha
      omega))
    by_cases e : a = b
    · subst e; exact absurd ha n
    · omega
  · rw [List.mem_append, List.mem_singleton, h.mem x, List.count_append, List.count_singleton]
    by_cases e : x = one
    · subst e
      have w : ¬ (pre.count x % 2 = 1) := fun z => n ((h.mem x).mpr z)
      simp
      omega
    · have e' : (one == x) = false := by simp; exact fun z => e z.symm
      simp [e, e']
theorem kept_perm {s ts f : List Int} (h : IsKept s f) (p : s.Perm ts) : IsKept ts f := h.of_par fun x => by rw [p.count_eq]
theorem len_sub : ∀ {ks ts : List Int}, ks.Nodup → (∀ k ∈ ks, k ∈ ts) → ks.length ≤ ts.length
  | [], _, _, _ => Nat.zero_le _
  | k :: r, ts, nd, h => by
    obtain ⟨n1, n2⟩ := List.nodup_cons.mp nd
    have hk := h k List.mem_cons_self
    have ih := len_sub (ks := r) (ts := ts.erase k) n2 fun x hx => by
      have : x ≠ k := fun z => n1 (z ▸ hx)
      exact (List.mem_erase_of_ne this).mpr (h x (List.mem_cons_of_mem _ hx))
    rw [List.length_erase_of_mem hk] at ih
    have : 0 < ts.length := List.length_pos_of_mem hk
    rw [List.length_cons]
    omega
theorem IsKept.len {ts ks : List Int} (h : IsKept ts ks) : ks.length ≤ ts.length := len_sub (nodup_of_rise h.rise) (h.pos fun _ z => z)
/-- a look at written lists -/
def keptB (ts ks : List Int) : Bool := decide (ks.Pairwise (· < ·)) && ks.all (fun k => decide (ts.count k % 2 = 1)) && ts.all fun t => !decide (ts.count t % 2 = 1) || decide (t ∈ ks)
theorem kept_by {ts ks : List Int} (h : keptB ts ks = true) : IsKept ts ks := by
  unfold keptB at h
  simp only [Bool.and_eq_true, decide_eq_true_eq, List.all_eq_true, Bool.or_eq_true, Bool.not_eq_true', decide_eq_false_iff_not] at h
  obtain ⟨⟨h1, h2⟩, h3⟩ := h
  refine ⟨h1, fun x => ⟨h2 x, fun z => ?_⟩⟩
  rcases h3 x (List.count_pos_iff.mp (by omega)) with w | w
  · exact absurd z w
  · exact w
end Dt
namespace Dt
/-! ### the turners that bring told doors (k03) -/
/-- d's multiples: t goes into d, both from 1 on, so t ≤ d -/
theorem le_of_goes {t d : Int} (hd : 0 < d) (h : d % t = 0) : t ≤ d := Int.le_of_dvd hd (Int.dvd_of_emod_eq_zero h)
theorem hits_filter (ts : List Int) (d : Int) : hits ts d = (ts.filter fun t => decide (d % t = 0)).length := List.countP_eq_length_filter
/-- two rising rows that open the same doors up to n, all of them from 1 to n, are one -/
theorem same_rows {a b : List Int} {n : Int} (ha : a.Pairwise (· < ·)) (hb : b.Pairwise (· < ·)) (ra : ∀ x ∈ a, 1 ≤ x ∧ x ≤ n) (rb : ∀ x ∈ b, 1 ≤ x ∧ x ≤ n)
    (h : ∀ d : Int, 1 ≤ d → d ≤ n → opn a d = opn b d) : a = b := by
  have key : ∀ k : Nat, ∀ x : Int, 1 ≤ x → x ≤ k → x ≤ n → (x ∈ a ↔ x ∈ b) := by
    intro k
    induction k with
    | zero => intro x h1 h2; exact absurd h1 (by omega)
    | succ k ih =>
      intro x h1 h2 h3
      by_cases hx : x ≤ (k : Int)
      · exact ih x h1 hx h3
      · have ho := h x h1 h3
        unfold opn at ho
        have sp : ∀ l : List Int, l.Nodup → hits l x = (l.filter fun t => decide (x % t = 0) && decide (t ≠ x)).length + if x ∈ l then 1 else 0 := by
          intro l
          induction l with
          | nil => intro _; simp [hits_nil]
          | cons t r ihl =>
            intro nd
            obtain ⟨nt, nr⟩ := List.nodup_cons.mp nd
            rw [hits_cons, ihl nr, List.filter_cons]
            by_cases e : t = x
            · subst e
              have e1 : t % t = 0 := Int.emod_self
              simp [e1, nt]
            · by_cases g : x % t = 0
              · have e2 : x ≠ t := fun z => e z.symm
                simp [g, e, e2]
                omega
              · have e2 : x ≠ t := fun z => e z.symm
                simp [g, e2]
        have pa := sp a (nodup_of_rise ha)
        have pb := sp b (nodup_of_rise hb)
        have eq : (a.filter fun t => decide (x % t = 0) && decide (t ≠ x)) = (b.filter fun t => decide (x % t = 0) && decide (t ≠ x)) := by
          refine rise_eq (ha.filter _) (hb.filter _) fun y => ?_
          rw [List.mem_filter, List.mem_filter]
          constructor
          · rintro ⟨m, c⟩
            simp only [Bool.and_eq_true, decide_eq_true_eq] at c
            have l1 := le_of_goes (by omega) c.1
            exact ⟨(ih y (ra y m).1 (by omega) (by omega)).mp m, by simp [c.1, c.2]⟩
          · rintro ⟨m, c⟩
            simp only [Bool.and_eq_true, decide_eq_true_eq] at c
            have l1 := le_of_goes (by omega) c.1
            exact ⟨(ih y (rb y m).1 (by omega) (by omega)).mpr m, by simp [c.1, c.2]⟩
        rw [pa, pb, eq] at ho
        by_cases m1 : x ∈ a <;> by_cases m2 : x ∈ b
        · exact ⟨fun _ => m2, fun _ => m1⟩
        · rw [if_pos m1, if_neg m2] at ho
          exfalso
          rw [par_not] at ho
          revert ho
          rw [Nat.add_zero]
          cases decide ((b.filter fun t => decide (x % t = 0) && decide (t ≠ x)).length % 2 = 1) <;> simp
        · rw [if_neg m1, if_pos m2] at ho
          exfalso
          rw [par_not] at ho
          revert ho
          rw [Nat.add_zero]
          cases decide ((b.filter fun t => decide (x % t = 0) && decide (t ≠ x)).length % 2 = 1) <;> simp
        · exact ⟨fun z => absurd z m1, fun z => absurd z m2⟩
  refine rise_eq ha hb fun x => ?_
  constructor
  · intro m
    obtain ⟨h1, h2⟩ := ra x m
    exact (key x.toNat x h1 (by omega) h2).mp m
  · intro m
    obtain ⟨h1, h2⟩ := rb x m
    exact (key x.toNat x h1 (by omega) h2).mpr m

/-- the doors 1 .. n by a test, rising -/
def upto (n : Nat) : List Int := (List.range n).map fun i : Nat => 1 + (i : Int)
theorem mem_upto {n : Nat} {x : Int} : x ∈ upto n ↔ 1 ≤ x ∧ x ≤ n := by
  unfold upto
  rw [List.mem_map]
  constructor
  · rintro ⟨i, hi, rfl⟩
    have := List.mem_range.mp hi
    omega
  · intro h
    exact ⟨(x - 1).toNat, List.mem_range.mpr (by omega), by omega⟩
theorem upto_rise (n : Nat) : (upto n).Pairwise (· < ·) := by
  unfold upto
  rw [List.pairwise_map]
  exact List.pairwise_lt_range.imp fun h => by omega
theorem upto_succ (n : Nat) : upto (n + 1) = upto n ++ [1 + (n : Int)] := by
  unfold upto
  rw [List.range_succ, List.map_append]
  rfl
theorem upto_len (n : Nat) : (upto n).length = n := by
  unfold upto
  simp
/-- which of the first doors stand open -/
def opens (ts : List Int) (n : Nat) : List Int := (upto n).filter fun d => opn ts d
theorem mem_opens {ts : List Int} {n : Nat} {x : Int} : x ∈ opens ts n ↔ (1 ≤ x ∧ x ≤ n) ∧ opn ts x = true := by
  unfold opens
  rw [List.mem_filter, mem_upto]
theorem opens_rise (ts : List Int) (n : Nat) : (opens ts n).Pairwise (· < ·) := (upto_rise n).filter _
theorem opens_succ (ts : List Int) (n : Nat) : opens ts (n + 1) = if opn ts (1 + (n : Int)) = true then opens ts n ++ [1 + (n : Int)] else opens ts n := by
  unfold opens
  rw [upto_succ, List.filter_append]
  by_cases h : opn ts (1 + (n : Int)) = true
  · rw [if_pos h]; simp [h]
  · rw [if_neg h]; simp [h]
/-- a rising list of doors 1 .. n is told by its test -/
theorem opens_eq {ts D : List Int} {n : Nat} (hr : D.Pairwise (· < ·)) (hm : ∀ x ∈ D, 1 ≤ x ∧ x ≤ n) (h : ∀ d : Int, 1 ≤ d → d ≤ n → (opn ts d = true ↔ d ∈ D)) : opens ts n = D :=
  rise_eq (opens_rise ts n) hr fun x => by
    rw [mem_opens]
    constructor
    · rintro ⟨⟨h1, h2⟩, h3⟩
      exact (h x h1 h2).mp h3
    · intro m
      obtain ⟨h1, h2⟩ := hm x m
      exact ⟨⟨h1, h2⟩, (h x h1 h2).mpr m⟩

/-- the sieve's word behind i doors: F found so far; B: which doors are still due -/
structure Sv (D : List Int) (n i : Nat) (F : List Int) (B : Int → Bool) : Prop where
  rise : F.Pairwise (· < ·)
  rng : ∀ x ∈ F, 1 ≤ x ∧ x ≤ i
  due : ∀ d : Int, 1 ≤ d → d ≤ n → B d = (decide (d ∈ D) != opn F d)
  off : ∀ d : Int, 1 ≤ d → d ≤ i → B d = false
theorem Sv.start (D : List Int) (n : Nat) : Sv D n 0 [] (fun d => decide (d ∈ D)) := ⟨List.Pairwise.nil, (fun _ h => nomatch h), fun d _ _ => by rw [opn_nil]; simp, fun d h1 h2 => absurd h1 (by omega)⟩
theorem Sv.skip {D F : List Int} {n i : Nat} {B : Int → Bool} (h : Sv D n i F B) (hi : i < n) (hb : B (1 + (i : Int)) = false) : Sv D n (i + 1) F B :=
  ⟨h.rise, fun x m => by have := h.rng x m; omega, h.due, fun d h1 h2 => by
    by_cases e : d ≤ i
    · exact h.off d h1 e
    · have : d = 1 + (i : Int) := by omega
      rw [this]; exact hb⟩
theorem Sv.put {D F : List Int} {n i : Nat} {B : Int → Bool} (h : Sv D n i F B) (hi : i < n) (hb : B (1 + (i : Int)) = true) :
    Sv D n (i + 1) (F ++ [1 + (i : Int)]) (fun d => if d % (1 + (i : Int)) = 0 then !B d else B d) := by
  refine ⟨List.pairwise_append.mpr ⟨h.rise, List.pairwise_singleton _ _, fun a ha b hb => ?_⟩, fun x m => ?_, fun d h1 h2 => ?_, fun d h1 h2 => ?_⟩
  · have := h.rng a ha
    rw [List.mem_singleton.mp hb]; omega
  · rcases List.mem_append.mp m with m | m
    · have := h.rng x m; omega
    · rw [List.mem_singleton.mp m]; omega
  · rw [opn_snoc]
    by_cases g : d % (1 + (i : Int)) = 0
    · rw [if_pos g, if_pos g, h.due d h1 h2]
      cases decide (d ∈ D) <;> cases opn F d <;> rfl
    · rw [if_neg g, if_neg g]; exact h.due d h1 h2
  · by_cases e : d ≤ i
    · have g : ¬ d % (1 + (i : Int)) = 0 := fun z => by
        have := le_of_goes (by omega) z
        omega
      show (if d % (1 + (i : Int)) = 0 then !B d else B d) = false
      rw [if_neg g]; exact h.off d h1 e
    · have e1 : d = 1 + (i : Int) := by omega
      subst e1
      show (if (1 + (i : Int)) % (1 + (i : Int)) = 0 then !B (1 + (i : Int)) else B (1 + (i : Int))) = false
      rw [if_pos Int.emod_self, hb]; rfl
theorem Sv.done {D F : List Int} {n : Nat} {B : Int → Bool} (h : Sv D n n F B) : ∀ d : Int, 1 ≤ d → d ≤ n → (opn F d = true ↔ d ∈ D) := fun d h1 h2 => by
  have a := h.due d h1 h2
  rw [h.off d h1 h2] at a
  by_cases m : d ∈ D
  · rw [decide_eq_true m] at a
    cases q : opn F d
    · rw [q] at a; cases a
    · exact ⟨fun _ => m, fun _ => rfl⟩
  · rw [decide_eq_false m] at a
    cases q : opn F d
    · exact ⟨(fun z => nomatch z), fun z => absurd z m⟩
    · rw [q] at a; cases a

/-! ### two rows compared (k04) -/
theorem kept_app {a b k1 k2 k3 : List Int} (h1 : IsKept a k1) (h2 : IsKept b k2) (h3 : IsKept (a ++ b) k3) : k1 = k2 ↔ k3 = [] := by
  constructor
  · intro e
    subst e
    refine List.eq_nil_iff_forall_not_mem.mpr fun x m => ?_
    have q := (h3.mem x).mp m
    rw [List.count_append] at q
    by_cases z : x ∈ k1
    · have w1 := (h1.mem x).mp z
      have w2 := (h2.mem x).mp z
      omega
    · have w1 : ¬ (a.count x % 2 = 1) := fun w => z ((h1.mem x).mpr w)
      have w2 : ¬ (b.count x % 2 = 1) := fun w => z ((h2.mem x).mpr w)
      omega
  · intro e
    subst e
    refine rise_eq h1.rise h2.rise fun x => ?_
    have q : ¬ ((a ++ b).count x % 2 = 1) := fun w => by cases (h3.mem x).mpr w
    rw [List.count_append] at q
    rw [h1.mem, h2.mem]
    constructor <;> (intro z; omega)
theorem opn_below {ks : List Int} {x d : Int} (hr : (x :: ks).Pairwise (· < ·)) (hp : 0 < d) (hd : d < x) : opn (x :: ks) d = false := by
  unfold opn hits
  have e : (x :: ks).countP (fun t => decide (d % t = 0)) = 0 := by
    rw [List.countP_eq_zero]
    intro t ht
    have hx : x ≤ t := by
      rcases List.mem_cons.mp ht with e | m
      · omega
      · have := (List.pairwise_cons.mp hr).1 t m; omega
    simp only [decide_eq_true_eq]
    intro z
    have := le_of_goes hp z
    omega
  rw [e]; rfl
theorem opn_first {ks : List Int} {x : Int} (hr : (x :: ks).Pairwise (· < ·)) (hp : 0 < x) : opn (x :: ks) x = true := by
  unfold opn
  rw [hits_cons, if_pos Int.emod_self]
  have e : hits ks x = 0 := by
    unfold hits
    rw [List.countP_eq_zero]
    intro t ht
    have := (List.pairwise_cons.mp hr).1 t ht
    simp only [decide_eq_true_eq]
    intro z
    have := le_of_goes hp z
    omega
  rw [e]; rfl
end Dt
namespace Dt
/-! ### Euclid (common, both) -/
theorem gcd_step {a b : Int} (ha : 0 ≤ a) (hb : 0 < b) : Int.gcd b (a % b) = Int.gcd a b := by
  obtain ⟨m, rfl⟩ := Int.eq_ofNat_of_zero_le ha
  obtain ⟨n, rfl⟩ := Int.eq_ofNat_of_zero_le (Int.le_of_lt hb)
  show Nat.gcd n (m % n) = Nat.gcd m n
  rw [Nat.gcd_comm m n, Nat.gcd_rec n m, Nat.gcd_comm]
def lcmI (a b : Int) : Int := (Int.lcm a b : Nat)
theorem lcm_goes {a b d : Int} : d % lcmI a b = 0 ↔ d % a = 0 ∧ d % b = 0 := by
  unfold lcmI
  rw [← Int.dvd_iff_emod_eq_zero, ← Int.dvd_iff_emod_eq_zero, ← Int.dvd_iff_emod_eq_zero]
  constructor
  · intro h
    exact ⟨Int.dvd_trans (Int.dvd_lcm_left a b) h, Int.dvd_trans (Int.dvd_lcm_right a b) h⟩
  · rintro ⟨h1, h2⟩
    exact Int.coe_lcm_dvd h1 h2
theorem lcm_prog {a b : Int} (ha : 0 < a) (hb : 0 < b) : a / (Int.gcd a b : Nat) * b = lcmI a b := by
  obtain ⟨m, rfl⟩ := Int.eq_ofNat_of_zero_le (Int.le_of_lt ha)
  obtain ⟨n, rfl⟩ := Int.eq_ofNat_of_zero_le (Int.le_of_lt hb)
  show ((m : Int) / (Nat.gcd m n : Nat)) * (n : Int) = ((Nat.lcm m n : Nat) : Int)
  rw [← Int.natCast_ediv, ← Int.natCast_mul]
  congr 1
  unfold Nat.lcm
  rw [Nat.div_mul_right_comm (Nat.gcd_dvd_left m n)]
theorem gcd_pos {a b : Int} (ha : 0 < a) : 0 < ((Int.gcd a b : Nat) : Int) := by
  have : 0 < Int.gcd a b := Int.gcd_pos_of_ne_zero_left b (by omega)
  omega
theorem gcd_le_right {a b : Int} (hb : 0 < b) : ((Int.gcd a b : Nat) : Int) ≤ b := Int.le_of_dvd hb (Int.gcd_dvd_right a b)
theorem gcd_le_left {a b : Int} (ha : 0 < a) : ((Int.gcd a b : Nat) : Int) ≤ a := Int.le_of_dvd ha (Int.gcd_dvd_left a b)
theorem lcm_pos {a b : Int} (ha : 0 < a) (hb : 0 < b) : 0 < lcmI a b := by
  unfold lcmI
  have : 0 < Int.lcm a b := Int.lcm_pos (by omega) (by omega)
  omega
theorem lcm_le {a b : Int} (ha : 0 < a) (hb : 0 < b) : lcmI a b ≤ a * b := Int.le_of_dvd (Int.mul_pos ha hb) (Int.coe_lcm_dvd (Int.dvd_mul_right a b) (Int.dvd_mul_left a b))
theorem lcm_one (a : Int) (ha : 0 < a) : lcmI 1 a = a := by
  have h1 : lcmI 1 a ∣ a := Int.coe_lcm_dvd (Int.one_dvd a) (Int.dvd_refl a)
  have h2 : a ∣ lcmI 1 a := Int.dvd_lcm_right 1 a
  have p := lcm_pos (a := 1) (by decide) ha
  have := Int.le_of_dvd ha h1
  have := Int.le_of_dvd p h2
  omega

/-! ### how many (k05) -/
abbrev Term := Int × Int
def nextT (one : Int) (ts : List Term) : List Term := ts ++ ts.map fun p => (lcmI p.1 one, -2 * p.2)
def terms : List Int → List Term → List Term
  | [], ts => ts
  | k :: r, ts => terms r (nextT k ts)
/-- the terms' worth at one door -/
def tv (ts : List Term) (d : Int) : Int := (ts.map fun p => if d % p.1 = 0 then p.2 else 0).sum
/-- the terms' worth over n doors, as the program adds it up -/
def tw (ts : List Term) (n : Int) : Int := (ts.map fun p => p.2 * (n / p.1)).sum
theorem tv_app (a b : List Term) (d : Int) : tv (a ++ b) d = tv a d + tv b d := by
  unfold tv
  rw [List.map_append, List.sum_append]
theorem tv_lcm (one d : Int) : ∀ ts : List Term, tv (ts.map fun p => (lcmI p.1 one, -2 * p.2)) d = if d % one = 0 then -2 * tv ts d else 0
  | [] => by simp [tv]
  | p :: r => by
    have ih := tv_lcm one d r
    unfold tv at ih ⊢
    simp only [List.map_cons, List.sum_cons]
    rw [ih]
    by_cases h : d % one = 0
    · rw [if_pos h, if_pos h]
      by_cases g : d % p.1 = 0
      · rw [if_pos (lcm_goes.mpr ⟨g, h⟩), if_pos g]; omega
      · rw [if_neg (fun z => g (lcm_goes.mp z).1), if_neg g]; omega
    · rw [if_neg h, if_neg h, if_neg (fun z => h (lcm_goes.mp z).2)]; rfl
theorem tv_next (one d : Int) (ts : List Term) : tv (nextT one ts) d = if d % one = 0 then - tv ts d else tv ts d := by
  unfold nextT
  rw [tv_app, tv_lcm]
  split <;> omega
/-- 1 at a shut door, -1 at an open one -/
def sg (b : Bool) : Int := if b then -1 else 1
theorem sg_not (b : Bool) : sg (!b) = - sg b := by cases b <;> rfl
theorem tv_snoc {ts : List Term} {pre : List Int} {k d : Int} (h : tv ts d = sg (opn pre d)) : tv (nextT k ts) d = sg (opn (pre ++ [k]) d) := by
  rw [tv_next, opn_snoc, h]
  by_cases g : d % k = 0
  · rw [if_pos g, if_pos g, sg_not]
  · rw [if_neg g, if_neg g]
theorem tv_start (d : Int) : tv [(1, 1)] d = sg (opn [] d) := by
  rw [opn_nil]
  simp [tv, sg, Int.emod_one]
/-- how many of the first n doors stand open -/
def cnt (ts : List Int) : Nat → Nat
  | 0 => 0
  | n + 1 => cnt ts n + if opn ts (1 + (n : Int)) = true then 1 else 0
theorem cnt_opens (ts : List Int) : ∀ n, (opens ts n).length = cnt ts n
  | 0 => rfl
  | n + 1 => by
    rw [opens_succ, cnt, ← cnt_opens ts n]
    split <;> simp
theorem cnt_le (ts : List Int) : ∀ n, cnt ts n ≤ n
  | 0 => Nat.le_refl _
  | n + 1 => by
    have := cnt_le ts n
    rw [cnt]
    split <;> omega
theorem div_succ {n : Nat} {s : Int} (hs : 0 < s) : ((n : Int) + 1) / s = (n : Int) / s + if (1 + (n : Int)) % s = 0 then 1 else 0 := by
  obtain ⟨m, rfl⟩ := Int.eq_ofNat_of_zero_le (Int.le_of_lt hs)
  have e : ((n : Int) + 1) / (m : Int) = (((n + 1) / m : Nat) : Int) := by rw [Int.natCast_ediv]; rfl
  rw [e, Nat.succ_div]
  have e2 : ((n : Int)) / (m : Int) = ((n / m : Nat) : Int) := by rw [Int.natCast_ediv]
  rw [e2]
  have e3 : (m ∣ n + 1) ↔ (1 + (n : Int)) % (m : Int) = 0 := by
    rw [← Int.dvd_iff_emod_eq_zero, ← Int.natCast_dvd_natCast]
    have : ((n + 1 : Nat) : Int) = 1 + (n : Int) := by omega
    rw [this]
  by_cases h : m ∣ n + 1
  · rw [if_pos h, if_pos (e3.mp h)]; rfl
  · rw [if_neg h, if_neg (fun z => h (e3.mpr z))]; rfl
theorem tw_succ {n : Nat} : ∀ {ts : List Term}, (∀ p ∈ ts, 0 < p.1) → tw ts ((n : Int) + 1) = tw ts n + tv ts (1 + (n : Int))
  | [], _ => rfl
  | p :: r, h => by
    have ih := tw_succ (n := n) (ts := r) fun q hq => h q (List.mem_cons_of_mem _ hq)
    unfold tw tv at ih ⊢
    simp only [List.map_cons, List.sum_cons]
    rw [ih, div_succ (h p List.mem_cons_self)]
    by_cases g : (1 + (n : Int)) % p.1 = 0
    · rw [if_pos g, if_pos g, Int.mul_add, Int.mul_one]; omega
    · rw [if_neg g, if_neg g, Int.add_zero]; omega
theorem tw_zero : ∀ ts : List Term, tw ts 0 = 0
  | [] => rfl
  | p :: r => by
    have ih := tw_zero r
    unfold tw at ih ⊢
    simp only [List.map_cons, List.sum_cons]
    rw [ih]; simp
theorem tw_cnt {ts : List Term} {ks : List Int} (hp : ∀ p ∈ ts, 0 < p.1) (h : ∀ d, tv ts d = sg (opn ks d)) : ∀ n : Nat, tw ts n = (n : Int) - 2 * (cnt ks n : Int)
  | 0 => by rw [show ((0 : Nat) : Int) = 0 from rfl, tw_zero]; rfl
  | n + 1 => by
    have ih := tw_cnt hp h n
    rw [show ((n + 1 : Nat) : Int) = (n : Int) + 1 from rfl, tw_succ hp, ih, h, cnt]
    cases opn ks (1 + (n : Int)) <;> simp [sg] <;> omega
/-- the program's end: without the first term, by -2 -/
theorem tw_end {r : List Term} {ks : List Int} (hp : ∀ p ∈ r, 0 < p.1) (h : ∀ d, tv ((1, 1) :: r) d = sg (opn ks d)) (n : Nat) : (tw r n).fdiv (-2) = (cnt ks n : Int) := by
  have a := tw_cnt (ts := (1, 1) :: r) (fun p hm => by
    rcases List.mem_cons.mp hm with e | m
    · rw [e]; decide
    · exact hp p m) h n
  have b : tw ((1, 1) :: r) n = (n : Int) + tw r n := by
    unfold tw
    simp only [List.map_cons, List.sum_cons]
    simp
  rw [b] at a
  have c : tw r n = (cnt ks n : Int) * (-2) := by omega
  rw [c, Int.mul_fdiv_cancel _ (by decide)]
theorem nextT_head (k : Int) (r : List Term) : nextT k ((1, 1) :: r) = (1, 1) :: (r ++ (((1, 1) :: r).map fun p => (lcmI p.1 k, -2 * p.2))) := rfl
theorem nextT_pos {k : Int} {ts : List Term} (hk : 0 < k) (hp : ∀ p ∈ ts, 0 < p.1) : ∀ p ∈ nextT k ts, 0 < p.1 := fun p hm => by
  rcases List.mem_append.mp hm with m | m
  · exact hp p m
  · obtain ⟨q, hq, rfl⟩ := List.mem_map.mp m
    exact lcm_pos (hp q hq) hk

/-! ### the round -/
def rnd (ks : List Int) : Int := ks.foldl lcmI 1
theorem rnd_snoc (ks : List Int) (k : Int) : rnd (ks ++ [k]) = lcmI (rnd ks) k := by
  unfold rnd
  rw [List.foldl_append]; rfl
theorem foldl_lcm : ∀ (ks : List Int) (a : Int), 0 < a → (∀ k ∈ ks, 0 < k) → 0 < ks.foldl lcmI a ∧ ∀ d, d % (ks.foldl lcmI a) = 0 ↔ d % a = 0 ∧ ∀ k ∈ ks, d % k = 0
  | [], a, ha, _ => ⟨ha, fun d => by simp⟩
  | k :: r, a, ha, h => by
    obtain ⟨h1, h2⟩ := foldl_lcm r (lcmI a k) (lcm_pos ha (h k List.mem_cons_self)) fun q hq => h q (List.mem_cons_of_mem _ hq)
    refine ⟨h1, fun d => ?_⟩
    show d % (r.foldl lcmI (lcmI a k)) = 0 ↔ _
    rw [h2 d, lcm_goes]
    constructor
    · rintro ⟨⟨p, q⟩, s⟩
      exact ⟨p, fun x hx => (List.mem_cons.mp hx).elim (fun e => e ▸ q) (s x)⟩
    · rintro ⟨p, s⟩
      exact ⟨⟨p, s k List.mem_cons_self⟩, fun x hx => s x (List.mem_cons_of_mem _ hx)⟩
theorem rnd_pos {ks : List Int} (h : ∀ k ∈ ks, 0 < k) : 0 < rnd ks := (foldl_lcm ks 1 (by decide) h).1
theorem rnd_goes {ks : List Int} (h : ∀ k ∈ ks, 0 < k) (d : Int) : d % rnd ks = 0 ↔ ∀ k ∈ ks, d % k = 0 := by
  have := (foldl_lcm ks 1 (by decide) h).2 d
  unfold rnd
  rw [this]
  constructor
  · exact fun z => z.2
  · exact fun z => ⟨Int.emod_one d, z⟩
theorem into_rnd {ks : List Int} (h : ∀ k ∈ ks, 0 < k) : ∀ k ∈ ks, k ∣ rnd ks := fun k hk => Int.dvd_of_emod_eq_zero ((rnd_goes h (rnd ks)).mp Int.emod_self k hk)
theorem hits_shift {ks : List Int} {p : Int} (h : ∀ k ∈ ks, k ∣ p) (d : Int) : hits ks (d + p) = hits ks d := by
  unfold hits
  refine List.countP_congr fun k hk => ?_
  obtain ⟨c, rfl⟩ := h k hk
  simp only [decide_eq_true_eq]
  rw [Int.add_mul_emod_self_left]
theorem opn_shift {ks : List Int} {p : Int} (h : ∀ k ∈ ks, k ∣ p) (d : Int) : opn ks (d + p) = opn ks d := by
  unfold opn
  rw [hits_shift h]
theorem cnt_shift {ks : List Int} {L : Nat} (h : ∀ k ∈ ks, k ∣ (L : Int)) : ∀ m, cnt ks (L + m) = cnt ks L + cnt ks m
  | 0 => rfl
  | m + 1 => by
    rw [← Nat.add_assoc, cnt, cnt, cnt_shift h m]
    have e : (1 + ((L + m : Nat) : Int)) = (1 + (m : Int)) + (L : Int) := by omega
    rw [e, opn_shift h]
    omega
theorem cnt_mul {ks : List Int} {L : Nat} (h : ∀ k ∈ ks, k ∣ (L : Int)) (r : Nat) : ∀ q, cnt ks (q * L + r) = q * cnt ks L + cnt ks r
  | 0 => by simp
  | q + 1 => by
    rw [Nat.succ_mul, Nat.succ_mul, Nat.add_assoc, Nat.add_comm L r, ← Nat.add_assoc, Nat.add_comm _ L, cnt_shift h, cnt_mul h r q]
    omega

/-! ### no lesser round (k06) -/
theorem free_part (a : Nat) : ∀ n L : Nat, L ≤ n → 0 < L → ∃ c N, Nat.Coprime c a ∧ L ∣ c * a ^ N
  | 0, L, h, h0 => absurd h (by omega)
  | n + 1, L, h, h0 => by
    by_cases g : Nat.gcd L a = 1
    · exact ⟨L, 0, g, by rw [Nat.pow_zero, Nat.mul_one]; exact Nat.dvd_refl L⟩
    · have gp : 0 < Nat.gcd L a := Nat.gcd_pos_of_pos_left a h0
      obtain ⟨L1, e⟩ := Nat.gcd_dvd_left L a
      have l0 : 0 < L1 := Nat.pos_of_ne_zero fun z => by rw [z, Nat.mul_zero] at e; omega
      have l1 : L1 < L := by
        have : 2 * L1 ≤ Nat.gcd L a * L1 := Nat.mul_le_mul_right _ (by omega)
        omega
      obtain ⟨c, N, hc, hd⟩ := free_part a n L1 (by omega) l0
      refine ⟨c, N + 1, hc, ?_⟩
      have : Nat.gcd L a * L1 ∣ a * (c * a ^ N) := Nat.mul_dvd_mul (Nat.gcd_dvd_right L a) hd
      rw [← e] at this
      rw [Nat.pow_succ, ← Nat.mul_assoc, Nat.mul_comm (c * a ^ N) a]
      exact this
theorem lift_coprime {a m L : Nat} (hL : 0 < L) (h : Nat.Coprime a m) : ∃ j, Nat.Coprime (a + j * m) L := by
  obtain ⟨c, N, hc, hd⟩ := free_part a L L (Nat.le_refl L) hL
  refine ⟨c, ?_⟩
  have h1 : Nat.Coprime (a + c * m) c := by
    show Nat.gcd (a + c * m) c = 1
    rw [Nat.gcd_add_mul_left_left]
    exact hc.symm
  have h2 : Nat.Coprime (a + c * m) a := by
    show Nat.gcd (a + c * m) a = 1
    have e : a + c * m = c * m + a * 1 := by omega
    rw [e, Nat.gcd_add_mul_left_left]
    have : Nat.Coprime (c * m) a := (Nat.Coprime.mul_right hc.symm h).symm
    exact this
  exact Nat.Coprime.coprime_dvd_right hd (Nat.Coprime.mul_right h1 (Nat.Coprime.pow_right N h2))
theorem far_door {k p L : Nat} (hk : 0 < k) (hL : 0 < L) : ∃ j, ∀ s, s ∣ L → (s ∣ k + j * p ↔ s ∣ k ∧ s ∣ p) := by
  have hg : 0 < Nat.gcd k p := Nat.gcd_pos_of_pos_left p hk
  obtain ⟨j, hj⟩ := lift_coprime (L := L) hL (Nat.coprime_div_gcd_div_gcd hg)
  refine ⟨j, fun s hs => ⟨fun h => ?_, fun h => Nat.dvd_add h.1 (Nat.dvd_mul_left_of_dvd h.2 j)⟩⟩
  have e : k + j * p = Nat.gcd k p * (k / Nat.gcd k p + j * (p / Nat.gcd k p)) := by
    rw [Nat.mul_add, Nat.mul_div_cancel' (Nat.gcd_dvd_left k p), ← Nat.mul_assoc, Nat.mul_comm _ j, Nat.mul_assoc, Nat.mul_div_cancel' (Nat.gcd_dvd_right k p)]
  have c : Nat.Coprime s (k / Nat.gcd k p + j * (p / Nat.gcd k p)) := (Nat.Coprime.coprime_dvd_right hs hj).symm
  rw [e] at h
  have q := c.dvd_of_dvd_mul_right h
  exact Nat.dvd_gcd_iff.mp q
theorem goes_nat {t d : Nat} : ((d : Int) % (t : Int) = 0) ↔ t ∣ d := by rw [← Int.dvd_iff_emod_eq_zero, Int.natCast_dvd_natCast]
/-- in a rising row the least k that doesn't go into p: at the door k + j p just those of k's divisors that go into p count -/
theorem no_less {ks : List Int} {p : Int} (hr : ks.Pairwise (· < ·)) (hp : ∀ k ∈ ks, 0 < k) (h1 : 1 ≤ p) (hall : ∀ d : Int, 1 ≤ d → opn ks d = opn ks (d + p)) : ∀ k ∈ ks, k ∣ p := by
  have hj : ∀ (j : Nat) (d : Int), 1 ≤ d → opn ks d = opn ks (d + j * p) := by
    intro j
    induction j with
    | zero => intro d _; simp
    | succ j ih =>
      intro d hd
      have h0 : 0 ≤ (j : Int) * p := Int.mul_nonneg (by omega) (by omega)
      rw [ih d hd, hall (d + j * p) (by omega)]
      have e : ((j + 1 : Nat) : Int) * p = (j : Int) * p + p := by
        rw [show ((j + 1 : Nat) : Int) = (j : Int) + 1 from rfl, Int.add_mul, Int.one_mul]
      rw [e, Int.add_assoc]
  have key : ∀ n : Nat, ∀ k ∈ ks, k ≤ n → k ∣ p := by
    intro n
    induction n with
    | zero => intro k hk hn; have := hp k hk; omega
    | succ n ih =>
      intro k hk hn
      by_cases hlt : k ≤ n
      · exact ih k hk hlt
      · by_cases hd : k ∣ p
        · exact hd
        · exfalso
          have kp := hp k hk
          have Lp := rnd_pos hp
          obtain ⟨kn, ek⟩ := Int.eq_ofNat_of_zero_le (Int.le_of_lt kp)
          obtain ⟨pn, ep⟩ := Int.eq_ofNat_of_zero_le (show 0 ≤ p by omega)
          obtain ⟨Ln, eL⟩ := Int.eq_ofNat_of_zero_le (Int.le_of_lt Lp)
          obtain ⟨j, hjs⟩ := far_door (k := kn) (p := pn) (L := Ln) (by omega) (by omega)
          have a := hj j k (by omega)
          -- at k: those below that go into k and p, and k itself
          have e1 : hits ks (k + j * p) = (ks.filter fun t => decide (k % t = 0) && decide (p % t = 0)).length := by
            rw [hits_filter]
            refine congrArg List.length (List.filter_congr fun t ht => ?_)
            have tp := hp t ht
            obtain ⟨tn, et⟩ := Int.eq_ofNat_of_zero_le (Int.le_of_lt tp)
            have dl : tn ∣ Ln := by
              have := into_rnd hp t ht
              rw [et, eL] at this
              exact Int.natCast_dvd_natCast.mp this
            have q := hjs tn dl
            have w : (k + j * p) = ((kn + j * pn : Nat) : Int) := by
              rw [ek, ep]
              show (kn : Int) + (j : Int) * (pn : Int) = _
              rw [Int.natCast_add, Int.natCast_mul]
            rw [w, ek, ep, et]
            show decide (((kn + j * pn : Nat) : Int) % (tn : Int) = 0) = (decide ((kn : Int) % (tn : Int) = 0) && decide ((pn : Int) % (tn : Int) = 0))
            rw [Bool.eq_iff_iff, Bool.and_eq_true, decide_eq_true_eq, decide_eq_true_eq, decide_eq_true_eq, goes_nat, goes_nat, goes_nat]
            exact q
          have e2 : ∀ l : List Int, l.Nodup → (∀ t ∈ l, t ∈ ks) → hits l k = (l.filter fun t => decide (k % t = 0) && decide (p % t = 0)).length + if k ∈ l then 1 else 0 := by
            intro l
            induction l with
            | nil => intro _ _; simp [hits_nil]
            | cons t r ihl =>
              intro nd sub
              obtain ⟨nt, nr⟩ := List.nodup_cons.mp nd
              rw [hits_cons, ihl nr fun t ht => sub t (List.mem_cons_of_mem _ ht), List.filter_cons]
              have tk := sub t List.mem_cons_self
              by_cases e : t = k
              · subst e
                have f : ¬ p % t = 0 := fun z => hd (Int.dvd_of_emod_eq_zero z)
                have f2 : t % t = 0 := Int.emod_self
                simp [f, f2, nt]
              · have e' : k ≠ t := fun z => e z.symm
                by_cases g : k % t = 0
                · have l1 := le_of_goes kp g
                  have g2 : p % t = 0 := Int.emod_eq_zero_of_dvd (ih t tk (by omega))
                  simp [g, g2, e']
                  omega
                · simp [g, e']
          have e3 := e2 ks (nodup_of_rise hr) fun _ h => h
          rw [if_pos hk] at e3
          unfold opn at a
          rw [e1, e3, par_not] at a
          revert a
          cases decide ((ks.filter fun t => decide (k % t = 0) && decide (p % t = 0)).length % 2 = 1) <;> simp
  intro k hk
  exact key k.toNat k hk (by have := hp k hk; omega)
/-- a number below the round is no round: some of the first doors, as many as the round, tells -/
theorem round_least {ks : List Int} {p : Int} (hr : ks.Pairwise (· < ·)) (hp : ∀ k ∈ ks, 0 < k) (h1 : 1 ≤ p) (h2 : p < rnd ks) : ¬ ∀ d : Int, 1 ≤ d → d ≤ rnd ks → opn ks d = opn ks (d + p) := by
  intro h
  have Lp := rnd_pos hp
  have inL := into_rnd hp
  have all : ∀ (n : Nat) (d : Int), 1 ≤ d → d ≤ n → opn ks d = opn ks (d + p) := by
    intro n
    induction n with
    | zero => intro d a b; omega
    | succ n ih =>
      intro d a b
      by_cases c : d ≤ rnd ks
      · exact h d a c
      · have q := ih (d - rnd ks) (by omega) (by omega)
        have s1 := opn_shift inL (d - rnd ks)
        have s2 := opn_shift inL (d - rnd ks + p)
        rw [show d - rnd ks + rnd ks = d by omega] at s1
        rw [show d - rnd ks + p + rnd ks = d + p by omega] at s2
        rw [s1, s2, q]
  have k := no_less hr hp h1 fun d hd => all d.toNat d hd (by omega)
  have z := (rnd_goes hp p).mpr fun x hx => Int.emod_eq_zero_of_dvd (k x hx)
  have := Int.le_of_dvd (by omega) (Int.dvd_of_emod_eq_zero z)
  omega
end Dt
namespace Dt
/-! ### the root (k07) -/
structure IsRoot (n r : Int) : Prop where
  nn : 0 ≤ r
  le : r * r ≤ n
  lt : n < (r + 1) * (r + 1)
theorem sq_mono {a b : Int} (ha : 0 ≤ a) (h : a ≤ b) : a * a ≤ b * b := Int.mul_le_mul h h ha (by omega)
theorem IsRoot.uniq {n r s : Int} (hr : IsRoot n r) (hs : IsRoot n s) : r = s := by
  have h1 := hr.le; have h2 := hr.lt; have h3 := hs.le; have h4 := hs.lt
  have p := hr.nn; have q := hs.nn
  by_cases a : r < s
  · have := sq_mono (a := r + 1) (b := s) (by omega) (by omega)
    omega
  · by_cases b : s < r
    · have := sq_mono (a := s + 1) (b := r) (by omega) (by omega)
      omega
    · omega
theorem IsRoot.sq {r : Int} (h : 0 ≤ r) : IsRoot (r * r) r := ⟨h, Int.le_refl _, by
  have : (r + 1) * (r + 1) = r * r + 2 * r + 1 := by
    rw [Int.add_mul, Int.mul_add, Int.one_mul, Int.mul_one]; omega
  omega⟩
theorem IsRoot.sq_less {r : Int} (h : 0 < r) : IsRoot (r * r - 1) (r - 1) := ⟨by omega, by
  have : (r - 1) * (r - 1) = r * r - 2 * r + 1 := by
    rw [Int.sub_mul, Int.mul_sub, Int.one_mul, Int.mul_one]; omega
  omega, by rw [show r - 1 + 1 = r by omega]; omega⟩
theorem le_sq {h n : Int} (h1 : 1 ≤ h) (h2 : h * h ≤ n) : h ≤ n := by
  have : h * 1 ≤ h * h := Int.mul_le_mul_of_nonneg_left h1 (by omega)
  omega

/-! ### a stretch of turners (k07) -/
def inR (f l d : Int) : Bool := decide (f ≤ d) && decide (d ≤ l)
def dv (f l n d : Int) : Bool := decide (n % d = 0) && inR f l d
def pa (f l n at_ d : Int) : Bool := dv f l n d && (decide (d < at_) || decide (n / d < at_))
/-- those of the stretch that go into n, told so far; all of them -/
def cS (f l n at_ : Int) : Nat := (upto n.toNat).countP (pa f l n at_)
def cA (f l n : Int) : Nat := (upto n.toNat).countP (dv f l n)
theorem upto_nodup (n : Nat) : (upto n).Nodup := nodup_of_rise (upto_rise n)
theorem countP_one {l : List Int} {p q : Int → Bool} {x : Int} (nd : l.Nodup) (hx : x ∈ l) (px : p x = false) (h : ∀ d ∈ l, q d = (p d || decide (d = x))) : l.countP q = l.countP p + 1 := by
  induction l with
  | nil => cases hx
  | cons t r ih =>
    obtain ⟨nt, nr⟩ := List.nodup_cons.mp nd
    rw [List.countP_cons, List.countP_cons]
    have ht := h t List.mem_cons_self
    by_cases e : t = x
    · subst e
      have same : r.countP q = r.countP p := List.countP_congr fun d hd => by
        have : d ≠ t := fun z => nt (z ▸ hd)
        rw [h d (List.mem_cons_of_mem _ hd)]; simp [this]
      rw [same, ht, px]; simp
    · have hx' : x ∈ r := (List.mem_cons.mp hx).resolve_left fun z => e z.symm
      have a := ih nr hx' fun d hd => h d (List.mem_cons_of_mem _ hd)
      rw [a, ht]
      simp [e]
      omega
theorem cS_start (f l n : Int) : cS f l n 1 = 0 := by
  unfold cS
  rw [List.countP_eq_zero]
  intro d hd
  have h := mem_upto.mp hd
  unfold pa
  have a : ¬ d < 1 := by omega
  have b : ¬ n / d < 1 := by
    have : 1 ≤ n / d := (Int.le_ediv_iff_mul_le (by omega)).mpr (by omega)
    omega
  simp [a, b]
theorem mul_div_self {a e : Int} (ha : 0 < a) : a * e / a = e := Int.mul_ediv_cancel_left e (by omega)
theorem cS_none {f l n at_ : Int} (h1 : 1 ≤ at_) (hg : ¬ n % at_ = 0) : cS f l n (at_ + 1) = cS f l n at_ := by
  unfold cS
  refine List.countP_congr fun d hd => ?_
  have h := mem_upto.mp hd
  unfold pa dv
  by_cases g : n % d = 0
  · have a : d ≠ at_ := fun z => hg (z ▸ g)
    have b : n / d ≠ at_ := fun z => hg (by
      have e : d * (n / d) = n := Int.mul_ediv_cancel' (Int.dvd_of_emod_eq_zero g)
      rw [z] at e
      rw [← e]; exact Int.mul_emod_left d at_)
    have c1 : d < at_ + 1 ↔ d < at_ := by omega
    have c2 : n / d < at_ + 1 ↔ n / d < at_ := by omega
    simp [g, c1, c2]
  · simp [g]
theorem cS_step {f l at_ e : Int} (h1 : 1 ≤ at_) (h2 : at_ ≤ e) :
    cS f l (at_ * e) (at_ + 1) = cS f l (at_ * e) at_ + (if inR f l at_ = true then 1 else 0) + (if at_ < e then (if inR f l e = true then 1 else 0) else 0) := by
  have hn : 1 ≤ at_ * e := by
    have : 1 * 1 ≤ at_ * e := Int.mul_le_mul h1 (by omega) (by omega) (by omega)
    omega
  have hea : e ≤ at_ * e := by
    have : 1 * e ≤ at_ * e := Int.mul_le_mul_of_nonneg_right h1 (by omega)
    omega
  have m1 : at_ ∈ upto (at_ * e).toNat := mem_upto.mpr (by omega)
  have m2 : e ∈ upto (at_ * e).toNat := mem_upto.mpr (by omega)
  have d1 : at_ * e % at_ = 0 := Int.mul_emod_right at_ e
  have d2 : at_ * e % e = 0 := Int.mul_emod_left at_ e
  have q1 : at_ * e / at_ = e := mul_div_self (by omega)
  have q2 : at_ * e / e = at_ := Int.mul_ediv_cancel at_ (by omega)
  have p1 : pa f l (at_ * e) at_ at_ = false := by
    unfold pa
    rw [q1]
    have : ¬ e < at_ := by omega
    simp [this]
  have p2 : pa f l (at_ * e) at_ e = false := by
    unfold pa
    rw [q2]
    have : ¬ e < at_ := by omega
    simp [this]
  -- the test of the next turn
  have nx : ∀ d ∈ upto (at_ * e).toNat, pa f l (at_ * e) (at_ + 1) d = (pa f l (at_ * e) at_ d || (inR f l d && (decide (d = at_) || decide (d = e)))) := by
    intro d hd
    have h := mem_upto.mp hd
    unfold pa dv
    by_cases g : at_ * e % d = 0
    · have ed : d * (at_ * e / d) = at_ * e := Int.mul_ediv_cancel' (Int.dvd_of_emod_eq_zero g)
      have c2 : (at_ * e / d = at_) ↔ d = e := by
        constructor
        · intro z
          rw [z, Int.mul_comm d at_] at ed
          exact Int.eq_of_mul_eq_mul_left (by omega) ed
        · intro z
          rw [z]; exact q2
      have c1 : d < at_ + 1 ↔ d < at_ ∨ d = at_ := by omega
      have c3 : at_ * e / d < at_ + 1 ↔ at_ * e / d < at_ ∨ at_ * e / d = at_ := by omega
      have k1 : decide (d < at_ + 1) = (decide (d < at_) || decide (d = at_)) := by rw [Bool.eq_iff_iff]; simp [c1]
      have k2 : decide (at_ * e / d < at_ + 1) = (decide (at_ * e / d < at_) || decide (d = e)) := by rw [Bool.eq_iff_iff]; simp [c3, c2]
      rw [k1, k2, decide_eq_true g]
      cases inR f l d <;> cases decide (d < at_) <;> cases decide (d = at_) <;> cases decide (at_ * e / d < at_) <;> cases decide (d = e) <;> rfl
    · have a1 : d ≠ at_ := fun z => g (z ▸ d1)
      have a2 : d ≠ e := fun z => g (z ▸ d2)
      simp [g, a1, a2]
  unfold cS
  have nd := upto_nodup (at_ * e).toNat
  by_cases hlt : at_ < e
  · rw [if_pos hlt]
    by_cases i1 : inR f l at_ = true
    · -- at_ counts
      have s1 : (upto (at_ * e).toNat).countP (fun d => pa f l (at_ * e) at_ d || decide (d = at_)) = (upto (at_ * e).toNat).countP (pa f l (at_ * e) at_) + 1 := countP_one nd m1 p1 fun d _ => rfl
      by_cases i2 : inR f l e = true
      · have ne : e ≠ at_ := by omega
        have s2 : (upto (at_ * e).toNat).countP (pa f l (at_ * e) (at_ + 1)) = (upto (at_ * e).toNat).countP (fun d => pa f l (at_ * e) at_ d || decide (d = at_)) + 1 :=
          countP_one nd m2 (by simp [p2, ne]) fun d hd => by
            rw [nx d hd]
            by_cases z1 : d = at_
            · subst z1; simp [i1]
            · by_cases z2 : d = e
              · subst z2; simp [i2]
              · simp [z1, z2]
        rw [s2, s1, if_pos i1, if_pos i2]
      · have s2 : (upto (at_ * e).toNat).countP (pa f l (at_ * e) (at_ + 1)) = (upto (at_ * e).toNat).countP (fun d => pa f l (at_ * e) at_ d || decide (d = at_)) := List.countP_congr fun d hd => by
            rw [nx d hd]
            by_cases z1 : d = at_
            · subst z1; simp [i1]
            · by_cases z2 : d = e
              · subst z2; simp [i2, z1]
              · simp [z1, z2]
        rw [s2, s1, if_pos i1, if_neg i2]
    · by_cases i2 : inR f l e = true
      · have s2 : (upto (at_ * e).toNat).countP (pa f l (at_ * e) (at_ + 1)) = (upto (at_ * e).toNat).countP (pa f l (at_ * e) at_) + 1 :=
          countP_one nd m2 p2 fun d hd => by
            rw [nx d hd]
            by_cases z2 : d = e
            · subst z2; simp [i2]
            · by_cases z1 : d = at_
              · subst z1; simp [i1, z2]
              · simp [z1, z2]
        rw [s2, if_neg i1, if_pos i2]
      · have s2 : (upto (at_ * e).toNat).countP (pa f l (at_ * e) (at_ + 1)) = (upto (at_ * e).toNat).countP (pa f l (at_ * e) at_) := List.countP_congr fun d hd => by
            rw [nx d hd]
            by_cases z1 : d = at_
            · subst z1; simp [i1]
            · by_cases z2 : d = e
              · subst z2; simp [i2]
              · simp [z1, z2]
        rw [s2, if_neg i1, if_neg i2, Nat.add_zero]
  · have ee : e = at_ := by omega
    subst ee
    rw [if_neg hlt]
    by_cases i1 : inR f l e = true
    · have s2 : (upto (e * e).toNat).countP (pa f l (e * e) (e + 1)) = (upto (e * e).toNat).countP (pa f l (e * e) e) + 1 :=
        countP_one nd m1 p1 fun d hd => by
          rw [nx d hd]
          by_cases z1 : d = e
          · subst z1; simp [i1]
          · simp [z1]
      rw [s2, if_pos i1]
    · have s2 : (upto (e * e).toNat).countP (pa f l (e * e) (e + 1)) = (upto (e * e).toNat).countP (pa f l (e * e) e) := List.countP_congr fun d hd => by
          rw [nx d hd]
          by_cases z1 : d = e
          · subst z1; simp [i1]
          · simp [z1]
      rw [s2, if_neg i1, Nat.add_zero]
theorem cS_end {f l n at_ : Int} (h1 : 1 ≤ at_) (hn : n < at_ * at_) : cS f l n at_ = cA f l n := by
  unfold cS cA
  refine List.countP_congr fun d hd => ?_
  have h := mem_upto.mp hd
  unfold pa
  by_cases g : dv f l n d = true
  · have gd : n % d = 0 := by
      unfold dv at g
      simp only [Bool.and_eq_true, decide_eq_true_eq] at g
      exact g.1
    have ed : d * (n / d) = n := Int.mul_ediv_cancel' (Int.dvd_of_emod_eq_zero gd)
    have : d < at_ ∨ n / d < at_ := by
      by_cases a : d < at_
      · exact .inl a
      · refine .inr ?_
        by_cases b : n / d < at_
        · exact b
        · exfalso
          have : at_ * at_ ≤ d * (n / d) := Int.mul_le_mul (by omega) (by omega) (by omega) (by omega)
          omega
    rcases this with a | a <;> simp [g, a]
  · simp [g]
theorem countP_split {l : List Int} {p q r : Int → Bool} (h : ∀ d ∈ l, r d = (p d || q d) ∧ (p d && q d) = false) : l.countP r = l.countP p + l.countP q := by
  induction l with
  | nil => rfl
  | cons t l ih =>
    rw [List.countP_cons, List.countP_cons, List.countP_cons, ih fun d hd => h d (List.mem_cons_of_mem _ hd)]
    obtain ⟨a, b⟩ := h t List.mem_cons_self
    rw [a]
    cases x : p t <;> cases y : q t <;> simp [x, y] at b ⊢ <;> omega
/-- two stretches put together -/
theorem cA_join {f m l n : Int} (h1 : f ≤ m + 1) (h2 : m ≤ l) : cA f l n = cA f m n + cA (m + 1) l n := by
  unfold cA
  refine countP_split fun d _ => ?_
  unfold dv inR
  cases decide (n % d = 0)
  · exact ⟨rfl, rfl⟩
  · by_cases a : f ≤ d <;> by_cases b : d ≤ m <;> by_cases c : d ≤ l
    all_goals first
      | (have b' : ¬ (m + 1 ≤ d) := by omega
         simp [a, b, c, b']; done)
      | (have b' : m + 1 ≤ d := by omega
         simp [a, b, c, b']; done)
      | (exfalso; omega)
/-- the stretch from 1 to the door or beyond: an odd count just of a square -/
theorem cS_par {l n : Int} (hl : n ≤ l) (hn : 1 ≤ n) : ∀ k : Nat, ((k : Int)) * (k : Int) ≤ n → (cS 1 l n ((k : Int) + 1) % 2 = 1 ↔ (k : Int) * (k : Int) = n)
  | 0, _ => by
    have : cS 1 l n (((0 : Nat) : Int) + 1) = 0 := cS_start 1 l n
    rw [this]
    constructor
    · intro z; omega
    · intro z
      have : ((0 : Nat) : Int) * ((0 : Nat) : Int) = 0 := rfl
      omega
  | k + 1, hk => by
    have hkk : (k : Int) * (k : Int) < ((k + 1 : Nat) : Int) * ((k + 1 : Nat) : Int) := by
      have e : ((k + 1 : Nat) : Int) * ((k + 1 : Nat) : Int) = (k : Int) * (k : Int) + 2 * (k : Int) + 1 := by
        rw [show ((k + 1 : Nat) : Int) = (k : Int) + 1 from rfl, Int.add_mul, Int.mul_add, Int.one_mul, Int.mul_one]; omega
      omega
    have ih := cS_par hl hn k (by omega)
    have ev : ¬ (cS 1 l n ((k : Int) + 1) % 2 = 1) := fun z => by
      have := ih.mp z
      omega
    have e0 : ((k + 1 : Nat) : Int) = (k : Int) + 1 := rfl
    by_cases g : n % ((k : Int) + 1) = 0
    · have ed : ((k : Int) + 1) * (n / ((k : Int) + 1)) = n := Int.mul_ediv_cancel' (Int.dvd_of_emod_eq_zero g)
      have le1 : (k : Int) + 1 ≤ n / ((k : Int) + 1) := (Int.le_ediv_iff_mul_le (by omega)).mpr (by rw [← e0]; exact hk)
      have hle : n / ((k : Int) + 1) ≤ n := Int.ediv_le_self _ (by omega)
      have s := cS_step (f := 1) (l := l) (at_ := (k : Int) + 1) (e := n / ((k : Int) + 1)) (by omega) le1
      rw [ed] at s
      have i1 : inR 1 l ((k : Int) + 1) = true := by unfold inR; simp; omega
      have i2 : inR 1 l (n / ((k : Int) + 1)) = true := by unfold inR; simp; omega
      rw [if_pos i1, if_pos i2] at s
      rw [e0, s]
      by_cases lt : (k : Int) + 1 < n / ((k : Int) + 1)
      · rw [if_pos lt]
        have ne : ((k : Int) + 1) * ((k : Int) + 1) < n := by
          have : ((k : Int) + 1) * ((k : Int) + 1) < ((k : Int) + 1) * (n / ((k : Int) + 1)) := Int.mul_lt_mul_of_pos_left lt (by omega)
          omega
        constructor <;> (intro z; omega)
      · rw [if_neg lt]
        have eq : n / ((k : Int) + 1) = (k : Int) + 1 := by omega
        rw [eq] at ed
        constructor
        · intro _; exact ed
        · intro _; omega
    · rw [e0, cS_none (by omega) g]
      constructor
      · intro z; exact absurd z ev
      · intro z
        exfalso
        apply g
        rw [← z]
        exact Int.mul_emod_right _ _
theorem cA_square {l n r : Int} (hl : n ≤ l) (hn : 1 ≤ n) (hr : IsRoot n r) : (cA 1 l n % 2 = 1 ↔ r * r = n) := by
  obtain ⟨k, rfl⟩ := Int.eq_ofNat_of_zero_le hr.nn
  have a := cS_par hl hn k hr.le
  have b := cS_end (f := 1) (l := l) (n := n) (at_ := (k : Int) + 1) (by omega) hr.lt
  rw [b] at a
  exact a
/-- the law's own count, over the numbers of the stretch themselves -/
theorem cA_list {f l n : Int} (hf : 1 ≤ f) (k : Nat) (hk : (k : Int) = (if n < l then n else l) + 1 - f ∨ (k = 0 ∧ (if n < l then n else l) + 1 - f < 0)) :
    (List.range k).countP (fun i : Nat => decide (n % (f + (i : Int)) = 0)) = cA f l n := by
  unfold cA
  rw [List.countP_eq_length_filter, List.countP_eq_length_filter]
  have e : ((List.range k).filter fun i : Nat => decide (n % (f + (i : Int)) = 0)).map (fun i : Nat => f + (i : Int)) = (upto n.toNat).filter (dv f l n) := by
    refine rise_eq ?_ ((upto_rise _).filter _) fun x => ?_
    · rw [List.pairwise_map]
      exact (List.pairwise_lt_range.filter _).imp fun h => by omega
    · rw [List.mem_map, List.mem_filter, mem_upto]
      constructor
      · rintro ⟨i, hi, rfl⟩
        obtain ⟨h1, h2⟩ := List.mem_filter.mp hi
        have h1 := List.mem_range.mp h1
        unfold dv inR
        rw [h2]
        have : f + (i : Int) ≤ n ∧ f + (i : Int) ≤ l := by
          rcases hk with hk | hk
          · split at hk <;> omega
          · omega
        refine ⟨by omega, ?_⟩
        simp
        omega
      · rintro ⟨h1, h2⟩
        unfold dv inR at h2
        simp only [Bool.and_eq_true, decide_eq_true_eq] at h2
        refine ⟨(x - f).toNat, List.mem_filter.mpr ⟨List.mem_range.mpr ?_, ?_⟩, by omega⟩
        · rcases hk with hk | hk
          · split at hk <;> omega
          · obtain ⟨_, hk⟩ := hk
            split at hk <;> omega
        · have : f + (((x - f).toNat : Nat) : Int) = x := by omega
          rw [this]
          exact decide_eq_true h2.1
  rw [← e, List.length_map]
end Dt
/-! What serves every law: readings step by step (c_*), own rules. -/
namespace Dt
open PySem PySem.Spec PyProof.Rows L2 Evl
section
variable {σ : L2.St} {H : Hp} {i : Nat} {v x y z : V} {ta tb tc te : TE} {Q : VK} {D : Ends} {K : PySem.W.Frag} {ts tu tw : TS} {t u : TT} {QB : Bool → Hp → Prop} {QA : List V → Hp → Prop} {r r' : R2} {tr : TA} {E : XK} {sp : Sp} {dvs : List V}
theorem c_var (h : σ[i]? = some (some v)) (k : Q v H) : tVar i σ H Q := ⟨v, h, k⟩
theorem c_c (k : Q v H) : tC v σ H Q := k
theorem c_op (k : ta σ H fun x H1 => tb σ H1 fun y H2 => r x y H2 Q) : tOp r ta tb σ H Q := k
theorem c_un {ru : V → Hp → VK → Prop} (k : ta σ H fun x H1 => ru x H1 Q) : tUn ru ta σ H Q := k
theorem c_U {g : Int → V} {a : Int} (k : Q (g a) H) : rU g (.int a) H Q := ⟨a, rfl, k⟩
theorem c_I0 {g : Int → Int → V} {a b : Int} (k : Q (g a b) H) : rI0 g (.int a) (.int b) H Q := ⟨a, b, rfl, rfl, k⟩
theorem c_I {C : Int → Int → Prop} {g : Int → Int → V} {a b : Int} (hc : C a b) (k : Q (g a b) H) : rI C g (.int a) (.int b) H Q := ⟨a, b, rfl, rfl, hc, k⟩
theorem c_eqI {a b : Int} (k : Q (.bl (decide (a = b))) H) : rEq (.int a) (.int b) H Q := ⟨rfl, by
  have e : decide (V.int a = V.int b) = decide (a = b) := by rw [Bool.eq_iff_iff]; simp
  rw [e]; exact k⟩
theorem c_neI {a b : Int} (k : Q (.bl (!decide (a = b))) H) : rNe (.int a) (.int b) H Q := ⟨rfl, by
  have e : decide (V.int a = V.int b) = decide (a = b) := by rw [Bool.eq_iff_iff]; simp
  rw [e]; exact k⟩
theorem c_eqB {a b : Bool} (k : Q (.bl (decide (a = b))) H) : rEq (.bl a) (.bl b) H Q := ⟨rfl, by
  have e : decide (V.bl a = V.bl b) = decide (a = b) := by rw [Bool.eq_iff_iff]; simp
  rw [e]; exact k⟩
theorem c_neB {a b : Bool} (k : Q (.bl (!decide (a = b))) H) : rNe (.bl a) (.bl b) H Q := ⟨rfl, by
  have e : decide (V.bl a = V.bl b) = decide (a = b) := by rw [Bool.eq_iff_iff]; simp
  rw [e]; exact k⟩
theorem c_isB {a b : Bool} (k : Q (.bl (decide (a = b))) H) : rIsB (.bl a) (.bl b) H Q := ⟨a, b, rfl, rfl, k⟩
theorem c_notB {a b : Bool} (k : Q (.bl (!decide (a = b))) H) : rNotB (.bl a) (.bl b) H Q := ⟨a, b, rfl, rfl, k⟩
theorem c_cb {rc : List V → Hp → VK → Prop} (k : tr σ H fun vs H1 => rc vs H1 Q) : tCB rc tr σ H Q := k
theorem c_call (k : tr σ H fun vs H1 => sp (vs ++ dvs) H1 Q E) : tCall sp dvs E tr σ H Q := k
theorem c_nil (k : QA [] H) : tNil σ H QA := k
theorem c_cons (k : ta σ H fun x H1 => tr σ H1 fun xs H2 => QA (x :: xs) H2) : tCons ta tr σ H QA := k
theorem c_lst (k : tr σ H fun xs H1 => xs.length ≤ sizeLine ∧ ∀ p, H1 p = none → Q (.ref p) (upd H1 p (.lst xs))) : tLst tr σ H Q := k
theorem c_tup (k : tr σ H fun xs H1 => xs.length ≤ sizeLine ∧ ∀ p, H1 p = none → Q (.ref p) (upd H1 p (.tup xs))) : tTup tr σ H Q := k
theorem c_test (k : te σ H fun x H1 => ∃ b, x = .bl b ∧ QB b H1) : tTest te σ H QB := k
theorem c_B (k : te σ H fun x H1 => ∃ b, x = .bl b ∧ QB b H1) : tB te σ H QB := k
theorem c_k {R : Bool → Prop} {b : Bool} (k : R b) : ∃ c, V.bl b = .bl c ∧ R c := ⟨b, rfl, k⟩
theorem c_and (k : t σ H fun b H1 => if b = true then u σ H1 QB else QB false H1) : tAnd t u σ H QB := k
theorem c_or (k : t σ H fun b H1 => if b = true then QB true H1 else u σ H1 QB) : tOr t u σ H QB := k
theorem c_not (k : t σ H fun b H1 => QB (!b) H1) : tNot t σ H QB := k
theorem c_andV (k : ta σ H fun x H1 => ∃ c, x = .bl c ∧ if c = true then tb σ H1 Q else Q (.bl false) H1) : tAndV ta tb σ H Q := k
theorem c_orV (k : ta σ H fun x H1 => ∃ c, x = .bl c ∧ if c = true then Q (.bl true) H1 else tb σ H1 Q) : tOrV ta tb σ H Q := k
theorem c_notV (k : ta σ H fun x H1 => ∃ c, x = .bl c ∧ Q (.bl (!c)) H1) : tNotV ta σ H Q := k
theorem c_if (k : t σ H fun b H1 => if b = true then ta σ H1 Q else tb σ H1 Q) : tIf t ta tb σ H Q := k
theorem c_chain (k : ta σ H fun x H1 => tb σ H1 fun y H2 => r x y H2 fun z H3 => ∃ k, z = .bl k ∧ (if k = true then tc σ H3 fun w' H4 => r' y w' H4 Q else Q (.bl false) H3)) : tChain r r' ta tb tc σ H Q := k
theorem c_sl {rs : V → Option Int → Option Int → Hp → VK → Prop} {tl th : TO} (k : te σ H fun x H1 => tl σ H1 fun l H2 => th σ H2 fun u H3 => rs x l u H3 Q) : tSl rs te tl th σ H Q := k
theorem c_rev (k : te σ H fun x H1 => ∃ a xs, x = .ref a ∧ SqL K H1 a xs ∧ ∀ p, H1 p = none → Q (.ref p) (upd H1 p (.lst xs.reverse))) : tRevL K te σ H Q := k
theorem c_bm {T : String} {rm : V → List V → Hp → VK → Prop} (k : te σ H fun x H1 => tyV K T x H1 ∧ tr σ H1 fun xs H2 => rm x xs H2 Q) : tBM K T rm te tr σ H Q := k
theorem c_noP {QO : Option Int → Hp → Prop} (k : QO none H) : tNoPart σ H QO := k
theorem c_part {QO : Option Int → Hp → Prop} (k : te σ H fun x H1 => ∃ i, x = .int i ∧ QO (some i) H1) : tPart te σ H QO := k
theorem c_ki {R : Int → Prop} {a : Int} (k : R a) : ∃ i, V.int a = .int i ∧ R i := ⟨a, rfl, k⟩
/-! statements -/
theorem c_seq (k : ts { D with nx := tu D } σ H) : tSeq ts tu D σ H := k
theorem c_asg (k : te σ H fun x H1 => D.nx (σ.set i (some x)) H1) : tAsg te (gName i) D σ H := k
theorem c_asgG {g : TG} (k : te σ H fun x H1 => g x σ H1 D.nx) : tAsg te g D σ H := k
theorem c_ret (k : te σ H D.rt) : tRet te D σ H := k
theorem c_drop (k : te σ H fun _ H1 => D.nx σ H1) : tDrop te D σ H := k
theorem c_ifS (k : t σ H fun b H1 => if b = true then ts D σ H1 else tu D σ H1) : tIfS t ts tu D σ H := k
theorem c_next (k : D.nx σ H) : tNext D σ H := k
theorem c_par {j : Nat} (k : tr σ H fun vs H1 => ∃ v w, vs = [v, w] ∧ D.nx ((σ.set i (some v)).set j (some w)) H1) : tPar i j tr D σ H := k
theorem c_kpar {R : V → V → Prop} {a b : V} (k : R a b) : ∃ v w, [a, b] = [v, w] ∧ R v w := ⟨a, b, rfl, k⟩
/-- what a for's body owes, once its iterator stands -/
def FL (J : It) (g : TG) (ts : TS) (D : Ends) (σ : L2.St) (H1 : Hp) : Prop := ∃ W : Nat → Nat → L2.St → Hp → Prop, (∃ m, W 0 m σ H1) ∧ ∀ i m σ H, W i m σ H →
  (J.stop i H ∧ D.nx σ H) ∨ (J.go i H ∧ ∃ N : L2.St → Hp → Prop, (∀ σ' H', N σ' H' → ∃ m', m' < m ∧ W (i + 1) m' σ' H') ∧ ∀ x H', J.yld i H x H' → g x σ H' fun σ2 H2 => ts { D with nx := N, ct := N, bk := D.nx } σ2 H2)
theorem c_for {wi : TI} {g : TG} (k : wi σ H fun J H1 => FL J g ts D σ H1) : tFor wi g ts D σ H := k
theorem f_list {a : Addr} {xs : List V} {g : TG} (Pv : Nat → L2.St → Hp → Prop) (h0 : Pv 0 σ H) (hl : ∀ i σ H, i ≤ xs.length → Pv i σ H → SqL K H a xs)
    (hs : ∀ i x σ H, xs[i]? = some x → Pv i σ H → g x σ H fun σ2 H2 => ts { D with nx := Pv (i + 1), ct := Pv (i + 1), bk := D.nx } σ2 H2) (hd : ∀ σ H, Pv xs.length σ H → D.nx σ H) : FL (Itl K a) g ts D σ H := for_list Pv h0 hl hs hd
theorem f_tup {a : Addr} {xs : List V} {g : TG} (Pv : Nat → L2.St → Hp → Prop) (h0 : Pv 0 σ H) (hl : ∀ i σ H, i ≤ xs.length → Pv i σ H → SqT K H a xs)
    (hs : ∀ i x σ H, xs[i]? = some x → Pv i σ H → g x σ H fun σ2 H2 => ts { D with nx := Pv (i + 1), ct := Pv (i + 1), bk := D.nx } σ2 H2) (hd : ∀ σ H, Pv xs.length σ H → D.nx σ H) : FL (Itt K a) g ts D σ H := for_tup Pv h0 hl hs hd
theorem f_range {lo : Int} {n : Nat} {g : TG} (Pv : Nat → L2.St → Hp → Prop) (h0 : Pv 0 σ H)
    (hs : ∀ i σ H, i < n → Pv i σ H → g (.int (lo + i)) σ H fun σ2 H2 => ts { D with nx := Pv (i + 1), ct := Pv (i + 1), bk := D.nx } σ2 H2) (hd : ∀ σ H, Pv n σ H → D.nx σ H) : FL (Itr lo n) g ts D σ H := for_range Pv h0 hs hd
theorem f_it {J : It} {n : Nat} {G : Hp → Prop} {Y : Nat → Hp → V → Hp → Prop} (w : Walk J n G Y) {g : TG} (Pv : Nat → L2.St → Hp → Prop) (h0 : Pv 0 σ H) (hG : ∀ i σ H, i ≤ n → Pv i σ H → G H)
    (hs : ∀ i x σ H H', i < n → Pv i σ H → Y i H x H' → g x σ H' fun σ2 H2 => ts { D with nx := Pv (i + 1), ct := Pv (i + 1), bk := D.nx } σ2 H2) (hd : ∀ σ H, Pv n σ H → D.nx σ H) : FL J g ts D σ H := for_it w Pv h0 hG hs hd
theorem c_iE {R : It → Hp → Prop} (k : tr σ H fun vs H1 => ∃ a xs, vs = [.ref a] ∧ SqL K H1 a xs ∧ R (Ite K a) H1) : iEnum K tr σ H R := k
theorem c_g {i : Nat} {R : L2.St → Hp → Prop} (k : R (σ.set i (some v)) H) : gName i v σ H R := k
theorem c_iL {R : It → Hp → Prop} (k : te σ H fun x H1 => ∃ a, x = .ref a ∧ (∃ xs, SqL K H1 a xs) ∧ R (Itl K a) H1) : iList K te σ H R := k
theorem c_iR1 {R : It → Hp → Prop} (k : tr σ H fun vs H1 => ∃ j : Int, vs = [.int j] ∧ -(2 ^ 62) ≤ j ∧ j < 2 ^ 62 ∧ R (Itr 0 j.toNat) H1) : iRng1 tr σ H R := k
theorem c_iR2 {R : It → Hp → Prop} (k : tr σ H fun vs H1 => ∃ i j : Int, vs = [.int i, .int j] ∧ (-(2 ^ 62) ≤ i ∧ i < 2 ^ 62 ∧ -(2 ^ 62) ≤ j ∧ j < 2 ^ 62) ∧ R (Itr i (j - i).toNat) H1) : iRng2 tr σ H R := k
/-! ways -/
theorem w_t {A B : Prop} {b : Bool} (hb : b = true) (h : A) : if b = true then A else B := by rw [if_pos hb]; exact h
theorem w_f {A B : Prop} {b : Bool} (hb : b = false) (h : B) : if b = true then A else B := by rw [if_neg (by rw [hb]; exact Bool.false_ne_true)]; exact h
theorem w_2 {A B : Prop} {b : Bool} (h1 : b = true → A) (h2 : b = false → B) : if b = true then A else B := by
  cases b with
  | true => exact w_t rfl (h1 rfl)
  | false => exact w_f rfl (h2 rfl)
end
/-! ### own rules -/
section
variable {X : Cx}
def rAbs : List V → Hp → VK → Prop := fun xs H Q => ∃ i, xs = [.int i] ∧ Q (.int (if i < 0 then -i else i)) H
def rMin2 : List V → Hp → VK → Prop := fun xs H Q => ∃ i j, xs = [.int i, .int j] ∧ Q (.int (if j < i then j else i)) H
theorem call_len_s : CallR X (.builtin "len") (rLenS X.K) := call_len_seq
theorem call_list_s : CallR X (.type "list") (rListS X.K) := call_list_of
theorem call_abs_s : CallR X (.builtin "abs") rAbs := call_abs
theorem call_min2_s (hc : X.calm = true) : CallR X (.builtin "min") rMin2 := call_min2 hc
theorem op_mulB : OpR X (binaryOp .Mult) (rI IntMulOk fun i j => .int (i * j)) := opI fun _ _ _ _ _ _ _ hc q => mul_int q hc
end
theorem bits_le {x : Int} {n : Nat} (h : x.natAbs < 2 ^ n) : Builtin.Int.intBits x ≤ n := by
  unfold Builtin.Int.intBits
  split
  · exact Nat.zero_le _
  · rename_i hx
    have h0 : x.natAbs ≠ 0 := fun z => hx (by simp [Int.natAbs_eq_zero.mp z])
    exact Nat.succ_le_of_lt ((Nat.log2_lt h0).mpr h)
theorem mulOk {i j : Int} {a b : Nat} (ha : i.natAbs < 2 ^ a) (hb : j.natAbs < 2 ^ b) (h : a + b ≤ 134000000) : IntMulOk i j := by
  have h1 := bits_le ha
  have h2 := bits_le hb
  have e : bitsLine = 134217728 := by decide
  unfold IntMulOk
  intro z
  rw [Bool.and_eq_true] at z
  have z2 := z.2
  unfold Builtin.Int.intTooBig at z2
  have z3 := of_decide_eq_true z2
  rw [e] at z3
  omega
/-- the built-ins' names are free -/
structure Blt (mg : Str → Option Value) : Prop where
  isinstance_ : mg "isinstance" = none
  len_ : mg "len" = none
  all_ : mg "all" = none
  any_ : mg "any" = none
  sum_ : mg "sum" = none
  abs_ : mg "abs" = none
  max_ : mg "max" = none
  min_ : mg "min" = none
  range_ : mg "range" = none
  sorted_ : mg "sorted" = none
  enumerate_ : mg "enumerate" = none
  int_ : mg "int" = none
  bool_ : mg "bool" = none
  list_ : mg "list" = none
  set_ : mg "set" = none
  str_ : mg "str" = none
  tuple_ : mg "tuple" = none
  ValueError_ : mg "ValueError" = none

/-! ### defs of the text: standing, kept -/
structure Df (K : PySem.W.Frag) (mg : Str → Option Value) (x : Str) (st : Stmt) (ps : List Str) : Prop where
  ex : ∃ (f : Addr) (fd : FuncData), Fun K x x st f fd ∧ mg x = some (.ref f) ∧ Binds K fd ps []
theorem df_mk {K : PySem.W.Frag} {mg : Str → Option Value} {h : Heap} {x : Str} {st : Stmt} {ps : List Str} {f : Addr} {oc : Value} {od an : Option Addr} {osl : Array (Option Value)} {kV doc pm cdv ct : Value} (X : K.In h) (G : h.Ns mainGlobals mg)
    (a : PySem.W.nsIn K mainGlobals x = some (some (.ref f))) (l : K.lookup f = some ⟨oc, od, .func (PySem.W.fnOf x x (defArgs st) (defBody st) (defScope st) .none kV doc pm an cdv ct), osl⟩) (c : PySem.W.codeIn K cdv x = true) (k : PySem.W.keepIn K (.ref f) = true)
    (hb : ∀ (kV doc pm : Value) (an : Option Addr) (cdv ct : Value) (us : List Value), us.length = ps.length → bindArgs (PySem.W.fnOf x x (defArgs st) (defBody st) (defScope st) .none kV doc pm an cdv ct) ⟨us, []⟩ = pure (ps.zip us)) : Df K mg x st ps :=
  ⟨f, _, fun_mk l c k, PySem.W.mg_of X G a, (fun_mk l c k).binds hb⟩
/-- what a def promises, callable by its name -/
structure Cal (P : Program) (w : World) (K : PySem.W.Frag) (mg : Str → Option Value) (base : Heap) (CX : CXT) (k : Nat) (x : Str) (sp : Sp) : Prop where
  ex : ∃ (f : Addr) (fd : FuncData) (ps : List Str), FnOk P w K mg base CX k f fd ps sp ∧ mg x = some (.ref f) ∧ PySem.W.keepIn K (.ref f) = true ∧ Binds K fd ps []
section
variable {P : Program} {w : World} {K : PySem.W.Frag} {mg : Str → Option Value} {base : Heap}
theorem Df.ok {x : Str} {st : Stmt} {N ps : List Str} {k : Nat} {sp : Sp} (F : Df K mg x st ps) (S : FnScope N ps (defScope st)) (len : ∀ vs H Q E, sp vs H Q E → vs.length = ps.length)
    (hbody : ∀ (f : Addr) (cdv : Value) (A : Around) (outer : List Env) (s : Shared) (H : Hp) (vs : List V) (Q : VK) (E : XK), Room k (A.deeper (envOfC x (defScope st) s.heap.objs.size f cdv)) → sp vs H Q E →
      ∃ t, PSs (cxOf CX0 P w K mg base N x (defScope st) f cdv A outer s H E).nox (defBody st) t ∧ t { nx := fun _ H' => Q .non H', rt := Q } (start N vs) H) : Cal P w K mg base CX0 (k + 1) x sp := by
  obtain ⟨f, fd, F, m, b⟩ := F.ex
  exact ⟨f, fd, ps, F.ok S len fun cdv A outer s H vs Q E => hbody f cdv A outer s H vs Q E, m, F.kp, b⟩
theorem Cal.mono {CX : CXT} {x : Str} {j k : Nat} {sp : Sp} (c : Cal P w K mg base CX j x sp) (h : j ≤ k) : Cal P w K mg base CX k x sp := by
  obtain ⟨f, fd, ps, F, r⟩ := c.ex
  exact ⟨f, fd, ps, F.mono h, r⟩
theorem Cal.imp {CX : CXT} {x : Str} {k : Nat} {sp sp' : Sp} (c : Cal P w K mg base CX k x sp) (h : ∀ vs H Q E, sp' vs H Q E → sp vs H Q E) : Cal P w K mg base CX k x sp' := by
  obtain ⟨f, fd, ps, F, r⟩ := c.ex
  exact ⟨f, fd, ps, F.imp h, r⟩
end
section
variable {X : Cx} {k j : Nat} {x : Str} {sp : Sp} {p pos : Pos} {e : Expr} {es : List Expr} {t : TA}
theorem pe_d (c : Cal X.prog X.w X.K X.mg X.base CX0 k x sp) (hr : Room j X.A) (hk : k ≤ j) (hg : Gl X x) (ha : PA X (e :: es) t)
    (hdb : (x == ("__debug__" : Str)) = false := by decide) (he : starEach (e :: es) X.env = (false, eval e X.env) :: starEach es X.env := by rfl) (hpl : (backTo pos (starEach es X.env)).any (·.1) = false := by rfl) :
    PE X (.Call (.Name x p) (e :: es) [] pos) (tCall sp [] E0 t) := by
  obtain ⟨f, fd, ps, F, hm, kp, b⟩ := c.ex
  exact pe_call F (hr.mono hk) hg hm kp b .nil pass0 ha hdb he hpl
theorem pe_d0 (c : Cal X.prog X.w X.K X.mg X.base CX0 k x sp) (hr : Room j X.A) (hk : k ≤ j) (hg : Gl X x)
    (hdb : (x == ("__debug__" : Str)) = false := by decide) : PE X (.Call (.Name x p) [] [] pos) (tCall sp [] E0 tNil) := by
  obtain ⟨f, fd, ps, F, hm, kp, b⟩ := c.ex
  exact pe_call0 F (hr.mono hk) hg hm kp b .nil pass0 hdb
end
/-! ### lists of ints -/
theorem intsD (ns : List Int) : ∀ K H, DpAll K H (ns.map V.int) (ns.map PyData.int) := by
  intro K H
  induction ns with
  | nil => exact .nil
  | cons n r ih => exact .cons (.int n) ih
theorem ints_lay : ∀ ns : List Int, PyData.canLayAll0 (ns.map PyData.int) = true
  | [] => rfl
  | n :: r => by
    have ih := ints_lay r
    simp [PyData.canLayAll0, PyData.canLay0, ih]
theorem ints_depth : ∀ ns : List Int, PyData.depthAll (ns.map PyData.int) ≤ 1
  | [] => by simp [PyData.depthAll]
  | n :: r => by
    have ih := ints_depth r
    simp [PyData.depthAll, PyData.depth]
    omega
theorem ints_shaped (ns : List Int) : SeqAt.shaped (.list (ns.map PyData.int)) = true := by
  unfold SeqAt.shaped
  have h1 := ints_lay ns
  have h2 := ints_depth ns
  simp [PyData.canLay0, PyData.depth, h1]
  omega
theorem ints_eqv : ∀ a b : List Int, PyData.eqvAll (a.map PyData.int) (b.map PyData.int) = decide (a = b)
  | [], [] => rfl
  | [], _ :: _ => by simp [PyData.eqvAll]
  | _ :: _, [] => by simp [PyData.eqvAll]
  | x :: a, y :: b => by
    have ih := ints_eqv a b
    rw [List.map_cons, List.map_cons, PyData.eqvAll, PyData.eqv, ih, Bool.eq_iff_iff]
    simp
section
variable {K : PySem.W.Frag} {H H' : Hp} {Q : VK} {a b : Addr} {xs ys : List Int}
theorem c_eqL (ha : SqL K H a (xs.map V.int)) (hb : SqL K H b (ys.map V.int)) (k : Q (.bl (decide (xs = ys))) H) : rEqD K (.ref a) (.ref b) H Q :=
  ⟨_, _, .lst ha (intsD xs K H), .lst hb (intsD ys K H), ints_shaped xs, ints_shaped ys, by
    rw [PyData.eqv, ints_eqv]; exact k⟩
theorem c_neL (ha : SqL K H a (xs.map V.int)) (hb : SqL K H b (ys.map V.int)) (k : Q (.bl (!decide (xs = ys))) H) : rNeD K (.ref a) (.ref b) H Q :=
  ⟨_, _, .lst ha (intsD xs K H), .lst hb (intsD ys K H), ints_shaped xs, ints_shaped ys, by
    rw [PyData.eqv, ints_eqv]; exact k⟩
theorem tyL {vs : List V} (h : SqL K H a vs) : TyX K H (.ref a) (.type "list") := by
  rcases h with (h | ⟨o, h⟩) | ⟨o, its, n, hk, hc, _⟩
  · exact .base (.lst h)
  · exact .base (.frz h)
  · exact .kList hk hc
/-- isinstance of a known kind -/
theorem c_isi {x : V} {T t : String} {r : Bool} (ty : TyX K H x (.type T)) (hk : kitB T t = some r) (k : Q (.bl r) H) : rIsi K [x, .ty t] H Q := ⟨x, .ty t, .type T, .type t, r, rfl, .ty t, ty, kit_ty hk, k⟩
theorem k_ii : kitB "int" "int" = some true := by decide +kernel
theorem k_ib : kitB "int" "bool" = some false := by decide +kernel
theorem k_bb : kitB "bool" "bool" = some true := by decide +kernel
theorem k_bi : kitB "bool" "int" = some true := by decide +kernel
theorem k_ll : kitB "list" "list" = some true := by decide +kernel
theorem c_isiI {n : Int} (k : Q (.bl true) H) : rIsi K [.int n, .ty "int"] H Q := c_isi (.base (.int n)) k_ii k
theorem c_isiIb {n : Int} (k : Q (.bl false) H) : rIsi K [.int n, .ty "bool"] H Q := c_isi (.base (.int n)) k_ib k
theorem c_isiB {n : Bool} (k : Q (.bl true) H) : rIsi K [.bl n, .ty "bool"] H Q := c_isi (.base (.bl n)) k_bb k
theorem c_isiL {vs : List V} (h : SqL K H a vs) (k : Q (.bl true) H) : rIsi K [.ref a, .ty "list"] H Q := c_isi (tyL h) k_ll k
theorem c_len {vs : List V} (h : SqL K H a vs) (k : Q (.int vs.length) H) : rLenS K [.ref a] H Q := ⟨a, vs, rfl, .inl h, k⟩
theorem c_list {vs : List V} (h : SqL K H a vs) (k : ∀ l, H l = none → Q (.ref l) (upd H l (.lst vs))) : rListS K [.ref a] H Q := ⟨a, vs, rfl, .inl h, k⟩
theorem c_abs {n : Int} (k : Q (.int n.natAbs) H) : rAbs [.int n] H Q := ⟨n, rfl, by rw [show (if n < 0 then -n else n) = (n.natAbs : Int) by split <;> omega]; exact k⟩
theorem c_min2 {m n : Int} (k : Q (.int (if n < m then n else m)) H) : rMin2 [.int m, .int n] H Q := ⟨m, n, rfl, k⟩
theorem c_sum (h : SqL K H a (xs.map V.int)) (k : Q (.int xs.sum) H) : rSum K [.ref a] H Q := ⟨a, xs, rfl, h, k⟩
theorem same_new {p : Addr} {o : HO} (h : H p = none) : Ex H (upd H p o) := Ex.new h
theorem abs_nn (n : Int) : (if n < 0 then -n else n) = (n.natAbs : Int) := by split <;> omega
end
/-- up to forty turners, from 1 on -/
structure Good (ts : List Int) : Prop where
  len : ts.length ≤ 40
  pos : ∀ t ∈ ts, 1 ≤ t
/-- a comprehension's list of ints, by its test -/
theorem given_filter (ts : List Int) (p : Int → Bool) : given ts.length (fun i => p (ts.getD i 0)) (fun i => V.int (ts.getD i 0)) = (ts.filter p).map V.int := by
  have key : ∀ (l : List Int), ((List.range l.length).filter fun i => p (l.getD i 0)).map (fun i => l.getD i 0) = l.filter p := by
    intro l
    induction l with
    | nil => rfl
    | cons x r ih =>
      rw [List.length_cons, List.range_succ_eq_map, List.filter_cons, List.filter_map]
      have e1 : ((fun i => p ((x :: r).getD i 0)) ∘ Nat.succ) = fun i => p (r.getD i 0) := by funext i; simp
      have e2 : ((fun i => (x :: r).getD i 0) ∘ Nat.succ) = fun i => r.getD i 0 := by funext i; simp
      rw [List.filter_cons]
      by_cases h : p x = true
      · have h' : p ((x :: r).getD 0 0) = true := by simpa using h
        rw [if_pos h', if_pos h, List.map_cons, List.map_map, e1, e2, ih]
        simp
      · have h' : ¬ p ((x :: r).getD 0 0) = true := by simpa using h
        rw [if_neg h', if_neg h, List.map_map, e1, e2, ih]
  unfold given
  rw [← key ts, List.map_map]
  rfl
theorem given_all (ts : List Int) (f : Int → Bool) : given ts.length (fun _ => true) (fun i => V.bl (f (ts.getD i 0))) = (ts.map f).map V.bl := by
  have key : ∀ (l : List Int), (List.range l.length).map (fun i => f (l.getD i 0)) = l.map f := by
    intro l
    induction l with
    | nil => rfl
    | cons x r ih =>
      rw [List.length_cons, List.range_succ_eq_map, List.map_cons, List.map_map, List.map_cons]
      have e2 : ((fun i => f ((x :: r).getD i 0)) ∘ Nat.succ) = fun i => f (r.getD i 0) := by funext i; simp
      rw [e2, ih]
      simp
  unfold given
  rw [← key ts, List.map_map]
  have : (List.range ts.length).filter (fun _ => true) = List.range ts.length := List.filter_eq_self.mpr fun _ _ => rfl
  rw [this]
  rfl
theorem getD_of {ts : List Int} {i : Nat} {x : V} (h : (ts.map V.int)[i]? = some x) : x = .int (ts.getD i 0) ∧ i < ts.length ∧ ts[i]? = some (ts.getD i 0) := by
  rw [List.getElem?_map] at h
  cases e : ts[i]? with
  | none => rw [e] at h; cases h
  | some n =>
    rw [e] at h
    have hi := (List.getElem?_eq_some_iff.mp e).1
    have e' : ts.getD i 0 = n := by rw [List.getD_eq_getElem?_getD, e]; rfl
    rw [e']
    exact ⟨(Option.some.inj h).symm, hi, rfl⟩
theorem getD_mem {ts : List Int} {i : Nat} (h : i < ts.length) : ts.getD i 0 ∈ ts := by
  rw [List.getD_eq_getElem?_getD, List.getElem?_eq_getElem h]
  exact List.getElem_mem h
/-! ### cuts, comprehensions over range(a, b) -/
theorem c_ev {te : TE} {σ : L2.St} {H : Hp} {Q : VK} (P : V → Hp → Prop) (h1 : ∀ Q' : VK, (∀ v H1, P v H1 → Q' v H1) → te σ H Q') (h2 : ∀ v H1, P v H1 → Q v H1) : te σ H Q := h1 Q h2
theorem c_ev2 {tt : TT} {σ : L2.St} {H : Hp} {Q : Bool → Hp → Prop} (P : Bool → Hp → Prop) (h1 : ∀ Q' : Bool → Hp → Prop, (∀ b H1, P b H1 → Q' b H1) → tt σ H Q') (h2 : ∀ b H1, P b H1 → Q b H1) : tt σ H Q := h1 Q h2
theorem el_lcR2 {σ : L2.St} {H : Hp} {te : TE} {t : TT} {ta : TA} {j : Nat} {vs : List Nat} {lo hi : Int} (f : Nat → Bool) (v : Nat → V) (h : EvA ta σ H [.int lo, .int hi]) (hb : -(2 ^ 61) ≤ lo ∧ lo ≤ 2 ^ 61 ∧ -(2 ^ 61) ≤ hi ∧ hi ≤ 2 ^ 61) (hn : (hi - lo).toNat ≤ 40000) (hw : ∀ x, wipe ((wipe σ vs).set j (some x)) vs = wipe σ vs)
    (ht : ∀ (i : Nat) H1, Ex H H1 → i < (hi - lo).toNat → EvT t ((wipe σ vs).set j (some (.int (lo + (i : Int))))) H1 (f i)) (he : ∀ (i : Nat) H1, Ex H H1 → i < (hi - lo).toNat → f i = true → Ev te ((wipe σ vs).set j (some (.int (lo + (i : Int))))) H1 (v i)) :
    EvL (tLc (iRng2 ta) (gName j) t te vs) σ H (given (hi - lo).toNat f v) := fun H0 e Q q => h H0 e _ fun H1 e1 => ⟨lo, hi, rfl, ⟨by omega, by omega, by omega, by omega⟩, fun Dl hD =>
  lc_range (lo := lo) (n := (hi - lo).toNat) (Cw H1 f v Dl) ⟨hD, Ex.new hD, upd_same⟩ (fun i H' hi' p => ⟨hw _, cw_turn p (by omega) (ht i H1 (e.trans e1) hi') (fun hf => he i H1 (e.trans e1) hi' hf)⟩) (fun H' p => q Dl H' (fresh_back e1 p.1) (e1.trans p.2.1) p.2.2)⟩
/-! ### sizes -/
def big : Nat := 1048600
theorem num_div {x j : Int} {n : Nat} (h : x.natAbs < 2 ^ n) : (x / j).natAbs < 2 ^ n := Nat.lt_of_le_of_lt (Int.natAbs_ediv_le_natAbs x j) h
theorem num_add {c y : Int} {n : Nat} (hc : c.natAbs < 2 ^ n) (hn : 64 ≤ n) (hy : y.natAbs < 2 ^ 64) : (c + y).natAbs < 2 ^ (n + 1) := by
  have h1 : (2 : Nat) ^ 64 ≤ 2 ^ n := Nat.pow_le_pow_right (by decide) hn
  have h2 : (2 : Nat) ^ (n + 1) = 2 ^ n + 2 ^ n := by rw [Nat.pow_succ]; omega
  have h3 : (c + y).natAbs ≤ c.natAbs + y.natAbs := Int.natAbs_add_le c y
  omega
theorem num_le {x : Int} {m n : Nat} (h : x.natAbs < 2 ^ m) (hmn : m ≤ n) : x.natAbs < 2 ^ n := Nat.lt_of_lt_of_le h (Nat.pow_le_pow_right (by decide) hmn)
theorem num_bits {x : Int} {n : Nat} (h : Builtin.Int.intBits x ≤ n) : x.natAbs < 2 ^ n := by
  unfold Builtin.Int.intBits at h
  split at h
  · rename_i hx
    have e : x = 0 := by simpa using hx
    subst e
    exact Nat.pow_pos (by decide)
  · rename_i hx
    have h0 : x.natAbs ≠ 0 := fun z => hx (by simp [Int.natAbs_eq_zero.mp z])
    exact (Nat.log2_lt h0).mp (by omega)
theorem num_sum : ∀ {l : List Int} {n : Nat}, (∀ z ∈ l, z.natAbs < 2 ^ n) → l.sum.natAbs ≤ l.length * 2 ^ n
  | [], n, _ => by simp
  | x :: r, n, h => by
    have ih := num_sum (l := r) (n := n) fun z hz => h z (List.mem_cons_of_mem _ hz)
    have hx := h x List.mem_cons_self
    have h3 : (x + r.sum).natAbs ≤ x.natAbs + r.sum.natAbs := Int.natAbs_add_le _ _
    rw [List.sum_cons, List.length_cons, Nat.succ_mul]
    omega
theorem num_sum63 {l : List Int} {n : Nat} (h : ∀ z ∈ l, z.natAbs < 2 ^ n) (hl : l.length ≤ 63) : l.sum.natAbs < 2 ^ (n + 6) := by
  have h1 := num_sum h
  have h2 : (2 : Nat) ^ (n + 6) = 64 * 2 ^ n := by rw [Nat.pow_add]; omega
  have h3 : l.length * 2 ^ n ≤ 63 * 2 ^ n := Nat.mul_le_mul_right _ hl
  have h4 : 0 < (2 : Nat) ^ n := Nat.pow_pos (by decide)
  omega
theorem cut63 {xs : List V} (h : xs.length ≤ 63) : cutV xs none (some 63) = xs := by
  unfold cutV
  rw [show HT.sIx xs.length xs.length (some 63) = min 63 xs.length from HT.sIx_nat xs.length xs.length 63, HT.sIx_none, Nat.min_eq_right h]
  simp
theorem atI_int {cs : List Int} {ix : Int} (h0 : 0 ≤ ix) (h1 : ix < cs.length) : atI (cs.map V.int) ix = some (.int (cs.getD ix.toNat 0)) := by
  obtain ⟨n, rfl⟩ := Int.eq_ofNat_of_zero_le h0
  refine atI_nat ?_
  have hn : n < cs.length := by omega
  rw [List.getElem?_map, Int.toNat_natCast, List.getD_eq_getElem?_getD, List.getElem?_eq_getElem hn]
  rfl
section
variable {K : PySem.W.Frag} {H H' : Hp} {Q : VK} {a b : Addr} {xs ys : List Int} {k : Int}
theorem in_ints (k : Int) : ∀ xs : List Int, inV (.int k) (xs.map V.int) = decide (k ∈ xs)
  | [] => rfl
  | x :: r => by
    have ih := in_ints k r
    unfold inV at ih ⊢
    rw [List.map_cons, List.any_cons, ih, Bool.eq_iff_iff]
    simp [eqV]
    constructor
    · rintro (z | z)
      · exact .inl z.symm
      · exact .inr z
    · rintro (z | z)
      · exact .inl z.symm
      · exact .inr z
theorem flat_ints (xs : List Int) : (xs.map V.int).all flatV = true := by
  rw [List.all_map, List.all_eq_true]
  intro x _
  rfl
theorem c_notIn (h : SqL K H a (xs.map V.int)) (q : Q (.bl (!decide (k ∈ xs))) H) : rIn K true (.int k) (.ref a) H Q := ⟨a, _, rfl, .inl h, rfl, flat_ints xs, by rw [if_pos rfl, in_ints]; exact q⟩
theorem c_cnt (h : SqL K H a (xs.map V.int)) (q : Q (.int (xs.count k : Nat)) H) : rCntI K (.ref a) [.int k] H Q := ⟨a, xs, k, rfl, rfl, h, q⟩
theorem tyLl {vs : List V} (h : SqL K H a vs) : tyV K "list" (.ref a) H := .inl ⟨rfl, vs, h⟩
theorem c_app {vs : List V} {v : V} (h : H a = some (.lst vs)) (hz : vs.length < 100000) (q : Q .non (upd H a (.lst (vs ++ [v])))) : rAppend (.ref a) [v] H Q := ⟨a, vs, v, rfl, rfl, h, sz_lt hz, q⟩
theorem c_cat {us vs : List V} (h : H a = some (.lst us)) (h' : H b = some (.lst vs)) (hz : us.length + vs.length ≤ 100000) (q : ∀ p, H p = none → Q (.ref p) (upd H p (.lst (us ++ vs)))) : rCat (.ref a) (.ref b) H Q := ⟨a, b, us, vs, rfl, rfl, h, h', sz_of hz, q⟩
end
theorem cut_last (fs : List Int) : cutV (fs.map V.int) (some (-1)) none = (fs.drop (fs.length - 1)).map V.int := by
  unfold cutV
  have e : HT.sIx (fs.map V.int).length 0 (some (-1)) = fs.length - 1 := by
    rw [List.length_map]
    unfold HT.sIx
    simp
    omega
  rw [e, HT.sIx_none, List.map_drop, List.length_map]
  exact List.take_of_length_le (by rw [List.length_drop, List.length_map]; omega)
theorem cut_init (g : List Int) (x : Int) : cutV ((g ++ [x]).map V.int) none (some (-1)) = g.map V.int := by
  unfold cutV
  have e : HT.sIx ((g ++ [x]).map V.int).length ((g ++ [x]).map V.int).length (some (-1)) = g.length := by
    rw [List.length_map, List.length_append]
    unfold HT.sIx
    simp
    omega
  rw [e, HT.sIx_none, List.map_append]
  simp
/-! ### whiles -/
theorem n_self {W : Nat → L2.St → Hp → Prop} {m : Nat} {R : (L2.St → Hp → Prop) → Prop} (h : R (fun σ' H' => ∃ m', m' < m ∧ W m' σ' H')) : ∃ N : L2.St → Hp → Prop, (∀ σ' H', N σ' H' → ∃ m', m' < m ∧ W m' σ' H') ∧ R N := ⟨_, fun _ _ z => z, h⟩
def wid : Nat := 9000
def far : Nat := 3000000
theorem given_true (n : Nat) (g : Nat → Bool) : given n (fun _ => true) (fun i => V.bl (g i)) = ((List.range n).map g).map V.bl := by
  unfold given
  have : (List.range n).filter (fun _ => true) = List.range n := List.filter_eq_self.mpr fun _ _ => rfl
  rw [this, List.map_map]
  rfl
theorem given_trueI (n : Nat) (g : Nat → Int) : given n (fun _ => true) (fun i => V.int (g i)) = ((List.range n).map g).map V.int := by
  unfold given
  have : (List.range n).filter (fun _ => true) = List.range n := List.filter_eq_self.mpr fun _ _ => rfl
  rw [this, List.map_map]
  rfl
section
variable {K : PySem.W.Frag} {H : Hp} {Q : VK} {a : Addr} {bs : List Bool}
theorem c_all (h : SqL K H a (bs.map V.bl)) (q : Q (.bl (bs.all id)) H) : rAll K [.ref a] H Q := ⟨a, bs, rfl, h, q⟩
theorem c_any (h : SqL K H a (bs.map V.bl)) (q : Q (.bl (bs.any id)) H) : rAny K [.ref a] H Q := ⟨a, bs, rfl, h, q⟩
end
theorem rnd_lt {ks : List Int} {B : Nat} (h : ∀ k ∈ ks, 0 < k ∧ k.natAbs < 2 ^ B) : ∀ i : Nat, (rnd (ks.take i)).natAbs < 2 ^ (i * B + 1) ∧ 0 < rnd (ks.take i)
  | 0 => by simp [rnd]
  | i + 1 => by
    obtain ⟨h1, h2⟩ := rnd_lt h i
    have le : 2 ^ (i * B + 1) ≤ 2 ^ ((i + 1) * B + 1) := Nat.pow_le_pow_right (by decide) (by rw [Nat.succ_mul]; omega)
    rw [List.take_add_one]
    cases e : ks[i]? with
    | none =>
      rw [Option.toList_none, List.append_nil]
      exact ⟨Nat.lt_of_lt_of_le h1 le, h2⟩
    | some k =>
      obtain ⟨k0, kB⟩ := h k (List.mem_of_getElem? e)
      rw [Option.toList_some, rnd_snoc]
      have p := lcm_pos h2 k0
      refine ⟨?_, p⟩
      have l := lcm_le h2 k0
      have w := wide_lt h1 kB
      have e2 : i * B + 1 + B = (i + 1) * B + 1 := by rw [Nat.succ_mul]; omega
      rw [e2] at w
      refine Nat.lt_of_le_of_lt ?_ w
      omega
theorem rnd_take {ks : List Int} {i : Nat} {k : Int} (h : ks[i]? = some k) : rnd (ks.take (i + 1)) = lcmI (rnd (ks.take i)) k := by
  rw [List.take_add_one, h]
  exact rnd_snoc _ _
def Bits (ns : List Int) : Prop := ∀ z ∈ ns, Builtin.Int.intBits z ≤ 1048576
def huge : Nat := 2100000
theorem num_dbl {n x : Int} {B : Nat} (hn : n.natAbs < 2 ^ B) (h0 : 0 ≤ n) (x0 : 0 ≤ x) (x1 : x ≤ 2 * n + 1) : x.natAbs < 2 ^ (B + 1) := by
  have e2 : (2 : Nat) ^ (B + 1) = 2 ^ B + 2 ^ B := by rw [Nat.pow_succ]; omega
  omega
theorem cut4 (ns : List Int) : cutV (ns.map V.int) none (some 4) = (ns.take 4).map V.int := by
  unfold cutV
  rw [show HT.sIx (ns.map V.int).length (ns.map V.int).length (some 4) = min 4 (ns.map V.int).length from HT.sIx_nat _ _ 4, HT.sIx_none, List.map_take]
  rw [List.drop_zero, Nat.sub_zero]
  by_cases h : 4 ≤ (ns.map V.int).length
  · rw [Nat.min_eq_left h]
  · rw [Nat.min_eq_right (by omega), List.take_length, List.take_of_length_le (by omega)]
end Dt
namespace Dt
open PySem PySem.Spec PyProof.Rows L2 Evl
local macro_rules | `(tactic| walk_at "st0") => `(tactic| first
  | (with_reducible refine c_seq ?_) | (with_reducible refine c_asg ?_) | (with_reducible refine c_asgG ?_) | (with_reducible refine c_ret ?_) | (with_reducible refine c_drop ?_) | (with_reducible refine c_ifS ?_) | (with_reducible refine c_next ?_) | (with_reducible refine c_par ?_) | (with_reducible refine c_for ?_) | (with_reducible refine c_g ?_) | (with_reducible refine c_iL ?_) | (with_reducible refine c_iR1 ?_) | (with_reducible refine c_iR2 ?_) | (with_reducible refine c_iE ?_)
  | (with_reducible refine c_op ?_) | (with_reducible refine c_un ?_) | (with_reducible refine c_cb ?_) | (with_reducible refine c_call ?_) | (with_reducible refine c_nil ?_) | (with_reducible refine c_cons ?_)
  | (with_reducible refine c_c ?_) | ((with_reducible refine' c_var ?hv ?_); (case hv => exact rfl))
  | (with_reducible refine c_test ?_) | (with_reducible refine c_B ?_) | (with_reducible refine c_k ?_) | (with_reducible refine c_and ?_) | (with_reducible refine c_or ?_) | (with_reducible refine c_not ?_)
  | (with_reducible refine c_andV ?_) | (with_reducible refine c_orV ?_) | (with_reducible refine c_notV ?_) | (with_reducible refine c_chain ?_)
  | (with_reducible refine c_lst ?_) | (with_reducible refine c_tup ?_) | (with_reducible refine c_sl ?_) | (with_reducible refine c_rev ?_) | (with_reducible refine c_bm ?_) | (with_reducible refine c_noP ?_) | (with_reducible refine c_part ?_) | (with_reducible refine c_ki ?_) | (with_reducible refine c_kpar ?_)
  | (with_reducible refine c_I0 ?_) | (with_reducible refine c_U ?_) | (with_reducible refine c_eqI ?_) | (with_reducible refine c_neI ?_) | (with_reducible refine c_eqB ?_) | (with_reducible refine c_neB ?_) | (with_reducible refine c_isB ?_) | (with_reducible refine c_notB ?_)
  | (with_reducible refine c_isiI ?_) | (with_reducible refine c_isiIb ?_) | (with_reducible refine c_isiB ?_)
  | ((with_reducible refine' w_t ?hb ?_); (case hb => exact rfl)) | ((with_reducible refine' w_f ?hb ?_); (case hb => exact rfl)))
local macro_rules | `(tactic| walk_at "st") => `(tactic| first | walk_at "st0" | (with_reducible refine c_if ?_))
local macro_rules | `(tactic| walk_at "goI") => `(tactic| ((repeat walk_at "st0"); (try dsimp only)))
local macro_rules | `(tactic| walk_at "go") => `(tactic| ((repeat walk_at "st"); (try dsimp only)))
local macro_rules | `(tactic| walk_at "go1") => `(tactic| ((repeat (first | (with_reducible refine c_seq ?_) | (with_reducible refine c_asg ?_))); (try dsimp only)))
/-! ### the text -/
def topS (i : Nat) : Stmt := PySem.Challenge.pw_doorturns_k07_whole_all.main.body.getD i (.Pass ⟨0, 0, 0, 0⟩)
abbrev s_is_number : Stmt := topS 6
section
variable {P : Program} {w : World} {K : PySem.W.Frag} {mg : Str → Option Value} {base : Heap}
/-! is_number, of an int -/
def spNum : Sp := fun vs H Q _ => ∃ n : Int, vs = [.int n] ∧ Q (.bl (decide (0 < n))) H
theorem ok_is_number (F : Df K mg "is_number" s_is_number ["thing"]) (B : Blt mg) : Cal P w K mg base CX0 1 "is_number" spNum := by
  have sc : FnScope ["thing"] ["thing"] (defScope s_is_number) := ⟨rfl, rfl, rfl, by decide +kernel, rfl, by decide +kernel, by decide +kernel⟩
  refine F.ok sc (fun vs H Q E h => ?_) (fun f cdv A outer s H vs Q E hr h => ?_)
  · obtain ⟨n, rfl, _⟩ := h
    rfl
  · obtain ⟨n, rfl, q⟩ := h
    refine ⟨_, (pss_one (ps_ret (pe_and (pe_callB call_isi (by rfl) B.isinstance_ boot_isinstance (pa_cons (pv 0) (pa_cons (pe_bltn (v := .ty "int") (by rfl) B.int_ boot_int rfl) pa_nil))) (pe_and (pe_not (pe_callB call_isi (by rfl) B.isinstance_ boot_isinstance (pa_cons (pv 0) (pa_cons (pe_bltn (v := .ty "bool") (by rfl) B.bool_ boot_bool rfl) pa_nil)))) (pe_one (pe_cmpR op_gt (pv 0) pe_int (nomark _))))))), ?_⟩
    walk_at "go"
    exact q
end
abbrev s_asked_door : Stmt := topS 7
section
variable {P : Program} {w : World} {K : PySem.W.Frag} {mg : Str → Option Value} {base : Heap}
/-! asked_door -/
def spAskD : Sp := fun vs H Q _ => ∃ n : Int, vs = [.int n] ∧ 1 ≤ n ∧ Q .non H
theorem ok_asked_door (F : Df K mg "asked_door" s_asked_door ["door"]) (c_is_number : Cal P w K mg base CX0 1 "is_number" spNum) : Cal P w K mg base CX0 2 "asked_door" spAskD := by
  have sc : FnScope ["door"] ["door"] (defScope s_asked_door) := ⟨rfl, rfl, rfl, by decide +kernel, rfl, by decide +kernel, by decide +kernel⟩
  refine F.ok sc (fun vs H Q E h => ?_) (fun f cdv A outer s H vs Q E hr h => ?_)
  · obtain ⟨n, rfl, _⟩ := h
    rfl
  · obtain ⟨n, rfl, hn, q⟩ := h
    refine ⟨_, (pss_one (ps_if (pt_not (pt_val (pe_d c_is_number hr (by decide) (by rfl) (pa_cons (pv 0) pa_nil))))
      (pss_one ps_never) pss_nil)), ?_⟩
    walk_at "go"
    refine ⟨n, rfl, ?_⟩
    walk_at "go"
    refine w_f (by rw [decide_eq_true (by omega)]; rfl) ?_
    walk_at "go"
    exact q
end
abbrev s__law_number : Stmt := topS 15
section
variable {P : Program} {w : World} {K : PySem.W.Frag} {mg : Str → Option Value} {base : Heap}
/-- any number that a cell gives, of bounded size -/
def spLawNumber : Sp := fun vs H Q _ => ∃ c at_ wh : Int, vs = [.int c, .int at_, .int wh] ∧ c.natAbs < 2 ^ big ∧ 0 ≤ at_ ∧ at_ ≤ 10000 ∧ ∀ n : Int, n.natAbs < 2 ^ (2 * big + 200) → Q (.int n) H
theorem ok__law_number (F : Df K mg "_law_number" s__law_number ["_law_cell", "_law_at", "_law_whole"]) : Cal P w K mg base CX0 1 "_law_number" spLawNumber := by
  have sc : FnScope ["_law_cell", "_law_at", "_law_whole", "_law_blend", "_law_more"] ["_law_cell", "_law_at", "_law_whole"] (defScope s__law_number) := ⟨rfl, rfl, rfl, by decide +kernel, rfl, by decide +kernel, by decide +kernel⟩
  refine F.ok sc (fun vs H Q E h => ?_) (fun f cdv A outer s H vs Q E hr h => ?_)
  · obtain ⟨c, at_, wh, rfl, _⟩ := h
    rfl
  · obtain ⟨c, at_, wh, rfl, hc, h0, h1, q⟩ := h
    refine ⟨_, (pss_cons (ps_if (pt_cmpR op_ge (pv 0) (pe_op op_pow pe_int pe_int) (nomark _))
      (pss_one (ps_ret (pe_op op_fdiv (pv 0) (pe_op op_add pe_int (pe_op op_mod (pv 1) pe_int))))) pss_nil)
      (pss_cons (ps_set (i := 3) sc.nd rfl (by first | exact Or.inl rfl | exact Or.inr rfl) (pe_op op_mod (pe_op op_add (pe_op op_mul (pe_op op_add (pv 0) (pe_op op_mul pe_int (pv 1))) pe_int) (pv 2)) pe_int))
      (pss_cons (ps_set (i := 4) sc.nd rfl (by first | exact Or.inl rfl | exact Or.inr rfl) (pe_op op_mul (pv 3) (pe_op op_add (pe_op op_add (pv 0) (pe_op op_mul pe_int (pv 1))) pe_int)))
      (pss_one (ps_ret (pe_op op_fdiv (pe_op op_mul (pe_op op_mulB (pv 4) (pe_op op_add (pe_op op_add (pv 3) (pv 0)) pe_int)) (pe_op op_add (pe_op op_mul (pv 3) (pv 3)) pe_int)) (pe_op op_add pe_int (pv 1)))))))), ?_⟩
    walk_at "go"
    refine c_I ⟨by decide, by decide, by decide⟩ ?_
    walk_at "go"
    refine w_2 (fun hb => ?_) (fun hb => ?_)
    · walk_at "go"
      refine c_I (by decide) ?_
      walk_at "go"
      have m0 : 0 ≤ at_ % 7 := Int.emod_nonneg _ (by decide)
      have m1 : at_ % 7 < 7 := Int.emod_lt_of_pos _ (by decide)
      refine c_I ⟨by omega, by omega⟩ ?_
      exact q _ (num_div (num_le hc (by omega)))
    · walk_at "go"
      refine c_I (.inl ⟨by decide, by decide⟩) ?_
      walk_at "go"
      refine c_I (.inr ⟨by decide, by decide⟩) ?_
      walk_at "go"
      refine c_I (by decide) ?_
      walk_at "go"
      generalize hbl : ((c + 977 * at_) * 48271 + wh) % 2147483647 = bl
      have b0 : 0 ≤ bl := by rw [← hbl]; exact Int.emod_nonneg _ (by decide)
      have b1 : bl < 2147483647 := by rw [← hbl]; exact Int.emod_lt_of_pos _ (by decide)
      refine c_I (.inl ⟨by decide, by decide⟩) ?_
      walk_at "go"
      refine c_I (.inl ⟨by omega, by omega⟩) ?_
      walk_at "go"
      have k1 : (c + 31 * at_ + 7).natAbs < 2 ^ (big + 1) := by
        rw [Int.add_assoc]
        exact num_add hc (by decide) (by omega)
      have k2 : (bl + c + 5).natAbs < 2 ^ (big + 1) := by
        rw [show bl + c + 5 = c + (bl + 5) by omega]
        exact num_add hc (by decide) (by omega)
      have kb : bl.natAbs < 2 ^ 31 := by omega
      have k3 : (bl * (c + 31 * at_ + 7)).natAbs < 2 ^ (31 + (big + 1)) := wide_lt kb k1
      refine c_I (mulOk k3 k2 (by decide)) ?_
      have k4 := wide_lt k3 k2
      walk_at "go"
      refine c_I (.inl ⟨by omega, by omega⟩) ?_
      walk_at "go"
      have k5 : 0 ≤ bl * bl := Int.mul_nonneg b0 b0
      have k6 : bl * bl ≤ 2147483647 * 2147483647 := Int.mul_le_mul (by omega) (by omega) b0 (by decide)
      refine c_I (.inr ⟨by omega, by omega⟩) ?_
      walk_at "go"
      refine c_I ⟨by omega, by omega⟩ ?_
      have k7 : (bl * bl + 11).natAbs < 2 ^ 63 := by omega
      exact q _ (num_div (num_le (wide_lt k4 k7) (by omega)))
end
abbrev s_asked_count : Stmt := topS 10
section
variable {P : Program} {w : World} {K : PySem.W.Frag} {mg : Str → Option Value} {base : Heap}
/-! asked_count -/
def spAskC : Sp := fun vs H Q _ => ∃ n : Int, vs = [.int n] ∧ 0 ≤ n ∧ Q .non H
theorem ok_asked_count (F : Df K mg "asked_count" s_asked_count ["many"]) (B : Blt mg) : Cal P w K mg base CX0 1 "asked_count" spAskC := by
  have sc : FnScope ["many"] ["many"] (defScope s_asked_count) := ⟨rfl, rfl, rfl, by decide +kernel, rfl, by decide +kernel, by decide +kernel⟩
  refine F.ok sc (fun vs H Q E h => ?_) (fun f cdv A outer s H vs Q E hr h => ?_)
  · obtain ⟨n, rfl, _⟩ := h
    rfl
  · obtain ⟨n, rfl, h0, q⟩ := h
    refine ⟨_, (pss_one (ps_if (PW.pt (pw_or (pt_not (pt_val (pe_callB call_isi (by rfl) B.isinstance_ boot_isinstance (pa_cons (pv 0) (pa_cons (pe_bltn (v := .ty "int") (by rfl) B.int_ boot_int rfl) pa_nil))))) (pw_or (pt_val (pe_callB call_isi (by rfl) B.isinstance_ boot_isinstance (pa_cons (pv 0) (pa_cons (pe_bltn (v := .ty "bool") (by rfl) B.bool_ boot_bool rfl) pa_nil)))) (pw_or1 (pt_cmpR op_lt (pv 0) pe_int (nomark _))))))
      (pss_one ps_never) pss_nil)), ?_⟩
    walk_at "go"
    refine w_f (decide_eq_false (by omega)) ?_
    walk_at "go"
    exact q
end
abbrev s_root : Stmt := topS 11
abbrev s_by_all : Stmt := topS 12
section
variable {P : Program} {w : World} {K : PySem.W.Frag} {mg : Str → Option Value} {base : Heap}
/-! root, by_all -/
def spRoot : Sp := fun vs H Q _ => ∃ n : Int, vs = [.int n] ∧ 0 ≤ n ∧ n.natAbs < 2 ^ huge ∧ ∀ r, IsRoot n r → RetV (.int r) H Q
theorem ok_root (F : Df K mg "root" s_root ["number"]) : Cal P w K mg base CX0 1 "root" spRoot := by
  have sc : FnScope ["number", "low", "high", "middle"] ["number"] (defScope s_root) := ⟨rfl, rfl, rfl, by decide +kernel, rfl, by decide +kernel, by decide +kernel⟩
  refine F.ok sc (fun vs H Q E h => ?_) (fun f cdv A outer s H vs Q E hr h => ?_)
  · obtain ⟨n, rfl, _⟩ := h
    rfl
  · obtain ⟨n, rfl, h0, hn, q⟩ := h
    refine ⟨_, (pss_cons (ps_asg (pe_tup (pa_cons pe_int (pa_cons pe_int pa_nil))) (pg_tup rfl (pgs_cons (pg_name (i := 1) sc.nd rfl (by first | exact Or.inl rfl | exact Or.inr rfl)) (pgs_cons (pg_name (i := 2) sc.nd rfl (by first | exact Or.inl rfl | exact Or.inr rfl)) pgs_nil))))
      (pss_cons (ps_while PassesOwn.never (pt_cmpR op_le (pe_op op_mulB (pv 2) (pv 2)) (pv 0) (nomark _))
      (pss_one (ps_set (i := 2) sc.nd rfl (by first | exact Or.inl rfl | exact Or.inr rfl) (pe_op op_mul (pv 2) pe_int))))
      (pss_cons (ps_while PassesOwn.never (pt_cmpR op_gt (pe_op op_sub (pv 2) (pv 1)) pe_int (nomark _))
      (pss_cons (ps_set (i := 3) sc.nd rfl (by first | exact Or.inl rfl | exact Or.inr rfl) (pe_op op_fdiv (pe_op op_add (pv 1) (pv 2)) pe_int))
      (pss_one (ps_if (pt_cmpR op_le (pe_op op_mulB (pv 3) (pv 3)) (pv 0) (nomark _))
      (pss_one (ps_set (i := 1) sc.nd rfl (by first | exact Or.inl rfl | exact Or.inr rfl) (pv 3))) (pss_one (ps_set (i := 2) sc.nd rfl (by first | exact Or.inl rfl | exact Or.inr rfl) (pv 3)))))))
      (pss_one (ps_ret (pv 1)))))), ?_⟩
    have small : ∀ x : Int, 0 ≤ x → x ≤ 2 * n + 1 → x.natAbs < 2 ^ (huge + 1) := fun x x0 x1 => num_dbl hn h0 x0 x1
    have mul : ∀ x : Int, 0 ≤ x → x ≤ 2 * n + 1 → IntMulOk x x := fun x x0 x1 => mulOk (small x x0 x1) (small x x0 x1) (by decide)
    walk_at "go"
    refine ⟨by show 2 ≤ sizeLine; decide, fun tp ntp => ?_⟩
    have etp : Ex H (upd H tp (.tup [.int 0, .int 1])) := Ex.new ntp
    refine ⟨tp, _, rfl, .inl (.inl upd_same), rfl, _, _, rfl, _, _, rfl, rfl, ?_⟩
    generalize upd H tp (.tup [.int 0, .int 1]) = H0 at etp ⊢
    refine c_seq ?_
    refine ⟨fun m σ H' => ∃ hi : Int, σ = [some (.int n), some (.int 0), some (.int hi), none] ∧ H' = H0 ∧ 1 ≤ hi ∧ hi ≤ 2 * n + 1 ∧ m = (2 * n + 2 - hi).toNat, ⟨_, 1, rfl, rfl, by omega, by omega, rfl⟩, fun m σ H' hW => ?_⟩
    obtain ⟨hi, rfl, rfl, g1, g2, rfl⟩ := hW
    walk_at "go"
    refine c_I (mul hi (by omega) g2) ?_
    walk_at "go"
    refine w_2 (fun hb => ?_) (fun hb => ?_)
    · have hle : hi * hi ≤ n := of_decide_eq_true hb
      have hin := le_sq g1 hle
      refine n_self ?_
      walk_at "go"
      refine c_I (.inr ⟨by decide, by decide⟩) ?_
      exact ⟨_, by omega, hi * 2, rfl, rfl, by omega, by omega, rfl⟩
    · have hlt : ¬ hi * hi ≤ n := of_decide_eq_false hb
      walk_at "go"
      refine ⟨fun m σ H'' => ∃ lo hi y, σ = [some (.int n), some (.int lo), some (.int hi), y] ∧ H'' = H' ∧ 0 ≤ lo ∧ lo < hi ∧ hi ≤ 2 * n + 1 ∧ lo * lo ≤ n ∧ n < hi * hi ∧ m = (hi - lo).toNat, ⟨_, 0, hi, none, rfl, rfl, by omega, by omega, g2, by omega, by omega, rfl⟩, fun m σ H'' hW => ?_⟩
      obtain ⟨lo, hi, y, rfl, rfl, l0, l1, l2, l3, l4, rfl⟩ := hW
      walk_at "go"
      refine w_2 (fun hb => ?_) (fun hb => ?_)
      · have h1 : 1 < hi - lo := of_decide_eq_true hb
        refine n_self ?_
        walk_at "go"
        refine c_I ⟨by decide, by decide⟩ ?_
        generalize hm : (lo + hi) / 2 = mid
        have m1 : lo < mid := by omega
        have m2 : mid < hi := by omega
        walk_at "go"
        refine c_I (mul mid (by omega) (by omega)) ?_
        walk_at "go"
        refine w_2 (fun hb => ?_) (fun hb => ?_)
        · have hle : mid * mid ≤ n := of_decide_eq_true hb
          walk_at "go"
          exact ⟨_, by omega, mid, hi, some (.int mid), rfl, rfl, by omega, by omega, l2, hle, l4, rfl⟩
        · have hle : ¬ mid * mid ≤ n := of_decide_eq_false hb
          walk_at "go"
          exact ⟨_, by omega, lo, mid, some (.int mid), rfl, rfl, by omega, by omega, by omega, l3, by omega, rfl⟩
      · have h1 : ¬ 1 < hi - lo := of_decide_eq_false hb
        have e : hi = lo + 1 := by omega
        subst e
        walk_at "go"
        exact q lo ⟨l0, l3, l4⟩ _ etp
theorem ok_by_all (F : Df K mg "by_all" s_by_all ["many"]) (c_asked_count : Cal P w K mg base CX0 1 "asked_count" spAskC) (c_root : Cal P w K mg base CX0 1 "root" spRoot) : Cal P w K mg base CX0 2 "by_all" spRoot := by
  have sc : FnScope ["many"] ["many"] (defScope s_by_all) := ⟨rfl, rfl, rfl, by decide +kernel, rfl, by decide +kernel, by decide +kernel⟩
  refine F.ok sc (fun vs H Q E h => ?_) (fun f cdv A outer s H vs Q E hr h => ?_)
  · obtain ⟨n, rfl, _⟩ := h
    rfl
  · obtain ⟨n, rfl, h0, hn, q⟩ := h
    refine ⟨_, (pss_cons (ps_expr (pe_d c_asked_count hr (by decide) (by rfl) (pa_cons (pv 0) pa_nil)))
      (pss_one (ps_ret (pe_d c_root hr (by decide) (by rfl) (pa_cons (pv 0) pa_nil))))), ?_⟩
    walk_at "go"
    refine ⟨n, rfl, h0, ?_⟩
    walk_at "go"
    exact ⟨n, rfl, h0, hn, q⟩
end
abbrev s_by_stretch : Stmt := topS 13
section
variable {P : Program} {w : World} {K : PySem.W.Frag} {mg : Str → Option Value} {base : Heap}
/-! by_stretch -/
def spStretch : Sp := fun vs H Q _ => ∃ f l d : Int, vs = [.int f, .int l, .int d] ∧ 1 ≤ f ∧ f ≤ l ∧ 1 ≤ d ∧ d ≤ 1000000000 ∧ Q (.bl (decide (cA f l d % 2 = 1))) H
theorem in_chain {f l x : Int} : (if inR f l x = true then (1 : Int) else 0) = if f ≤ x then (if x ≤ l then 1 else 0) else 0 := by
  unfold inR
  by_cases h1 : f ≤ x <;> by_cases h2 : x ≤ l <;> simp [h1, h2]
theorem ok_by_stretch (F : Df K mg "by_stretch" s_by_stretch ["first", "last", "door"]) (c_is_number : Cal P w K mg base CX0 1 "is_number" spNum) (c_asked_door : Cal P w K mg base CX0 2 "asked_door" spAskD) (g_GREATEST : ∃ t, mg "GREATEST" = some (.int 1000000000 t)) : Cal P w K mg base CX0 3 "by_stretch" spStretch := by
  obtain ⟨tm, g_GREATEST⟩ := g_GREATEST
  have sc : FnScope ["first", "last", "door", "found", "at"] ["first", "last", "door"] (defScope s_by_stretch) := ⟨rfl, rfl, rfl, by decide +kernel, rfl, by decide +kernel, by decide +kernel⟩
  refine F.ok sc (fun vs H Q E h => ?_) (fun f cdv A outer s H vs Q E hr h => ?_)
  · obtain ⟨f, l, d, rfl, _⟩ := h
    rfl
  · obtain ⟨f, l, d, rfl, hf, hl, hd, hg, q⟩ := h
    refine ⟨_, (pss_cons (ps_if (PW.pt (pw_or (pt_not (pt_val (pe_d c_is_number hr (by decide) (by rfl) (pa_cons (pv 0) pa_nil)))) (pw_or (pt_not (pt_val (pe_d c_is_number hr (by decide) (by rfl) (pa_cons (pv 1) pa_nil)))) (pw_or1 (pt_cmpR op_lt (pv 1) (pv 0) (nomark _))))))
      (pss_one ps_never) pss_nil)
      (pss_cons (ps_expr (pe_d c_asked_door hr (by decide) (by rfl) (pa_cons (pv 2) pa_nil)))
      (pss_cons (ps_if (pt_cmpR op_gt (pv 2) (pe_glob (v := .int 1000000000) (by rfl) g_GREATEST ⟨_, rfl⟩) (nomark _))
      (pss_one ps_never) pss_nil)
      (pss_cons (ps_set (i := 3) sc.nd rfl (by first | exact Or.inl rfl | exact Or.inr rfl) pe_int)
      (pss_cons (ps_set (i := 4) sc.nd rfl (by first | exact Or.inl rfl | exact Or.inr rfl) pe_int)
      (pss_cons (ps_while PassesOwn.never (pt_cmpR op_le (pe_op op_mul (pv 4) (pv 4)) (pv 2) (nomark _))
      (pss_cut (ps_if (pt_cmpR op_eq (pe_op op_mod (pv 2) (pv 4)) pe_int (nomark _))
      (pss_cons (ps_set (i := 3) sc.nd rfl (by first | exact Or.inl rfl | exact Or.inr rfl) (pe_op op_add (pv 3) (pe_ifExp (pt_chain op_le op_le (pv 0) (pv 4) (pv 1)) pe_int pe_int)))
      (pss_one (ps_if (pt_cmpR op_lt (pe_op op_mul (pv 4) (pv 4)) (pv 2) (nomark _))
      (pss_one (ps_set (i := 3) sc.nd rfl (by first | exact Or.inl rfl | exact Or.inr rfl) (pe_op op_add (pv 3) (pe_ifExp (pt_chain op_le op_le (pv 0) (pe_op op_fdiv (pv 2) (pv 4)) (pv 1)) pe_int pe_int)))) pss_nil))) pss_nil)
      (pss_one (ps_set (i := 4) sc.nd rfl (by first | exact Or.inl rfl | exact Or.inr rfl) (pe_op op_add (pv 4) pe_int)))))
      (pss_one (ps_ret (pe_cmpR op_eq (pe_op op_mod (pv 3) pe_int) pe_int (nomark _)))))))))), ?_⟩
    walk_at "go"
    refine ⟨f, rfl, ?_⟩
    rw [decide_eq_true (show 0 < f by omega)]
    walk_at "go"
    refine ⟨l, rfl, ?_⟩
    rw [decide_eq_true (show 0 < l by omega)]
    walk_at "go"
    refine w_f (decide_eq_false (by omega)) ?_
    walk_at "go"
    refine ⟨d, rfl, hd, ?_⟩
    walk_at "go"
    refine w_f (decide_eq_false (by omega)) ?_
    walk_at "go"
    refine ⟨fun m σ H' => ∃ at_ : Int, σ = [some (.int f), some (.int l), some (.int d), some (.int (cS f l d at_ : Nat)), some (.int at_)] ∧ H' = H ∧ 1 ≤ at_ ∧ at_ ≤ d + 1 ∧ m = (d + 1 - at_).toNat, ⟨_, 1, by rw [cS_start]; rfl, rfl, by omega, by omega, rfl⟩, fun m σ H' hW => ?_⟩
    obtain ⟨x, rfl, rfl, x1, x2, rfl⟩ := hW
    walk_at "go"
    refine c_I (.inl ⟨by omega, by omega⟩) ?_
    walk_at "go"
    refine w_2 (fun hb => ?_) (fun hb => ?_)
    · have hle : x * x ≤ d := of_decide_eq_true hb
      have hxd := le_sq x1 hle
      refine n_self ?_
      refine ⟨fun σ' H'' => σ' = [some (.int f), some (.int l), some (.int d), some (.int (cS f l d (x + 1) : Nat)), some (.int x)] ∧ H'' = H', ?_, fun σ' H'' h => ?_⟩
      · walk_at "go"
        refine c_I (by omega) ?_
        walk_at "go"
        refine w_2 (fun hb => ?_) (fun hb => ?_)
        · have hz : d % x = 0 := of_decide_eq_true hb
          obtain ⟨e, rfl⟩ := Int.dvd_of_emod_eq_zero hz
          have hxe : x ≤ e := by
            by_cases z : x ≤ e
            · exact z
            · exfalso
              have : x * e < x * x := Int.mul_lt_mul_of_pos_left (by omega) (by omega)
              omega
          have st := cS_step (f := f) (l := l) x1 hxe
          walk_at "goI"
          refine c_ev (fun v H1 => v = .int (if inR f l x = true then 1 else 0) ∧ H1 = H') (fun Q' k => ?_) (fun v H1 hv => ?_)
          · walk_at "go"
            rw [in_chain] at k
            refine w_2 (fun hb => ?_) (fun hb => ?_)
            · have hb := of_decide_eq_true hb
              walk_at "go"
              refine w_2 (fun hb2 => ?_) (fun hb2 => ?_)
              · have hb2 := of_decide_eq_true hb2
                walk_at "go"
                exact k _ _ ⟨by rw [if_pos hb, if_pos hb2], rfl⟩
              · have hb2 := of_decide_eq_false hb2
                walk_at "go"
                exact k _ _ ⟨by rw [if_pos hb, if_neg hb2], rfl⟩
            · have hb := of_decide_eq_false hb
              walk_at "go"
              exact k _ _ ⟨by rw [if_neg hb], rfl⟩
          obtain ⟨rfl, rfl⟩ := hv
          walk_at "go"
          refine c_I (.inl ⟨by omega, by omega⟩) ?_
          walk_at "go"
          refine w_2 (fun hb => ?_) (fun hb => ?_)
          · have hlt : x * x < x * e := of_decide_eq_true hb
            have hlt2 : x < e := Int.lt_of_mul_lt_mul_left hlt (by omega)
            walk_at "goI"
            refine c_ev (fun v H2 => v = .int (if inR f l e = true then 1 else 0) ∧ H2 = H1) (fun Q' k => ?_) (fun v H2 hv => ?_)
            · walk_at "go"
              refine c_I ⟨by omega, by omega⟩ ?_
              rw [mul_div_self (by omega)]
              rw [in_chain] at k
              walk_at "go"
              refine w_2 (fun hb => ?_) (fun hb => ?_)
              · have hb := of_decide_eq_true hb
                walk_at "go"
                refine w_2 (fun hb2 => ?_) (fun hb2 => ?_)
                · have hb2 := of_decide_eq_true hb2
                  walk_at "go"
                  exact k _ _ ⟨by rw [if_pos hb, if_pos hb2], rfl⟩
                · have hb2 := of_decide_eq_false hb2
                  walk_at "go"
                  exact k _ _ ⟨by rw [if_pos hb, if_neg hb2], rfl⟩
              · have hb := of_decide_eq_false hb
                walk_at "go"
                exact k _ _ ⟨by rw [if_neg hb], rfl⟩
            obtain ⟨rfl, rfl⟩ := hv
            walk_at "go"
            refine ⟨?_, rfl⟩
            rw [if_pos hlt2] at st
            have e3 : ((cS f l (x * e) (x + 1) : Nat) : Int) = (cS f l (x * e) x : Nat) + (if inR f l x = true then 1 else 0) + (if inR f l e = true then 1 else 0) := by
              rw [st]
              by_cases i1 : inR f l x = true <;> by_cases i2 : inR f l e = true <;> simp [i1, i2] <;> omega
            rw [e3]
            rfl
          · have hlt : ¬ x * x < x * e := of_decide_eq_false hb
            have hlt2 : ¬ x < e := fun z => hlt (Int.mul_lt_mul_of_pos_left z (by omega))
            walk_at "go"
            refine ⟨?_, rfl⟩
            rw [if_neg hlt2] at st
            have e3 : ((cS f l (x * e) (x + 1) : Nat) : Int) = (cS f l (x * e) x : Nat) + (if inR f l x = true then 1 else 0) := by
              rw [st]
              by_cases i1 : inR f l x = true <;> simp [i1]
            rw [e3]
            rfl
        · have hz : ¬ d % x = 0 := of_decide_eq_false hb
          walk_at "go"
          exact ⟨by rw [cS_none x1 hz], rfl⟩
      · obtain ⟨rfl, rfl⟩ := h
        walk_at "go"
        exact ⟨_, by omega, x + 1, rfl, rfl, by omega, by omega, rfl⟩
    · have hlt : ¬ x * x ≤ d := of_decide_eq_false hb
      rw [cS_end x1 (by omega)]
      walk_at "go"
      refine c_I (by decide) ?_
      walk_at "go"
      have e : decide ((((cA f l d : Nat) : Int) % 2) = 1) = decide (cA f l d % 2 = 1) := by rw [Bool.eq_iff_iff]; simp; omega
      rw [e]
      exact q
end
abbrev s_law : Stmt := topS 16
section
variable {P : Program} {w : World} {K : PySem.W.Frag} {mg : Str → Option Value} {base : Heap}
def spLaw (K : PySem.W.Frag) : Sp := fun vs H Q _ => ∃ (a : Addr) (ns : List Int), vs = [.ref a] ∧ SqL K H a (ns.map V.int) ∧ ns.length ≤ 63 ∧ Bits ns ∧ ∀ H', Q (.bl true) H'
theorem root_le {n r : Int} (h : IsRoot n r) : r ≤ n := by
  by_cases z : 1 ≤ r
  · exact le_sq z h.le
  · have := h.nn
    have := h.le
    have : 0 ≤ r * r := Int.mul_nonneg h.nn h.nn
    omega
theorem ok_law {f : Addr} {fd : FuncData} (F : Fun K "law" "law" s_law f fd) (B : Blt mg) (c__law_number : Cal P w K mg base CX0 1 "_law_number" spLawNumber) (c_by_all : Cal P w K mg base CX0 2 "by_all" spRoot) (c_by_stretch : Cal P w K mg base CX0 3 "by_stretch" spStretch) : FnOk P w K mg base CX0 4 f fd ["_law_script"] (spLaw K) := by
  have sc : FnScope ["_law_script", "_law_whole", "_law_at", "_law_cell", "_law_number_here", "_law_many", "_law_side", "_law_door", "_law_first", "_law_last", "_law_due", "_law_one", "_law_middle", "_law_apart", "_law_square"] ["_law_script"] (defScope s_law) := ⟨rfl, rfl, rfl, by decide +kernel, rfl, by decide +kernel, by decide +kernel⟩
  refine F.ok sc (fun vs H Q E h => ?_) (fun cdv A outer s H vs Q E hr h => ?_)
  · obtain ⟨a, ns, rfl, _⟩ := h
    rfl
  · obtain ⟨a, ns, rfl, hS, hl, hB, q⟩ := h
    refine ⟨_, (pss_cons (ps_set (i := 1) sc.nd rfl (by first | exact Or.inl rfl | exact Or.inr rfl) (pe_callB call_abs_s (by rfl) B.abs_ boot_abs (pa_cons (pe_callB (cr_sum rfl) (by rfl) B.sum_ boot_sum (pa_cons (pe_slice sl_list (pv 0) po_none (po_some pe_int)) pa_nil)) pa_nil)))
      (pss_cons (ps_for PassesOwn.never rfl (pi_enum (by rfl) B.enumerate_ (pa_cons (pe_op op_cat (pe_slice sl_list (pv 0) po_none (po_some pe_int)) (pe_lst (pa_cons pe_int pa_nil))) pa_nil)) (pg_tup rfl (pgs_cons (pg_name (i := 2) sc.nd rfl (by first | exact Or.inl rfl | exact Or.inr rfl)) (pgs_cons (pg_name (i := 3) sc.nd rfl (by first | exact Or.inl rfl | exact Or.inr rfl)) pgs_nil)))
      (pss_cons (ps_set (i := 4) sc.nd rfl (by first | exact Or.inl rfl | exact Or.inr rfl) (pe_callB call_abs_s (by rfl) B.abs_ boot_abs (pa_cons (pe_d c__law_number hr (by decide) (by rfl) (pa_cons (pv 3) (pa_cons (pe_op op_add (pv 2) pe_int) (pa_cons (pv 1) pa_nil)))) pa_nil)))
      (pss_cons (ps_set (i := 5) sc.nd rfl (by first | exact Or.inl rfl | exact Or.inr rfl) (pe_d c_by_all hr (by decide) (by rfl) (pa_cons (pv 4) pa_nil)))
      (pss_cons (ps_if (PW.pt (pw_or (pt_val (pe_callB call_isi (by rfl) B.isinstance_ boot_isinstance (pa_cons (pv 5) (pa_cons (pe_bltn (v := .ty "bool") (by rfl) B.bool_ boot_bool rfl) pa_nil)))) (pw_or1 (pt_not (pt_chain op_le op_lt (pe_op op_mulB (pv 5) (pv 5)) (pv 4) (pe_op op_mulB (pe_op op_add (pv 5) pe_int) (pe_op op_add (pv 5) pe_int)))))))
      (pss_one (ps_ret pe_bl)) pss_nil)
      (pss_cons (ps_set (i := 6) sc.nd rfl (by first | exact Or.inl rfl | exact Or.inr rfl) (pe_op op_mod (pv 4) (pe_op op_pow pe_int pe_int)))
      (pss_cons (ps_if (PW.pt (pw_or (pt_cmpR op_ne (pe_d c_by_all hr (by decide) (by rfl) (pa_cons (pe_op op_mulB (pv 6) (pv 6)) pa_nil)) (pv 6) (nomark _)) (pw_or1 (PW.pt (pw_and (pt_cmpR op_gt (pv 6) pe_int (nomark _)) (pw_and1 (pt_cmpR op_ne (pe_d c_by_all hr (by decide) (by rfl) (pa_cons (pe_op op_sub (pe_op op_mulB (pv 6) (pv 6)) pe_int) pa_nil)) (pe_op op_sub (pv 6) pe_int) (nomark _))))))))
      (pss_one (ps_ret pe_bl)) pss_nil)
      (pss_cons (ps_set (i := 7) sc.nd rfl (by first | exact Or.inl rfl | exact Or.inr rfl) (pe_op op_add pe_int (pe_op op_mod (pv 4) (pe_ifExp (PW.pt (pw_or (pt_cmpR op_gt (pe_op op_mod (pv 1) pe_int) pe_int (nomark _)) (pw_or1 (pt_cmpR op_gt (pv 2) pe_int (nomark _))))) pe_int (pe_op op_pow pe_int pe_int)))))
      (pss_cons (ps_set (i := 8) sc.nd rfl (by first | exact Or.inl rfl | exact Or.inr rfl) (pe_op op_add pe_int (pe_op op_mod (pe_op op_fdiv (pv 4) pe_int) (pe_op op_add (pv 7) pe_int))))
      (pss_cons (ps_set (i := 9) sc.nd rfl (by first | exact Or.inl rfl | exact Or.inr rfl) (pe_op op_add (pv 8) (pe_op op_mod (pe_op op_fdiv (pv 4) pe_int) (pe_op op_add (pv 7) pe_int))))
      (pss_cut (ps_if (pt_cmpR op_le (pv 7) pe_int (nomark _))
      (pss_cons (ps_set (i := 10) sc.nd rfl (by first | exact Or.inl rfl | exact Or.inr rfl) (pe_cmpR op_eq (pe_op op_mod (pe_callB call_len_s (by rfl) B.len_ boot_len (pa_cons (pe_lc (own := [("_law_one", 11)]) (g := (gName 11)) (by rfl) sc.nd (pi_range2 (by rfl) B.range_ (pa_cons (pv 8) (pa_cons (pe_op op_add (pe_callB (call_min2_s rfl) (by rfl) B.min_ boot_min (pa_cons (pv 9) (pa_cons (pv 7) pa_nil))) pe_int) pa_nil))) (blkOk_by (own := [("_law_one", 11)]) (N := ["_law_script", "_law_whole", "_law_at", "_law_cell", "_law_number_here", "_law_many", "_law_side", "_law_door", "_law_first", "_law_last", "_law_due", "_law_one", "_law_middle", "_law_apart", "_law_square"]) (sc := defScope s_law) (by decide +kernel)) (fun _ _ _ _ _ => (pg_name (i := 11) sc.nd rfl (by first | exact Or.inl rfl | exact Or.inr rfl))) (fun _ _ _ _ _ => (pts_one (pt_cmpR op_eq (pe_op op_mod (pv 7) (pv 11)) pe_int (nomark _)))) (fun _ _ _ _ _ => (pv 11))) pa_nil)) pe_int) pe_int (nomark _)))
      (pss_one (ps_if (pt_cmpR op_ne (pe_d c_by_stretch hr (by decide) (by rfl) (pa_cons (pv 8) (pa_cons (pv 9) (pa_cons (pv 7) pa_nil)))) (pv 10) (nomark _))
      (pss_one (ps_ret pe_bl)) pss_nil))) pss_nil)
      (pss_cons (ps_set (i := 12) sc.nd rfl (by first | exact Or.inl rfl | exact Or.inr rfl) (pe_op op_add (pv 8) (pe_op op_fdiv (pe_op op_sub (pv 9) (pv 8)) pe_int)))
      (pss_cut (ps_if (pt_cmpR op_lt (pv 12) (pv 9) (nomark _))
      (pss_cons (ps_set (i := 13) sc.nd rfl (by first | exact Or.inl rfl | exact Or.inr rfl) (pe_cmpR op_ne (pe_d c_by_stretch hr (by decide) (by rfl) (pa_cons (pv 8) (pa_cons (pv 12) (pa_cons (pv 7) pa_nil)))) (pe_d c_by_stretch hr (by decide) (by rfl) (pa_cons (pe_op op_add (pv 12) pe_int) (pa_cons (pv 9) (pa_cons (pv 7) pa_nil)))) (nomark _)))
      (pss_one (ps_if (pt_cmpR op_ne (pe_d c_by_stretch hr (by decide) (by rfl) (pa_cons (pv 8) (pa_cons (pv 9) (pa_cons (pv 7) pa_nil)))) (pv 13) (nomark _))
      (pss_one (ps_ret pe_bl)) pss_nil))) pss_nil)
      (pss_cons (ps_set (i := 14) sc.nd rfl (by first | exact Or.inl rfl | exact Or.inr rfl) (pe_cmpR op_eq (pe_op op_mul (pe_d c_by_all hr (by decide) (by rfl) (pa_cons (pv 7) pa_nil)) (pe_d c_by_all hr (by decide) (by rfl) (pa_cons (pv 7) pa_nil))) (pv 7) (nomark _)))
      (pss_one (ps_if (PW.pt (pw_or (pt_cmpR op_ne (pe_d c_by_stretch hr (by decide) (by rfl) (pa_cons pe_int (pa_cons (pv 7) (pa_cons (pv 7) pa_nil)))) (pv 14) (nomark _)) (pw_or1 (pt_cmpR op_ne (pe_d c_by_stretch hr (by decide) (by rfl) (pa_cons pe_int (pa_cons (pe_op op_pow pe_int pe_int) (pa_cons (pv 7) pa_nil)))) (pv 14) (nomark _)))))
      (pss_one (ps_ret pe_bl)) pss_nil)))))))))))))))
      (pss_one (ps_ret (pe_and (pe_cmpR (op_eqD hr.units) (pe_lc (own := [("_law_many", 5)]) (g := (gName 5)) (by rfl) sc.nd (pi_list (pe_lst (pa_cons pe_int (pa_cons pe_int (pa_cons pe_int (pa_cons pe_int (pa_cons pe_int (pa_cons pe_int pa_nil)))))))) (blkOk_by (own := [("_law_many", 5)]) (N := ["_law_script", "_law_whole", "_law_at", "_law_cell", "_law_number_here", "_law_many", "_law_side", "_law_door", "_law_first", "_law_last", "_law_due", "_law_one", "_law_middle", "_law_apart", "_law_square"]) (sc := defScope s_law) (by decide +kernel)) (fun _ _ _ _ _ => (pg_name (i := 5) sc.nd rfl (by first | exact Or.inl rfl | exact Or.inr rfl))) (fun _ _ _ _ _ => pts_nil) (fun _ _ _ _ _ => (pe_d c_by_all hr (by decide) (by rfl) (pa_cons (pv 5) pa_nil)))) (pe_lst (pa_cons pe_int (pa_cons pe_int (pa_cons pe_int (pa_cons pe_int (pa_cons pe_int (pa_cons pe_int pa_nil))))))) (nomark _)) (pe_one (pe_cmpR op_isBl (pe_d c_by_stretch hr (by decide) (by rfl) (pa_cons pe_int (pa_cons pe_int (pa_cons pe_int pa_nil)))) pe_bl (nomark _)))))))), ?_⟩
    walk_at "go"
    refine ⟨a, _, rfl, hS, fun c nc => ?_⟩
    rw [cut63 (by rw [List.length_map]; exact hl)]
    walk_at "go"
    refine c_sum (.inl (.inl upd_same)) ?_
    walk_at "go"
    refine c_abs ?_
    have ec : Ex H (upd H c (.lst (ns.map V.int))) := Ex.new nc
    generalize upd H c (.lst (ns.map V.int)) = Hc at ec ⊢
    generalize hW : (ns.sum.natAbs : Int) = W
    have W0 : 0 ≤ W := by omega
    walk_at "go"
    refine ⟨a, _, rfl, ex_l ec hS, fun c4 nc4 => ?_⟩
    rw [cut4]
    walk_at "go"
    refine ⟨by show 1 ≤ sizeLine; decide, fun o no => ?_⟩
    refine c_cat (us := (ns.take 4).map V.int) (vs := [.int 6]) (Ex.new no _ _ upd_same) upd_same (by rw [List.length_map, List.length_take]; show min 4 ns.length + 1 ≤ _; omega) fun el nel => ?_
    have hes : ∀ z ∈ ns.take 4 ++ [6], z.natAbs < 2 ^ big := by
      intro z hz
      rcases List.mem_append.mp hz with m | m
      · exact num_le (num_bits (hB z (List.mem_of_mem_take m))) (by decide)
      · rw [List.mem_singleton.mp m]
        exact num_le (n := big) (m := 3) (by decide) (by decide)
    have hel : (ns.take 4 ++ [6]).length ≤ 5 := by rw [List.length_append, List.length_take]; show min 4 ns.length + 1 ≤ 5; omega
    have emap : (ns.take 4).map V.int ++ [.int 6] = (ns.take 4 ++ [6]).map V.int := by rw [List.map_append]; rfl
    rw [emap]
    generalize ns.take 4 ++ [6] = es at hes hel
    have hE : ∀ G : Hp, (upd G el (.lst (es.map V.int))) el = some (.lst (es.map V.int)) := fun _ => upd_same
    have hE := hE (upd (upd Hc c4 (.lst ((ns.take 4).map V.int))) o (.lst [.int 6]))
    generalize upd (upd (upd Hc c4 (.lst ((ns.take 4).map V.int))) o (.lst [.int 6])) el (.lst (es.map V.int)) = Hb at hE ⊢
    walk_at "go"
    refine ⟨el, _, rfl, .inl (.inl hE), f_it (walk_enum (K := K) (xs := es.map V.int)) (fun i σ H' => ∃ y2 y3 y4 y5 y6 y7 y8 y9 y10 y11 y12 y13 y14, σ = [some (.ref a), some (.int W), y2, y3, y4, y5, y6, y7, y8, y9, y10, y11, y12, y13, y14] ∧ Ex Hb H')
      ⟨_, _, _, _, _, _, _, _, _, _, _, _, _, rfl, Ex.refl _⟩ (fun i σ H' _ h => by obtain ⟨_, _, _, _, _, _, _, _, _, _, _, _, _, _, e⟩ := h; exact .inl (.inl (e _ _ hE))) (fun i x σ H1 H1' hi h hy => ?_) (fun σ H1 h => ?_)⟩
    · obtain ⟨y2, y3, y4, y5, y6, y7, y8, y9, y10, y11, y12, y13, y14, rfl, e1⟩ := h
      obtain ⟨tp, xi, xc, rfl, ntp, rfl, h1, h2⟩ := hy
      have h1 : V.int (i : Nat) = xi := Option.some.inj h1
      subst h1
      obtain ⟨rfl, hi5, hg⟩ := getD_of h2
      have hcb := hes _ (getD_mem hi5)
      generalize es.getD i 0 = cell at hcb
      have e2 : Ex Hb (upd H1 tp (.tup [.int (i : Nat), .int cell])) := e1.trans (Ex.new ntp)
      refine ⟨tp, _, rfl, .inl (.inl upd_same), rfl, _, _, rfl, _, _, rfl, rfl, ?_⟩
      generalize upd H1 tp (.tup [.int (i : Nat), .int cell]) = H2 at e2 ⊢
      walk_at "go"
      refine ⟨cell, _, W, rfl, hcb, by omega, by omega, fun n hn => ?_⟩
      walk_at "go"
      refine c_abs ?_
      generalize hN : (n.natAbs : Int) = N
      have N0 : 0 ≤ N := by omega
      have NB : N.natAbs < 2 ^ huge := num_le (m := 2 * big + 200) (by rw [← hN, Int.natAbs_natCast]; exact hn) (by decide)
      walk_at "go"
      refine ⟨N, rfl, N0, NB, fun r hr H3 e3 => ?_⟩
      have r0 := hr.nn
      have rle := root_le hr
      have rB : r.natAbs < 2 ^ (huge + 1) := num_dbl NB N0 r0 (by omega)
      have rB1 : (r + 1).natAbs < 2 ^ (huge + 1) := num_dbl NB N0 (by omega) (by omega)
      walk_at "go"
      refine c_I (mulOk rB rB (by decide)) ?_
      walk_at "go"
      refine w_t (decide_eq_true hr.le) ?_
      walk_at "go"
      refine c_I (mulOk rB1 rB1 (by decide)) ?_
      walk_at "go"
      refine w_f (by rw [decide_eq_true hr.lt]; rfl) ?_
      walk_at "go"
      refine c_I ⟨by decide, by decide, by decide⟩ ?_
      walk_at "go"
      refine c_I (by decide) ?_
      generalize hsd : N % 10 ^ (20 : Int).toNat = sd
      have s0 : 0 ≤ sd := by rw [← hsd]; exact Int.emod_nonneg _ (by decide)
      have s1 : sd < 100000000000000000000 := by rw [← hsd]; exact Int.emod_lt_of_pos N (show (0 : Int) < 10 ^ (20 : Int).toNat by decide)
      have sB : sd.natAbs < 2 ^ 67 := by omega
      have ssB : (sd * sd).natAbs < 2 ^ huge := num_le (wide_lt sB sB) (by decide)
      have ss0 : 0 ≤ sd * sd := Int.mul_nonneg s0 s0
      walk_at "go"
      refine c_I (mulOk sB sB (by decide)) ?_
      walk_at "go"
      refine ⟨_, rfl, ss0, ssB, fun r2 hr2 H4 e4 => ?_⟩
      have er2 := hr2.uniq (IsRoot.sq s0)
      subst er2
      walk_at "go"
      refine w_f (by simp) ?_
      have e24 := (e2.trans e3).trans e4
      -- the second half of the test
      refine c_ev2 (fun b H5 => b = false ∧ Ex H4 H5) (fun Q' k => ?_) (fun b H5 hb => ?_)
      · walk_at "go"
        refine w_2 (fun hb => ?_) (fun hb => ?_)
        · have sp : 0 < r2 := of_decide_eq_true hb
          walk_at "go"
          refine c_I (mulOk sB sB (by decide)) ?_
          walk_at "go"
          have hr3 := IsRoot.sq_less sp
          refine ⟨_, rfl, by have := Int.mul_pos sp sp; omega, ?_, fun r3 h3 H5 e5 => ?_⟩
          · refine Nat.lt_of_le_of_lt ?_ ssB
            have := Int.mul_pos sp sp
            omega
          · have er3 := h3.uniq hr3
            subst er3
            walk_at "go"
            exact k _ _ ⟨by simp, e5⟩
        · walk_at "go"
          exact k _ _ ⟨rfl, Ex.refl _⟩
      obtain ⟨rfl, e5⟩ := hb
      walk_at "goI"
      -- the door's bound
      refine c_ev (fun v H6 => H6 = H5 ∧ ∃ md : Int, v = .int md ∧ 1 ≤ md ∧ md ≤ 10000000) (fun Q' k => ?_) (fun v H6 hv => ?_)
      · walk_at "go"
        refine c_I (by decide) ?_
        walk_at "go"
        refine w_2 (fun hb => ?_) (fun hb => ?_)
        · walk_at "go"
          exact k _ _ ⟨rfl, 2000, rfl, by decide, by decide⟩
        · walk_at "go"
          refine w_2 (fun hb => ?_) (fun hb => ?_)
          · walk_at "go"
            exact k _ _ ⟨rfl, 2000, rfl, by decide, by decide⟩
          · walk_at "go"
            refine c_I ⟨by decide, by decide, by decide⟩ ?_
            exact k _ _ ⟨rfl, 10000000, rfl, by decide, by decide⟩
      obtain ⟨rfl, md, rfl, md1, md2⟩ := hv
      have e26 := e24.trans e5
      walk_at "go"
      refine c_I (by omega) ?_
      walk_at "go"
      generalize hdo : 1 + N % md = d
      have d1 : 1 ≤ d := by have := Int.emod_nonneg N (show md ≠ 0 by omega); omega
      have d2 : d ≤ 10000000 := by have := Int.emod_lt_of_pos N (show 0 < md by omega); omega
      refine c_I ⟨by decide, by decide⟩ ?_
      walk_at "go"
      refine c_I (by omega) ?_
      walk_at "go"
      generalize hfi : 1 + N / 7 % (d + 3) = fi
      have f1 : 1 ≤ fi := by have := Int.emod_nonneg (N / 7) (show d + 3 ≠ 0 by omega); omega
      have f2 : fi ≤ d + 3 := by have := Int.emod_lt_of_pos (N / 7) (show 0 < d + 3 by omega); omega
      refine c_I ⟨by decide, by decide⟩ ?_
      walk_at "go"
      refine c_I (by omega) ?_
      walk_at "go"
      generalize hla : fi + N / 11 % (d + 3) = la
      have l1 : fi ≤ la := by have := Int.emod_nonneg (N / 11) (show d + 3 ≠ 0 by omega); omega
      have l2 : la ≤ 2 * d + 6 := by have := Int.emod_lt_of_pos (N / 11) (show 0 < d + 3 by omega); omega
      -- few doors: the divisors one by one
      refine ⟨fun σ H7 => ∃ y10, σ = [some (.ref a), some (.int W), some (.int (i : Nat)), some (.int cell), some (.int N), some (.int r), some (.int r2), some (.int d), some (.int fi), some (.int la), y10, y11, y12, y13, y14] ∧ Ex H6 H7, ?_, fun σ H7 hP => ?_⟩
      · walk_at "go"
        refine w_2 (fun hb => ?_) (fun hb => ?_)
        · have d3 : d ≤ 2000 := of_decide_eq_true hb
          walk_at "go"
          refine el_lcR2 (lo := fi) (hi := (if d < la then d else la) + 1) (fun i => decide (d % (fi + (i : Int)) = 0)) (fun i => V.int (fi + (i : Int))) (fun H8 e8 Q8 k => ?_) (by split <;> omega) (by split <;> omega) (fun x => rfl) (fun i H8 e8 hi => ?_) (fun i H8 e8 hi _ => ev_var rfl) H6 (Ex.refl H6) _ (fun p H8 np e8 hp => ?_)
          · walk_at "go"
            refine c_min2 ?_
            walk_at "go"
            exact k H8 (Ex.refl H8)
          · intro H9 e9 Q9 k
            walk_at "go"
            refine c_I (by omega) ?_
            walk_at "go"
            exact k H9 (Ex.refl H9)
          · walk_at "go"
            refine c_len (.inl (.inl hp)) ?_
            walk_at "go"
            refine c_I (by decide) ?_
            have el : (given ((if d < la then d else la) + 1 - fi).toNat (fun i => decide (d % (fi + (i : Int)) = 0)) (fun i => V.int (fi + (i : Int)))).length = cA fi la d := by
              unfold given
              rw [List.length_map, ← List.countP_eq_length_filter]
              refine cA_list f1 _ ?_
              split <;> omega
            rw [el]
            walk_at "go"
            refine ⟨fi, la, d, rfl, f1, l1, d1, by omega, ?_⟩
            have e : decide ((((cA fi la d : Nat) : Int) % 2) = 1) = decide (cA fi la d % 2 = 1) := by rw [Bool.eq_iff_iff]; simp; omega
            rw [e]
            walk_at "go"
            refine w_f (by simp) ?_
            walk_at "go"
            exact ⟨_, rfl, e8⟩
        · walk_at "go"
          exact ⟨_, rfl, Ex.refl _⟩
      · obtain ⟨y10, rfl, e7⟩ := hP
        walk_at "go"
        refine c_I ⟨by decide, by decide⟩ ?_
        walk_at "go"
        generalize hmi : fi + (la - fi) / 2 = mi
        have mi1 : fi ≤ mi := by omega
        have mi2 : mi ≤ la := by omega
        -- two stretches put together
        refine ⟨fun σ H8 => ∃ y13, σ = [some (.ref a), some (.int W), some (.int (i : Nat)), some (.int cell), some (.int N), some (.int r), some (.int r2), some (.int d), some (.int fi), some (.int la), y10, y11, some (.int mi), y13, y14] ∧ H8 = H7, ?_, fun σ H8 hP => ?_⟩
        · walk_at "go"
          refine w_2 (fun hb => ?_) (fun hb => ?_)
          · have mi3 : mi < la := of_decide_eq_true hb
            walk_at "go"
            refine ⟨fi, mi, d, rfl, f1, mi1, d1, by omega, ?_⟩
            walk_at "go"
            refine ⟨mi + 1, la, d, rfl, by omega, by omega, d1, by omega, ?_⟩
            walk_at "go"
            refine ⟨fi, la, d, rfl, f1, l1, d1, by omega, ?_⟩
            walk_at "go"
            have ej : decide (cA fi la d % 2 = 1) = (!decide (decide (cA fi mi d % 2 = 1) = decide (cA (mi + 1) la d % 2 = 1))) := by
              rw [cA_join (m := mi) (by omega) mi2, par_add]
              cases decide (cA fi mi d % 2 = 1) <;> cases decide (cA (mi + 1) la d % 2 = 1) <;> rfl
            rw [ej]
            refine w_f (by simp) ?_
            walk_at "go"
            exact ⟨_, rfl, rfl⟩
          · walk_at "go"
            exact ⟨_, rfl, rfl⟩
        · obtain ⟨y13, rfl, rfl⟩ := hP
          walk_at "go"
          refine ⟨d, rfl, by omega, num_le (m := 30) (n := huge) (by omega) (by decide), fun t1 ht1 H9 e9 => ?_⟩
          have t1le := root_le ht1
          have t10 := ht1.nn
          walk_at "go"
          refine ⟨d, rfl, by omega, num_le (m := 30) (n := huge) (by omega) (by decide), fun t2 ht2 Ha ea => ?_⟩
          have et := ht1.uniq ht2
          subst et
          refine c_I (.inl ⟨by omega, by omega⟩) ?_
          walk_at "go"
          refine ⟨1, d, d, rfl, by decide, d1, d1, by omega, ?_⟩
          walk_at "go"
          have sq1 : decide (cA 1 d d % 2 = 1) = decide (t1 * t1 = d) := by rw [Bool.eq_iff_iff]; simp; exact cA_square (by omega) d1 ht1
          rw [sq1]
          refine w_f (by simp) ?_
          walk_at "go"
          refine c_I ⟨by decide, by decide, by decide⟩ ?_
          walk_at "go"
          refine ⟨1, 10 ^ (30 : Int).toNat, d, rfl, by decide, by decide, d1, by omega, ?_⟩
          have sq2 : decide (cA 1 (10 ^ (30 : Int).toNat) d % 2 = 1) = decide (t1 * t1 = d) := by
            rw [Bool.eq_iff_iff]
            simp only [decide_eq_true_eq]
            refine cA_square ?_ d1 ht1
            have : (10000000 : Int) ≤ 10 ^ (30 : Int).toNat := by decide
            omega
          rw [sq2]
          walk_at "go"
          refine w_f (by simp) ?_
          walk_at "go"
          exact ⟨_, _, _, _, _, _, _, _, _, _, _, _, _, rfl, ((e26.trans e7).trans e9).trans ea⟩
    · obtain ⟨y2, y3, y4, y5, y6, y7, y8, y9, y10, y11, y12, y13, y14, rfl, e1⟩ := h
      walk_at "go"
      refine el_lcNL (K := K) (xs := ([0, 1, 3, 4, 99, 100] : List Int).map V.int) (fun _ => true) (fun i => V.int (([0, 1, 1, 2, 9, 10] : List Int).getD i 0)) ?_ (by decide) (fun x => rfl) (fun i x H2 e2 hx => fun H3 _ QB k => k H3 (Ex.refl H3)) (fun i x H2 e2 hx _ => ?_) H1 (Ex.refl H1) _ (fun p H2 np e2 hp => ?_)
      · intro H2 e2 Q2 k
        walk_at "go"
        exact ⟨by show 6 ≤ sizeLine; decide, fun p np => k p _ np (Ex.new np) upd_same⟩
      · intro H3 e3 Q3 k
        have key : ∃ n r : Int, x = .int n ∧ ([0, 1, 1, 2, 9, 10] : List Int).getD i 0 = r ∧ IsRoot n r ∧ 0 ≤ n ∧ n ≤ 100 := by
          match i, hx with
          | 0, hx => exact ⟨0, 0, (Option.some.inj hx).symm, rfl, ⟨by decide, by decide, by decide⟩, by decide, by decide⟩
          | 1, hx => exact ⟨1, 1, (Option.some.inj hx).symm, rfl, ⟨by decide, by decide, by decide⟩, by decide, by decide⟩
          | 2, hx => exact ⟨3, 1, (Option.some.inj hx).symm, rfl, ⟨by decide, by decide, by decide⟩, by decide, by decide⟩
          | 3, hx => exact ⟨4, 2, (Option.some.inj hx).symm, rfl, ⟨by decide, by decide, by decide⟩, by decide, by decide⟩
          | 4, hx => exact ⟨99, 9, (Option.some.inj hx).symm, rfl, ⟨by decide, by decide, by decide⟩, by decide, by decide⟩
          | 5, hx => exact ⟨100, 10, (Option.some.inj hx).symm, rfl, ⟨by decide, by decide, by decide⟩, by decide, by decide⟩
          | j + 6, hx =>
            exfalso
            have := (List.getElem?_eq_some_iff.mp hx).1
            rw [List.length_map] at this
            have : j + 6 < 6 := this
            omega
        obtain ⟨n, r, rfl, er, hr, n0, n1⟩ := key
        rw [er] at k
        walk_at "go"
        refine ⟨n, rfl, n0, num_le (m := 30) (n := huge) (by omega) (by decide), fun r' hr' H4 e4 => ?_⟩
        have er := hr.uniq hr'
        subst er
        exact k H4 e4
      · rw [List.length_map, show given ([0, 1, 3, 4, 99, 100] : List Int).length (fun _ => true) (fun i => V.int (([0, 1, 1, 2, 9, 10] : List Int).getD i 0)) = ([0, 1, 1, 2, 9, 10] : List Int).map V.int from rfl] at hp
        walk_at "go"
        refine ⟨by show 6 ≤ sizeLine; decide, fun l2 n2 => ?_⟩
        refine c_eqL (xs := [0, 1, 1, 2, 9, 10]) (ys := [0, 1, 1, 2, 9, 10]) (.inl (.inl (Ex.new n2 _ _ hp))) (.inl (.inl upd_same)) ?_
        walk_at "go"
        refine ⟨2, 3, 6, rfl, by decide, by decide, by decide, by decide, ?_⟩
        rw [show decide (cA 2 3 6 % 2 = 1) = false by decide]
        walk_at "go"
        exact q _
end
theorem all_mk {l : PySem.W.OpenLaw} {w : World} {K : PySem.W.Frag} {h : Heap} {mg : Str → Option Value} {fa : Addr} (X : K.In h) (G : h.Ns mainGlobals mg) (hfa : mg "law" = some (.ref fa))
    {f_is_number : Addr} {od_is_number an_is_number : Option Addr} {sl_is_number : Array (Option Value)} {oc_is_number kV_is_number dc_is_number pm_is_number cd_is_number ct_is_number : Value}
    {f_asked_door : Addr} {od_asked_door an_asked_door : Option Addr} {sl_asked_door : Array (Option Value)} {oc_asked_door kV_asked_door dc_asked_door pm_asked_door cd_asked_door ct_asked_door : Value}
    {f_asked_count : Addr} {od_asked_count an_asked_count : Option Addr} {sl_asked_count : Array (Option Value)} {oc_asked_count kV_asked_count dc_asked_count pm_asked_count cd_asked_count ct_asked_count : Value}
    {f_root : Addr} {od_root an_root : Option Addr} {sl_root : Array (Option Value)} {oc_root kV_root dc_root pm_root cd_root ct_root : Value}
    {f_by_all : Addr} {od_by_all an_by_all : Option Addr} {sl_by_all : Array (Option Value)} {oc_by_all kV_by_all dc_by_all pm_by_all cd_by_all ct_by_all : Value}
    {f_by_stretch : Addr} {od_by_stretch an_by_stretch : Option Addr} {sl_by_stretch : Array (Option Value)} {oc_by_stretch kV_by_stretch dc_by_stretch pm_by_stretch cd_by_stretch ct_by_stretch : Value}
    {f__law_number : Addr} {od__law_number an__law_number : Option Addr} {sl__law_number : Array (Option Value)} {oc__law_number kV__law_number dc__law_number pm__law_number cd__law_number ct__law_number : Value}
    {f_law : Addr} {od_law an_law : Option Addr} {sl_law : Array (Option Value)} {oc_law kV_law dc_law pm_law cd_law ct_law : Value}
    {t_GREATEST : Tok}
    (a_is_number : PySem.W.nsIn K mainGlobals "is_number" = some (some (.ref f_is_number))) (l_is_number : K.lookup f_is_number = some ⟨oc_is_number, od_is_number, .func (PySem.W.fnOf "is_number" "is_number" (defArgs s_is_number) (defBody s_is_number) (defScope s_is_number) .none kV_is_number dc_is_number pm_is_number an_is_number cd_is_number ct_is_number), sl_is_number⟩) (q_is_number : PySem.W.codeIn K cd_is_number "is_number" = true) (k_is_number : PySem.W.keepIn K (.ref f_is_number) = true)
    (a_asked_door : PySem.W.nsIn K mainGlobals "asked_door" = some (some (.ref f_asked_door))) (l_asked_door : K.lookup f_asked_door = some ⟨oc_asked_door, od_asked_door, .func (PySem.W.fnOf "asked_door" "asked_door" (defArgs s_asked_door) (defBody s_asked_door) (defScope s_asked_door) .none kV_asked_door dc_asked_door pm_asked_door an_asked_door cd_asked_door ct_asked_door), sl_asked_door⟩) (q_asked_door : PySem.W.codeIn K cd_asked_door "asked_door" = true) (k_asked_door : PySem.W.keepIn K (.ref f_asked_door) = true)
    (a_asked_count : PySem.W.nsIn K mainGlobals "asked_count" = some (some (.ref f_asked_count))) (l_asked_count : K.lookup f_asked_count = some ⟨oc_asked_count, od_asked_count, .func (PySem.W.fnOf "asked_count" "asked_count" (defArgs s_asked_count) (defBody s_asked_count) (defScope s_asked_count) .none kV_asked_count dc_asked_count pm_asked_count an_asked_count cd_asked_count ct_asked_count), sl_asked_count⟩) (q_asked_count : PySem.W.codeIn K cd_asked_count "asked_count" = true) (k_asked_count : PySem.W.keepIn K (.ref f_asked_count) = true)
    (a_root : PySem.W.nsIn K mainGlobals "root" = some (some (.ref f_root))) (l_root : K.lookup f_root = some ⟨oc_root, od_root, .func (PySem.W.fnOf "root" "root" (defArgs s_root) (defBody s_root) (defScope s_root) .none kV_root dc_root pm_root an_root cd_root ct_root), sl_root⟩) (q_root : PySem.W.codeIn K cd_root "root" = true) (k_root : PySem.W.keepIn K (.ref f_root) = true)
    (a_by_all : PySem.W.nsIn K mainGlobals "by_all" = some (some (.ref f_by_all))) (l_by_all : K.lookup f_by_all = some ⟨oc_by_all, od_by_all, .func (PySem.W.fnOf "by_all" "by_all" (defArgs s_by_all) (defBody s_by_all) (defScope s_by_all) .none kV_by_all dc_by_all pm_by_all an_by_all cd_by_all ct_by_all), sl_by_all⟩) (q_by_all : PySem.W.codeIn K cd_by_all "by_all" = true) (k_by_all : PySem.W.keepIn K (.ref f_by_all) = true)
    (a_by_stretch : PySem.W.nsIn K mainGlobals "by_stretch" = some (some (.ref f_by_stretch))) (l_by_stretch : K.lookup f_by_stretch = some ⟨oc_by_stretch, od_by_stretch, .func (PySem.W.fnOf "by_stretch" "by_stretch" (defArgs s_by_stretch) (defBody s_by_stretch) (defScope s_by_stretch) .none kV_by_stretch dc_by_stretch pm_by_stretch an_by_stretch cd_by_stretch ct_by_stretch), sl_by_stretch⟩) (q_by_stretch : PySem.W.codeIn K cd_by_stretch "by_stretch" = true) (k_by_stretch : PySem.W.keepIn K (.ref f_by_stretch) = true)
    (a__law_number : PySem.W.nsIn K mainGlobals "_law_number" = some (some (.ref f__law_number))) (l__law_number : K.lookup f__law_number = some ⟨oc__law_number, od__law_number, .func (PySem.W.fnOf "_law_number" "_law_number" (defArgs s__law_number) (defBody s__law_number) (defScope s__law_number) .none kV__law_number dc__law_number pm__law_number an__law_number cd__law_number ct__law_number), sl__law_number⟩) (q__law_number : PySem.W.codeIn K cd__law_number "_law_number" = true) (k__law_number : PySem.W.keepIn K (.ref f__law_number) = true)
    (a_law : PySem.W.nsIn K mainGlobals "law" = some (some (.ref f_law))) (l_law : K.lookup f_law = some ⟨oc_law, od_law, .func (PySem.W.fnOf "law" "law" (defArgs s_law) (defBody s_law) (defScope s_law) .none kV_law dc_law pm_law an_law cd_law ct_law), sl_law⟩) (q_law : PySem.W.codeIn K cd_law "law" = true) (k_law : PySem.W.keepIn K (.ref f_law) = true)
    (h_GREATEST : PySem.W.nsIn K mainGlobals "GREATEST" = some (some (.int 1000000000 t_GREATEST)))
    (z_isinstance : PySem.W.nsIn K mainGlobals "isinstance" = some none)
    (z_len : PySem.W.nsIn K mainGlobals "len" = some none)
    (z_all : PySem.W.nsIn K mainGlobals "all" = some none)
    (z_any : PySem.W.nsIn K mainGlobals "any" = some none)
    (z_sum : PySem.W.nsIn K mainGlobals "sum" = some none)
    (z_abs : PySem.W.nsIn K mainGlobals "abs" = some none)
    (z_max : PySem.W.nsIn K mainGlobals "max" = some none)
    (z_min : PySem.W.nsIn K mainGlobals "min" = some none)
    (z_range : PySem.W.nsIn K mainGlobals "range" = some none)
    (z_sorted : PySem.W.nsIn K mainGlobals "sorted" = some none)
    (z_enumerate : PySem.W.nsIn K mainGlobals "enumerate" = some none)
    (z_int : PySem.W.nsIn K mainGlobals "int" = some none)
    (z_bool : PySem.W.nsIn K mainGlobals "bool" = some none)
    (z_list : PySem.W.nsIn K mainGlobals "list" = some none)
    (z_set : PySem.W.nsIn K mainGlobals "set" = some none)
    (z_str : PySem.W.nsIn K mainGlobals "str" = some none)
    (z_tuple : PySem.W.nsIn K mainGlobals "tuple" = some none)
    (z_ValueError : PySem.W.nsIn K mainGlobals "ValueError" = some none)
    : ∃ fd : FuncData, (∀ (s : Shared) (v : Value), BindsTo s fd ⟨[v], []⟩ [("_law_script", v)]) ∧ ∀ base : Heap, K.In base → base.Ns mainGlobals mg → FnOk l.prog w K mg base CX0 4 fa fd ["_law_script"] (spLaw K) := by
  have e := hfa.symm.trans (PySem.W.mg_of X G a_law)
  cases e
  have D_is_number : Df K mg "is_number" s_is_number ["thing"] := df_mk X G a_is_number l_is_number q_is_number k_is_number (fun _ _ _ _ _ _ us hl => match us, hl with | [_], _ => rfl)
  have D_asked_door : Df K mg "asked_door" s_asked_door ["door"] := df_mk X G a_asked_door l_asked_door q_asked_door k_asked_door (fun _ _ _ _ _ _ us hl => match us, hl with | [_], _ => rfl)
  have D_asked_count : Df K mg "asked_count" s_asked_count ["many"] := df_mk X G a_asked_count l_asked_count q_asked_count k_asked_count (fun _ _ _ _ _ _ us hl => match us, hl with | [_], _ => rfl)
  have D_root : Df K mg "root" s_root ["number"] := df_mk X G a_root l_root q_root k_root (fun _ _ _ _ _ _ us hl => match us, hl with | [_], _ => rfl)
  have D_by_all : Df K mg "by_all" s_by_all ["many"] := df_mk X G a_by_all l_by_all q_by_all k_by_all (fun _ _ _ _ _ _ us hl => match us, hl with | [_], _ => rfl)
  have D_by_stretch : Df K mg "by_stretch" s_by_stretch ["first", "last", "door"] := df_mk X G a_by_stretch l_by_stretch q_by_stretch k_by_stretch (fun _ _ _ _ _ _ us hl => match us, hl with | [_, _, _], _ => rfl)
  have D__law_number : Df K mg "_law_number" s__law_number ["_law_cell", "_law_at", "_law_whole"] := df_mk X G a__law_number l__law_number q__law_number k__law_number (fun _ _ _ _ _ _ us hl => match us, hl with | [_, _, _], _ => rfl)
  have g_GREATEST : ∃ t, mg "GREATEST" = some (.int 1000000000 t) := ⟨_, PySem.W.mg_of X G h_GREATEST⟩
  have B : Blt mg := ⟨PySem.W.mg_none_of X G z_isinstance, PySem.W.mg_none_of X G z_len, PySem.W.mg_none_of X G z_all, PySem.W.mg_none_of X G z_any, PySem.W.mg_none_of X G z_sum, PySem.W.mg_none_of X G z_abs, PySem.W.mg_none_of X G z_max, PySem.W.mg_none_of X G z_min, PySem.W.mg_none_of X G z_range, PySem.W.mg_none_of X G z_sorted, PySem.W.mg_none_of X G z_enumerate, PySem.W.mg_none_of X G z_int, PySem.W.mg_none_of X G z_bool, PySem.W.mg_none_of X G z_list, PySem.W.mg_none_of X G z_set, PySem.W.mg_none_of X G z_str, PySem.W.mg_none_of X G z_tuple, PySem.W.mg_none_of X G z_ValueError⟩
  have F_law := fun_mk (st := s_law) l_law q_law k_law
  refine ⟨PySem.W.fnOf "law" "law" (defArgs s_law) (defBody s_law) (defScope s_law) .none kV_law dc_law pm_law an_law cd_law ct_law, fun s v => .of_eq rfl, fun base _ _ => ?_⟩
  have c1 := ok_is_number (P := l.prog) (w := w) (base := base) D_is_number B
  have c3 := ok_asked_door D_asked_door c1
  have c4 := ok_asked_count (P := l.prog) (w := w) (base := base) D_asked_count B
  have c5 := ok_root (P := l.prog) (w := w) (base := base) D_root
  have c6 := ok_by_all D_by_all c4 c5
  have c7 := ok_by_stretch D_by_stretch c1 c3 g_GREATEST
  have c8 := ok__law_number (P := l.prog) (w := w) (base := base) D__law_number
  exact ok_law F_law B c8 c6 c7
end Dt
open PySem PySem.W PyProof.Rows
set_option maxHeartbeats 0 in
theorem PySem.Challenge.cw_doorturns_k07_whole_all_holds : PySem.Challenge.rw_doorturns_k07_whole_all.Holds := by
  w_on; o_law; k_head; (case hw => w_witness2)
  k_fill
  refine L2.walk_ofB (l := PySem.Challenge.rw_doorturns_k07_whole_all) (n := 63) (k := 4) (x := "_law_script") (CX := fun _ => L2.CX0) (sp := fun w => Dt.spLaw _) rfl (by decide) rfl ⟨rfl, by decide, by decide⟩ (fun w h Y => PySem.W.kIn_of Y) ?F (fun _ _ a ns hl hb _ hS => ⟨a, ns, rfl, hS, hl, hb, fun _ => rfl⟩) (fun _ _ _ _ _ h => h)
  case F =>
    intro w mg fa h KX G hmg
    refine' Dt.all_mk KX G hmg ?a_is_number ?l_is_number ?q_is_number ?k_is_number ?a_asked_door ?l_asked_door ?q_asked_door ?k_asked_door ?a_asked_count ?l_asked_count ?q_asked_count ?k_asked_count ?a_root ?l_root ?q_root ?k_root ?a_by_all ?l_by_all ?q_by_all ?k_by_all ?a_by_stretch ?l_by_stretch ?q_by_stretch ?k_by_stretch ?a__law_number ?l__law_number ?q__law_number ?k__law_number ?a_law ?l_law ?q_law ?k_law ?h_GREATEST ?z_isinstance ?z_len ?z_all ?z_any ?z_sum ?z_abs ?z_max ?z_min ?z_range ?z_sorted ?z_enumerate ?z_int ?z_bool ?z_list ?z_set ?z_str ?z_tuple ?z_ValueError
    (case a_is_number => k_is)
    (case l_is_number => k_is)
    (case q_is_number => k_is)
    (case k_is_number => k_is)
    (case a_asked_door => k_is)
    (case l_asked_door => k_is)
    (case q_asked_door => k_is)
    (case k_asked_door => k_is)
    (case a_asked_count => k_is)
    (case l_asked_count => k_is)
    (case q_asked_count => k_is)
    (case k_asked_count => k_is)
    (case a_root => k_is)
    (case l_root => k_is)
    (case q_root => k_is)
    (case k_root => k_is)
    (case a_by_all => k_is)
    (case l_by_all => k_is)
    (case q_by_all => k_is)
    (case k_by_all => k_is)
    (case a_by_stretch => k_is)
    (case l_by_stretch => k_is)
    (case q_by_stretch => k_is)
    (case k_by_stretch => k_is)
    (case a__law_number => k_is)
    (case l__law_number => k_is)
    (case q__law_number => k_is)
    (case k__law_number => k_is)
    (case a_law => k_is)
    (case l_law => k_is)
    (case q_law => k_is)
    (case k_law => k_is)
    (case h_GREATEST => k_is)
    (case z_isinstance => k_is)
    (case z_len => k_is)
    (case z_all => k_is)
    (case z_any => k_is)
    (case z_sum => k_is)
    (case z_abs => k_is)
    (case z_max => k_is)
    (case z_min => k_is)
    (case z_range => k_is)
    (case z_sorted => k_is)
    (case z_enumerate => k_is)
    (case z_int => k_is)
    (case z_bool => k_is)
    (case z_list => k_is)
    (case z_set => k_is)
    (case z_str => k_is)
    (case z_tuple => k_is)
    (case z_ValueError => k_is)

