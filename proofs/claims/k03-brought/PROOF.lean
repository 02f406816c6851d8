import PyProof.Rows.All
import Wide.All
import OpenK.AllK
import Wide.FinOn
import HandS.ForMost
import HandS.EndBits
import HandS.Evl
import HandS.IsInst
import HandS.SetFor
import HandS.SortInts
import HandS.Style
import HandS.Wide
import HandS.Walk
import HandS.Set
import HandS.Strs
import HandS.Conv
import PySem.Challenge.RW_doorturns_k03_whole_brought
set_option Elab.async false
set_option linter.all false
set_option maxRecDepth 100000
set_option maxHeartbeats 4000000
/-! Plain laws about turners and doors; core Lean alone. -/
namespace Dt

/-- how many of the turners go into d -/
def hits (ts : List Int) (d : Int) : Nat := ts.countP fun t => decide (d % t = 0)
/-- whether door d stands open behind ts -/
def opn (ts : List Int) (d : Int) : Bool := decide (hits ts d % 2 = 1)

theorem hits_nil (d : Int) : hits [] d = 0 := rfl
theorem hits_app (a b : List Int) (d : Int) : hits (a ++ b) d = hits a d + hits b d := List.countP_append
theorem hits_one (t d : Int) : hits [t] d = if d % t = 0 then 1 else 0 := by
  unfold hits
  by_cases h : d % t = 0 <;> simp [List.countP_cons, h]
theorem hits_cons (t : Int) (r : List Int) (d : Int) : hits (t :: r) d = hits r d + if d % t = 0 then 1 else 0 := by
  have := hits_app [t] r d
  rw [List.singleton_append, hits_one] at this
  omega
theorem opn_nil (d : Int) : opn [] d = false := rfl
theorem par_not (n : Nat) : decide ((n + 1) % 2 = 1) = !decide (n % 2 = 1) := by
  by_cases h : n % 2 = 1
  · rw [decide_eq_true h, decide_eq_false (by omega)]; rfl
  · rw [decide_eq_false h, decide_eq_true (by omega)]; rfl
theorem par_add (m n : Nat) : decide ((m + n) % 2 = 1) = (decide (m % 2 = 1) != decide (n % 2 = 1)) := by
  by_cases h : m % 2 = 1 <;> by_cases g : n % 2 = 1
  · rw [decide_eq_true h, decide_eq_true g, decide_eq_false (by omega)]; rfl
  · rw [decide_eq_true h, decide_eq_false g, decide_eq_true (by omega)]; rfl
  · rw [decide_eq_false h, decide_eq_true g, decide_eq_true (by omega)]; rfl
  · rw [decide_eq_false h, decide_eq_false g, decide_eq_false (by omega)]; rfl
theorem opn_app (a b : List Int) (d : Int) : opn (a ++ b) d = (opn a d != opn b d) := by
  unfold opn
  rw [hits_app, par_add]
theorem opn_snoc (a : List Int) (t d : Int) : opn (a ++ [t]) d = if d % t = 0 then !opn a d else opn a d := by
  unfold opn
  rw [hits_app, hits_one]
  by_cases h : d % t = 0
  · rw [if_pos h, if_pos h, par_not]
  · rw [if_neg h, if_neg h]; rfl
theorem opn_rev (a : List Int) (d : Int) : opn a.reverse d = opn a d := by
  unfold opn hits
  rw [List.countP_reverse]
theorem opn_take {ts : List Int} {i : Nat} {t : Int} (h : ts[i]? = some t) (d : Int) : opn (ts.take (i + 1)) d = if d % t = 0 then !opn (ts.take i) d else opn (ts.take i) d := by
  rw [List.take_add_one, h]
  exact opn_snoc _ _ _
/-- the program's own word for it -/
theorem opn_len (ts : List Int) (d : Int) : decide (((ts.filter fun t => decide (d % t = 0)).length : Int) % 2 = 1) = opn ts d := by
  unfold opn hits
  rw [List.countP_eq_length_filter]
  by_cases h : (ts.filter fun t => decide (d % t = 0)).length % 2 = 1
  · rw [decide_eq_true h, decide_eq_true (by omega)]
  · rw [decide_eq_false h, decide_eq_false (by omega)]

/-! ### kept turners -/
/-- ks: those that stand in ts an odd count of times, rising -/
structure IsKept (ts ks : List Int) : Prop where
  rise : ks.Pairwise (· < ·)
  mem : ∀ x, x ∈ ks ↔ ts.count x % 2 = 1

theorem nodup_of_rise {ks : List Int} (h : ks.Pairwise (· < ·)) : ks.Nodup := h.imp (fun h e => by omega)
theorem rise_eq {a b : List Int} (ha : a.Pairwise (· < ·)) (hb : b.Pairwise (· < ·)) (h : ∀ x, x ∈ a ↔ x ∈ b) : a = b :=
  List.Perm.eq_of_pairwise (le := (· < ·)) (fun x y _ _ h1 h2 => by omega) ha hb ((List.perm_ext_iff_of_nodup (nodup_of_rise ha) (nodup_of_rise hb)).mpr h)
theorem IsKept.uniq {ts a b : List Int} (ha : IsKept ts a) (hb : IsKept ts b) : a = b := rise_eq ha.rise hb.rise fun x => (ha.mem x).trans (hb.mem x).symm
/-- the same counts, the same kept -/
theorem IsKept.of_par {ts us ks : List Int} (h : IsKept ts ks) (e : ∀ x, us.count x % 2 = ts.count x % 2) : IsKept us ks := ⟨h.rise, fun x => by rw [h.mem x, e x]⟩
theorem IsKept.self {ts ks : List Int} (h : IsKept ts ks) : IsKept ks ks := ⟨h.rise, fun x => by
  rw [(nodup_of_rise h.rise).count]
  by_cases e : x ∈ ks
  · simp [e]
  · simp [e]⟩
theorem IsKept.pos {ts ks : List Int} (h : IsKept ts ks) {P : Int → Prop} (hp : ∀ t ∈ ts, P t) : ∀ k ∈ ks, P k := fun k hk => hp k (List.count_pos_iff.mp (by
  have := (h.mem k).mp hk
  omega))

def tog : List Int → List Int
  | [] => []
  | t :: r => if t ∈ tog r then (tog r).erase t else t :: tog r
theorem tog_ok : ∀ ts : List Int, (tog ts).Nodup ∧ (∀ x, x ∈ tog ts ↔ ts.count x % 2 = 1) ∧ ∀ d, hits (tog ts) d % 2 = hits ts d % 2
  | [] => ⟨List.nodup_nil, fun x => by simp [tog], fun d => rfl⟩
  | t :: r => by
    obtain ⟨h1, h2, h3⟩ := tog_ok r
    unfold tog
    by_cases ht : t ∈ tog r
    · rw [if_pos ht]
      refine ⟨h1.erase t, fun x => ?_, fun d => ?_⟩
      · rw [h1.mem_erase_iff, h2 x, List.count_cons]
        have q := (h2 t).mp ht
        by_cases e : x = t
        · subst e
          simp
          omega
        · have e' : (t == x) = false := by simp; exact fun z => e z.symm
          simp [e, e']
      · have p := (List.perm_cons_erase ht).countP_eq fun t => decide (d % t = 0)
        have p' : hits (tog r) d = hits (t :: (tog r).erase t) d := p
        rw [hits_cons] at p'
        have q := h3 d
        rw [hits_cons]
        split at p' <;> split <;> omega
    · rw [if_neg ht]
      refine ⟨List.nodup_cons.mpr ⟨ht, h1⟩, fun x => ?_, fun d => ?_⟩
      · rw [List.mem_cons, h2 x, List.count_cons]
        have q : ¬ (r.count t % 2 = 1) := fun z => ht ((h2 t).mpr z)
        by_cases e : x = t
        · subst e
          simp
          omega
        · have e' : (t == x) = false := by simp; exact fun z => e z.symm
          simp [e, e']
      · rw [hits_cons, hits_cons]
        have q := h3 d
        split <;> omega
theorem IsKept.hits {ts ks : List Int} (h : IsKept ts ks) (d : Int) : hits ks d % 2 = hits ts d % 2 := by
  obtain ⟨h1, h2, h3⟩ := tog_ok ts
  have p : ks.Perm (tog ts) := (List.perm_ext_iff_of_nodup (nodup_of_rise h.rise) h1).mpr fun x => (h.mem x).trans (h2 x).symm
  have q : Dt.hits ks d = Dt.hits (tog ts) d := p.countP_eq _
  rw [q]
  exact h3 d
theorem IsKept.opn {ts ks : List Int} (h : IsKept ts ks) (d : Int) : opn ks d = opn ts d := by
  unfold Dt.opn
  rw [h.hits d]

/-! ### the two loops that find them, over the sorted turners -/
/-- the program's loop: after a front part of the sorted list, the odd ones of it, rising -/
structure LoInv (ts pre f : List Int) : Prop where
  rise : f.Pairwise (· < ·)
  mem : ∀ x, x ∈ f ↔ x ∈ pre ∧ ts.count x % 2 = 1
theorem LoInv.nil (ts : List Int) : LoInv ts [] [] := ⟨List.Pairwise.nil, fun x => by simp⟩
theorem LoInv.skip {ts pre f : List Int} {one : Int} (h : LoInv ts pre f) (hn : ¬ (ts.count one % 2 = 1 ∧ one ∉ f)) : LoInv ts (pre ++ [one]) f := ⟨h.rise, fun x => by
  rw [h.mem x, List.mem_append, List.mem_singleton]
  constructor
  · exact fun z => ⟨.inl z.1, z.2⟩
  · rintro ⟨z | z, w⟩
    · exact ⟨z, w⟩
    · subst z
      by_cases q : x ∈ f
      · exact (h.mem x).mp q
      · exact absurd ⟨w, q⟩ hn⟩
theorem LoInv.put {ts pre f : List Int} {one : Int} (h : LoInv ts pre f) (hs : ∀ x ∈ pre, x ≤ one) (h1 : ts.count one % 2 = 1) (h2 : one ∉ f) : LoInv ts (pre ++ [one]) (f ++ [one]) := by
  refine ⟨List.pairwise_append.mpr ⟨h.rise, List.pairwise_singleton _ _, fun a ha b hb => ?_⟩, fun x => ?_⟩
  · have e : b = one := List.mem_singleton.mp hb
    subst e
    have q := hs a ((h.mem a).mp ha).1
    by_cases e : a = b
    · subst e; exact absurd ha h2
    · omega
  · rw [List.mem_append, h.mem x, List.mem_append, List.mem_singleton]
    constructor
    · rintro (z | z)
      · exact ⟨.inl z.1, z.2⟩
      · subst z; exact ⟨.inr rfl, h1⟩
    · rintro ⟨z | z, w⟩
      · exact .inl ⟨z, w⟩
      · exact .inr z
theorem LoInv.kept {ts s f : List Int} (h : LoInv ts s f) (p : s.Perm ts) : IsKept ts f := ⟨h.rise, fun x => by
  rw [h.mem x]
  constructor
  · exact fun z => z.2
  · exact fun z => ⟨p.mem_iff.mpr (List.count_pos_iff.mp (by omega)), z⟩⟩

/-- the law's own loop: IsKept of the front part itself -/
theorem kept_nil : IsKept [] [] := ⟨List.Pairwise.nil, fun x => by simp⟩
theorem kept_pop {pre f : List Int} {one : Int} (h : IsKept pre (f ++ [one])) : IsKept (pre ++ [one]) f := by
  have hr := List.pairwise_append.mp h.rise
  refine ⟨hr.1, fun x => ?_⟩
  rw [List.count_append, List.count_singleton]
  have q := h.mem x
  rw [List.mem_append, List.mem_singleton] at q
  by_cases e : x = one
  · subst e
    have n : x ∉ f := fun z => by
      have := hr.2.2 x z x (List.mem_singleton.mpr rfl)
      omega
    have w := q.mp (.inr rfl)
    simp only [beq_self_eq_true, if_true]
    constructor
    · exact fun z => absurd z n
    · intro z; omega
  · have e' : (one == x) = false := by simp; exact fun z => e z.symm
    rw [e']
    constructor
    · exact fun z => q.mp (.inl z)
    · intro z
      rcases q.mpr z with w | w
      · exact w
      · exact absurd w e
theorem kept_push {pre f : List Int} {one : Int} (h : IsKept pre f) (hs : ∀ x ∈ pre, x ≤ one) (hl : f.getLast? ≠ some one) : IsKept (pre ++ [one]) (f ++ [one]) := by
  have n : one ∉ f := fun z => by
    have h1 : ∃ g l, f = g ++ [l] := by
      rcases List.eq_nil_or_concat f with e | ⟨g, l, e⟩
      · subst e; cases z
      · exact ⟨g, l, by rw [e, List.concat_eq_append]⟩
    obtain ⟨g, l, rfl⟩ := h1
    have hr := List.pairwise_append.mp h.rise
    rw [List.getLast?_concat] at hl
    rcases List.mem_append.mp z with w | w
    · have a := hr.2.2 one w l (List.mem_singleton.mpr rfl)
      have b := hs l (List.count_pos_iff.mp (by
        have := (h.mem l).mp (List.mem_append.mpr (.inr (List.mem_singleton.mpr rfl)))
        omega))
      omega
    · exact hl (by rw [List.mem_singleton.mp w])
  refine ⟨List.pairwise_append.mpr ⟨h.rise, List.pairwise_singleton _ _, fun a ha b hb => ?_⟩, fun x => ?_⟩
  · have e : b = one := List.mem_singleton.mp hb
    subst e
    have q := hs a (List.count_pos_iff.mp (by
      have := (h.mem a).mp ha
      omega))
    by_cases e : a = b
    · subst e; exact absurd ha n
    · omega
  · rw [List.mem_append, List.mem_singleton, h.mem x, List.count_append, List.count_singleton]
    by_cases e : x = one
    · subst e
      have w : ¬ (pre.count x % 2 = 1) := fun z => n ((h.mem x).mpr z)
      simp
      omega
    · have e' : (one == x) = false := by simp; exact fun z => e z.symm
      simp [e, e']
theorem kept_perm {s ts f : List Int} (h : IsKept s f) (p : s.Perm ts) : IsKept ts f := h.of_par fun x => by rw [p.count_eq]
theorem len_sub : ∀ {ks ts : List Int}, ks.Nodup → (∀ k ∈ ks, k ∈ ts) → ks.length ≤ ts.length
  | [], _, _, _ => Nat.zero_le _
  | k :: r, ts, nd, h => by
    obtain ⟨n1, n2⟩ := List.nodup_cons.mp nd
    have hk := h k List.mem_cons_self
    have ih := len_sub (ks := r) (ts := ts.erase k) n2 fun x hx => by
      have : x ≠ k := fun z => n1 (z ▸ hx)
      exact (List.mem_erase_of_ne this).mpr (h x (List.mem_cons_of_mem _ hx))
    rw [List.length_erase_of_mem hk] at ih
    have : 0 < ts.length := List.length_pos_of_mem hk
    rw [List.length_cons]
    omega
theorem IsKept.len {ts ks : List Int} (h : IsKept ts ks) : ks.length ≤ ts.length := len_sub (nodup_of_rise h.rise) (h.pos fun _ z => z)
/-- a look at written lists -/
def keptB (ts ks : List Int) : Bool := decide (ks.Pairwise (· < ·)) && ks.all (fun k => decide (ts.count k % 2 = 1)) && ts.all fun t => !decide (ts.count t % 2 = 1) || decide (t ∈ ks)
theorem kept_by {ts ks : List Int} (h : keptB ts ks = true) : IsKept ts ks := by
  unfold keptB at h
  simp only [Bool.and_eq_true, decide_eq_true_eq, List.all_eq_true, Bool.or_eq_true, Bool.not_eq_true', decide_eq_false_iff_not] at h
  obtain ⟨⟨h1, h2⟩, h3⟩ := h
  refine ⟨h1, fun x => ⟨h2 x, fun z => ?_⟩⟩
  rcases h3 x (List.count_pos_iff.mp (by omega)) with w | w
  · exact absurd z w
  · exact w
end Dt
namespace Dt
/-! ### the turners that bring told doors (k03) -/
/-- d's multiples: t goes into d, both from 1 on, so t ≤ d -/
theorem le_of_goes {t d : Int} (hd : 0 < d) (h : d % t = 0) : t ≤ d := Int.le_of_dvd hd (Int.dvd_of_emod_eq_zero h)
theorem hits_filter (ts : List Int) (d : Int) : hits ts d = (ts.filter fun t => decide (d % t = 0)).length := List.countP_eq_length_filter
/-- two rising rows that open the same doors up to n, all of them from 1 to n, are one -/
theorem same_rows {a b : List Int} {n : Int} (ha : a.Pairwise (· < ·)) (hb : b.Pairwise (· < ·)) (ra : ∀ x ∈ a, 1 ≤ x ∧ x ≤ n) (rb : ∀ x ∈ b, 1 ≤ x ∧ x ≤ n)
    (h : ∀ d : Int, 1 ≤ d → d ≤ n → opn a d = opn b d) : a = b := by
  have key : ∀ k : Nat, ∀ x : Int, 1 ≤ x → x ≤ k → x ≤ n → (x ∈ a ↔ x ∈ b) := by
    intro k
    induction k with
    | zero => intro x h1 h2; exact absurd h1 (by omega)
    | succ k ih =>
      intro x h1 h2 h3
      by_cases hx : x ≤ (k : Int)
      · exact ih x h1 hx h3
      · have ho := h x h1 h3
        unfold opn at ho
        have sp : ∀ l : List Int, l.Nodup → hits l x = (l.filter fun t => decide (x % t = 0) && decide (t ≠ x)).length + if x ∈ l then 1 else 0 := by
          intro l
          induction l with
          | nil => intro _; simp [hits_nil]
          | cons t r ihl =>
            intro nd
            obtain ⟨nt, nr⟩ := List.nodup_cons.mp nd
            rw [hits_cons, ihl nr, List.filter_cons]
            by_cases e : t = x
            · subst e
              have e1 : t % t = 0 := Int.emod_self
              simp [e1, nt]
            · by_cases g : x % t = 0
              · have e2 : x ≠ t := fun z => e z.symm
                simp [g, e, e2]
                omega
              · have e2 : x ≠ t := fun z => e z.symm
                simp [g, e2]
        have pa := sp a (nodup_of_rise ha)
        have pb := sp b (nodup_of_rise hb)
        have eq : (a.filter fun t => decide (x % t = 0) && decide (t ≠ x)) = (b.filter fun t => decide (x % t = 0) && decide (t ≠ x)) := by
          refine rise_eq (ha.filter _) (hb.filter _) fun y => ?_
          rw [List.mem_filter, List.mem_filter]
          constructor
          · rintro ⟨m, c⟩
            simp only [Bool.and_eq_true, decide_eq_true_eq] at c
            have l1 := le_of_goes (by omega) c.1
            exact ⟨(ih y (ra y m).1 (by omega) (by omega)).mp m, by simp [c.1, c.2]⟩
          · rintro ⟨m, c⟩
            simp only [Bool.and_eq_true, decide_eq_true_eq] at c
            have l1 := le_of_goes (by omega) c.1
            exact ⟨(ih y (rb y m).1 (by omega) (by omega)).mpr m, by simp [c.1, c.2]⟩
        rw [pa, pb, eq] at ho
        by_cases m1 : x ∈ a <;> by_cases m2 : x ∈ b
        · exact ⟨fun _ => m2, fun _ => m1⟩
        · rw [if_pos m1, if_neg m2] at ho
          exfalso
          rw [par_not] at ho
          revert ho
          rw [Nat.add_zero]
          cases decide ((b.filter fun t => decide (x % t = 0) && decide (t ≠ x)).length % 2 = 1) <;> simp
        · rw [if_neg m1, if_pos m2] at ho
          exfalso
          rw [par_not] at ho
          revert ho
          rw [Nat.add_zero]
          cases decide ((b.filter fun t => decide (x % t = 0) && decide (t ≠ x)).length % 2 = 1) <;> simp
        · exact ⟨fun z => absurd z m1, fun z => absurd z m2⟩
  refine rise_eq ha hb fun x => ?_
  constructor
  · intro m
    obtain ⟨h1, h2⟩ := ra x m
    exact (key x.toNat x h1 (by omega) h2).mp m
  · intro m
    obtain ⟨h1, h2⟩ := rb x m
    exact (key x.toNat x h1 (by omega) h2).mpr m

/-- the doors 1 .. n by a test, rising -/
def upto (n : Nat) : List Int := (List.range n).map fun i : Nat => 1 + (i : Int)
theorem mem_upto {n : Nat} {x : Int} : x ∈ upto n ↔ 1 ≤ x ∧ x ≤ n := by
  unfold upto
  rw [List.mem_map]
  constructor
  · rintro ⟨i, hi, rfl⟩
    have := List.mem_range.mp hi
    omega
  · intro h
    exact ⟨(x - 1).toNat, List.mem_range.mpr (by omega), by omega⟩
theorem upto_rise (n : Nat) : (upto n).Pairwise (· < ·) := by
  unfold upto
  rw [List.pairwise_map]
  exact List.pairwise_lt_range.imp fun h => by omega
theorem upto_succ (n : Nat) : upto (n + 1) = upto n ++ [1 + (n : Int)] := by
  unfold upto
  rw [List.range_succ, List.map_append]
  rfl
theorem upto_len (n : Nat) : (upto n).length = n := by
  unfold upto
  simp
/-- which of the first doors stand open -/
def opens (ts : List Int) (n : Nat) : List Int := (upto n).filter fun d => opn ts d
theorem mem_opens {ts : List Int} {n : Nat} {x : Int} : x ∈ opens ts n ↔ (1 ≤ x ∧ x ≤ n) ∧ opn ts x = true := by
  unfold opens
  rw [List.mem_filter, mem_upto]
theorem opens_rise (ts : List Int) (n : Nat) : (opens ts n).Pairwise (· < ·) := (upto_rise n).filter _
theorem opens_succ (ts : List Int) (n : Nat) : opens ts (n + 1) = if opn ts (1 + (n : Int)) = true then opens ts n ++ [1 + (n : Int)] else opens ts n := by
  unfold opens
  rw [upto_succ, List.filter_append]
  by_cases h : opn ts (1 + (n : Int)) = true
  · rw [if_pos h]; simp [h]
  · rw [if_neg h]; simp [h]
/-- a rising list of doors 1 .. n is told by its test -/
theorem opens_eq {ts D : List Int} {n : Nat} (hr : D.Pairwise (· < ·)) (hm : ∀ x ∈ D, 1 ≤ x ∧ x ≤ n) (h : ∀ d : Int, 1 ≤ d → d ≤ n → (opn ts d = true ↔ d ∈ D)) : opens ts n = D :=
  rise_eq (opens_rise ts n) hr fun x => by
    rw [mem_opens]
    constructor
    · rintro ⟨⟨h1, h2⟩, h3⟩
      exact (h x h1 h2).mp h3
    · intro m
      obtain ⟨h1, h2⟩ := hm x m
      exact ⟨⟨h1, h2⟩, (h x h1 h2).mpr m⟩

/-- the sieve's word behind i doors: F found so far; B: which doors are still due -/
structure Sv (D : List Int) (n i : Nat) (F : List Int) (B : Int → Bool) : Prop where
  rise : F.Pairwise (· < ·)
  rng : ∀ x ∈ F, 1 ≤ x ∧ x ≤ i
  due : ∀ d : Int, 1 ≤ d → d ≤ n → B d = (decide (d ∈ D) != opn F d)
  off : ∀ d : Int, 1 ≤ d → d ≤ i → B d = false
theorem Sv.start (D : List Int) (n : Nat) : Sv D n 0 [] (fun d => decide (d ∈ D)) := ⟨List.Pairwise.nil, (fun _ h => nomatch h), fun d _ _ => by rw [opn_nil]; simp, fun d h1 h2 => absurd h1 (by omega)⟩
theorem Sv.skip {D F : List Int} {n i : Nat} {B : Int → Bool} (h : Sv D n i F B) (hi : i < n) (hb : B (1 + (i : Int)) = false) : Sv D n (i + 1) F B :=
  ⟨h.rise, fun x m => by have := h.rng x m; omega, h.due, fun d h1 h2 => by
    by_cases e : d ≤ i
    · exact h.off d h1 e
    · have : d = 1 + (i : Int) := by omega
      rw [this]; exact hb⟩
theorem Sv.put {D F : List Int} {n i : Nat} {B : Int → Bool} (h : Sv D n i F B) (hi : i < n) (hb : B (1 + (i : Int)) = true) :
    Sv D n (i + 1) (F ++ [1 + (i : Int)]) (fun d => if d % (1 + (i : Int)) = 0 then !B d else B d) := by
  refine ⟨List.pairwise_append.mpr ⟨h.rise, List.pairwise_singleton _ _, fun a ha b hb => ?_⟩, fun x m => ?_, fun d h1 h2 => ?_, fun d h1 h2 => ?_⟩
  · have := h.rng a ha
    rw [List.mem_singleton.mp hb]; omega
  · rcases List.mem_append.mp m with m | m
    · have := h.rng x m; omega
    · rw [List.mem_singleton.mp m]; omega
  · rw [opn_snoc]
    by_cases g : d % (1 + (i : Int)) = 0
    · rw [if_pos g, if_pos g, h.due d h1 h2]
      cases decide (d ∈ D) <;> cases opn F d <;> rfl
    · rw [if_neg g, if_neg g]; exact h.due d h1 h2
  · by_cases e : d ≤ i
    · have g : ¬ d % (1 + (i : Int)) = 0 := fun z => by
        have := le_of_goes (by omega) z
        omega
      show (if d % (1 + (i : Int)) = 0 then !B d else B d) = false
      rw [if_neg g]; exact h.off d h1 e
    · have e1 : d = 1 + (i : Int) := by omega
      subst e1
      show (if (1 + (i : Int)) % (1 + (i : Int)) = 0 then !B (1 + (i : Int)) else B (1 + (i : Int))) = false
      rw [if_pos Int.emod_self, hb]; rfl
theorem Sv.done {D F : List Int} {n : Nat} {B : Int → Bool} (h : Sv D n n F B) : ∀ d : Int, 1 ≤ d → d ≤ n → (opn F d = true ↔ d ∈ D) := fun d h1 h2 => by
  have a := h.due d h1 h2
  rw [h.off d h1 h2] at a
  by_cases m : d ∈ D
  · rw [decide_eq_true m] at a
    cases q : opn F d
    · rw [q] at a; cases a
    · exact ⟨fun _ => m, fun _ => rfl⟩
  · rw [decide_eq_false m] at a
    cases q : opn F d
    · exact ⟨(fun z => nomatch z), fun z => absurd z m⟩
    · rw [q] at a; cases a

/-! ### two rows compared (k04) -/
theorem kept_app {a b k1 k2 k3 : List Int} (h1 : IsKept a k1) (h2 : IsKept b k2) (h3 : IsKept (a ++ b) k3) : k1 = k2 ↔ k3 = [] := by
  constructor
  · intro e
    subst e
    refine List.eq_nil_iff_forall_not_mem.mpr fun x m => ?_
    have q := (h3.mem x).mp m
    rw [List.count_append] at q
    by_cases z : x ∈ k1
    · have w1 := (h1.mem x).mp z
      have w2 := (h2.mem x).mp z
      omega
    · have w1 : ¬ (a.count x % 2 = 1) := fun w => z ((h1.mem x).mpr w)
      have w2 : ¬ (b.count x % 2 = 1) := fun w => z ((h2.mem x).mpr w)
      omega
  · intro e
    subst e
    refine rise_eq h1.rise h2.rise fun x => ?_
    have q : ¬ ((a ++ b).count x % 2 = 1) := fun w => by cases (h3.mem x).mpr w
    rw [List.count_append] at q
    rw [h1.mem, h2.mem]
    constructor <;> (intro z; omega)
theorem opn_below {ks : List Int} {x d : Int} (hr : (x :: ks).Pairwise (· < ·)) (hp : 0 < d) (hd : d < x) : opn (x :: ks) d = false := by
  unfold opn hits
  have e : (x :: ks).countP (fun t => decide (d % t = 0)) = 0 := by
    rw [List.countP_eq_zero]
    intro t ht
    have hx : x ≤ t := by
      rcases List.mem_cons.mp ht with e | m
      · omega
      · have := (List.pairwise_cons.mp hr).1 t m; omega
    simp only [decide_eq_true_eq]
    intro z
    have := le_of_goes hp z
    omega
  rw [e]; rfl
theorem opn_first {ks : List Int} {x : Int} (hr : (x :: ks).Pairwise (· < ·)) (hp : 0 < x) : opn (x :: ks) x = true := by
  unfold opn
  rw [hits_cons, if_pos Int.emod_self]
  have e : hits ks x = 0 := by
    unfold hits
    rw [List.countP_eq_zero]
    intro t ht
    have := (List.pairwise_cons.mp hr).1 t ht
    simp only [decide_eq_true_eq]
    intro z
    have := le_of_goes hp z
    omega
  rw [e]; rfl
end Dt
namespace Dt
/-! ### Euclid (common, both) -/
theorem gcd_step {a b : Int} (ha : 0 ≤ a) (hb : 0 < b) : Int.gcd b (a % b) = Int.gcd a b := by
  obtain ⟨m, rfl⟩ := Int.eq_ofNat_of_zero_le ha
  obtain ⟨n, rfl⟩ := Int.eq_ofNat_of_zero_le (Int.le_of_lt hb)
  show Nat.gcd n (m % n) = Nat.gcd m n
  rw [Nat.gcd_comm m n, Nat.gcd_rec n m, Nat.gcd_comm]
def lcmI (a b : Int) : Int := (Int.lcm a b : Nat)
theorem lcm_goes {a b d : Int} : d % lcmI a b = 0 ↔ d % a = 0 ∧ d % b = 0 := by
  unfold lcmI
  rw [← Int.dvd_iff_emod_eq_zero, ← Int.dvd_iff_emod_eq_zero, ← Int.dvd_iff_emod_eq_zero]
  constructor
  · intro h
    exact ⟨Int.dvd_trans (Int.dvd_lcm_left a b) h, Int.dvd_trans (Int.dvd_lcm_right a b) h⟩
  · rintro ⟨h1, h2⟩
    exact Int.coe_lcm_dvd h1 h2
theorem lcm_prog {a b : Int} (ha : 0 < a) (hb : 0 < b) : a / (Int.gcd a b : Nat) * b = lcmI a b := by
  obtain ⟨m, rfl⟩ := Int.eq_ofNat_of_zero_le (Int.le_of_lt ha)
  obtain ⟨n, rfl⟩ := Int.eq_ofNat_of_zero_le (Int.le_of_lt hb)
  show ((m : Int) / (Nat.gcd m n : Nat)) * (n : Int) = ((Nat.lcm m n : Nat) : Int)
  rw [← Int.natCast_ediv, ← Int.natCast_mul]
  congr 1
  unfold Nat.lcm
  rw [Nat.div_mul_right_comm (Nat.gcd_dvd_left m n)]
theorem gcd_pos {a b : Int} (ha : 0 < a) : 0 < ((Int.gcd a b : Nat) : Int) := by
  have : 0 < Int.gcd a b := Int.gcd_pos_of_ne_zero_left b (by omega)
  omega
theorem gcd_le_right {a b : Int} (hb : 0 < b) : ((Int.gcd a b : Nat) : Int) ≤ b := Int.le_of_dvd hb (Int.gcd_dvd_right a b)
theorem gcd_le_left {a b : Int} (ha : 0 < a) : ((Int.gcd a b : Nat) : Int) ≤ a := Int.le_of_dvd ha (Int.gcd_dvd_left a b)
theorem lcm_pos {a b : Int} (ha : 0 < a) (hb : 0 < b) : 0 < lcmI a b := by
  unfold lcmI
  have : 0 < Int.lcm a b := Int.lcm_pos (by omega) (by omega)
  omega
theorem lcm_le {a b : Int} (ha : 0 < a) (hb : 0 < b) : lcmI a b ≤ a * b := Int.le_of_dvd (Int.mul_pos ha hb) (Int.coe_lcm_dvd (Int.dvd_mul_right a b) (Int.dvd_mul_left a b))
theorem lcm_one (a : Int) (ha : 0 < a) : lcmI 1 a = a := by
  have h1 : lcmI 1 a ∣ a := Int.coe_lcm_dvd (Int.one_dvd a) (Int.dvd_refl a)
  have h2 : a ∣ lcmI 1 a := Int.dvd_lcm_right 1 a
  have p := lcm_pos (a := 1) (by decide) ha
  have := Int.le_of_dvd ha h1
  have := Int.le_of_dvd p h2
  omega

/-! ### how many (k05) -/
abbrev Term := Int × Int
def nextT (one : Int) (ts : List Term) : List Term := ts ++ ts.map fun p => (lcmI p.1 one, -2 * p.2)
def terms : List Int → List Term → List Term
  | [], ts => ts
  | k :: r, ts => terms r (nextT k ts)
/-- the terms' worth at one door -/
def tv (ts : List Term) (d : Int) : Int := (ts.map fun p => if d % p.1 = 0 then p.2 else 0).sum
/-- the terms' worth over n doors, as the program adds it up -/
def tw (ts : List Term) (n : Int) : Int := (ts.map fun p => p.2 * (n / p.1)).sum
theorem tv_app (a b : List Term) (d : Int) : tv (a ++ b) d = tv a d + tv b d := by
  unfold tv
  rw [List.map_append, List.sum_append]
theorem tv_lcm (one d : Int) : ∀ ts : List Term, tv (ts.map fun p => (lcmI p.1 one, -2 * p.2)) d = if d % one = 0 then -2 * tv ts d else 0
  | [] => by simp [tv]
  | p :: r => by
    have ih := tv_lcm one d r
    unfold tv at ih ⊢
    simp only [List.map_cons, List.sum_cons]
    rw [ih]
    by_cases h : d % one = 0
    · rw [if_pos h, if_pos h]
      by_cases g : d % p.1 = 0
      · rw [if_pos (lcm_goes.mpr ⟨g, h⟩), if_pos g]; omega
      · rw [if_neg (fun z => g (lcm_goes.mp z).1), if_neg g]; omega
    · rw [if_neg h, if_neg h, if_neg (fun z => h (lcm_goes.mp z).2)]; rfl
theorem tv_next (one d : Int) (ts : List Term) : tv (nextT one ts) d = if d % one = 0 then - tv ts d else tv ts d := by
  unfold nextT
  rw [tv_app, tv_lcm]
  split <;> omega
/-- 1 at a shut door, -1 at an open one -/
def sg (b : Bool) : Int := if b then -1 else 1
theorem sg_not (b : Bool) : sg (!b) = - sg b := by cases b <;> rfl
theorem tv_snoc {ts : List Term} {pre : List Int} {k d : Int} (h : tv ts d = sg (opn pre d)) : tv (nextT k ts) d = sg (opn (pre ++ [k]) d) := by
  rw [tv_next, opn_snoc, h]
  by_cases g : d % k = 0
  · rw [if_pos g, if_pos g, sg_not]
  · rw [if_neg g, if_neg g]
theorem tv_start (d : Int) : tv [(1, 1)] d = sg (opn [] d) := by
  rw [opn_nil]
  simp [tv, sg, Int.emod_one]
/-- how many of the first n doors stand open -/
def cnt (ts : List Int) : Nat → Nat
  | 0 => 0
  | n + 1 => cnt ts n + if opn ts (1 + (n : Int)) = true then 1 else 0
theorem cnt_opens (ts : List Int) : ∀ n, (opens ts n).length = cnt ts n
  | 0 => rfl
  | n + 1 => by
    rw [opens_succ, cnt, ← cnt_opens ts n]
    split <;> simp
theorem cnt_le (ts : List Int) : ∀ n, cnt ts n ≤ n
  | 0 => Nat.le_refl _
  | n + 1 => by
    have := cnt_le ts n
    rw [cnt]
    split <;> omega
theorem div_succ {n : Nat} {s : Int} (hs : 0 < s) : ((n : Int) + 1) / s = (n : Int) / s + if (1 + (n : Int)) % s = 0 then 1 else 0 := by
  obtain ⟨m, rfl⟩ := Int.eq_ofNat_of_zero_le (Int.le_of_lt hs)
  have e : ((n : Int) + 1) / (m : Int) = (((n + 1) / m : Nat) : Int) := by rw [Int.natCast_ediv]; rfl
  rw [e, Nat.succ_div]
  have e2 : ((n : Int)) / (m : Int) = ((n / m : Nat) : Int) := by rw [Int.natCast_ediv]
  rw [e2]
  have e3 : (m ∣ n + 1) ↔ (1 + (n : Int)) % (m : Int) = 0 := by
    rw [← Int.dvd_iff_emod_eq_zero, ← Int.natCast_dvd_natCast]
    have : ((n + 1 : Nat) : Int) = 1 + (n : Int) := by omega
    rw [this]
  by_cases h : m ∣ n + 1
  · rw [if_pos h, if_pos (e3.mp h)]; rfl
  · rw [if_neg h, if_neg (fun z => h (e3.mpr z))]; rfl
theorem tw_succ {n : Nat} : ∀ {ts : List Term}, (∀ p ∈ ts, 0 < p.1) → tw ts ((n : Int) + 1) = tw ts n + tv ts (1 + (n : Int))
  | [], _ => rfl
  | p :: r, h => by
    have ih := tw_succ (n := n) (ts := r) fun q hq => h q (List.mem_cons_of_mem _ hq)
    unfold tw tv at ih ⊢
    simp only [List.map_cons, List.sum_cons]
    rw [ih, div_succ (h p List.mem_cons_self)]
    by_cases g : (1 + (n : Int)) % p.1 = 0
    · rw [if_pos g, if_pos g, Int.mul_add, Int.mul_one]; omega
    · rw [if_neg g, if_neg g, Int.add_zero]; omega
theorem tw_zero : ∀ ts : List Term, tw ts 0 = 0
  | [] => rfl
  | p :: r => by
    have ih := tw_zero r
    unfold tw at ih ⊢
    simp only [List.map_cons, List.sum_cons]
    rw [ih]; simp
theorem tw_cnt {ts : List Term} {ks : List Int} (hp : ∀ p ∈ ts, 0 < p.1) (h : ∀ d, tv ts d = sg (opn ks d)) : ∀ n : Nat, tw ts n = (n : Int) - 2 * (cnt ks n : Int)
  | 0 => by rw [show ((0 : Nat) : Int) = 0 from rfl, tw_zero]; rfl
  | n + 1 => by
    have ih := tw_cnt hp h n
    rw [show ((n + 1 : Nat) : Int) = (n : Int) + 1 from rfl, tw_succ hp, ih, h, cnt]
    cases opn ks (1 + (n : Int)) <;> simp [sg] <;> omega
/-- the program's end: without the first term, by -2 -/
theorem tw_end {r : List Term} {ks : List Int} (hp : ∀ p ∈ r, 0 < p.1) (h : ∀ d, tv ((1, 1) :: r) d = sg (opn ks d)) (n : Nat) : (tw r n).fdiv (-2) = (cnt ks n : Int) := by
  have a := tw_cnt (ts := (1, 1) :: r) (fun p hm => by
    rcases List.mem_cons.mp hm with e | m
    · rw [e]; decide
    · exact hp p m) h n
  have b : tw ((1, 1) :: r) n = (n : Int) + tw r n := by
    unfold tw
    simp only [List.map_cons, List.sum_cons]
    simp
  rw [b] at a
  have c : tw r n = (cnt ks n : Int) * (-2) := by omega
  rw [c, Int.mul_fdiv_cancel _ (by decide)]
theorem nextT_head (k : Int) (r : List Term) : nextT k ((1, 1) :: r) = (1, 1) :: (r ++ (((1, 1) :: r).map fun p => (lcmI p.1 k, -2 * p.2))) := rfl
theorem nextT_pos {k : Int} {ts : List Term} (hk : 0 < k) (hp : ∀ p ∈ ts, 0 < p.1) : ∀ p ∈ nextT k ts, 0 < p.1 := fun p hm => by
  rcases List.mem_append.mp hm with m | m
  · exact hp p m
  · obtain ⟨q, hq, rfl⟩ := List.mem_map.mp m
    exact lcm_pos (hp q hq) hk

/-! ### the round -/
def rnd (ks : List Int) : Int := ks.foldl lcmI 1
theorem rnd_snoc (ks : List Int) (k : Int) : rnd (ks ++ [k]) = lcmI (rnd ks) k := by
  unfold rnd
  rw [List.foldl_append]; rfl
theorem foldl_lcm : ∀ (ks : List Int) (a : Int), 0 < a → (∀ k ∈ ks, 0 < k) → 0 < ks.foldl lcmI a ∧ ∀ d, d % (ks.foldl lcmI a) = 0 ↔ d % a = 0 ∧ ∀ k ∈ ks, d % k = 0
  | [], a, ha, _ => ⟨ha, fun d => by simp⟩
  | k :: r, a, ha, h => by
    obtain ⟨h1, h2⟩ := foldl_lcm r (lcmI a k) (lcm_pos ha (h k List.mem_cons_self)) fun q hq => h q (List.mem_cons_of_mem _ hq)
    refine ⟨h1, fun d => ?_⟩
    show d % (r.foldl lcmI (lcmI a k)) = 0 ↔ _
    rw [h2 d, lcm_goes]
    constructor
    · rintro ⟨⟨p, q⟩, s⟩
      exact ⟨p, fun x hx => (List.mem_cons.mp hx).elim (fun e => e ▸ q) (s x)⟩
    · rintro ⟨p, s⟩
      exact ⟨⟨p, s k List.mem_cons_self⟩, fun x hx => s x (List.mem_cons_of_mem _ hx)⟩
theorem rnd_pos {ks : List Int} (h : ∀ k ∈ ks, 0 < k) : 0 < rnd ks := (foldl_lcm ks 1 (by decide) h).1
theorem rnd_goes {ks : List Int} (h : ∀ k ∈ ks, 0 < k) (d : Int) : d % rnd ks = 0 ↔ ∀ k ∈ ks, d % k = 0 := by
  have := (foldl_lcm ks 1 (by decide) h).2 d
  unfold rnd
  rw [this]
  constructor
  · exact fun z => z.2
  · exact fun z => ⟨Int.emod_one d, z⟩
theorem into_rnd {ks : List Int} (h : ∀ k ∈ ks, 0 < k) : ∀ k ∈ ks, k ∣ rnd ks := fun k hk => Int.dvd_of_emod_eq_zero ((rnd_goes h (rnd ks)).mp Int.emod_self k hk)
theorem hits_shift {ks : List Int} {p : Int} (h : ∀ k ∈ ks, k ∣ p) (d : Int) : hits ks (d + p) = hits ks d := by
  unfold hits
  refine List.countP_congr fun k hk => ?_
  obtain ⟨c, rfl⟩ := h k hk
  simp only [decide_eq_true_eq]
  rw [Int.add_mul_emod_self_left]
theorem opn_shift {ks : List Int} {p : Int} (h : ∀ k ∈ ks, k ∣ p) (d : Int) : opn ks (d + p) = opn ks d := by
  unfold opn
  rw [hits_shift h]
theorem cnt_shift {ks : List Int} {L : Nat} (h : ∀ k ∈ ks, k ∣ (L : Int)) : ∀ m, cnt ks (L + m) = cnt ks L + cnt ks m
  | 0 => rfl
  | m + 1 => by
    rw [← Nat.add_assoc, cnt, cnt, cnt_shift h m]
    have e : (1 + ((L + m : Nat) : Int)) = (1 + (m : Int)) + (L : Int) := by omega
    rw [e, opn_shift h]
    omega
theorem cnt_mul {ks : List Int} {L : Nat} (h : ∀ k ∈ ks, k ∣ (L : Int)) (r : Nat) : ∀ q, cnt ks (q * L + r) = q * cnt ks L + cnt ks r
  | 0 => by simp
  | q + 1 => by
    rw [Nat.succ_mul, Nat.succ_mul, Nat.add_assoc, Nat.add_comm L r, ← Nat.add_assoc, Nat.add_comm _ L, cnt_shift h, cnt_mul h r q]
    omega

/-! ### no lesser round (k06) -/
theorem free_part (a : Nat) : ∀ n L : Nat, L ≤ n → 0 < L → ∃ c N, Nat.Coprime c a ∧ L ∣ c * a ^ N
  | 0, L, h, h0 => absurd h (by omega)
  | n + 1, L, h, h0 => by
    by_cases g : Nat.gcd L a = 1
    · exact ⟨L, 0, g, by rw [Nat.pow_zero, Nat.mul_one]; exact Nat.dvd_refl L⟩
    · have gp : 0 < Nat.gcd L a := Nat.gcd_pos_of_pos_left a h0
      obtain ⟨L1, e⟩ := Nat.gcd_dvd_left L a
      have l0 : 0 < L1 := Nat.pos_of_ne_zero fun z => by rw [z, Nat.mul_zero] at e; omega
      have l1 : L1 < L := by
        have : 2 * L1 ≤ Nat.gcd L a * L1 := Nat.mul_le_mul_right _ (by omega)
        omega
      obtain ⟨c, N, hc, hd⟩ := free_part a n L1 (by omega) l0
      refine ⟨c, N + 1, hc, ?_⟩
      have : Nat.gcd L a * L1 ∣ a * (c * a ^ N) := Nat.mul_dvd_mul (Nat.gcd_dvd_right L a) hd
      rw [← e] at this
      rw [Nat.pow_succ, ← Nat.mul_assoc, Nat.mul_comm (c * a ^ N) a]
      exact this
theorem lift_coprime {a m L : Nat} (hL : 0 < L) (h : Nat.Coprime a m) : ∃ j, Nat.Coprime (a + j * m) L := by
  obtain ⟨c, N, hc, hd⟩ := free_part a L L (Nat.le_refl L) hL
  refine ⟨c, ?_⟩
  have h1 : Nat.Coprime (a + c * m) c := by
    show Nat.gcd (a + c * m) c = 1
    rw [Nat.gcd_add_mul_left_left]
    exact hc.symm
  have h2 : Nat.Coprime (a + c * m) a := by
    show Nat.gcd (a + c * m) a = 1
    have e : a + c * m = c * m + a * 1 := by omega
    rw [e, Nat.gcd_add_mul_left_left]
    have : Nat.Coprime (c * m) a := (Nat.Coprime.mul_right hc.symm h).symm
    exact this
  exact Nat.Coprime.coprime_dvd_right hd (Nat.Coprime.mul_right h1 (Nat.Coprime.pow_right N h2))
theorem far_door {k p L : Nat} (hk : 0 < k) (hL : 0 < L) : ∃ j, ∀ s, s ∣ L → (s ∣ k + j * p ↔ s ∣ k ∧ s ∣ p) := by
  have hg : 0 < Nat.gcd k p := Nat.gcd_pos_of_pos_left p hk
  obtain ⟨j, hj⟩ := lift_coprime (L := L) hL (Nat.coprime_div_gcd_div_gcd hg)
  refine ⟨j, fun s hs => ⟨fun h => ?_, fun h => Nat.dvd_add h.1 (Nat.dvd_mul_left_of_dvd h.2 j)⟩⟩
  have e : k + j * p = Nat.gcd k p * (k / Nat.gcd k p + j * (p / Nat.gcd k p)) := by
    rw [Nat.mul_add, Nat.mul_div_cancel' (Nat.gcd_dvd_left k p), ← Nat.mul_assoc, Nat.mul_comm _ j, Nat.mul_assoc, Nat.mul_div_cancel' (Nat.gcd_dvd_right k p)]
  have c : Nat.Coprime s (k / Nat.gcd k p + j * (p / Nat.gcd k p)) := (Nat.Coprime.coprime_dvd_right hs hj).symm
  rw [e] at h
  have q := c.dvd_of_dvd_mul_right h
  exact Nat.dvd_gcd_iff.mp q
theorem goes_nat {t d : Nat} : ((d : Int) % (t : Int) = 0) ↔ t ∣ d := by rw [← Int.dvd_iff_emod_eq_zero, Int.natCast_dvd_natCast]
/-- in a rising row the least k that doesn't go into p: at the door k + j p just those of k's divisors that go into p count -/
theorem no_less {ks : List Int} {p : Int} (hr : ks.Pairwise (· < ·)) (hp : ∀ k ∈ ks, 0 < k) (h1 : 1 ≤ p) (hall : ∀ d : Int, 1 ≤ d → opn ks d = opn ks (d + p)) : ∀ k ∈ ks, k ∣ p := by
  have hj : ∀ (j : Nat) (d : Int), 1 ≤ d → opn ks d = opn ks (d + j * p) := by
    intro j
    induction j with
    | zero => intro d _; simp
    | succ j ih =>
      intro d hd
      have h0 : 0 ≤ (j : Int) * p := Int.mul_nonneg (by omega) (by omega)
      rw [ih d hd, hall (d + j * p) (by omega)]
      have e : ((j + 1 : Nat) : Int) * p = (j : Int) * p + p := by
        rw [show ((j + 1 : Nat) : Int) = (j : Int) + 1 from rfl, Int.add_mul, Int.one_mul]
      rw [e, Int.add_assoc]
  have key : ∀ n : Nat, ∀ k ∈ ks, k ≤ n → k ∣ p := by
    intro n
    induction n with
    | zero => intro k hk hn; have := hp k hk; omega
    | succ n ih =>
      intro k hk hn
      by_cases hlt : k ≤ n
      · exact ih k hk hlt
      · by_cases hd : k ∣ p
        · exact hd
        · exfalso
          have kp := hp k hk
          have Lp := rnd_pos hp
          obtain ⟨kn, ek⟩ := Int.eq_ofNat_of_zero_le (Int.le_of_lt kp)
          obtain ⟨pn, ep⟩ := Int.eq_ofNat_of_zero_le (show 0 ≤ p by omega)
          obtain ⟨Ln, eL⟩ := Int.eq_ofNat_of_zero_le (Int.le_of_lt Lp)
          obtain ⟨j, hjs⟩ := far_door (k := kn) (p := pn) (L := Ln) (by omega) (by omega)
          have a := hj j k (by omega)
          -- at k: those below that go into k and p, and k itself
          have e1 : hits ks (k + j * p) = (ks.filter fun t => decide (k % t = 0) && decide (p % t = 0)).length := by
            rw [hits_filter]
            refine congrArg List.length (List.filter_congr fun t ht => ?_)
            have tp := hp t ht
            obtain ⟨tn, et⟩ := Int.eq_ofNat_of_zero_le (Int.le_of_lt tp)
            have dl : tn ∣ Ln := by
              have := into_rnd hp t ht
              rw [et, eL] at this
              exact Int.natCast_dvd_natCast.mp this
            have q := hjs tn dl
            have w : (k + j * p) = ((kn + j * pn : Nat) : Int) := by
              rw [ek, ep]
              show (kn : Int) + (j : Int) * (pn : Int) = _
              rw [Int.natCast_add, Int.natCast_mul]
            rw [w, ek, ep, et]
            show decide (((kn + j * pn : Nat) : Int) % (tn : Int) = 0) = (decide ((kn : Int) % (tn : Int) = 0) && decide ((pn : Int) % (tn : Int) = 0))
            rw [Bool.eq_iff_iff, Bool.and_eq_true, decide_eq_true_eq, decide_eq_true_eq, decide_eq_true_eq, goes_nat, goes_nat, goes_nat]
            exact q
          have e2 : ∀ l : List Int, l.Nodup → (∀ t ∈ l, t ∈ ks) → hits l k = (l.filter fun t => decide (k % t = 0) && decide (p % t = 0)).length + if k ∈ l then 1 else 0 := by
            intro l
            induction l with
            | nil => intro _ _; simp [hits_nil]
            | cons t r ihl =>
              intro nd sub
              obtain ⟨nt, nr⟩ := List.nodup_cons.mp nd
              rw [hits_cons, ihl nr fun t ht => sub t (List.mem_cons_of_mem _ ht), List.filter_cons]
              have tk := sub t List.mem_cons_self
              by_cases e : t = k
              · subst e
                have f : ¬ p % t = 0 := fun z => hd (Int.dvd_of_emod_eq_zero z)
                have f2 : t % t = 0 := Int.emod_self
                simp [f, f2, nt]
              · have e' : k ≠ t := fun z => e z.symm
                by_cases g : k % t = 0
                · have l1 := le_of_goes kp g
                  have g2 : p % t = 0 := Int.emod_eq_zero_of_dvd (ih t tk (by omega))
                  simp [g, g2, e']
                  omega
                · simp [g, e']
          have e3 := e2 ks (nodup_of_rise hr) fun _ h => h
          rw [if_pos hk] at e3
          unfold opn at a
          rw [e1, e3, par_not] at a
          revert a
          cases decide ((ks.filter fun t => decide (k % t = 0) && decide (p % t = 0)).length % 2 = 1) <;> simp
  intro k hk
  exact key k.toNat k hk (by have := hp k hk; omega)
/-- a number below the round is no round: some of the first doors, as many as the round, tells -/
theorem round_least {ks : List Int} {p : Int} (hr : ks.Pairwise (· < ·)) (hp : ∀ k ∈ ks, 0 < k) (h1 : 1 ≤ p) (h2 : p < rnd ks) : ¬ ∀ d : Int, 1 ≤ d → d ≤ rnd ks → opn ks d = opn ks (d + p) := by
  intro h
  have Lp := rnd_pos hp
  have inL := into_rnd hp
  have all : ∀ (n : Nat) (d : Int), 1 ≤ d → d ≤ n → opn ks d = opn ks (d + p) := by
    intro n
    induction n with
    | zero => intro d a b; omega
    | succ n ih =>
      intro d a b
      by_cases c : d ≤ rnd ks
      · exact h d a c
      · have q := ih (d - rnd ks) (by omega) (by omega)
        have s1 := opn_shift inL (d - rnd ks)
        have s2 := opn_shift inL (d - rnd ks + p)
        rw [show d - rnd ks + rnd ks = d by omega] at s1
        rw [show d - rnd ks + p + rnd ks = d + p by omega] at s2
        rw [s1, s2, q]
  have k := no_less hr hp h1 fun d hd => all d.toNat d hd (by omega)
  have z := (rnd_goes hp p).mpr fun x hx => Int.emod_eq_zero_of_dvd (k x hx)
  have := Int.le_of_dvd (by omega) (Int.dvd_of_emod_eq_zero z)
  omega
theorem cnt_same {a b : List Int} (h : ∀ d, opn a d = opn b d) : ∀ n, cnt a n = cnt b n
  | 0 => rfl
  | n + 1 => by rw [cnt, cnt, cnt_same h n, h]
theorem cnt_one : ∀ n, cnt [1] n = n
  | 0 => rfl
  | n + 1 => by
    have : opn [1] (1 + (n : Int)) = true := by
      unfold opn
      rw [hits_one, if_pos (Int.emod_one _)]
      rfl
    rw [cnt, cnt_one n, if_pos this]
/-- the terms behind the first i turners -/
structure TmOk (B i : Nat) (ks : List Int) (ts : List Term) : Prop where
  hd : ∃ r, ts = (1, 1) :: r
  len : ts.length = 2 ^ i
  val : ∀ d, tv ts d = sg (opn (ks.take i) d)
  pos : ∀ p ∈ ts, 0 < p.1
  step : ∀ p ∈ ts, p.1.natAbs < 2 ^ (i * B + 1)
  oft : ∀ p ∈ ts, p.2.natAbs ≤ 2 ^ i
theorem TmOk.start (B : Nat) (ks : List Int) : TmOk B 0 ks [(1, 1)] where
  hd := ⟨[], rfl⟩
  len := rfl
  val := fun d => by rw [List.take_zero]; exact tv_start d
  pos := fun p hp => by rw [List.mem_singleton.mp hp]; decide
  step := fun p hp => by rw [List.mem_singleton.mp hp, Nat.zero_mul]; decide
  oft := fun p hp => by rw [List.mem_singleton.mp hp]; decide
theorem TmOk.next {B i : Nat} {ks : List Int} {ts : List Term} {k : Int} (h : TmOk B i ks ts) (hg : ks[i]? = some k) (hk : 0 < k) (hB : k.natAbs < 2 ^ B) : TmOk B (i + 1) ks (nextT k ts) where
  hd := by
    obtain ⟨r, rfl⟩ := h.hd
    exact ⟨_, nextT_head k r⟩
  len := by
    unfold nextT
    rw [List.length_append, List.length_map, h.len, Nat.pow_succ]
    omega
  val := fun d => by
    rw [List.take_add_one, hg]
    exact tv_snoc (h.val d)
  pos := nextT_pos hk h.pos
  step := fun p hp => by
    have e : (i + 1) * B + 1 = i * B + 1 + B := by rw [Nat.succ_mul]; omega
    rcases List.mem_append.mp hp with m | m
    · refine Nat.lt_of_lt_of_le (h.step p m) (Nat.pow_le_pow_right (by decide) (by omega))
    · obtain ⟨q, hq, rfl⟩ := List.mem_map.mp m
      have l := lcm_le (h.pos q hq) hk
      have l0 := lcm_pos (h.pos q hq) hk
      have w : (q.1 * k).natAbs < 2 ^ (i * B + 1) * 2 ^ B := by
        rw [Int.natAbs_mul]
        exact Nat.mul_lt_mul'' (h.step q hq) hB
      rw [← Nat.pow_add, ← e] at w
      refine Nat.lt_of_le_of_lt ?_ w
      show (lcmI q.1 k).natAbs ≤ _
      omega
  oft := fun p hp => by
    have e : (2 : Nat) ^ (i + 1) = 2 ^ i * 2 := Nat.pow_succ ..
    rcases List.mem_append.mp hp with m | m
    · have := h.oft p m
      omega
    · obtain ⟨q, hq, rfl⟩ := List.mem_map.mp m
      have := h.oft q hq
      show (-2 * q.2).natAbs ≤ _
      rw [Int.natAbs_mul]
      show 2 * q.2.natAbs ≤ _
      omega
end Dt
namespace Dt
/-! ### the root (k07) -/
structure IsRoot (n r : Int) : Prop where
  nn : 0 ≤ r
  le : r * r ≤ n
  lt : n < (r + 1) * (r + 1)
theorem sq_mono {a b : Int} (ha : 0 ≤ a) (h : a ≤ b) : a * a ≤ b * b := Int.mul_le_mul h h ha (by omega)
theorem IsRoot.uniq {n r s : Int} (hr : IsRoot n r) (hs : IsRoot n s) : r = s := by
  have h1 := hr.le; have h2 := hr.lt; have h3 := hs.le; have h4 := hs.lt
  have p := hr.nn; have q := hs.nn
  by_cases a : r < s
  · have := sq_mono (a := r + 1) (b := s) (by omega) (by omega)
    omega
  · by_cases b : s < r
    · have := sq_mono (a := s + 1) (b := r) (by omega) (by omega)
      omega
    · omega
theorem IsRoot.sq {r : Int} (h : 0 ≤ r) : IsRoot (r * r) r := ⟨h, Int.le_refl _, by
  have : (r + 1) * (r + 1) = r * r + 2 * r + 1 := by
    rw [Int.add_mul, Int.mul_add, Int.one_mul, Int.mul_one]; omega
  omega⟩
theorem IsRoot.sq_less {r : Int} (h : 0 < r) : IsRoot (r * r - 1) (r - 1) := ⟨by omega, by
  have : (r - 1) * (r - 1) = r * r - 2 * r + 1 := by
    rw [Int.sub_mul, Int.mul_sub, Int.one_mul, Int.mul_one]; omega
  omega, by rw [show r - 1 + 1 = r by omega]; omega⟩
theorem le_sq {h n : Int} (h1 : 1 ≤ h) (h2 : h * h ≤ n) : h ≤ n := by
  have : h * 1 ≤ h * h := Int.mul_le_mul_of_nonneg_left h1 (by omega)
  omega

/-! ### a stretch of turners (k07) -/
def inR (f l d : Int) : Bool := decide (f ≤ d) && decide (d ≤ l)
def dv (f l n d : Int) : Bool := decide (n % d = 0) && inR f l d
def pa (f l n at_ d : Int) : Bool := dv f l n d && (decide (d < at_) || decide (n / d < at_))
/-- those of the stretch that go into n, told so far; all of them -/
def cS (f l n at_ : Int) : Nat := (upto n.toNat).countP (pa f l n at_)
def cA (f l n : Int) : Nat := (upto n.toNat).countP (dv f l n)
theorem upto_nodup (n : Nat) : (upto n).Nodup := nodup_of_rise (upto_rise n)
theorem countP_one {l : List Int} {p q : Int → Bool} {x : Int} (nd : l.Nodup) (hx : x ∈ l) (px : p x = false) (h : ∀ d ∈ l, q d = (p d || decide (d = x))) : l.countP q = l.countP p + 1 := by
  induction l with
  | nil => cases hx
  | cons t r ih =>
    obtain ⟨nt, nr⟩ := List.nodup_cons.mp nd
    rw [List.countP_cons, List.countP_cons]
    have ht := h t List.mem_cons_self
    by_cases e : t = x
    · subst e
      have same : r.countP q = r.countP p := List.countP_congr fun d hd => by
        have : d ≠ t := fun z => nt (z ▸ hd)
        rw [h d (List.mem_cons_of_mem _ hd)]; simp [this]
      rw [same, ht, px]; simp
    · have hx' : x ∈ r := (List.mem_cons.mp hx).resolve_left fun z => e z.symm
      have a := ih nr hx' fun d hd => h d (List.mem_cons_of_mem _ hd)
      rw [a, ht]
      simp [e]
      omega
theorem cS_start (f l n : Int) : cS f l n 1 = 0 := by
  unfold cS
  rw [List.countP_eq_zero]
  intro d hd
  have h := mem_upto.mp hd
  unfold pa
  have a : ¬ d < 1 := by omega
  have b : ¬ n / d < 1 := by
    have : 1 ≤ n / d := (Int.le_ediv_iff_mul_le (by omega)).mpr (by omega)
    omega
  simp [a, b]
theorem mul_div_self {a e : Int} (ha : 0 < a) : a * e / a = e := Int.mul_ediv_cancel_left e (by omega)
theorem cS_none {f l n at_ : Int} (h1 : 1 ≤ at_) (hg : ¬ n % at_ = 0) : cS f l n (at_ + 1) = cS f l n at_ := by
  unfold cS
  refine List.countP_congr fun d hd => ?_
  have h := mem_upto.mp hd
  unfold pa dv
  by_cases g : n % d = 0
  · have a : d ≠ at_ := fun z => hg (z ▸ g)
    have b : n / d ≠ at_ := fun z => hg (by
      have e : d * (n / d) = n := Int.mul_ediv_cancel' (Int.dvd_of_emod_eq_zero g)
      rw [z] at e
      rw [← e]; exact Int.mul_emod_left d at_)
    have c1 : d < at_ + 1 ↔ d < at_ := by omega
    have c2 : n / d < at_ + 1 ↔ n / d < at_ := by omega
    simp [g, c1, c2]
  · simp [g]
theorem cS_step {f l at_ e : Int} (h1 : 1 ≤ at_) (h2 : at_ ≤ e) :
    cS f l (at_ * e) (at_ + 1) = cS f l (at_ * e) at_ + (if inR f l at_ = true then 1 else 0) + (if at_ < e then (if inR f l e = true then 1 else 0) else 0) := by
  have hn : 1 ≤ at_ * e := by
    have : 1 * 1 ≤ at_ * e := Int.mul_le_mul h1 (by omega) (by omega) (by omega)
    omega
  have hea : e ≤ at_ * e := by
    have : 1 * e ≤ at_ * e := Int.mul_le_mul_of_nonneg_right h1 (by omega)
    omega
  have m1 : at_ ∈ upto (at_ * e).toNat := mem_upto.mpr (by omega)
  have m2 : e ∈ upto (at_ * e).toNat := mem_upto.mpr (by omega)
  have d1 : at_ * e % at_ = 0 := Int.mul_emod_right at_ e
  have d2 : at_ * e % e = 0 := Int.mul_emod_left at_ e
  have q1 : at_ * e / at_ = e := mul_div_self (by omega)
  have q2 : at_ * e / e = at_ := Int.mul_ediv_cancel at_ (by omega)
  have p1 : pa f l (at_ * e) at_ at_ = false := by
    unfold pa
    rw [q1]
    have : ¬ e < at_ := by omega
    simp [this]
  have p2 : pa f l (at_ * e) at_ e = false := by
    unfold pa
    rw [q2]
    have : ¬ e < at_ := by omega
    simp [this]
  -- the test of the next turn
  have nx : ∀ d ∈ upto (at_ * e).toNat, pa f l (at_ * e) (at_ + 1) d = (pa f l (at_ * e) at_ d || (inR f l d && (decide (d = at_) || decide (d = e)))) := by
    intro d hd
    have h := mem_upto.mp hd
    unfold pa dv
    by_cases g : at_ * e % d = 0
    · have ed : d * (at_ * e / d) = at_ * e := Int.mul_ediv_cancel' (Int.dvd_of_emod_eq_zero g)
      have c2 : (at_ * e / d = at_) ↔ d = e := by
        constructor
        · intro z
          rw [z, Int.mul_comm d at_] at ed
          exact Int.eq_of_mul_eq_mul_left (by omega) ed
        · intro z
          rw [z]; exact q2
      have c1 : d < at_ + 1 ↔ d < at_ ∨ d = at_ := by omega
      have c3 : at_ * e / d < at_ + 1 ↔ at_ * e / d < at_ ∨ at_ * e / d = at_ := by omega
      have k1 : decide (d < at_ + 1) = (decide (d < at_) || decide (d = at_)) := by rw [Bool.eq_iff_iff]; simp [c1]
      have k2 : decide (at_ * e / d < at_ + 1) = (decide (at_ * e / d < at_) || decide (d = e)) := by rw [Bool.eq_iff_iff]; simp [c3, c2]
      rw [k1, k2, decide_eq_true g]
      cases inR f l d <;> cases decide (d < at_) <;> cases decide (d = at_) <;> cases decide (at_ * e / d < at_) <;> cases decide (d = e) <;> rfl
    · have a1 : d ≠ at_ := fun z => g (z ▸ d1)
      have a2 : d ≠ e := fun z => g (z ▸ d2)
      simp [g, a1, a2]
  unfold cS
  have nd := upto_nodup (at_ * e).toNat
  by_cases hlt : at_ < e
  · rw [if_pos hlt]
    by_cases i1 : inR f l at_ = true
    · -- at_ counts
      have s1 : (upto (at_ * e).toNat).countP (fun d => pa f l (at_ * e) at_ d || decide (d = at_)) = (upto (at_ * e).toNat).countP (pa f l (at_ * e) at_) + 1 := countP_one nd m1 p1 fun d _ => rfl
      by_cases i2 : inR f l e = true
      · have ne : e ≠ at_ := by omega
        have s2 : (upto (at_ * e).toNat).countP (pa f l (at_ * e) (at_ + 1)) = (upto (at_ * e).toNat).countP (fun d => pa f l (at_ * e) at_ d || decide (d = at_)) + 1 :=
          countP_one nd m2 (by simp [p2, ne]) fun d hd => by
            rw [nx d hd]
            by_cases z1 : d = at_
            · subst z1; simp [i1]
            · by_cases z2 : d = e
              · subst z2; simp [i2]
              · simp [z1, z2]
        rw [s2, s1, if_pos i1, if_pos i2]
      · have s2 : (upto (at_ * e).toNat).countP (pa f l (at_ * e) (at_ + 1)) = (upto (at_ * e).toNat).countP (fun d => pa f l (at_ * e) at_ d || decide (d = at_)) := List.countP_congr fun d hd => by
            rw [nx d hd]
            by_cases z1 : d = at_
            · subst z1; simp [i1]
            · by_cases z2 : d = e
              · subst z2; simp [i2, z1]
              · simp [z1, z2]
        rw [s2, s1, if_pos i1, if_neg i2]
    · by_cases i2 : inR f l e = true
      · have s2 : (upto (at_ * e).toNat).countP (pa f l (at_ * e) (at_ + 1)) = (upto (at_ * e).toNat).countP (pa f l (at_ * e) at_) + 1 :=
          countP_one nd m2 p2 fun d hd => by
            rw [nx d hd]
            by_cases z2 : d = e
            · subst z2; simp [i2]
            · by_cases z1 : d = at_
              · subst z1; simp [i1, z2]
              · simp [z1, z2]
        rw [s2, if_neg i1, if_pos i2]
      · have s2 : (upto (at_ * e).toNat).countP (pa f l (at_ * e) (at_ + 1)) = (upto (at_ * e).toNat).countP (pa f l (at_ * e) at_) := List.countP_congr fun d hd => by
            rw [nx d hd]
            by_cases z1 : d = at_
            · subst z1; simp [i1]
            · by_cases z2 : d = e
              · subst z2; simp [i2]
              · simp [z1, z2]
        rw [s2, if_neg i1, if_neg i2, Nat.add_zero]
  · have ee : e = at_ := by omega
    subst ee
    rw [if_neg hlt]
    by_cases i1 : inR f l e = true
    · have s2 : (upto (e * e).toNat).countP (pa f l (e * e) (e + 1)) = (upto (e * e).toNat).countP (pa f l (e * e) e) + 1 :=
        countP_one nd m1 p1 fun d hd => by
          rw [nx d hd]
          by_cases z1 : d = e
          · subst z1; simp [i1]
          · simp [z1]
      rw [s2, if_pos i1]
    · have s2 : (upto (e * e).toNat).countP (pa f l (e * e) (e + 1)) = (upto (e * e).toNat).countP (pa f l (e * e) e) := List.countP_congr fun d hd => by
          rw [nx d hd]
          by_cases z1 : d = e
          · subst z1; simp [i1]
          · simp [z1]
      rw [s2, if_neg i1, Nat.add_zero]
theorem cS_end {f l n at_ : Int} (h1 : 1 ≤ at_) (hn : n < at_ * at_) : cS f l n at_ = cA f l n := by
  unfold cS cA
  refine List.countP_congr fun d hd => ?_
  have h := mem_upto.mp hd
  unfold pa
  by_cases g : dv f l n d = true
  · have gd : n % d = 0 := by
      unfold dv at g
      simp only [Bool.and_eq_true, decide_eq_true_eq] at g
      exact g.1
    have ed : d * (n / d) = n := Int.mul_ediv_cancel' (Int.dvd_of_emod_eq_zero gd)
    have : d < at_ ∨ n / d < at_ := by
      by_cases a : d < at_
      · exact .inl a
      · refine .inr ?_
        by_cases b : n / d < at_
        · exact b
        · exfalso
          have : at_ * at_ ≤ d * (n / d) := Int.mul_le_mul (by omega) (by omega) (by omega) (by omega)
          omega
    rcases this with a | a <;> simp [g, a]
  · simp [g]
theorem countP_split {l : List Int} {p q r : Int → Bool} (h : ∀ d ∈ l, r d = (p d || q d) ∧ (p d && q d) = false) : l.countP r = l.countP p + l.countP q := by
  induction l with
  | nil => rfl
  | cons t l ih =>
    rw [List.countP_cons, List.countP_cons, List.countP_cons, ih fun d hd => h d (List.mem_cons_of_mem _ hd)]
    obtain ⟨a, b⟩ := h t List.mem_cons_self
    rw [a]
    cases x : p t <;> cases y : q t <;> simp [x, y] at b ⊢ <;> omega
/-- two stretches put together -/
theorem cA_join {f m l n : Int} (h1 : f ≤ m + 1) (h2 : m ≤ l) : cA f l n = cA f m n + cA (m + 1) l n := by
  unfold cA
  refine countP_split fun d _ => ?_
  unfold dv inR
  cases decide (n % d = 0)
  · exact ⟨rfl, rfl⟩
  · by_cases a : f ≤ d <;> by_cases b : d ≤ m <;> by_cases c : d ≤ l
    all_goals first
      | (have b' : ¬ (m + 1 ≤ d) := by omega
         simp [a, b, c, b']; done)
      | (have b' : m + 1 ≤ d := by omega
         simp [a, b, c, b']; done)
      | (exfalso; omega)
/-- the stretch from 1 to the door or beyond: an odd count just of a square -/
theorem cS_par {l n : Int} (hl : n ≤ l) (hn : 1 ≤ n) : ∀ k : Nat, ((k : Int)) * (k : Int) ≤ n → (cS 1 l n ((k : Int) + 1) % 2 = 1 ↔ (k : Int) * (k : Int) = n)
  | 0, _ => by
    have : cS 1 l n (((0 : Nat) : Int) + 1) = 0 := cS_start 1 l n
    rw [this]
    constructor
    · intro z; omega
    · intro z
      have : ((0 : Nat) : Int) * ((0 : Nat) : Int) = 0 := rfl
      omega
  | k + 1, hk => by
    have hkk : (k : Int) * (k : Int) < ((k + 1 : Nat) : Int) * ((k + 1 : Nat) : Int) := by
      have e : ((k + 1 : Nat) : Int) * ((k + 1 : Nat) : Int) = (k : Int) * (k : Int) + 2 * (k : Int) + 1 := by
        rw [show ((k + 1 : Nat) : Int) = (k : Int) + 1 from rfl, Int.add_mul, Int.mul_add, Int.one_mul, Int.mul_one]; omega
      omega
    have ih := cS_par hl hn k (by omega)
    have ev : ¬ (cS 1 l n ((k : Int) + 1) % 2 = 1) := fun z => by
      have := ih.mp z
      omega
    have e0 : ((k + 1 : Nat) : Int) = (k : Int) + 1 := rfl
    by_cases g : n % ((k : Int) + 1) = 0
    · have ed : ((k : Int) + 1) * (n / ((k : Int) + 1)) = n := Int.mul_ediv_cancel' (Int.dvd_of_emod_eq_zero g)
      have le1 : (k : Int) + 1 ≤ n / ((k : Int) + 1) := (Int.le_ediv_iff_mul_le (by omega)).mpr (by rw [← e0]; exact hk)
      have hle : n / ((k : Int) + 1) ≤ n := Int.ediv_le_self _ (by omega)
      have s := cS_step (f := 1) (l := l) (at_ := (k : Int) + 1) (e := n / ((k : Int) + 1)) (by omega) le1
      rw [ed] at s
      have i1 : inR 1 l ((k : Int) + 1) = true := by unfold inR; simp; omega
      have i2 : inR 1 l (n / ((k : Int) + 1)) = true := by unfold inR; simp; omega
      rw [if_pos i1, if_pos i2] at s
      rw [e0, s]
      by_cases lt : (k : Int) + 1 < n / ((k : Int) + 1)
      · rw [if_pos lt]
        have ne : ((k : Int) + 1) * ((k : Int) + 1) < n := by
          have : ((k : Int) + 1) * ((k : Int) + 1) < ((k : Int) + 1) * (n / ((k : Int) + 1)) := Int.mul_lt_mul_of_pos_left lt (by omega)
          omega
        constructor <;> (intro z; omega)
      · rw [if_neg lt]
        have eq : n / ((k : Int) + 1) = (k : Int) + 1 := by omega
        rw [eq] at ed
        constructor
        · intro _; exact ed
        · intro _; omega
    · rw [e0, cS_none (by omega) g]
      constructor
      · intro z; exact absurd z ev
      · intro z
        exfalso
        apply g
        rw [← z]
        exact Int.mul_emod_right _ _
theorem cA_square {l n r : Int} (hl : n ≤ l) (hn : 1 ≤ n) (hr : IsRoot n r) : (cA 1 l n % 2 = 1 ↔ r * r = n) := by
  obtain ⟨k, rfl⟩ := Int.eq_ofNat_of_zero_le hr.nn
  have a := cS_par hl hn k hr.le
  have b := cS_end (f := 1) (l := l) (n := n) (at_ := (k : Int) + 1) (by omega) hr.lt
  rw [b] at a
  exact a
/-- the law's own count, over the numbers of the stretch themselves -/
theorem cA_list {f l n : Int} (hf : 1 ≤ f) (k : Nat) (hk : (k : Int) = (if n < l then n else l) + 1 - f ∨ (k = 0 ∧ (if n < l then n else l) + 1 - f < 0)) :
    (List.range k).countP (fun i : Nat => decide (n % (f + (i : Int)) = 0)) = cA f l n := by
  unfold cA
  rw [List.countP_eq_length_filter, List.countP_eq_length_filter]
  have e : ((List.range k).filter fun i : Nat => decide (n % (f + (i : Int)) = 0)).map (fun i : Nat => f + (i : Int)) = (upto n.toNat).filter (dv f l n) := by
    refine rise_eq ?_ ((upto_rise _).filter _) fun x => ?_
    · rw [List.pairwise_map]
      exact (List.pairwise_lt_range.filter _).imp fun h => by omega
    · rw [List.mem_map, List.mem_filter, mem_upto]
      constructor
      · rintro ⟨i, hi, rfl⟩
        obtain ⟨h1, h2⟩ := List.mem_filter.mp hi
        have h1 := List.mem_range.mp h1
        unfold dv inR
        rw [h2]
        have : f + (i : Int) ≤ n ∧ f + (i : Int) ≤ l := by
          rcases hk with hk | hk
          · split at hk <;> omega
          · omega
        refine ⟨by omega, ?_⟩
        simp
        omega
      · rintro ⟨h1, h2⟩
        unfold dv inR at h2
        simp only [Bool.and_eq_true, decide_eq_true_eq] at h2
        refine ⟨(x - f).toNat, List.mem_filter.mpr ⟨List.mem_range.mpr ?_, ?_⟩, by omega⟩
        · rcases hk with hk | hk
          · split at hk <;> omega
          · obtain ⟨_, hk⟩ := hk
            split at hk <;> omega
        · have : f + (((x - f).toNat : Nat) : Int) = x := by omega
          rw [this]
          exact decide_eq_true h2.1
  rw [← e, List.length_map]
end Dt
/-! What serves every law: readings step by step (c_*), own rules. -/
namespace Dt
open PySem PySem.Spec PyProof.Rows L2 Evl
section
variable {σ : L2.St} {H : Hp} {i : Nat} {v x y z : V} {ta tb tc te : TE} {Q : VK} {D : Ends} {K : PySem.W.Frag} {ts tu tw : TS} {t u : TT} {QB : Bool → Hp → Prop} {QA : List V → Hp → Prop} {r r' : R2} {tr : TA} {E : XK} {sp : Sp} {dvs : List V}
theorem c_var (h : σ[i]? = some (some v)) (k : Q v H) : tVar i σ H Q := ⟨v, h, k⟩
theorem c_c (k : Q v H) : tC v σ H Q := k
theorem c_op (k : ta σ H fun x H1 => tb σ H1 fun y H2 => r x y H2 Q) : tOp r ta tb σ H Q := k
theorem c_un {ru : V → Hp → VK → Prop} (k : ta σ H fun x H1 => ru x H1 Q) : tUn ru ta σ H Q := k
theorem c_U {g : Int → V} {a : Int} (k : Q (g a) H) : rU g (.int a) H Q := ⟨a, rfl, k⟩
theorem c_I0 {g : Int → Int → V} {a b : Int} (k : Q (g a b) H) : rI0 g (.int a) (.int b) H Q := ⟨a, b, rfl, rfl, k⟩
theorem c_I {C : Int → Int → Prop} {g : Int → Int → V} {a b : Int} (hc : C a b) (k : Q (g a b) H) : rI C g (.int a) (.int b) H Q := ⟨a, b, rfl, rfl, hc, k⟩
theorem c_eqI {a b : Int} (k : Q (.bl (decide (a = b))) H) : rEq (.int a) (.int b) H Q := ⟨rfl, by
  have e : decide (V.int a = V.int b) = decide (a = b) := by rw [Bool.eq_iff_iff]; simp
  rw [e]; exact k⟩
theorem c_neI {a b : Int} (k : Q (.bl (!decide (a = b))) H) : rNe (.int a) (.int b) H Q := ⟨rfl, by
  have e : decide (V.int a = V.int b) = decide (a = b) := by rw [Bool.eq_iff_iff]; simp
  rw [e]; exact k⟩
theorem c_eqB {a b : Bool} (k : Q (.bl (decide (a = b))) H) : rEq (.bl a) (.bl b) H Q := ⟨rfl, by
  have e : decide (V.bl a = V.bl b) = decide (a = b) := by rw [Bool.eq_iff_iff]; simp
  rw [e]; exact k⟩
theorem c_neB {a b : Bool} (k : Q (.bl (!decide (a = b))) H) : rNe (.bl a) (.bl b) H Q := ⟨rfl, by
  have e : decide (V.bl a = V.bl b) = decide (a = b) := by rw [Bool.eq_iff_iff]; simp
  rw [e]; exact k⟩
theorem c_isB {a b : Bool} (k : Q (.bl (decide (a = b))) H) : rIsB (.bl a) (.bl b) H Q := ⟨a, b, rfl, rfl, k⟩
theorem c_notB {a b : Bool} (k : Q (.bl (!decide (a = b))) H) : rNotB (.bl a) (.bl b) H Q := ⟨a, b, rfl, rfl, k⟩
theorem c_cb {rc : List V → Hp → VK → Prop} (k : tr σ H fun vs H1 => rc vs H1 Q) : tCB rc tr σ H Q := k
theorem c_call (k : tr σ H fun vs H1 => sp (vs ++ dvs) H1 Q E) : tCall sp dvs E tr σ H Q := k
theorem c_nil (k : QA [] H) : tNil σ H QA := k
theorem c_cons (k : ta σ H fun x H1 => tr σ H1 fun xs H2 => QA (x :: xs) H2) : tCons ta tr σ H QA := k
theorem c_lst (k : tr σ H fun xs H1 => xs.length ≤ sizeLine ∧ ∀ p, H1 p = none → Q (.ref p) (upd H1 p (.lst xs))) : tLst tr σ H Q := k
theorem c_tup (k : tr σ H fun xs H1 => xs.length ≤ sizeLine ∧ ∀ p, H1 p = none → Q (.ref p) (upd H1 p (.tup xs))) : tTup tr σ H Q := k
theorem c_test (k : te σ H fun x H1 => ∃ b, x = .bl b ∧ QB b H1) : tTest te σ H QB := k
theorem c_B (k : te σ H fun x H1 => ∃ b, x = .bl b ∧ QB b H1) : tB te σ H QB := k
theorem c_k {R : Bool → Prop} {b : Bool} (k : R b) : ∃ c, V.bl b = .bl c ∧ R c := ⟨b, rfl, k⟩
theorem c_and (k : t σ H fun b H1 => if b = true then u σ H1 QB else QB false H1) : tAnd t u σ H QB := k
theorem c_or (k : t σ H fun b H1 => if b = true then QB true H1 else u σ H1 QB) : tOr t u σ H QB := k
theorem c_not (k : t σ H fun b H1 => QB (!b) H1) : tNot t σ H QB := k
theorem c_yes (k : QB true H) : tYes σ H QB := k
theorem c_andV (k : ta σ H fun x H1 => ∃ c, x = .bl c ∧ if c = true then tb σ H1 Q else Q (.bl false) H1) : tAndV ta tb σ H Q := k
theorem c_orV (k : ta σ H fun x H1 => ∃ c, x = .bl c ∧ if c = true then Q (.bl true) H1 else tb σ H1 Q) : tOrV ta tb σ H Q := k
theorem c_notV (k : ta σ H fun x H1 => ∃ c, x = .bl c ∧ Q (.bl (!c)) H1) : tNotV ta σ H Q := k
theorem c_if (k : t σ H fun b H1 => if b = true then ta σ H1 Q else tb σ H1 Q) : tIf t ta tb σ H Q := k
theorem c_chain (k : ta σ H fun x H1 => tb σ H1 fun y H2 => r x y H2 fun z H3 => ∃ k, z = .bl k ∧ (if k = true then tc σ H3 fun w' H4 => r' y w' H4 Q else Q (.bl false) H3)) : tChain r r' ta tb tc σ H Q := k
theorem c_sl {rs : V → Option Int → Option Int → Hp → VK → Prop} {tl th : TO} (k : te σ H fun x H1 => tl σ H1 fun l H2 => th σ H2 fun u H3 => rs x l u H3 Q) : tSl rs te tl th σ H Q := k
theorem c_rev (k : te σ H fun x H1 => ∃ a xs, x = .ref a ∧ SqL K H1 a xs ∧ ∀ p, H1 p = none → Q (.ref p) (upd H1 p (.lst xs.reverse))) : tRevL K te σ H Q := k
theorem c_bm {T : String} {rm : V → List V → Hp → VK → Prop} (k : te σ H fun x H1 => tyV K T x H1 ∧ tr σ H1 fun xs H2 => rm x xs H2 Q) : tBM K T rm te tr σ H Q := k
theorem c_noP {QO : Option Int → Hp → Prop} (k : QO none H) : tNoPart σ H QO := k
theorem c_part {QO : Option Int → Hp → Prop} (k : te σ H fun x H1 => ∃ i, x = .int i ∧ QO (some i) H1) : tPart te σ H QO := k
theorem c_ki {R : Int → Prop} {a : Int} (k : R a) : ∃ i, V.int a = .int i ∧ R i := ⟨a, rfl, k⟩
/-! statements -/
theorem c_seq (k : ts { D with nx := tu D } σ H) : tSeq ts tu D σ H := k
theorem c_asg (k : te σ H fun x H1 => D.nx (σ.set i (some x)) H1) : tAsg te (gName i) D σ H := k
theorem c_asgG {g : TG} (k : te σ H fun x H1 => g x σ H1 D.nx) : tAsg te g D σ H := k
theorem c_ret (k : te σ H D.rt) : tRet te D σ H := k
theorem c_drop (k : te σ H fun _ H1 => D.nx σ H1) : tDrop te D σ H := k
theorem c_ifS (k : t σ H fun b H1 => if b = true then ts D σ H1 else tu D σ H1) : tIfS t ts tu D σ H := k
theorem c_next (k : D.nx σ H) : tNext D σ H := k
theorem c_par {j : Nat} (k : tr σ H fun vs H1 => ∃ v w, vs = [v, w] ∧ D.nx ((σ.set i (some v)).set j (some w)) H1) : tPar i j tr D σ H := k
theorem c_kpar {R : V → V → Prop} {a b : V} (k : R a b) : ∃ v w, [a, b] = [v, w] ∧ R v w := ⟨a, b, rfl, k⟩
/-- what a for's body owes, once its iterator stands -/
def FL (J : It) (g : TG) (ts : TS) (D : Ends) (σ : L2.St) (H1 : Hp) : Prop := ∃ W : Nat → Nat → L2.St → Hp → Prop, (∃ m, W 0 m σ H1) ∧ ∀ i m σ H, W i m σ H →
  (J.stop i H ∧ D.nx σ H) ∨ (J.go i H ∧ ∃ N : L2.St → Hp → Prop, (∀ σ' H', N σ' H' → ∃ m', m' < m ∧ W (i + 1) m' σ' H') ∧ ∀ x H', J.yld i H x H' → g x σ H' fun σ2 H2 => ts { D with nx := N, ct := N, bk := D.nx } σ2 H2)
theorem c_for {wi : TI} {g : TG} (k : wi σ H fun J H1 => FL J g ts D σ H1) : tFor wi g ts D σ H := k
theorem f_list {a : Addr} {xs : List V} {g : TG} (Pv : Nat → L2.St → Hp → Prop) (h0 : Pv 0 σ H) (hl : ∀ i σ H, i ≤ xs.length → Pv i σ H → SqL K H a xs)
    (hs : ∀ i x σ H, xs[i]? = some x → Pv i σ H → g x σ H fun σ2 H2 => ts { D with nx := Pv (i + 1), ct := Pv (i + 1), bk := D.nx } σ2 H2) (hd : ∀ σ H, Pv xs.length σ H → D.nx σ H) : FL (Itl K a) g ts D σ H := for_list Pv h0 hl hs hd
theorem f_tup {a : Addr} {xs : List V} {g : TG} (Pv : Nat → L2.St → Hp → Prop) (h0 : Pv 0 σ H) (hl : ∀ i σ H, i ≤ xs.length → Pv i σ H → SqT K H a xs)
    (hs : ∀ i x σ H, xs[i]? = some x → Pv i σ H → g x σ H fun σ2 H2 => ts { D with nx := Pv (i + 1), ct := Pv (i + 1), bk := D.nx } σ2 H2) (hd : ∀ σ H, Pv xs.length σ H → D.nx σ H) : FL (Itt K a) g ts D σ H := for_tup Pv h0 hl hs hd
theorem f_range {lo : Int} {n : Nat} {g : TG} (Pv : Nat → L2.St → Hp → Prop) (h0 : Pv 0 σ H)
    (hs : ∀ i σ H, i < n → Pv i σ H → g (.int (lo + i)) σ H fun σ2 H2 => ts { D with nx := Pv (i + 1), ct := Pv (i + 1), bk := D.nx } σ2 H2) (hd : ∀ σ H, Pv n σ H → D.nx σ H) : FL (Itr lo n) g ts D σ H := for_range Pv h0 hs hd
theorem f_it {J : It} {n : Nat} {G : Hp → Prop} {Y : Nat → Hp → V → Hp → Prop} (w : Walk J n G Y) {g : TG} (Pv : Nat → L2.St → Hp → Prop) (h0 : Pv 0 σ H) (hG : ∀ i σ H, i ≤ n → Pv i σ H → G H)
    (hs : ∀ i x σ H H', i < n → Pv i σ H → Y i H x H' → g x σ H' fun σ2 H2 => ts { D with nx := Pv (i + 1), ct := Pv (i + 1), bk := D.nx } σ2 H2) (hd : ∀ σ H, Pv n σ H → D.nx σ H) : FL J g ts D σ H := for_it w Pv h0 hG hs hd
theorem c_iE {R : It → Hp → Prop} (k : tr σ H fun vs H1 => ∃ a xs, vs = [.ref a] ∧ SqL K H1 a xs ∧ R (Ite K a) H1) : iEnum K tr σ H R := k
theorem c_g {i : Nat} {R : L2.St → Hp → Prop} (k : R (σ.set i (some v)) H) : gName i v σ H R := k
theorem c_iL {R : It → Hp → Prop} (k : te σ H fun x H1 => ∃ a, x = .ref a ∧ (∃ xs, SqL K H1 a xs) ∧ R (Itl K a) H1) : iList K te σ H R := k
theorem c_iR1 {R : It → Hp → Prop} (k : tr σ H fun vs H1 => ∃ j : Int, vs = [.int j] ∧ -(2 ^ 62) ≤ j ∧ j < 2 ^ 62 ∧ R (Itr 0 j.toNat) H1) : iRng1 tr σ H R := k
theorem c_iR2 {R : It → Hp → Prop} (k : tr σ H fun vs H1 => ∃ i j : Int, vs = [.int i, .int j] ∧ (-(2 ^ 62) ≤ i ∧ i < 2 ^ 62 ∧ -(2 ^ 62) ≤ j ∧ j < 2 ^ 62) ∧ R (Itr i (j - i).toNat) H1) : iRng2 tr σ H R := k
/-! ways -/
theorem w_t {A B : Prop} {b : Bool} (hb : b = true) (h : A) : if b = true then A else B := by rw [if_pos hb]; exact h
theorem w_f {A B : Prop} {b : Bool} (hb : b = false) (h : B) : if b = true then A else B := by rw [if_neg (by rw [hb]; exact Bool.false_ne_true)]; exact h
theorem w_2 {A B : Prop} {b : Bool} (h1 : b = true → A) (h2 : b = false → B) : if b = true then A else B := by
  cases b with
  | true => exact w_t rfl (h1 rfl)
  | false => exact w_f rfl (h2 rfl)
end
/-! ### own rules -/
section
variable {X : Cx}
def rAbs : List V → Hp → VK → Prop := fun xs H Q => ∃ i, xs = [.int i] ∧ Q (.int (if i < 0 then -i else i)) H
def rMin2 : List V → Hp → VK → Prop := fun xs H Q => ∃ i j, xs = [.int i, .int j] ∧ Q (.int (if j < i then j else i)) H
theorem call_len_s : CallR X (.builtin "len") (rLenS X.K) := call_len_seq
theorem call_list_s : CallR X (.type "list") (rListS X.K) := call_list_of
theorem call_abs_s : CallR X (.builtin "abs") rAbs := call_abs
theorem call_min2_s (hc : X.calm = true) : CallR X (.builtin "min") rMin2 := call_min2 hc
theorem op_mulB : OpR X (binaryOp .Mult) (rI IntMulOk fun i j => .int (i * j)) := opI fun _ _ _ _ _ _ _ hc q => mul_int q hc
end
theorem bits_le {x : Int} {n : Nat} (h : x.natAbs < 2 ^ n) : Builtin.Int.intBits x ≤ n := by
  unfold Builtin.Int.intBits
  split
  · exact Nat.zero_le _
  · rename_i hx
    have h0 : x.natAbs ≠ 0 := fun z => hx (by simp [Int.natAbs_eq_zero.mp z])
    exact Nat.succ_le_of_lt ((Nat.log2_lt h0).mpr h)
theorem mulOk {i j : Int} {a b : Nat} (ha : i.natAbs < 2 ^ a) (hb : j.natAbs < 2 ^ b) (h : a + b ≤ 134000000) : IntMulOk i j := by
  have h1 := bits_le ha
  have h2 := bits_le hb
  have e : bitsLine = 134217728 := by decide
  unfold IntMulOk
  intro z
  rw [Bool.and_eq_true] at z
  have z2 := z.2
  unfold Builtin.Int.intTooBig at z2
  have z3 := of_decide_eq_true z2
  rw [e] at z3
  omega
/-- the built-ins' names are free -/
structure Blt (mg : Str → Option Value) : Prop where
  isinstance_ : mg "isinstance" = none
  len_ : mg "len" = none
  all_ : mg "all" = none
  any_ : mg "any" = none
  sum_ : mg "sum" = none
  abs_ : mg "abs" = none
  max_ : mg "max" = none
  min_ : mg "min" = none
  range_ : mg "range" = none
  sorted_ : mg "sorted" = none
  enumerate_ : mg "enumerate" = none
  int_ : mg "int" = none
  bool_ : mg "bool" = none
  list_ : mg "list" = none
  set_ : mg "set" = none
  str_ : mg "str" = none
  tuple_ : mg "tuple" = none
  ValueError_ : mg "ValueError" = none

/-! ### defs of the text: standing, kept -/
structure Df (K : PySem.W.Frag) (mg : Str → Option Value) (x : Str) (st : Stmt) (ps : List Str) : Prop where
  ex : ∃ (f : Addr) (fd : FuncData), Fun K x x st f fd ∧ mg x = some (.ref f) ∧ Binds K fd ps []
theorem df_mk {K : PySem.W.Frag} {mg : Str → Option Value} {h : Heap} {x : Str} {st : Stmt} {ps : List Str} {f : Addr} {oc : Value} {od an : Option Addr} {osl : Array (Option Value)} {kV doc pm cdv ct : Value} (X : K.In h) (G : h.Ns mainGlobals mg)
    (a : PySem.W.nsIn K mainGlobals x = some (some (.ref f))) (l : K.lookup f = some ⟨oc, od, .func (PySem.W.fnOf x x (defArgs st) (defBody st) (defScope st) .none kV doc pm an cdv ct), osl⟩) (c : PySem.W.codeIn K cdv x = true) (k : PySem.W.keepIn K (.ref f) = true)
    (hb : ∀ (kV doc pm : Value) (an : Option Addr) (cdv ct : Value) (us : List Value), us.length = ps.length → bindArgs (PySem.W.fnOf x x (defArgs st) (defBody st) (defScope st) .none kV doc pm an cdv ct) ⟨us, []⟩ = pure (ps.zip us)) : Df K mg x st ps :=
  ⟨f, _, fun_mk l c k, PySem.W.mg_of X G a, (fun_mk l c k).binds hb⟩
/-- what a def promises, callable by its name -/
structure Cal (P : Program) (w : World) (K : PySem.W.Frag) (mg : Str → Option Value) (base : Heap) (CX : CXT) (k : Nat) (x : Str) (sp : Sp) : Prop where
  ex : ∃ (f : Addr) (fd : FuncData) (ps : List Str), FnOk P w K mg base CX k f fd ps sp ∧ mg x = some (.ref f) ∧ PySem.W.keepIn K (.ref f) = true ∧ Binds K fd ps []
section
variable {P : Program} {w : World} {K : PySem.W.Frag} {mg : Str → Option Value} {base : Heap}
theorem Df.ok {x : Str} {st : Stmt} {N ps : List Str} {k : Nat} {sp : Sp} (F : Df K mg x st ps) (S : FnScope N ps (defScope st)) (len : ∀ vs H Q E, sp vs H Q E → vs.length = ps.length)
    (hbody : ∀ (f : Addr) (cdv : Value) (A : Around) (outer : List Env) (s : Shared) (H : Hp) (vs : List V) (Q : VK) (E : XK), Room k (A.deeper (envOfC x (defScope st) s.heap.objs.size f cdv)) → sp vs H Q E →
      ∃ t, PSs (cxOf CX0 P w K mg base N x (defScope st) f cdv A outer s H E).nox (defBody st) t ∧ t { nx := fun _ H' => Q .non H', rt := Q } (start N vs) H) : Cal P w K mg base CX0 (k + 1) x sp := by
  obtain ⟨f, fd, F, m, b⟩ := F.ex
  exact ⟨f, fd, ps, F.ok S len fun cdv A outer s H vs Q E => hbody f cdv A outer s H vs Q E, m, F.kp, b⟩
theorem Cal.mono {CX : CXT} {x : Str} {j k : Nat} {sp : Sp} (c : Cal P w K mg base CX j x sp) (h : j ≤ k) : Cal P w K mg base CX k x sp := by
  obtain ⟨f, fd, ps, F, r⟩ := c.ex
  exact ⟨f, fd, ps, F.mono h, r⟩
theorem Cal.imp {CX : CXT} {x : Str} {k : Nat} {sp sp' : Sp} (c : Cal P w K mg base CX k x sp) (h : ∀ vs H Q E, sp' vs H Q E → sp vs H Q E) : Cal P w K mg base CX k x sp' := by
  obtain ⟨f, fd, ps, F, r⟩ := c.ex
  exact ⟨f, fd, ps, F.imp h, r⟩
end
section
variable {X : Cx} {k j : Nat} {x : Str} {sp : Sp} {p pos : Pos} {e : Expr} {es : List Expr} {t : TA}
theorem pe_d (c : Cal X.prog X.w X.K X.mg X.base CX0 k x sp) (hr : Room j X.A) (hk : k ≤ j) (hg : Gl X x) (ha : PA X (e :: es) t)
    (hdb : (x == ("__debug__" : Str)) = false := by decide) (he : starEach (e :: es) X.env = (false, eval e X.env) :: starEach es X.env := by rfl) (hpl : (backTo pos (starEach es X.env)).any (·.1) = false := by rfl) :
    PE X (.Call (.Name x p) (e :: es) [] pos) (tCall sp [] E0 t) := by
  obtain ⟨f, fd, ps, F, hm, kp, b⟩ := c.ex
  exact pe_call F (hr.mono hk) hg hm kp b .nil pass0 ha hdb he hpl
theorem pe_d0 (c : Cal X.prog X.w X.K X.mg X.base CX0 k x sp) (hr : Room j X.A) (hk : k ≤ j) (hg : Gl X x)
    (hdb : (x == ("__debug__" : Str)) = false := by decide) : PE X (.Call (.Name x p) [] [] pos) (tCall sp [] E0 tNil) := by
  obtain ⟨f, fd, ps, F, hm, kp, b⟩ := c.ex
  exact pe_call0 F (hr.mono hk) hg hm kp b .nil pass0 hdb
end
/-! ### lists of ints -/
theorem intsD (ns : List Int) : ∀ K H, DpAll K H (ns.map V.int) (ns.map PyData.int) := by
  intro K H
  induction ns with
  | nil => exact .nil
  | cons n r ih => exact .cons (.int n) ih
theorem ints_lay : ∀ ns : List Int, PyData.canLayAll0 (ns.map PyData.int) = true
  | [] => rfl
  | n :: r => by
    have ih := ints_lay r
    simp [PyData.canLayAll0, PyData.canLay0, ih]
theorem ints_depth : ∀ ns : List Int, PyData.depthAll (ns.map PyData.int) ≤ 1
  | [] => by simp [PyData.depthAll]
  | n :: r => by
    have ih := ints_depth r
    simp [PyData.depthAll, PyData.depth]
    omega
theorem ints_shaped (ns : List Int) : SeqAt.shaped (.list (ns.map PyData.int)) = true := by
  unfold SeqAt.shaped
  have h1 := ints_lay ns
  have h2 := ints_depth ns
  simp [PyData.canLay0, PyData.depth, h1]
  omega
theorem ints_eqv : ∀ a b : List Int, PyData.eqvAll (a.map PyData.int) (b.map PyData.int) = decide (a = b)
  | [], [] => rfl
  | [], _ :: _ => by simp [PyData.eqvAll]
  | _ :: _, [] => by simp [PyData.eqvAll]
  | x :: a, y :: b => by
    have ih := ints_eqv a b
    rw [List.map_cons, List.map_cons, PyData.eqvAll, PyData.eqv, ih, Bool.eq_iff_iff]
    simp
section
variable {K : PySem.W.Frag} {H H' : Hp} {Q : VK} {a b : Addr} {xs ys : List Int}
theorem c_eqL (ha : SqL K H a (xs.map V.int)) (hb : SqL K H b (ys.map V.int)) (k : Q (.bl (decide (xs = ys))) H) : rEqD K (.ref a) (.ref b) H Q :=
  ⟨_, _, .lst ha (intsD xs K H), .lst hb (intsD ys K H), ints_shaped xs, ints_shaped ys, by
    rw [PyData.eqv, ints_eqv]; exact k⟩
theorem c_neL (ha : SqL K H a (xs.map V.int)) (hb : SqL K H b (ys.map V.int)) (k : Q (.bl (!decide (xs = ys))) H) : rNeD K (.ref a) (.ref b) H Q :=
  ⟨_, _, .lst ha (intsD xs K H), .lst hb (intsD ys K H), ints_shaped xs, ints_shaped ys, by
    rw [PyData.eqv, ints_eqv]; exact k⟩
theorem tyL {vs : List V} (h : SqL K H a vs) : TyX K H (.ref a) (.type "list") := by
  rcases h with (h | ⟨o, h⟩) | ⟨o, its, n, hk, hc, _⟩
  · exact .base (.lst h)
  · exact .base (.frz h)
  · exact .kList hk hc
/-- isinstance of a known kind -/
theorem c_isi {x : V} {T t : String} {r : Bool} (ty : TyX K H x (.type T)) (hk : kitB T t = some r) (k : Q (.bl r) H) : rIsi K [x, .ty t] H Q := ⟨x, .ty t, .type T, .type t, r, rfl, .ty t, ty, kit_ty hk, k⟩
theorem k_ii : kitB "int" "int" = some true := by decide +kernel
theorem k_ib : kitB "int" "bool" = some false := by decide +kernel
theorem k_bb : kitB "bool" "bool" = some true := by decide +kernel
theorem k_bi : kitB "bool" "int" = some true := by decide +kernel
theorem k_ll : kitB "list" "list" = some true := by decide +kernel
theorem c_isiI {n : Int} (k : Q (.bl true) H) : rIsi K [.int n, .ty "int"] H Q := c_isi (.base (.int n)) k_ii k
theorem c_isiIb {n : Int} (k : Q (.bl false) H) : rIsi K [.int n, .ty "bool"] H Q := c_isi (.base (.int n)) k_ib k
theorem c_isiB {n : Bool} (k : Q (.bl true) H) : rIsi K [.bl n, .ty "bool"] H Q := c_isi (.base (.bl n)) k_bb k
theorem c_isiL {vs : List V} (h : SqL K H a vs) (k : Q (.bl true) H) : rIsi K [.ref a, .ty "list"] H Q := c_isi (tyL h) k_ll k
theorem c_len {vs : List V} (h : SqL K H a vs) (k : Q (.int vs.length) H) : rLenS K [.ref a] H Q := ⟨a, vs, rfl, .inl h, k⟩
theorem c_list {vs : List V} (h : SqL K H a vs) (k : ∀ l, H l = none → Q (.ref l) (upd H l (.lst vs))) : rListS K [.ref a] H Q := ⟨a, vs, rfl, .inl h, k⟩
theorem c_abs {n : Int} (k : Q (.int n.natAbs) H) : rAbs [.int n] H Q := ⟨n, rfl, by rw [show (if n < 0 then -n else n) = (n.natAbs : Int) by split <;> omega]; exact k⟩
theorem c_min2 {m n : Int} (k : Q (.int (if n < m then n else m)) H) : rMin2 [.int m, .int n] H Q := ⟨m, n, rfl, k⟩
theorem c_sum (h : SqL K H a (xs.map V.int)) (k : Q (.int xs.sum) H) : rSum K [.ref a] H Q := ⟨a, xs, rfl, h, k⟩
theorem same_new {p : Addr} {o : HO} (h : H p = none) : Ex H (upd H p o) := Ex.new h
theorem abs_nn (n : Int) : (if n < 0 then -n else n) = (n.natAbs : Int) := by split <;> omega
end
/-- up to forty turners, from 1 on -/
structure Good (ts : List Int) : Prop where
  len : ts.length ≤ 40
  pos : ∀ t ∈ ts, 1 ≤ t
/-- a comprehension's list of ints, by its test -/
theorem given_filter (ts : List Int) (p : Int → Bool) : given ts.length (fun i => p (ts.getD i 0)) (fun i => V.int (ts.getD i 0)) = (ts.filter p).map V.int := by
  have key : ∀ (l : List Int), ((List.range l.length).filter fun i => p (l.getD i 0)).map (fun i => l.getD i 0) = l.filter p := by
    intro l
    induction l with
    | nil => rfl
    | cons x r ih =>
      rw [List.length_cons, List.range_succ_eq_map, List.filter_cons, List.filter_map]
      have e1 : ((fun i => p ((x :: r).getD i 0)) ∘ Nat.succ) = fun i => p (r.getD i 0) := by funext i; simp
      have e2 : ((fun i => (x :: r).getD i 0) ∘ Nat.succ) = fun i => r.getD i 0 := by funext i; simp
      rw [List.filter_cons]
      by_cases h : p x = true
      · have h' : p ((x :: r).getD 0 0) = true := by simpa using h
        rw [if_pos h', if_pos h, List.map_cons, List.map_map, e1, e2, ih]
        simp
      · have h' : ¬ p ((x :: r).getD 0 0) = true := by simpa using h
        rw [if_neg h', if_neg h, List.map_map, e1, e2, ih]
  unfold given
  rw [← key ts, List.map_map]
  rfl
theorem given_all (ts : List Int) (f : Int → Bool) : given ts.length (fun _ => true) (fun i => V.bl (f (ts.getD i 0))) = (ts.map f).map V.bl := by
  have key : ∀ (l : List Int), (List.range l.length).map (fun i => f (l.getD i 0)) = l.map f := by
    intro l
    induction l with
    | nil => rfl
    | cons x r ih =>
      rw [List.length_cons, List.range_succ_eq_map, List.map_cons, List.map_map, List.map_cons]
      have e2 : ((fun i => f ((x :: r).getD i 0)) ∘ Nat.succ) = fun i => f (r.getD i 0) := by funext i; simp
      rw [e2, ih]
      simp
  unfold given
  rw [← key ts, List.map_map]
  have : (List.range ts.length).filter (fun _ => true) = List.range ts.length := List.filter_eq_self.mpr fun _ _ => rfl
  rw [this]
  rfl
theorem getD_of {ts : List Int} {i : Nat} {x : V} (h : (ts.map V.int)[i]? = some x) : x = .int (ts.getD i 0) ∧ i < ts.length ∧ ts[i]? = some (ts.getD i 0) := by
  rw [List.getElem?_map] at h
  cases e : ts[i]? with
  | none => rw [e] at h; cases h
  | some n =>
    rw [e] at h
    have hi := (List.getElem?_eq_some_iff.mp e).1
    have e' : ts.getD i 0 = n := by rw [List.getD_eq_getElem?_getD, e]; rfl
    rw [e']
    exact ⟨(Option.some.inj h).symm, hi, rfl⟩
theorem getD_mem {ts : List Int} {i : Nat} (h : i < ts.length) : ts.getD i 0 ∈ ts := by
  rw [List.getD_eq_getElem?_getD, List.getElem?_eq_getElem h]
  exact List.getElem_mem h
/-! ### cuts, comprehensions over range(a, b) -/
theorem c_ev {te : TE} {σ : L2.St} {H : Hp} {Q : VK} (P : V → Hp → Prop) (h1 : ∀ Q' : VK, (∀ v H1, P v H1 → Q' v H1) → te σ H Q') (h2 : ∀ v H1, P v H1 → Q v H1) : te σ H Q := h1 Q h2
theorem c_ev2 {tt : TT} {σ : L2.St} {H : Hp} {Q : Bool → Hp → Prop} (P : Bool → Hp → Prop) (h1 : ∀ Q' : Bool → Hp → Prop, (∀ b H1, P b H1 → Q' b H1) → tt σ H Q') (h2 : ∀ b H1, P b H1 → Q b H1) : tt σ H Q := h1 Q h2
theorem el_lcR2 {σ : L2.St} {H : Hp} {te : TE} {t : TT} {ta : TA} {j : Nat} {vs : List Nat} {lo hi : Int} (f : Nat → Bool) (v : Nat → V) (h : EvA ta σ H [.int lo, .int hi]) (hb : -(2 ^ 61) ≤ lo ∧ lo ≤ 2 ^ 61 ∧ -(2 ^ 61) ≤ hi ∧ hi ≤ 2 ^ 61) (hn : (hi - lo).toNat ≤ 40000) (hw : ∀ x, wipe ((wipe σ vs).set j (some x)) vs = wipe σ vs)
    (ht : ∀ (i : Nat) H1, Ex H H1 → i < (hi - lo).toNat → EvT t ((wipe σ vs).set j (some (.int (lo + (i : Int))))) H1 (f i)) (he : ∀ (i : Nat) H1, Ex H H1 → i < (hi - lo).toNat → f i = true → Ev te ((wipe σ vs).set j (some (.int (lo + (i : Int))))) H1 (v i)) :
    EvL (tLc (iRng2 ta) (gName j) t te vs) σ H (given (hi - lo).toNat f v) := fun H0 e Q q => h H0 e _ fun H1 e1 => ⟨lo, hi, rfl, ⟨by omega, by omega, by omega, by omega⟩, fun Dl hD =>
  lc_range (lo := lo) (n := (hi - lo).toNat) (Cw H1 f v Dl) ⟨hD, Ex.new hD, upd_same⟩ (fun i H' hi' p => ⟨hw _, cw_turn p (by omega) (ht i H1 (e.trans e1) hi') (fun hf => he i H1 (e.trans e1) hi' hf)⟩) (fun H' p => q Dl H' (fresh_back e1 p.1) (e1.trans p.2.1) p.2.2)⟩
/-! ### sizes -/
def big : Nat := 1048600
theorem num_div {x j : Int} {n : Nat} (h : x.natAbs < 2 ^ n) : (x / j).natAbs < 2 ^ n := Nat.lt_of_le_of_lt (Int.natAbs_ediv_le_natAbs x j) h
theorem num_add {c y : Int} {n : Nat} (hc : c.natAbs < 2 ^ n) (hn : 64 ≤ n) (hy : y.natAbs < 2 ^ 64) : (c + y).natAbs < 2 ^ (n + 1) := by
  have h1 : (2 : Nat) ^ 64 ≤ 2 ^ n := Nat.pow_le_pow_right (by decide) hn
  have h2 : (2 : Nat) ^ (n + 1) = 2 ^ n + 2 ^ n := by rw [Nat.pow_succ]; omega
  have h3 : (c + y).natAbs ≤ c.natAbs + y.natAbs := Int.natAbs_add_le c y
  omega
theorem num_le {x : Int} {m n : Nat} (h : x.natAbs < 2 ^ m) (hmn : m ≤ n) : x.natAbs < 2 ^ n := Nat.lt_of_lt_of_le h (Nat.pow_le_pow_right (by decide) hmn)
theorem num_bits {x : Int} {n : Nat} (h : Builtin.Int.intBits x ≤ n) : x.natAbs < 2 ^ n := by
  unfold Builtin.Int.intBits at h
  split at h
  · rename_i hx
    have e : x = 0 := by simpa using hx
    subst e
    exact Nat.pow_pos (by decide)
  · rename_i hx
    have h0 : x.natAbs ≠ 0 := fun z => hx (by simp [Int.natAbs_eq_zero.mp z])
    exact (Nat.log2_lt h0).mp (by omega)
theorem num_sum : ∀ {l : List Int} {n : Nat}, (∀ z ∈ l, z.natAbs < 2 ^ n) → l.sum.natAbs ≤ l.length * 2 ^ n
  | [], n, _ => by simp
  | x :: r, n, h => by
    have ih := num_sum (l := r) (n := n) fun z hz => h z (List.mem_cons_of_mem _ hz)
    have hx := h x List.mem_cons_self
    have h3 : (x + r.sum).natAbs ≤ x.natAbs + r.sum.natAbs := Int.natAbs_add_le _ _
    rw [List.sum_cons, List.length_cons, Nat.succ_mul]
    omega
theorem num_sum63 {l : List Int} {n : Nat} (h : ∀ z ∈ l, z.natAbs < 2 ^ n) (hl : l.length ≤ 63) : l.sum.natAbs < 2 ^ (n + 6) := by
  have h1 := num_sum h
  have h2 : (2 : Nat) ^ (n + 6) = 64 * 2 ^ n := by rw [Nat.pow_add]; omega
  have h3 : l.length * 2 ^ n ≤ 63 * 2 ^ n := Nat.mul_le_mul_right _ hl
  have h4 : 0 < (2 : Nat) ^ n := Nat.pow_pos (by decide)
  omega
theorem cut63 {xs : List V} (h : xs.length ≤ 63) : cutV xs none (some 63) = xs := by
  unfold cutV
  rw [show HT.sIx xs.length xs.length (some 63) = min 63 xs.length from HT.sIx_nat xs.length xs.length 63, HT.sIx_none, Nat.min_eq_right h]
  simp
theorem atI_int {cs : List Int} {ix : Int} (h0 : 0 ≤ ix) (h1 : ix < cs.length) : atI (cs.map V.int) ix = some (.int (cs.getD ix.toNat 0)) := by
  obtain ⟨n, rfl⟩ := Int.eq_ofNat_of_zero_le h0
  refine atI_nat ?_
  have hn : n < cs.length := by omega
  rw [List.getElem?_map, Int.toNat_natCast, List.getD_eq_getElem?_getD, List.getElem?_eq_getElem hn]
  rfl
section
variable {K : PySem.W.Frag} {H H' : Hp} {Q : VK} {a b : Addr} {xs ys : List Int} {k : Int}
theorem in_ints (k : Int) : ∀ xs : List Int, inV (.int k) (xs.map V.int) = decide (k ∈ xs)
  | [] => rfl
  | x :: r => by
    have ih := in_ints k r
    unfold inV at ih ⊢
    rw [List.map_cons, List.any_cons, ih, Bool.eq_iff_iff]
    simp [eqV]
    constructor
    · rintro (z | z)
      · exact .inl z.symm
      · exact .inr z
    · rintro (z | z)
      · exact .inl z.symm
      · exact .inr z
theorem flat_ints (xs : List Int) : (xs.map V.int).all flatV = true := by
  rw [List.all_map, List.all_eq_true]
  intro x _
  rfl
theorem c_notIn (h : SqL K H a (xs.map V.int)) (q : Q (.bl (!decide (k ∈ xs))) H) : rIn K true (.int k) (.ref a) H Q := ⟨a, _, rfl, .inl h, rfl, flat_ints xs, by rw [if_pos rfl, in_ints]; exact q⟩
theorem c_cnt (h : SqL K H a (xs.map V.int)) (q : Q (.int (xs.count k : Nat)) H) : rCntI K (.ref a) [.int k] H Q := ⟨a, xs, k, rfl, rfl, h, q⟩
theorem tyLl {vs : List V} (h : SqL K H a vs) : tyV K "list" (.ref a) H := .inl ⟨rfl, vs, h⟩
theorem c_app {vs : List V} {v : V} (h : H a = some (.lst vs)) (hz : vs.length < 100000) (q : Q .non (upd H a (.lst (vs ++ [v])))) : rAppend (.ref a) [v] H Q := ⟨a, vs, v, rfl, rfl, h, sz_lt hz, q⟩
theorem c_cat {us vs : List V} (h : H a = some (.lst us)) (h' : H b = some (.lst vs)) (hz : us.length + vs.length ≤ 100000) (q : ∀ p, H p = none → Q (.ref p) (upd H p (.lst (us ++ vs)))) : rCat (.ref a) (.ref b) H Q := ⟨a, b, us, vs, rfl, rfl, h, h', sz_of hz, q⟩
end
theorem cut_last (fs : List Int) : cutV (fs.map V.int) (some (-1)) none = (fs.drop (fs.length - 1)).map V.int := by
  unfold cutV
  have e : HT.sIx (fs.map V.int).length 0 (some (-1)) = fs.length - 1 := by
    rw [List.length_map]
    unfold HT.sIx
    simp
    omega
  rw [e, HT.sIx_none, List.map_drop, List.length_map]
  exact List.take_of_length_le (by rw [List.length_drop, List.length_map]; omega)
theorem cut_init (g : List Int) (x : Int) : cutV ((g ++ [x]).map V.int) none (some (-1)) = g.map V.int := by
  unfold cutV
  have e : HT.sIx ((g ++ [x]).map V.int).length ((g ++ [x]).map V.int).length (some (-1)) = g.length := by
    rw [List.length_map, List.length_append]
    unfold HT.sIx
    simp
    omega
  rw [e, HT.sIx_none, List.map_append]
  simp
/-! ### whiles -/
theorem n_self {W : Nat → L2.St → Hp → Prop} {m : Nat} {R : (L2.St → Hp → Prop) → Prop} (h : R (fun σ' H' => ∃ m', m' < m ∧ W m' σ' H')) : ∃ N : L2.St → Hp → Prop, (∀ σ' H', N σ' H' → ∃ m', m' < m ∧ W m' σ' H') ∧ R N := ⟨_, fun _ _ z => z, h⟩
def wid : Nat := 9000
def far : Nat := 3000000
theorem given_true (n : Nat) (g : Nat → Bool) : given n (fun _ => true) (fun i => V.bl (g i)) = ((List.range n).map g).map V.bl := by
  unfold given
  have : (List.range n).filter (fun _ => true) = List.range n := List.filter_eq_self.mpr fun _ _ => rfl
  rw [this, List.map_map]
  rfl
theorem given_trueI (n : Nat) (g : Nat → Int) : given n (fun _ => true) (fun i => V.int (g i)) = ((List.range n).map g).map V.int := by
  unfold given
  have : (List.range n).filter (fun _ => true) = List.range n := List.filter_eq_self.mpr fun _ _ => rfl
  rw [this, List.map_map]
  rfl
section
variable {K : PySem.W.Frag} {H : Hp} {Q : VK} {a : Addr} {bs : List Bool}
theorem c_all (h : SqL K H a (bs.map V.bl)) (q : Q (.bl (bs.all id)) H) : rAll K [.ref a] H Q := ⟨a, bs, rfl, h, q⟩
theorem c_any (h : SqL K H a (bs.map V.bl)) (q : Q (.bl (bs.any id)) H) : rAny K [.ref a] H Q := ⟨a, bs, rfl, h, q⟩
end
theorem rnd_lt {ks : List Int} {B : Nat} (h : ∀ k ∈ ks, 0 < k ∧ k.natAbs < 2 ^ B) : ∀ i : Nat, (rnd (ks.take i)).natAbs < 2 ^ (i * B + 1) ∧ 0 < rnd (ks.take i)
  | 0 => by simp [rnd]
  | i + 1 => by
    obtain ⟨h1, h2⟩ := rnd_lt h i
    have le : 2 ^ (i * B + 1) ≤ 2 ^ ((i + 1) * B + 1) := Nat.pow_le_pow_right (by decide) (by rw [Nat.succ_mul]; omega)
    rw [List.take_add_one]
    cases e : ks[i]? with
    | none =>
      rw [Option.toList_none, List.append_nil]
      exact ⟨Nat.lt_of_lt_of_le h1 le, h2⟩
    | some k =>
      obtain ⟨k0, kB⟩ := h k (List.mem_of_getElem? e)
      rw [Option.toList_some, rnd_snoc]
      have p := lcm_pos h2 k0
      refine ⟨?_, p⟩
      have l := lcm_le h2 k0
      have w := wide_lt h1 kB
      have e2 : i * B + 1 + B = (i + 1) * B + 1 := by rw [Nat.succ_mul]; omega
      rw [e2] at w
      refine Nat.lt_of_le_of_lt ?_ w
      omega
theorem rnd_take {ks : List Int} {i : Nat} {k : Int} (h : ks[i]? = some k) : rnd (ks.take (i + 1)) = lcmI (rnd (ks.take i)) k := by
  rw [List.take_add_one, h]
  exact rnd_snoc _ _
def Bits (ns : List Int) : Prop := ∀ z ∈ ns, Builtin.Int.intBits z ≤ 1048576
def huge : Nat := 2100000
theorem num_dbl {n x : Int} {B : Nat} (hn : n.natAbs < 2 ^ B) (h0 : 0 ≤ n) (x0 : 0 ≤ x) (x1 : x ≤ 2 * n + 1) : x.natAbs < 2 ^ (B + 1) := by
  have e2 : (2 : Nat) ^ (B + 1) = 2 ^ B + 2 ^ B := by rw [Nat.pow_succ]; omega
  omega
theorem cut4 (ns : List Int) : cutV (ns.map V.int) none (some 4) = (ns.take 4).map V.int := by
  unfold cutV
  rw [show HT.sIx (ns.map V.int).length (ns.map V.int).length (some 4) = min 4 (ns.map V.int).length from HT.sIx_nat _ _ 4, HT.sIx_none, List.map_take]
  rw [List.drop_zero, Nat.sub_zero]
  by_cases h : 4 ≤ (ns.map V.int).length
  · rw [Nat.min_eq_left h]
  · rw [Nat.min_eq_right (by omega), List.take_length, List.take_of_length_le (by omega)]
theorem cut_tail (v : V) (vs : List V) : cutV (v :: vs) (some 1) none = vs := by
  unfold cutV
  rw [show HT.sIx (v :: vs).length 0 (some 1) = min 1 (v :: vs).length from HT.sIx_nat _ _ 1, HT.sIx_none, List.length_cons, Nat.min_eq_left (by omega)]
  show List.take (vs.length + 1 - 1) vs = vs
  rw [Nat.add_sub_cancel]
  exact List.take_length
end Dt
/-! sorted(set(xs)) of a list of ints, as one rule. -/
namespace Dt
open PySem PySem.Spec PyProof.Rows L2
section
variable {P : Program} {w : World} {A : Around} {E : Value → Shared → Prop} {s : Shared}
/-- an empty set as set.__new__ lays it -/
abbrev mtSet (w : World) : Obj := { cls := .type "set", dict := none, data := .set #[] 0 (.fresh 0 0 (!w.params.followText "set-order")) }
/-- what set.__init__ has done of a list of ints: the set at S is theirs, what stood before stands -/
def Filled (w : World) (s : Shared) (ns : List Int) (r : Value) (s2 : Shared) : Prop :=
  r = .none ∧ ∃ h2 tk2 c, s2 = { s with heap := h2, toks := tk2 } ∧ SetR w h2 s.heap.objs.size (fun j => decide (j ∈ ns)) c ∧ c ≤ ns.length ∧ ∀ b o, s.heap.get? b = some o → h2.get? b = some o
theorem fill_list {l : Addr} {its : Array Value} {ns : List Int} (calm : A.handled = none) (hl : s.heap.IsList l its) (hi : IntsAre its.toList ns) (few : ns.length + 1 < scanBound) :
    codeAny (model P w) A (.call (.builtin "set.__init__") ⟨[.ref s.heap.objs.size, .ref l], []⟩) (wants (Filled w s ns) E) { s with heap := s.heap.push (mtSet w) } := by
  have atS : (s.heap.push (mtSet w)).get? s.heap.objs.size = some (mtSet w) := Heap.get?_push_size _ rfl
  have tyS : Shared.TypeIs { s with heap := s.heap.push (mtSet w) } (.ref s.heap.objs.size) "set" := ⟨_, atS, rfl⟩
  have nIts : its.size = ns.length := by have q := IntsAre.length hi; rwa [Array.length_toList] at q
  refine codeAny_call_builtin F.called_set.init.plain F.entry_set_init (check_set_init_1 tyS ?_)
  obtain ⟨⟨c0, d0, t0, z0⟩, gl, cl, n0, dl⟩ := hl
  simp only at cl dl
  subst cl dl
  have gl2 : (s.heap.push (mtSet w)).get? l = some ⟨.type "list", d0, .seq its n0, z0⟩ := Heap.get?_push_of_some _ gl
  have il2 : (s.heap.push (mtSet w)).IsList l its := ⟨_, gl2, rfl, n0, rfl⟩
  have no1 := F.sub_list_set
  have no2 := F.sub_list_frozenset
  have no3 : (Value.type "list" == Value.type "dict") = false := by decide
  unfold Builtin.«set.__init__» noKeywords Builtin.Frozenset.updateFrom
  generalize eI : pyIter = itr
  wp_walk
  subst eI
  refine wpAny_pyIter_list il2 (wpAny_bind (wpAny_runValue ?_))
  have lS : l < s.heap.objs.size := Heap.lt_size gl
  have szS : (s.heap.push (mtSet w)).objs.size = s.heap.objs.size + 1 := Heap.size_push ..
  have calm3 : A.in1.in1.handled = none := by simp [calm]
  have apart : l ≠ (s.heap.push (mtSet w)).objs.size := by rw [szS]; exact Nat.ne_of_lt (Nat.lt_succ_of_lt lS)
  have notIn : s.heap.objs.size ∉ [(s.heap.push (mtSet w)).objs.size, l] := by
    rw [szS]
    intro z
    rcases List.mem_cons.mp z with e | e
    · exact absurd e (Nat.ne_of_lt (Nat.lt_succ_self _))
    · exact absurd (List.mem_singleton.mp e) (Nat.ne_of_gt lS)
  have vals : ∀ (i : Nat) (v : Value), its[i]? = some v → ∃ k t, ns[i]? = some k ∧ v = .int k t := fun i v hv => by
    have hin : i < ns.length := by rw [← nIts]; exact (Array.getElem?_eq_some_iff.mp hv).1
    obtain ⟨t, e⟩ := PyProof.Rows.IntsAre.int_at hi i v (by rw [Array.getElem?_toList]; exact hv)
    exact ⟨ns[i], t, List.getElem?_eq_getElem hin, by rw [e, List.getD_eq_getElem?_getD, List.getElem?_eq_getElem hin] <;> rfl⟩
  have st0 : ((s.heap.push (mtSet w)).push { cls := .type "list_iterator", data := .fields #[.ref l, .int 0 0] }).get? s.heap.objs.size = some (mtSet w) := Heap.get?_push_of_some _ atS
  refine set_update_ints ((Walks.list calm3 _ l apart its).toS) s.heap.objs.size notIn ns nIts few vals its.size 0 _ (by omega) (Nat.zero_le _)
    ?ini ?beg fun s2 c mv hc fin => ?_
  case ini => exact ⟨⟨_, Heap.get?_push_size _ rfl, rfl, rfl⟩, il2.push _⟩
  case beg => exact ⟨0, Nat.le_refl 0, setR_new_at st0⟩
  obtain ⟨h2, g2, d2, tk2, os2⟩ := s2
  obtain rfl : g2 = s.gens := mv.gens
  obtain rfl : d2 = s.drawn := mv.drawn
  obtain rfl : os2 = s.os := mv.os
  refine wpAny_pure ?_
  show wpAny _ _ (ret Value.none) _ _ _
  refine wpAny_pure ⟨rfl, h2, tk2, c, rfl, fin, by omega, fun b o e => ?_⟩
  have old : b < s.heap.objs.size := Heap.lt_size e
  refine mv.heap b o (fun z => ?_) (Heap.get?_push_of_some _ (Heap.get?_push_of_some _ e))
  rw [szS] at z
  rcases List.mem_cons.mp z with e2 | e2
  · exact absurd e2 (Nat.ne_of_lt old)
  · exact absurd (List.mem_singleton.mp e2) (Nat.ne_of_lt (Nat.lt_succ_of_lt old))
theorem set_of_list {l : Addr} {its : Array Value} {ns : List Int} {Q : Value → Shared → Prop} (calm : A.handled = none) (hl : s.heap.IsList l its) (hi : IntsAre its.toList ns) (few : ns.length + 1 < scanBound)
    (q : ∀ h2 tk2 c, SetR w h2 s.heap.objs.size (fun j => decide (j ∈ ns)) c → (∀ b o, s.heap.get? b = some o → h2.get? b = some o) → Q (.ref s.heap.objs.size) { s with heap := h2, toks := tk2 }) :
    wpAny (model P w) A (call (.type "set") [.ref l]) Q E s := by
  obtain ⟨c, tl, hmro⟩ := F.called_set.mro
  have k1 := F.called_set.made
  have k2 := F.called_set.sub
  have k3 := F.called_set.notType
  have k4 := F.called_set.canCreate
  have k5 := F.typeCall_set_1 (.ref l)
  have k6 := F.called_set.init.lookup
  have k7 := F.called_set.init.bind (.ref s.heap.objs.size)
  refine wpAny_call (codeAny_of_tree (wpAny_pure (a := _) ⟨Code.quiet_builtin _ (by decide +kernel), codeAny_builtin F.entry_type_call ?_⟩))
  rw [Around.under_plain (weight_type_call_type "set" [.ref l] []) rfl]
  repeat (any_goals (first | wp_step | assumption))
  refine codeAny_mono (code_set_led1 (.ref l) (E := E) (Q₁ := fun v s1 => v = .ref s.heap.objs.size ∧ s1 = { s with heap := s.heap.push (mtSet w) }) ⟨rfl, rfl⟩) fun r s1 hr => ?_
  match r, hr with
  | .error e, hr => exact hr
  | .ok .next, hr => exact hr.elim
  | .ok .brk, hr => exact hr.elim
  | .ok .cont, hr => exact hr.elim
  | .ok (.ret v), hr =>
    obtain ⟨rfl, rfl⟩ := hr
    have tyS : Shared.TypeIs { s with heap := s.heap.push (mtSet w) } (.ref s.heap.objs.size) "set" := ⟨_, Heap.get?_push_size _ rfl, rfl⟩
    repeat (any_goals (first | wp_step | assumption))
    refine codeAny_mono (fill_list (E := E) (by simpa using calm) hl hi few) fun r2 s2 hr2 => ?_
    match r2, hr2 with
    | .error e, hr => exact hr
    | .ok .next, hr => exact hr.elim
    | .ok .brk, hr => exact hr.elim
    | .ok .cont, hr => exact hr.elim
    | .ok (.ret v), hr =>
      obtain ⟨rfl, h2, tk2, c2, rfl, fin, _, old⟩ := hr
      repeat (any_goals (first | wp_step | assumption))
      exact q _ _ _ fin old
/-- sorted of a set of ints, of any size -/
theorem sorted_of_set {a : Addr} {S : Int → Bool} {n : Nat} {Q : Value → Shared → Prop} (R : SetR w s.heap a S n) (calm : A.handled = none)
    (q : ∀ s2 p (out : List Value) (c : Nat) (ns : List Int), (∀ b o, s.heap.get? b = some o → s2.heap.get? b = some o) → s2.gens = s.gens → s2.os = s.os → s.heap.objs.size ≤ p → s2.heap.get? p = some (seqObj "list" out.toArray c) → IntsAre out ns → ns.Pairwise (· < ·) → (∀ k, k ∈ ns ↔ S k = true) → ns.length ≤ sizeLine → Q (.ref p) s2) :
    wpAny (model P w) A (call (.builtin "sorted") [.ref a]) Q E s := by
  obtain ⟨o, es, ep, t, ho, hx, hd, good, nd, mem, few, fits, rfl, ris, led⟩ := R
  refine Calls.call_function_entry kind_sorted plain_sorted entry_sorted (args_sorted1 _) ?_
  unfold Builtin.«sorted»
  refine wpAny_bind (m := checkCount "sorted" 1 1 _) (wpAny_pure (wpAny_bind (collect_set (A := A.in1) (by simpa using calm) ⟨o, ho, hx.1, hd⟩ fits few ris led fun s1 vs old1 sz1 g1 o1 pm => ?_)))
  have lenV : vs.length = es.size := by rw [pm.length_eq, List.length_map, Array.length_toList]
  have zV : vs.length ≤ sizeLine := by rw [lenV]; exact fits_of_scanBound few
  have iV : IntsAre vs (vs.map Builtin.Re.reRawOf) := ints_of vs fun v hv => by
    obtain ⟨e, he, z⟩ := List.mem_map.mp (pm.mem_iff.mp hv)
    obtain ⟨k, tk, z1, _⟩ := good e he
    exact ⟨k, tk, z ▸ z1⟩
  have pK : (vs.map Builtin.Re.reRawOf).Perm (es.toList.map keyOf) := by
    have z := pm.map Builtin.Re.reRawOf
    rwa [List.map_map] at z
  refine wpAny_bind (wpAny_newList ?_ zV)
  have atL : (s1.heap.push (seqObj "list" vs.toArray 0)).get? s1.heap.objs.size = some (seqObj "list" vs.toArray 0) := Heap.get?_push_size _ rfl
  refine wpAny_bind (wpAny_holding (wpAny_call_entry slot_list_sort ⟨_, atL, rfl⟩ entry_list_sort (SrtO.list_sort_ord SrtO.swo_int atL zV (fun two => SrtO.ints_sortable iV two) fun out so st => ⟨_, rfl, ?_⟩) (args_list_sort _)))
  obtain ⟨i1, i2, i3⟩ := SrtO.ints_out iV so st
  obtain ⟨c, atO⟩ := sortedHeap_at (vs := vs) (out := out.toArray) atL
  have pn := i2.trans pK
  refine wpAny_pure ⟨_, rfl, q _ s1.heap.objs.size out c (out.map SrtO.iv) (fun b u e => ?_) g1 o1 sz1 atO i1 (lt_of_le_nodup _ i3 (pn.nodup_iff.mpr nd)) (fun k => by rw [pn.mem_iff, ← mem k]) (by rw [i2.length_eq, List.length_map]; exact zV)⟩
  have e1 := old1 b u e
  have lt1 := Heap.lt_size e1
  show (sortedHeap (s1.heap.push (seqObj "list" vs.toArray 0)) s1.heap.objs.size vs out.toArray).get? b = some u
  rw [sortedHeap_old (Nat.ne_of_lt lt1) (by rw [size_push']; exact Nat.lt_succ_of_lt lt1)]
  exact Heap.get?_push_of_some _ e1
end
/-! ### over the layer -/
section
variable {X : Cx}
/-- set(xs): a set of the list's ints -/
def rMkSet (K : PySem.W.Frag) (w : World) : List V → Hp → VK → Prop := fun vs H Q => ∃ (a : Addr) (ns : List Int), vs = [.ref a] ∧ SqL K H a (ns.map V.int) ∧ ns.length < 4000 ∧ ∀ p c, H p = none → Q (.ref p) (upd H p (SetO w p (fun j => decide (j ∈ ns)) c))
theorem call_set_s (hc : X.calm = true) : CallR X (.type "set") (rMkSet X.K X.w) := by
  intro pins s σ H vs us Q I r h
  obtain ⟨a, ns, rfl, hs, few, q⟩ := h
  obtain ⟨its, rv, hl, hz⟩ := I.list hs
  rw [Vals.ref1 r]
  refine set_of_list (I.ok.hd hc) hl.isList rv.ints (by unfold scanBound; omega) fun h2 tk2 c R old => ?_
  exact ⟨.ref _, _, I.laid (t' := tk2) old (Nat.le_refl _) (setO_new R), rfl, q _ c (I.hok.fresh (Nat.le_refl _))⟩
/-- sorted(the set) -/
def rSortSet (w : World) : List V → Hp → VK → Prop := fun vs H Q => ∃ (a : Addr) (S : Int → Bool) (n : Nat), vs = [.ref a] ∧ H a = some (SetO w a S n) ∧ ∀ (ns : List Int) (p : Addr), ns.Pairwise (· < ·) → (∀ k, k ∈ ns ↔ S k = true) → H p = none → Q (.ref p) (upd H p (.lst (ns.map V.int)))
theorem call_sorted_set (hc : X.calm = true) : CallR X (.builtin "sorted") (rSortSet X.w) := by
  intro pins s σ H vs us Q I r h
  obtain ⟨a, S, n, rfl, ha, q⟩ := h
  rw [Vals.ref1 r]
  refine sorted_of_set (setO_get I ha) (I.ok.hd hc) fun s2 p out c ns old g o hp atP hi hs hm zN => ?_
  have np : H p = none := I.hok.fresh hp
  have lenN : (ns.map V.int).length ≤ sizeLine := by rw [List.length_map]; exact zN
  have J : Inv X pins σ (upd H p (.lst (ns.map V.int))) { s with heap := s2.heap, gens := s2.gens, drawn := s2.drawn, toks := s2.toks } :=
    I.call (ch := []) (Un.laid old hp np) (I.hok.laid old hp ⟨lenN, out, c, vals_of_ints hi, atP⟩) (by rw [g]; exact I.bare) (fun _ z => nomatch z)
  have es : s2 = { s with heap := s2.heap, gens := s2.gens, drawn := s2.drawn, toks := s2.toks } := by
    obtain ⟨x1, x2, x3, x4, x5⟩ := s2
    obtain rfl : x5 = s.os := o
    rfl
  rw [es]
  exact ⟨.ref p, _, J, rfl, q ns p hs hm np⟩
end
theorem c_mkset {K : PySem.W.Frag} {w : World} {H : Hp} {Q : VK} {a : Addr} {ns : List Int} (h : SqL K H a (ns.map V.int)) (few : ns.length < 4000) (k : ∀ p o, (∃ c, o = SetO w p (fun j => decide (j ∈ ns)) c) → H p = none → Q (.ref p) (upd H p o)) : rMkSet K w [.ref a] H Q :=
  ⟨a, ns, rfl, h, few, fun p c np => k p _ ⟨c, rfl⟩ np⟩
theorem c_sortset {w : World} {H : Hp} {Q : VK} {a : Addr} {o : HO} {S : Int → Bool} (h : H a = some o) (ho : ∃ c, o = SetO w a S c) (k : ∀ (ns : List Int) (p : Addr), ns.Pairwise (· < ·) → (∀ k, k ∈ ns ↔ S k = true) → H p = none → Q (.ref p) (upd H p (.lst (ns.map V.int)))) : rSortSet w [.ref a] H Q := by
  obtain ⟨c, rfl⟩ := ho
  exact ⟨a, S, c, rfl, h, k⟩
/-! ### list(range(a, b)) -/
section
variable {σ : L2.St} {H : Hp} {Q : VK} {ta tb : TE}
theorem c_lstRg {te : L2.St → Hp → (Int → Int → Hp → Prop) → Prop} (k : te σ H fun a b H1 => RgOk a b ∧ ∀ q, H1 q = none → Q (.ref q) (upd H1 q (.lst (rgV a b)))) : tLstRg te σ H Q := k
theorem c_rg2 {R : Int → Int → Hp → Prop} (k : ta σ H fun x H1 => tb σ H1 fun y H2 => ∃ i j, x = .int i ∧ y = .int j ∧ R i j H2) : tRg2 ta tb σ H R := k
end
theorem rgV_upto (n : Nat) : rgV 1 ((n : Int) + 1) = (upto n).map V.int := by
  unfold rgV upto
  rw [show ((n : Int) + 1 - 1).toNat = n by omega, List.map_map]
  rfl
end Dt
namespace Dt
open PySem PySem.Spec PyProof.Rows L2 Evl
local macro_rules | `(tactic| walk_at "st0") => `(tactic| first
  | (with_reducible refine c_seq ?_) | (with_reducible refine c_asg ?_) | (with_reducible refine c_asgG ?_) | (with_reducible refine c_ret ?_) | (with_reducible refine c_drop ?_) | (with_reducible refine c_ifS ?_) | (with_reducible refine c_next ?_) | (with_reducible refine c_par ?_) | (with_reducible refine c_for ?_) | (with_reducible refine c_g ?_) | (with_reducible refine c_iL ?_) | (with_reducible refine c_iR1 ?_) | (with_reducible refine c_iR2 ?_) | (with_reducible refine c_iE ?_)
  | (with_reducible refine c_op ?_) | (with_reducible refine c_un ?_) | (with_reducible refine c_cb ?_) | (with_reducible refine c_call ?_) | (with_reducible refine c_nil ?_) | (with_reducible refine c_cons ?_)
  | (with_reducible refine c_c ?_) | ((with_reducible refine' c_var ?hv ?_); (case hv => exact rfl))
  | (with_reducible refine c_test ?_) | (with_reducible refine c_B ?_) | (with_reducible refine c_k ?_) | (with_reducible refine c_and ?_) | (with_reducible refine c_or ?_) | (with_reducible refine c_not ?_)
  | (with_reducible refine c_yes ?_) | (with_reducible refine c_andV ?_) | (with_reducible refine c_orV ?_) | (with_reducible refine c_notV ?_) | (with_reducible refine c_chain ?_)
  | (with_reducible refine c_lst ?_) | (with_reducible refine c_tup ?_) | (with_reducible refine c_sl ?_) | (with_reducible refine c_rev ?_) | (with_reducible refine c_bm ?_) | (with_reducible refine c_noP ?_) | (with_reducible refine c_part ?_) | (with_reducible refine c_ki ?_) | (with_reducible refine c_kpar ?_)
  | (with_reducible refine c_I0 ?_) | (with_reducible refine c_U ?_) | (with_reducible refine c_eqI ?_) | (with_reducible refine c_neI ?_) | (with_reducible refine c_eqB ?_) | (with_reducible refine c_neB ?_) | (with_reducible refine c_isB ?_) | (with_reducible refine c_notB ?_)
  | (with_reducible refine c_isiI ?_) | (with_reducible refine c_isiIb ?_) | (with_reducible refine c_isiB ?_)
  | ((with_reducible refine' w_t ?hb ?_); (case hb => exact rfl)) | ((with_reducible refine' w_f ?hb ?_); (case hb => exact rfl)))
local macro_rules | `(tactic| walk_at "st") => `(tactic| first | walk_at "st0" | (with_reducible refine c_if ?_))
local macro_rules | `(tactic| walk_at "goI") => `(tactic| ((repeat walk_at "st0"); (try dsimp only)))
local macro_rules | `(tactic| walk_at "go") => `(tactic| ((repeat walk_at "st"); (try dsimp only)))
local macro_rules | `(tactic| walk_at "go1") => `(tactic| ((repeat (first | (with_reducible refine c_seq ?_) | (with_reducible refine c_asg ?_))); (try dsimp only)))
/-! ### the text -/
def topS (i : Nat) : Stmt := PySem.Challenge.pw_doorturns_k03_whole_brought.main.body.getD i (.Pass ⟨0, 0, 0, 0⟩)
abbrev s_is_number : Stmt := topS 8
section
variable {P : Program} {w : World} {K : PySem.W.Frag} {mg : Str → Option Value} {base : Heap}
/-! is_number, of an int -/
def spNum : Sp := fun vs H Q _ => ∃ n : Int, vs = [.int n] ∧ Q (.bl (decide (0 < n))) H
theorem ok_is_number (F : Df K mg "is_number" s_is_number ["thing"]) (B : Blt mg) : Cal P w K mg base CX0 1 "is_number" spNum := by
  have sc : FnScope ["thing"] ["thing"] (defScope s_is_number) := ⟨rfl, rfl, rfl, by decide +kernel, rfl, by decide +kernel, by decide +kernel⟩
  refine F.ok sc (fun vs H Q E h => ?_) (fun f cdv A outer s H vs Q E hr h => ?_)
  · obtain ⟨n, rfl, _⟩ := h
    rfl
  · obtain ⟨n, rfl, q⟩ := h
    refine ⟨_, (pss_one (ps_ret (pe_and (pe_callB call_isi (by rfl) B.isinstance_ boot_isinstance (pa_cons (pv 0) (pa_cons (pe_bltn (v := .ty "int") (by rfl) B.int_ boot_int rfl) pa_nil))) (pe_and (pe_not (pe_callB call_isi (by rfl) B.isinstance_ boot_isinstance (pa_cons (pv 0) (pa_cons (pe_bltn (v := .ty "bool") (by rfl) B.bool_ boot_bool rfl) pa_nil)))) (pe_one (pe_cmpR op_gt (pv 0) pe_int (nomark _))))))), ?_⟩
    walk_at "go"
    exact q
end
abbrev s_asked_turners : Stmt := topS 9
section
variable {P : Program} {w : World} {K : PySem.W.Frag} {mg : Str → Option Value} {base : Heap}
/-! asked_turners, of turners -/
def spAskT (K : PySem.W.Frag) : Sp := fun vs H Q _ => ∃ (a : Addr) (ts : List Int), vs = [.ref a] ∧ SqL K H a (ts.map V.int) ∧ Good ts ∧ RetV .non H Q
theorem ok_asked_turners (F : Df K mg "asked_turners" s_asked_turners ["turners"]) (B : Blt mg) (g_MOST : ∃ t, mg "MOST" = some (.int 40 t)) (c_is_number : Cal P w K mg base CX0 1 "is_number" spNum) : Cal P w K mg base CX0 2 "asked_turners" (spAskT K) := by
  obtain ⟨tm, g_MOST⟩ := g_MOST
  have sc : FnScope ["turners", "one"] ["turners"] (defScope s_asked_turners) := ⟨rfl, rfl, rfl, by decide +kernel, rfl, by decide +kernel, by decide +kernel⟩
  refine F.ok sc (fun vs H Q E h => ?_) (fun f cdv A outer s H vs Q E hr h => ?_)
  · obtain ⟨a, ts, rfl, _⟩ := h
    rfl
  · obtain ⟨a, ts, rfl, hS, hG, q⟩ := h
    refine ⟨_, (pss_one (ps_if (PW.pt (pw_or (pt_not (pt_val (pe_callB call_isi (by rfl) B.isinstance_ boot_isinstance (pa_cons (pv 0) (pa_cons (pe_bltn (v := .ty "list") (by rfl) B.list_ boot_list rfl) pa_nil))))) (pw_or (pt_cmpR op_gt (pe_callB call_len_s (by rfl) B.len_ boot_len (pa_cons (pv 0) pa_nil)) (pe_glob (v := .int 40) (by rfl) g_MOST ⟨_, rfl⟩) (nomark _)) (pw_or1 (pt_not (pt_val (pe_callB (cr_all rfl) (by rfl) B.all_ boot_all (pa_cons (pe_lc (own := [("one", 1)]) (g := (gName 1)) (by rfl) sc.nd (pi_list (pv 0)) (blkOk_by (own := [("one", 1)]) (N := ["turners", "one"]) (sc := defScope s_asked_turners) (by decide +kernel)) (fun _ _ _ _ _ => (pg_name (i := 1) sc.nd rfl (by first | exact Or.inl rfl | exact Or.inr rfl))) (fun _ _ _ _ _ => pts_nil) (fun _ _ _ _ _ => (pe_d c_is_number hr (by decide) (by rfl) (pa_cons (pv 1) pa_nil)))) pa_nil))))))))
      (pss_one ps_never) pss_nil)), ?_⟩
    walk_at "go"
    refine c_isiL hS ?_
    walk_at "go"
    refine c_len hS ?_
    walk_at "go"
    refine w_f (decide_eq_false (by rw [List.length_map]; have := hG.len; omega)) ?_
    walk_at "go"
    refine el_lcL (K := K) (σ := [some (.ref a), none]) (fun _ => true) (fun i => V.bl (decide (0 < ts.getD i 0))) (ev_var rfl) hS (by rw [List.length_map]; have := hG.len; omega) (fun x => rfl) (fun i x H1 e hx => ?_) (fun i x H1 e hx _ => ?_) H (Ex.refl H) _ (fun p H2 hp e2 h2 => ?_)
    · exact fun H2 _ QB k => k H2 (Ex.refl H2)
    · obtain ⟨rfl, hi, _⟩ := getD_of hx
      intro H2 e2 Q2 k
      walk_at "go"
      exact ⟨_, rfl, k H2 (Ex.refl H2)⟩
    · rw [List.length_map, given_all ts fun n => decide (0 < n)] at h2
      walk_at "go"
      refine ⟨p, _, rfl, .inl (.inl h2), ?_⟩
      have e : (ts.map fun n => decide (0 < n)).all id = true := by
        rw [List.all_map, List.all_eq_true]
        intro t ht
        have := hG.pos t ht
        simp; omega
      rw [e]
      walk_at "go"
      exact q H2 e2
end
abbrev s_asked_small : Stmt := topS 10
section
variable {P : Program} {w : World} {K : PySem.W.Frag} {mg : Str → Option Value} {base : Heap}
/-! asked_small -/
def spAskS : Sp := fun vs H Q _ => ∃ n : Int, vs = [.int n] ∧ 0 ≤ n ∧ n ≤ 1000 ∧ Q .non H
theorem ok_asked_small (F : Df K mg "asked_small" s_asked_small ["many"]) (B : Blt mg) (g_SMALL : ∃ t, mg "SMALL" = some (.int 1000 t)) : Cal P w K mg base CX0 1 "asked_small" spAskS := by
  obtain ⟨tm, g_SMALL⟩ := g_SMALL
  have sc : FnScope ["many"] ["many"] (defScope s_asked_small) := ⟨rfl, rfl, rfl, by decide +kernel, rfl, by decide +kernel, by decide +kernel⟩
  refine F.ok sc (fun vs H Q E h => ?_) (fun f cdv A outer s H vs Q E hr h => ?_)
  · obtain ⟨n, rfl, _⟩ := h
    rfl
  · obtain ⟨n, rfl, h0, h1, q⟩ := h
    refine ⟨_, (pss_one (ps_if (PW.pt (pw_or (pt_not (pt_val (pe_callB call_isi (by rfl) B.isinstance_ boot_isinstance (pa_cons (pv 0) (pa_cons (pe_bltn (v := .ty "int") (by rfl) B.int_ boot_int rfl) pa_nil))))) (pw_or (pt_val (pe_callB call_isi (by rfl) B.isinstance_ boot_isinstance (pa_cons (pv 0) (pa_cons (pe_bltn (v := .ty "bool") (by rfl) B.bool_ boot_bool rfl) pa_nil)))) (pw_or1 (pt_not (pt_chain op_le op_le pe_int (pv 0) (pe_glob (v := .int 1000) (by rfl) g_SMALL ⟨_, rfl⟩)))))))
      (pss_one ps_never) pss_nil)), ?_⟩
    walk_at "go"
    refine w_t (decide_eq_true h0) ?_
    walk_at "go"
    refine w_f (by rw [decide_eq_true h1]; rfl) ?_
    walk_at "go"
    exact q
end
abbrev s_stands_open : Stmt := topS 11
section
variable {P : Program} {w : World} {K : PySem.W.Frag} {mg : Str → Option Value} {base : Heap}
/-! stands_open -/
def spStands (K : PySem.W.Frag) : Sp := fun vs H Q _ => ∃ (a : Addr) (ts : List Int) (d : Int), vs = [.ref a, .int d] ∧ SqL K H a (ts.map V.int) ∧ Good ts ∧ RetV (.bl (opn ts d)) H Q
theorem ok_stands_open (F : Df K mg "stands_open" s_stands_open ["turners", "door"]) (B : Blt mg) : Cal P w K mg base CX0 1 "stands_open" (spStands K) := by
  have sc : FnScope ["turners", "door", "one"] ["turners", "door"] (defScope s_stands_open) := ⟨rfl, rfl, rfl, by decide +kernel, rfl, by decide +kernel, by decide +kernel⟩
  refine F.ok sc (fun vs H Q E h => ?_) (fun f cdv A outer s H vs Q E hr h => ?_)
  · obtain ⟨a, ts, d, rfl, _⟩ := h
    rfl
  · obtain ⟨a, ts, d, rfl, hS, hG, q⟩ := h
    refine ⟨_, (pss_one (ps_ret (pe_cmpR op_eq (pe_op op_mod (pe_callB call_len_s (by rfl) B.len_ boot_len (pa_cons (pe_lc (own := [("one", 2)]) (g := (gName 2)) (by rfl) sc.nd (pi_list (pv 0)) (blkOk_by (own := [("one", 2)]) (N := ["turners", "door", "one"]) (sc := defScope s_stands_open) (by decide +kernel)) (fun _ _ _ _ _ => (pg_name (i := 2) sc.nd rfl (by first | exact Or.inl rfl | exact Or.inr rfl))) (fun _ _ _ _ _ => (pts_one (pt_cmpR op_eq (pe_op op_mod (pv 1) (pv 2)) pe_int (nomark _)))) (fun _ _ _ _ _ => (pv 2))) pa_nil)) pe_int) pe_int (nomark _)))), ?_⟩
    walk_at "go"
    refine el_lcL (K := K) (σ := [some (.ref a), some (.int d), none]) (fun i => decide (d % ts.getD i 0 = 0)) (fun i => V.int (ts.getD i 0)) (ev_var rfl) hS (by rw [List.length_map]; have := hG.len; omega) (fun x => rfl) (fun i x H1 e hx => ?_) (fun i x H1 e hx _ => ?_) H (Ex.refl H) _ (fun p H2 hp e2 h2 => ?_)
    · obtain ⟨rfl, hi, _⟩ := getD_of hx
      intro H2 e2 Q2 k
      walk_at "go"
      refine c_I (by have := hG.pos _ (getD_mem hi); omega) ?_
      walk_at "go"
      exact k H2 (Ex.refl H2)
    · obtain ⟨rfl, hi, _⟩ := getD_of hx
      exact ev_var rfl
    · rw [List.length_map, given_filter ts fun n => decide (d % n = 0)] at h2
      walk_at "go"
      refine c_len (.inl (.inl h2)) ?_
      walk_at "go"
      refine c_I (by decide) ?_
      walk_at "go"
      rw [List.length_map, opn_len]
      exact q H2 e2
end
abbrev s_open_doors : Stmt := topS 12
section
variable {P : Program} {w : World} {K : PySem.W.Frag} {mg : Str → Option Value} {base : Heap}
/-! open_doors -/
def spOpens (K : PySem.W.Frag) : Sp := fun vs H Q _ => ∃ (a : Addr) (ts : List Int) (n : Nat), vs = [.ref a, .int n] ∧ SqL K H a (ts.map V.int) ∧ Good ts ∧ n ≤ 1000 ∧ RetL ((opens ts n).map V.int) H Q
theorem given_opens (p : Int → Bool) (n : Nat) : given n (fun i => p (1 + (i : Int))) (fun i => V.int (1 + (i : Int))) = ((upto n).filter p).map V.int := by
  unfold given upto
  rw [List.filter_map, List.map_map]
  rfl
theorem ok_open_doors (F : Df K mg "open_doors" s_open_doors ["turners", "many"]) (B : Blt mg) (c_asked_turners : Cal P w K mg base CX0 2 "asked_turners" (spAskT K)) (c_asked_small : Cal P w K mg base CX0 1 "asked_small" spAskS) (c_stands_open : Cal P w K mg base CX0 1 "stands_open" (spStands K)) : Cal P w K mg base CX0 3 "open_doors" (spOpens K) := by
  have sc : FnScope ["turners", "many", "door"] ["turners", "many"] (defScope s_open_doors) := ⟨rfl, rfl, rfl, by decide +kernel, rfl, by decide +kernel, by decide +kernel⟩
  refine F.ok sc (fun vs H Q E h => ?_) (fun f cdv A outer s H vs Q E hr h => ?_)
  · obtain ⟨a, ts, d, rfl, _⟩ := h
    rfl
  · obtain ⟨a, ts, n, rfl, hS, hG, hn, q⟩ := h
    refine ⟨_, (pss_cons (ps_expr (pe_d c_asked_turners hr (by decide) (by rfl) (pa_cons (pv 0) pa_nil)))
      (pss_cons (ps_expr (pe_d c_asked_small hr (by decide) (by rfl) (pa_cons (pv 1) pa_nil)))
      (pss_one (ps_ret (pe_lc (own := [("door", 2)]) (g := (gName 2)) (by rfl) sc.nd (pi_range2 (by rfl) B.range_ (pa_cons pe_int (pa_cons (pe_op op_add (pv 1) pe_int) pa_nil))) (blkOk_by (own := [("door", 2)]) (N := ["turners", "many", "door"]) (sc := defScope s_open_doors) (by decide +kernel)) (fun _ _ _ _ _ => (pg_name (i := 2) sc.nd rfl (by first | exact Or.inl rfl | exact Or.inr rfl))) (fun _ _ _ _ _ => (pts_one (pt_val (pe_d c_stands_open hr (by decide) (by rfl) (pa_cons (pv 0) (pa_cons (pv 2) pa_nil)))))) (fun _ _ _ _ _ => (pv 2))))))), ?_⟩
    walk_at "go"
    refine ⟨a, ts, rfl, hS, hG, fun H1 e1 => ?_⟩
    walk_at "go"
    refine ⟨n, rfl, by omega, by omega, ?_⟩
    walk_at "go"
    refine el_lcR2 (σ := [some (.ref a), some (.int n), none]) (lo := 1) (hi := (n : Int) + 1) (fun i => opn ts (1 + (i : Int))) (fun i => V.int (1 + (i : Int))) (fun H2 e2 Q2 k => ?_) (by omega) (by omega) (fun x => rfl) (fun i H2 e2 hi => ?_) (fun i H2 e2 hi _ => ev_var rfl) H1 (Ex.refl H1) _ (fun p H2 hp e2 h2 => ?_)
    · walk_at "go"
      exact k H2 (Ex.refl H2)
    · intro H3 e3 Q3 k
      walk_at "go"
      refine ⟨a, ts, _, rfl, ex_l ((e1.trans e2).trans e3) hS, hG, fun H4 e4 => ?_⟩
      walk_at "go"
      exact k H4 e4
    · rw [show ((n : Int) + 1 - 1).toNat = n by omega, given_opens (fun d => opn ts d)] at h2
      exact q p H2 (fresh_back e1 hp) (e1.trans e2) h2
end
abbrev s_left_over : Stmt := topS 13
section
variable {P : Program} {w : World} {K : PySem.W.Frag} {mg : Str → Option Value} {base : Heap}
/-! left_over -/
def spLeft (K : PySem.W.Frag) : Sp := fun vs H Q _ => ∃ (a : Addr) (ts : List Int), vs = [.ref a] ∧ SqL K H a (ts.map V.int) ∧ ts.length ≤ 1000 ∧ ∀ ks, IsKept ts ks → RetL (ks.map V.int) H Q
theorem ok_left_over (F : Df K mg "left_over" s_left_over ["turners"]) (B : Blt mg) : Cal P w K mg base CX0 1 "left_over" (spLeft K) := by
  have sc : FnScope ["turners", "found", "one"] ["turners"] (defScope s_left_over) := ⟨rfl, rfl, rfl, by decide +kernel, rfl, by decide +kernel, by decide +kernel⟩
  refine F.ok sc (fun vs H Q E h => ?_) (fun f cdv A outer s H vs Q E hr h => ?_)
  · obtain ⟨a, ts, rfl, _⟩ := h
    rfl
  · obtain ⟨a, ts, rfl, hS, hl, q⟩ := h
    refine ⟨_, (pss_cons (ps_set (i := 1) sc.nd rfl (by first | exact Or.inl rfl | exact Or.inr rfl) (pe_lst pa_nil))
      (pss_cons (ps_for PassesOwn.never rfl (pi_list (pe_callB cr_sortedI (by rfl) B.sorted_ boot_sorted (pa_cons (pv 0) pa_nil))) (pg_name (i := 2) sc.nd rfl (by first | exact Or.inl rfl | exact Or.inr rfl))
      (pss_one (ps_if (PW.pt (pw_and (pt_cmpR op_eq (pe_op op_mod (pe_bm PySem.F.plainAttrs_list PySem.F.slot_list_count PySem.F.type_list_count mt_lcount (pv 0) (pa_cons (pv 2) pa_nil)) pe_int) pe_int (nomark _)) (pw_and1 (pt_cmpR op_notIn_seq (pv 2) (pv 1) (by rfl)))))
      (pss_one (ps_expr (pe_bm PySem.F.plainAttrs_list PySem.F.slot_list_append PySem.F.type_list_append mt_append (pv 1) (pa_cons (pv 2) pa_nil)))) pss_nil)))
      (pss_one (ps_ret (pv 1))))), ?_⟩
    walk_at "go"
    refine ⟨Nat.zero_le _, fun fo nfo => ?_⟩
    have e1 : Ex H (upd H fo (.lst [])) := Ex.new nfo
    walk_at "go"
    refine ⟨a, ts, rfl, ex_l e1 hS, fun so p perm rise np => ?_⟩
    have e2 : Ex (upd H fo (.lst [])) (upd (upd H fo (.lst [])) p (.lst (so.map V.int))) := Ex.new np
    have npf : p ≠ fo := fun z => by rw [z, upd_same] at np; cases np
    have np0 : H p = none := fresh_back e1 np
    refine ⟨p, rfl, ⟨_, .inl (.inl upd_same)⟩, f_list (xs := so.map V.int) (fun i σ H' => ∃ y fs, σ = [some (.ref a), some (.ref fo), y] ∧ Ex H H' ∧ H' p = some (.lst (so.map V.int)) ∧ H' fo = some (.lst (fs.map V.int)) ∧ LoInv ts (so.take i) fs ∧ fs.length ≤ i)
      ⟨none, [], rfl, e1.trans e2, upd_same, e2 _ _ upd_same, LoInv.nil ts, Nat.le_refl _⟩ (fun i σ H' _ h => by obtain ⟨_, _, _, _, h, _⟩ := h; exact .inl (.inl h)) (fun i x σ H' hx h => ?_) (fun σ H' h => ?_)⟩
    · obtain ⟨y, fs, rfl, e3, hp, hf, inv, hfl⟩ := h
      obtain ⟨rfl, hi, hg⟩ := getD_of hx
      have hsl : so.length = ts.length := perm.length_eq
      have tk : so.take (i + 1) = so.take i ++ [so.getD i 0] := by rw [List.take_add_one, hg]; rfl
      have below : ∀ z ∈ so.take i, z ≤ so.getD i 0 := by
        intro z hz
        obtain ⟨j, hj, e⟩ := List.getElem_of_mem hz
        rw [List.length_take] at hj
        rw [List.getElem_take] at e
        have := List.pairwise_iff_getElem.mp rise j i (by omega) hi (by omega)
        rw [List.getD_eq_getElem?_getD, List.getElem?_eq_getElem hi]
        show z ≤ so[i]
        omega
      generalize so.getD i 0 = one at hg tk below
      walk_at "go"
      refine ⟨tyLl (ex_l e3 hS), ?_⟩
      walk_at "go"
      refine c_cnt (ex_l e3 hS) ?_
      walk_at "go"
      refine c_I (by decide) ?_
      walk_at "go"
      refine w_2 (fun hb => ?_) (fun hb => ?_)
      · have hodd : ts.count one % 2 = 1 := by have := of_decide_eq_true hb; omega
        walk_at "go"
        refine c_notIn (.inl (.inl hf)) ?_
        walk_at "go"
        refine w_2 (fun hb2 => ?_) (fun hb2 => ?_)
        · have hn : one ∉ fs := by simpa using hb2
          walk_at "go"
          refine ⟨tyLl (.inl (.inl hf)), ?_⟩
          walk_at "go"
          refine c_app hf (by rw [List.length_map]; omega) ?_
          refine ⟨_, fs ++ [one], rfl, e3.mut nfo, ?_, ?_, ?_, ?_⟩
          · rw [upd_ne npf]; exact hp
          · rw [upd_same, List.map_append]; rfl
          · rw [tk]; exact inv.put below hodd hn
          · rw [List.length_append]; show fs.length + 1 ≤ i + 1; omega
        · have hn : one ∈ fs := by simpa using hb2
          walk_at "go"
          exact ⟨_, fs, rfl, e3, hp, hf, by rw [tk]; exact inv.skip fun z => z.2 hn, by omega⟩
      · have hev : ¬ ts.count one % 2 = 1 := by have := of_decide_eq_false hb; omega
        walk_at "go"
        exact ⟨_, fs, rfl, e3, hp, hf, by rw [tk]; exact inv.skip fun z => hev z.1, by omega⟩
    · obtain ⟨y, fs, rfl, e3, hp, hf, inv, hfl⟩ := h
      rw [List.length_map, List.take_length] at inv
      walk_at "go"
      exact q fs (inv.kept perm) fo H' nfo e3 hf
end
abbrev s_kept : Stmt := topS 14
section
variable {P : Program} {w : World} {K : PySem.W.Frag} {mg : Str → Option Value} {base : Heap}
/-! kept -/
def spKept (K : PySem.W.Frag) : Sp := fun vs H Q _ => ∃ (a : Addr) (ts : List Int), vs = [.ref a] ∧ SqL K H a (ts.map V.int) ∧ Good ts ∧ ∀ ks, IsKept ts ks → RetL (ks.map V.int) H Q
theorem ok_kept (F : Df K mg "kept" s_kept ["turners"]) (c_asked_turners : Cal P w K mg base CX0 2 "asked_turners" (spAskT K)) (c_left_over : Cal P w K mg base CX0 1 "left_over" (spLeft K)) : Cal P w K mg base CX0 3 "kept" (spKept K) := by
  have sc : FnScope ["turners"] ["turners"] (defScope s_kept) := ⟨rfl, rfl, rfl, by decide +kernel, rfl, by decide +kernel, by decide +kernel⟩
  refine F.ok sc (fun vs H Q E h => ?_) (fun f cdv A outer s H vs Q E hr h => ?_)
  · obtain ⟨a, ts, rfl, _⟩ := h
    rfl
  · obtain ⟨a, ts, rfl, hS, hG, q⟩ := h
    refine ⟨_, (pss_cons (ps_expr (pe_d c_asked_turners hr (by decide) (by rfl) (pa_cons (pv 0) pa_nil)))
      (pss_one (ps_ret (pe_d c_left_over hr (by decide) (by rfl) (pa_cons (pv 0) pa_nil))))), ?_⟩
    walk_at "go"
    refine ⟨a, ts, rfl, hS, hG, fun H1 e1 => ?_⟩
    walk_at "go"
    exact ⟨a, ts, rfl, ex_l e1 hS, by have := hG.len; omega, fun ks hk p H2 np e2 hp => q ks hk p H2 (fresh_back e1 np) (e1.trans e2) hp⟩
end
abbrev s__law_number : Stmt := topS 18
section
variable {P : Program} {w : World} {K : PySem.W.Frag} {mg : Str → Option Value} {base : Heap}
/-- any number that a cell gives, of bounded size -/
def spLawNumber : Sp := fun vs H Q _ => ∃ c at_ wh : Int, vs = [.int c, .int at_, .int wh] ∧ c.natAbs < 2 ^ big ∧ 0 ≤ at_ ∧ at_ ≤ 10000 ∧ ∀ n : Int, n.natAbs < 2 ^ (2 * big + 200) → Q (.int n) H
theorem ok__law_number (F : Df K mg "_law_number" s__law_number ["_law_cell", "_law_at", "_law_whole"]) : Cal P w K mg base CX0 1 "_law_number" spLawNumber := by
  have sc : FnScope ["_law_cell", "_law_at", "_law_whole", "_law_blend", "_law_more"] ["_law_cell", "_law_at", "_law_whole"] (defScope s__law_number) := ⟨rfl, rfl, rfl, by decide +kernel, rfl, by decide +kernel, by decide +kernel⟩
  refine F.ok sc (fun vs H Q E h => ?_) (fun f cdv A outer s H vs Q E hr h => ?_)
  · obtain ⟨c, at_, wh, rfl, _⟩ := h
    rfl
  · obtain ⟨c, at_, wh, rfl, hc, h0, h1, q⟩ := h
    refine ⟨_, (pss_cons (ps_if (pt_cmpR op_ge (pv 0) (pe_op op_pow pe_int pe_int) (nomark _))
      (pss_one (ps_ret (pe_op op_fdiv (pv 0) (pe_op op_add pe_int (pe_op op_mod (pv 1) pe_int))))) pss_nil)
      (pss_cons (ps_set (i := 3) sc.nd rfl (by first | exact Or.inl rfl | exact Or.inr rfl) (pe_op op_mod (pe_op op_add (pe_op op_mul (pe_op op_add (pv 0) (pe_op op_mul pe_int (pv 1))) pe_int) (pv 2)) pe_int))
      (pss_cons (ps_set (i := 4) sc.nd rfl (by first | exact Or.inl rfl | exact Or.inr rfl) (pe_op op_mul (pv 3) (pe_op op_add (pe_op op_add (pv 0) (pe_op op_mul pe_int (pv 1))) pe_int)))
      (pss_one (ps_ret (pe_op op_fdiv (pe_op op_mul (pe_op op_mulB (pv 4) (pe_op op_add (pe_op op_add (pv 3) (pv 0)) pe_int)) (pe_op op_add (pe_op op_mul (pv 3) (pv 3)) pe_int)) (pe_op op_add pe_int (pv 1)))))))), ?_⟩
    walk_at "go"
    refine c_I ⟨by decide, by decide, by decide⟩ ?_
    walk_at "go"
    refine w_2 (fun hb => ?_) (fun hb => ?_)
    · walk_at "go"
      refine c_I (by decide) ?_
      walk_at "go"
      have m0 : 0 ≤ at_ % 7 := Int.emod_nonneg _ (by decide)
      have m1 : at_ % 7 < 7 := Int.emod_lt_of_pos _ (by decide)
      refine c_I ⟨by omega, by omega⟩ ?_
      exact q _ (num_div (num_le hc (by omega)))
    · walk_at "go"
      refine c_I (.inl ⟨by decide, by decide⟩) ?_
      walk_at "go"
      refine c_I (.inr ⟨by decide, by decide⟩) ?_
      walk_at "go"
      refine c_I (by decide) ?_
      walk_at "go"
      generalize hbl : ((c + 977 * at_) * 48271 + wh) % 2147483647 = bl
      have b0 : 0 ≤ bl := by rw [← hbl]; exact Int.emod_nonneg _ (by decide)
      have b1 : bl < 2147483647 := by rw [← hbl]; exact Int.emod_lt_of_pos _ (by decide)
      refine c_I (.inl ⟨by decide, by decide⟩) ?_
      walk_at "go"
      refine c_I (.inl ⟨by omega, by omega⟩) ?_
      walk_at "go"
      have k1 : (c + 31 * at_ + 7).natAbs < 2 ^ (big + 1) := by
        rw [Int.add_assoc]
        exact num_add hc (by decide) (by omega)
      have k2 : (bl + c + 5).natAbs < 2 ^ (big + 1) := by
        rw [show bl + c + 5 = c + (bl + 5) by omega]
        exact num_add hc (by decide) (by omega)
      have kb : bl.natAbs < 2 ^ 31 := by omega
      have k3 : (bl * (c + 31 * at_ + 7)).natAbs < 2 ^ (31 + (big + 1)) := wide_lt kb k1
      refine c_I (mulOk k3 k2 (by decide)) ?_
      have k4 := wide_lt k3 k2
      walk_at "go"
      refine c_I (.inl ⟨by omega, by omega⟩) ?_
      walk_at "go"
      have k5 : 0 ≤ bl * bl := Int.mul_nonneg b0 b0
      have k6 : bl * bl ≤ 2147483647 * 2147483647 := Int.mul_le_mul (by omega) (by omega) b0 (by decide)
      refine c_I (.inr ⟨by omega, by omega⟩) ?_
      walk_at "go"
      refine c_I ⟨by omega, by omega⟩ ?_
      have k7 : (bl * bl + 11).natAbs < 2 ^ 63 := by omega
      exact q _ (num_div (num_le (wide_lt k4 k7) (by omega)))
end
abbrev s__law_turners : Stmt := topS 19
section
variable {P : Program} {w : World} {K : PySem.W.Frag} {mg : Str → Option Value} {base : Heap}
/-- turners by the cells: some, from 1 on, none beyond 10 ** 20 -/
structure Made (most : Int) (ts : List Int) : Prop where
  len : (ts.length : Int) ≤ most
  pos : ∀ t ∈ ts, 1 ≤ t
  le : ∀ t ∈ ts, t ≤ 100000000000000000000
theorem Made.good {most : Int} {ts : List Int} (h : Made most ts) (hm : most ≤ 40) : Good ts := ⟨by have := h.len; omega, h.pos⟩
def spLawTurners (K : PySem.W.Frag) : Sp := fun vs H Q _ => ∃ (a : Addr) (ns : List Int) (by_ most : Int), vs = [.ref a, .int by_, .int most] ∧ SqL K H a (ns.map V.int) ∧ ns.length ≤ 63 ∧ Bits ns ∧ 0 ≤ by_ ∧ by_ ≤ 100 ∧ 0 ≤ most ∧ most ≤ 100 ∧
  ∀ ts, Made most ts → RetL (ts.map V.int) H Q
theorem ok__law_turners (F : Df K mg "_law_turners" s__law_turners ["_law_script", "_law_by", "_law_most"]) (B : Blt mg) (c__law_number : Cal P w K mg base CX0 1 "_law_number" spLawNumber) : Cal P w K mg base CX0 2 "_law_turners" (spLawTurners K) := by
  have sc : FnScope ["_law_script", "_law_by", "_law_most", "_law_cells", "_law_whole", "_law_wide", "_law_found", "_law_at"] ["_law_script", "_law_by", "_law_most"] (defScope s__law_turners) := ⟨rfl, rfl, rfl, by decide +kernel, rfl, by decide +kernel, by decide +kernel⟩
  refine F.ok sc (fun vs H Q E h => ?_) (fun f cdv A outer s H vs Q E hr h => ?_)
  · obtain ⟨a, ns, by_, most, rfl, _⟩ := h
    rfl
  · obtain ⟨a, ns, by_, most, rfl, hS, hl, hB, b0, b1, m0, m1, q⟩ := h
    refine ⟨_, (pss_cons (ps_set (i := 3) sc.nd rfl (by first | exact Or.inl rfl | exact Or.inr rfl) (pe_ifExp (pt_cmpR (op_neD hr.units) (pv 0) (pe_lst pa_nil) (nomark _)) (pe_slice sl_list (pv 0) po_none (po_some pe_int)) (pe_lst (pa_cons pe_int pa_nil))))
      (pss_cons (ps_set (i := 4) sc.nd rfl (by first | exact Or.inl rfl | exact Or.inr rfl) (pe_op op_add (pe_callB call_abs_s (by rfl) B.abs_ boot_abs (pa_cons (pe_callB (cr_sum rfl) (by rfl) B.sum_ boot_sum (pa_cons (pv 3) pa_nil)) pa_nil)) (pv 1)))
      (pss_cons (ps_set (i := 5) sc.nd rfl (by first | exact Or.inl rfl | exact Or.inr rfl) (pe_ix ix_tup (pe_tup (pa_cons pe_int (pa_cons pe_int (pa_cons pe_int (pa_cons (pe_op op_pow pe_int pe_int) pa_nil))))) (pe_op op_mod (pe_op op_fdiv (pv 4) pe_int) pe_int) (fun _ _ => rfl)))
      (pss_cons (ps_set (i := 6) sc.nd rfl (by first | exact Or.inl rfl | exact Or.inr rfl) (pe_lst pa_nil))
      (pss_cons (ps_for PassesOwn.never rfl (pi_range1 (by rfl) B.range_ (pa_cons (pe_op op_mod (pv 4) (pe_op op_add (pv 2) pe_int)) pa_nil)) (pg_name (i := 7) sc.nd rfl (by first | exact Or.inl rfl | exact Or.inr rfl))
      (pss_one (ps_expr (pe_bm PySem.F.plainAttrs_list PySem.F.slot_list_append PySem.F.type_list_append mt_append (pv 6) (pa_cons (pe_op op_add pe_int (pe_op op_mod (pe_op op_fdiv (pe_d c__law_number hr (by decide) (by rfl) (pa_cons (pe_ix ix_list (pv 3) (pe_op op_mod (pe_op op_add (pv 7) (pv 1)) (pe_callB call_len_s (by rfl) B.len_ boot_len (pa_cons (pv 3) pa_nil))) (fun _ _ => rfl)) (pa_cons (pe_op op_add (pv 7) (pv 1)) (pa_cons (pv 4) pa_nil)))) pe_int) (pv 5))) pa_nil)))))
      (pss_one (ps_ret (pv 6)))))))), ?_⟩
    walk_at "go1"
    -- the cells: a list that is not empty
    refine c_ev (fun v H1 => ∃ cs c, v = .ref c ∧ Ex H H1 ∧ H1 c = some (.lst (cs.map V.int)) ∧ cs ≠ [] ∧ cs.length ≤ 63 ∧ ∀ z ∈ cs, z.natAbs < 2 ^ big) (fun Q' k => ?_) (fun v H1 hv => ?_)
    · walk_at "go"
      refine ⟨Nat.zero_le _, fun p np => ?_⟩
      have eP : Ex H (upd H p (.lst [])) := Ex.new np
      refine c_neL (xs := ns) (ys := []) (ex_l eP hS) (.inl (.inl upd_same)) ?_
      walk_at "go"
      refine w_2 (fun hb => ?_) (fun hb => ?_)
      · walk_at "go"
        refine ⟨a, _, rfl, ex_l eP hS, fun c nc => k _ _ ⟨ns, c, rfl, eP.trans (Ex.new nc), ?_, ?_, hl, fun z hz => num_le (num_bits (hB z hz)) (by decide)⟩⟩
        · rw [upd_same, cut63 (by rw [List.length_map]; exact hl)]
        · intro z
          rw [decide_eq_true z] at hb
          cases hb
      · walk_at "go"
        refine ⟨by show 1 ≤ sizeLine; decide, fun c nc => k _ _ ⟨[5], c, rfl, eP.trans (Ex.new nc), ?_, by simp, by simp, fun z hz => ?_⟩⟩
        · rw [upd_same]; rfl
        · rw [List.mem_singleton.mp hz]
          exact num_le (n := big) (m := 3) (by decide) (by decide)
    obtain ⟨cs, c, rfl, e1, hc, hne, hcl, hcb⟩ := hv
    walk_at "go"
    refine c_sum (.inl (.inl hc)) ?_
    walk_at "go"
    refine c_abs ?_
    walk_at "go"
    generalize hW : ((cs.sum.natAbs : Int) + by_) = W
    have W0 : 0 ≤ W := by omega
    walk_at "go"
    refine c_I ⟨by decide, by decide, by decide⟩ ?_
    walk_at "go"
    refine ⟨by show 4 ≤ sizeLine; decide, fun tp ntp => ?_⟩
    walk_at "go"
    refine c_I ⟨by decide, by decide⟩ ?_
    walk_at "go"
    refine c_I (by decide) ?_
    have i0 : 0 ≤ W / 5 % 4 := Int.emod_nonneg _ (by decide)
    have i1 : W / 5 % 4 < 4 := Int.emod_lt_of_pos _ (by decide)
    have hwd : ∃ wd : Int, atI [V.int 4, .int 12, .int 60, .int (10 ^ (20 : Int).toNat)] (W / 5 % 4) = some (.int wd) ∧ 1 ≤ wd ∧ wd ≤ 100000000000000000000 := by
      have c4 : W / 5 % 4 = 0 ∨ W / 5 % 4 = 1 ∨ W / 5 % 4 = 2 ∨ W / 5 % 4 = 3 := by omega
      rcases c4 with z | z | z | z <;> rw [z]
      · exact ⟨4, rfl, by decide, by decide⟩
      · exact ⟨12, rfl, by decide, by decide⟩
      · exact ⟨60, rfl, by decide, by decide⟩
      · exact ⟨100000000000000000000, rfl, by decide, by decide⟩
    obtain ⟨wd, hwd, w1, w2⟩ := hwd
    have e2 : Ex H1 (upd H1 tp (.tup [V.int 4, .int 12, .int 60, .int (10 ^ (20 : Int).toNat)])) := Ex.new ntp
    refine ⟨tp, _, _, _, rfl, rfl, .inl (.inl upd_same), hwd, ?_⟩
    generalize upd H1 tp (.tup [V.int 4, .int 12, .int 60, .int (10 ^ (20 : Int).toNat)]) = H2 at e2 ⊢
    walk_at "go"
    refine ⟨Nat.zero_le _, fun fo nfo => ?_⟩
    have e3 : Ex H2 (upd H2 fo (.lst [])) := Ex.new nfo
    have e13 := (e1.trans e2).trans e3
    have nfo0 : H fo = none := fresh_back (e1.trans e2) nfo
    have hc3 : (upd H2 fo (.lst [])) c = some (.lst (cs.map V.int)) := e3 _ _ (e2 _ _ hc)
    have hne3 : c ≠ fo := fun z => by rw [z] at hc; rw [fresh_back e2 nfo] at hc; cases hc
    have hcl' : 0 < (cs.length : Int) := by
      cases cs with
      | nil => exact absurd rfl hne
      | cons x r => rw [List.length_cons]; omega
    walk_at "go1"
    refine s_forR1 (n := W % (most + 1)) (fun H4 e4 Q4 k => ?_) ⟨Int.emod_nonneg _ (by omega), by have := Int.emod_lt_of_pos W (show 0 < most + 1 by omega); omega⟩
      (fun i σ H4 => ∃ y, σ = [some (.ref a), some (.int by_), some (.int most), some (.ref c), some (.int W), some (.int wd), some (.ref fo), y] ∧ Ex H H4 ∧ H4 c = some (.lst (cs.map V.int)) ∧
        ∃ ts : List Int, H4 fo = some (.lst (ts.map V.int)) ∧ ts.length = i ∧ ∀ t ∈ ts, 1 ≤ t ∧ t ≤ 100000000000000000000)
      (fun H4 e4 => ⟨none, rfl, e13.trans e4, e4 _ _ hc3, [], e4 _ _ upd_same, rfl, fun t ht => nomatch ht⟩) (fun i σ H4 hi hP => ?_) (fun σ H4 hP => ?_)
    · walk_at "go"
      refine c_I (by omega) ?_
      walk_at "go"
      exact k H4 (Ex.refl H4)
    · obtain ⟨y, rfl, e4, hc4, ts, hf4, htl, hts⟩ := hP
      have hi2 : (i : Int) < most + 1 := by have := Int.emod_lt_of_pos W (show 0 < most + 1 by omega); omega
      refine c_drop ?_
      refine ⟨.ref fo, rfl, .inl ⟨rfl, _, .inl (.inl hf4)⟩, ?_⟩
      walk_at "go"
      refine c_len (.inl (.inl hc4)) ?_
      walk_at "go"
      refine c_I (by rw [List.length_map]; exact hcl') ?_
      rw [List.length_map]
      generalize hx : ((i : Int) + by_) % (cs.length : Int) = ix
      have x0 : 0 ≤ ix := by rw [← hx]; exact Int.emod_nonneg _ (by omega)
      have x1 : ix < cs.length := by rw [← hx]; exact Int.emod_lt_of_pos _ hcl'
      refine ⟨c, _, _, _, rfl, rfl, .inl (.inl hc4), atI_int x0 x1, ?_⟩
      walk_at "go"
      refine ⟨_, _, _, rfl, hcb _ (getD_mem (by omega)), by omega, by omega, fun nn _ => ?_⟩
      walk_at "go"
      refine c_I ⟨by decide, by decide⟩ ?_
      walk_at "go"
      refine c_I (by omega) ?_
      walk_at "go"
      have r0 := Int.emod_nonneg (nn / 3) (show wd ≠ 0 by omega)
      have r1 := Int.emod_lt_of_pos (nn / 3) (show 0 < wd by omega)
      refine ⟨fo, _, _, rfl, rfl, hf4, ?_, ?_⟩
      · rw [List.length_map]
        exact sz_lt (by omega)
      · refine ⟨some (.int i), rfl, e4.mut nfo0, ?_, ts ++ [1 + nn / 3 % wd], ?_, ?_, ?_⟩
        · rw [upd_ne hne3]; exact hc4
        · rw [upd_same, List.map_append]; rfl
        · rw [List.length_append, htl]; rfl
        · intro t ht
          rcases List.mem_append.mp ht with z | z
          · exact hts t z
          · rw [List.mem_singleton.mp z]; omega
    · obtain ⟨y, rfl, e4, hc4, ts, hf4, htl, hts⟩ := hP
      have := Int.emod_lt_of_pos W (show 0 < most + 1 by omega)
      walk_at "go"
      exact q ts ⟨by omega, fun t ht => (hts t ht).1, fun t ht => (hts t ht).2⟩ fo H4 nfo0 e4 hf4
end
abbrev s__law_open : Stmt := topS 20
section
variable {P : Program} {w : World} {K : PySem.W.Frag} {mg : Str → Option Value} {base : Heap}
/-! _law_open: turned one by one -/
def spLawOpen (K : PySem.W.Frag) : Sp := fun vs H Q _ => ∃ (a : Addr) (ts : List Int) (d : Int), vs = [.ref a, .int d] ∧ SqL K H a (ts.map V.int) ∧ (∀ t ∈ ts, 1 ≤ t) ∧ Q (.bl (opn ts d)) H
theorem ok__law_open (F : Df K mg "_law_open" s__law_open ["_law_turners_here", "_law_door"]) : Cal P w K mg base CX0 1 "_law_open" (spLawOpen K) := by
  have sc : FnScope ["_law_turners_here", "_law_door", "_law_found", "_law_one"] ["_law_turners_here", "_law_door"] (defScope s__law_open) := ⟨rfl, rfl, rfl, by decide +kernel, rfl, by decide +kernel, by decide +kernel⟩
  refine F.ok sc (fun vs H Q E h => ?_) (fun f cdv A outer s H vs Q E hr h => ?_)
  · obtain ⟨a, ts, d, rfl, _⟩ := h
    rfl
  · obtain ⟨a, ts, d, rfl, hS, hp, q⟩ := h
    refine ⟨_, (pss_cons (ps_set (i := 2) sc.nd rfl (by first | exact Or.inl rfl | exact Or.inr rfl) pe_bl)
      (pss_cons (ps_for PassesOwn.never rfl (pi_list (pv 0)) (pg_name (i := 3) sc.nd rfl (by first | exact Or.inl rfl | exact Or.inr rfl))
      (pss_one (ps_if (pt_cmpR op_eq (pe_op op_mod (pv 1) (pv 3)) pe_int (nomark _))
      (pss_one (ps_set (i := 2) sc.nd rfl (by first | exact Or.inl rfl | exact Or.inr rfl) (pe_not (pv 2)))) pss_nil)))
      (pss_one (ps_ret (pv 2))))), ?_⟩
    walk_at "go"
    refine ⟨a, rfl, ⟨_, hS⟩, f_list (xs := ts.map V.int) (fun i σ H' => ∃ y, σ = [some (.ref a), some (.int d), some (.bl (opn (ts.take i) d)), y] ∧ H' = H) ⟨none, rfl, rfl⟩ (fun i σ H' _ h => by obtain ⟨y, rfl, rfl⟩ := h; exact hS) (fun i x σ H' hx h => ?_) (fun σ H' h => ?_)⟩
    · obtain ⟨y, rfl, rfl⟩ := h
      obtain ⟨rfl, hi, hg⟩ := getD_of hx
      walk_at "go"
      refine c_I (by have := hp _ (getD_mem hi); omega) ?_
      walk_at "go"
      refine w_2 (fun hb => ?_) (fun hb => ?_)
      · walk_at "go"
        refine ⟨some (.int (ts.getD i 0)), ?_, rfl⟩
        rw [opn_take hg, if_pos (of_decide_eq_true hb)]
        rfl
      · walk_at "go"
        refine ⟨some (.int (ts.getD i 0)), ?_, rfl⟩
        rw [opn_take hg, if_neg (of_decide_eq_false hb)]
        rfl
    · obtain ⟨y, rfl, rfl⟩ := h
      rw [List.length_map, List.take_length]
      walk_at "go"
      exact q
end
abbrev s_turners_for : Stmt := topS 16
/-! ### the row of doors still due -/
def dueL (n : Nat) (B : Int → Bool) : List V := (List.range (n + 1)).map fun i : Nat => V.bl (B (i : Int))
theorem dueL_len (n : Nat) (B : Int → Bool) : (dueL n B).length = n + 1 := by unfold dueL; simp
theorem dueL_at {n : Nat} {B : Int → Bool} {d : Int} (h0 : 0 ≤ d) (h1 : d ≤ n) : atI (dueL n B) d = some (.bl (B d)) := by
  obtain ⟨k, rfl⟩ := Int.eq_ofNat_of_zero_le h0
  refine atI_nat ?_
  unfold dueL
  rw [List.getElem?_map, List.getElem?_range (by omega)]
  rfl
theorem dueL_set {n k : Nat} {B : Int → Bool} {b : Bool} (h : k ≤ n) : (dueL n B).set k (.bl b) = dueL n (fun d => if d = (k : Int) then b else B d) := by
  apply List.ext_getElem?
  intro i
  unfold dueL
  rw [List.getElem?_set]
  by_cases e : k = i
  · subst e
    rw [if_pos rfl, if_pos (by simp; omega), List.getElem?_map, List.getElem?_range (by omega)]
    simp
  · rw [if_neg e, List.getElem?_map, List.getElem?_map]
    by_cases hi : i < n + 1
    · rw [List.getElem?_range hi]
      simp
      intro z
      omega
    · rw [List.getElem?_eq_none (by simp; omega)]
      rfl
theorem dueL_start (n : Nat) : (List.replicate ((n : Int) + 1).toNat [V.bl false]).flatten = dueL n (fun _ => false) := by
  have e : ((n : Int) + 1).toNat = n + 1 := by omega
  rw [e]
  have key : ∀ m : Nat, (List.replicate m [V.bl false]).flatten = (List.range m).map fun _ => V.bl false := by
    intro m
    induction m with
    | zero => rfl
    | succ m ih => rw [List.replicate_succ', List.flatten_append, ih, List.range_succ, List.map_append]; rfl
  exact key (n + 1)
theorem dueL_congr {n : Nat} {B C : Int → Bool} (h : ∀ d : Int, 0 ≤ d → d ≤ n → B d = C d) : dueL n B = dueL n C := by
  unfold dueL
  refine List.map_congr_left fun i hi => ?_
  rw [List.mem_range] at hi
  rw [h i (by omega) (by omega)]
theorem Sv.congr {D F : List Int} {n i : Nat} {B C : Int → Bool} (h : Sv D n i F B) (hi : i ≤ n) (e : ∀ d : Int, 1 ≤ d → d ≤ n → C d = B d) : Sv D n i F C :=
  ⟨h.rise, h.rng, fun d h1 h2 => by rw [e d h1 h2]; exact h.due d h1 h2, fun d h1 h2 => by rw [e d h1 (by omega)]; exact h.off d h1 h2⟩
theorem rise_len {D : List Int} {n : Nat} (hr : D.Pairwise (· < ·)) (hm : ∀ x ∈ D, 1 ≤ x ∧ x ≤ n) : D.length ≤ n := by
  have := len_sub (nodup_of_rise hr) (ts := upto n) fun x hx => mem_upto.mpr (hm x hx)
  rwa [upto_len] at this
theorem c_iR3 {σ : L2.St} {H : Hp} {tr : TA} {R : It → Hp → Prop} (k : tr σ H fun vs H1 => ∃ (i j c : Int) (n : Nat), vs = [.int i, .int j, .int c] ∧ RgC i j c n ∧ R (Itc i c n) H1) : iRng3 tr σ H R := k
/-- the step range's turns -/
theorem rgC_steps {d n : Int} (h0 : 1 ≤ d) (h1 : d ≤ n) (h2 : n ≤ 1000) : RgC d (n + 1) d (n / d).toNat := by
  have e : Builtin.Range.rangeSize d (n + 1) d = n / d := by
    unfold Builtin.Range.rangeSize
    rw [if_pos (by omega), if_pos (by omega), show n + 1 - d - 1 = n + (-1) * d by omega, Int.add_mul_ediv_right _ _ (by omega)]
    omega
  have q0 : 0 ≤ n / d := Int.ediv_nonneg (by omega) (by omega)
  have q1 : n / d ≤ n := Int.ediv_le_self _ (by omega)
  refine ⟨by omega, by omega, ?_, ?_⟩
  · unfold Builtin.Range.small
    rw [e]
    simp only [Builtin.Range.rangeFitsLong, Bool.and_eq_true, Bool.or_eq_true, decide_eq_true_eq, beq_iff_eq, show d > 0 by omega, if_true]
    omega
  · rw [e]; omega
section
variable {P : Program} {w : World} {K : PySem.W.Frag} {mg : Str → Option Value} {base : Heap}
/-- rising turners up to n by which just these doors are open -/
structure Brings (n : Nat) (D F : List Int) : Prop where
  rise : F.Pairwise (· < ·)
  rng : ∀ x ∈ F, 1 ≤ x ∧ x ≤ n
  opens : opens F n = D
def spBring (K : PySem.W.Frag) : Sp := fun vs H Q _ => ∃ (a : Addr) (D : List Int) (n : Nat), vs = [.int n, .ref a] ∧ SqL K H a (D.map V.int) ∧ n ≤ 1000 ∧ D.Pairwise (· < ·) ∧ (∀ x ∈ D, 1 ≤ x ∧ x ≤ n) ∧ ∀ F, Brings n D F → RetL (F.map V.int) H Q
theorem ok_turners_for (F : Df K mg "turners_for" s_turners_for ["many", "doors"]) (B : Blt mg) (c_is_number : Cal P w K mg base CX0 1 "is_number" spNum) (c_asked_small : Cal P w K mg base CX0 1 "asked_small" spAskS) : Cal P w K mg base CX0 2 "turners_for" (spBring K) := by
  have sc : FnScope ["many", "doors", "one", "at", "due", "door", "found", "other"] ["many", "doors"] (defScope s_turners_for) := ⟨rfl, rfl, rfl, by decide +kernel, rfl, by decide +kernel, by decide +kernel⟩
  refine F.ok sc (fun vs H Q E h => ?_) (fun f cdv A outer s H vs Q E hr h => ?_)
  · obtain ⟨a, D, n, rfl, _⟩ := h
    rfl
  · obtain ⟨a, D, n, rfl, hS, hn, hD, hm, q⟩ := h
    have hl : D.length ≤ n := rise_len hD hm
    refine ⟨_, (pss_cons (ps_expr (pe_d c_asked_small hr (by decide) (by rfl) (pa_cons (pv 0) pa_nil)))
      (pss_cons (ps_if (PW.pt (pw_or (pt_not (pt_val (pe_callB call_isi (by rfl) B.isinstance_ boot_isinstance (pa_cons (pv 1) (pa_cons (pe_bltn (v := .ty "list") (by rfl) B.list_ boot_list rfl) pa_nil))))) (pw_or1 (pt_not (pt_val (pe_callB (cr_all rfl) (by rfl) B.all_ boot_all (pa_cons (pe_lc (own := [("one", 2)]) (g := (gName 2)) (by rfl) sc.nd (pi_list (pv 1)) (blkOk_by (own := [("one", 2)]) (N := ["many", "doors", "one", "at", "due", "door", "found", "other"]) (sc := defScope s_turners_for) (by decide +kernel)) (fun _ _ _ _ _ => (pg_name (i := 2) sc.nd rfl (by first | exact Or.inl rfl | exact Or.inr rfl))) (fun _ _ _ _ _ => pts_nil) (fun _ _ _ _ _ => (pe_and (pe_d c_is_number hr (by decide) (by rfl) (pa_cons (pv 2) pa_nil)) (pe_one (pe_cmpR op_le (pv 2) (pv 0) (nomark _)))))) pa_nil)))))))
      (pss_one ps_never) pss_nil)
      (pss_cons (ps_if (pt_val (pe_callB (cr_any rfl) (by rfl) B.any_ boot_any (pa_cons (pe_lc (own := [("at", 3)]) (g := (gName 3)) (by rfl) sc.nd (pi_range2 (by rfl) B.range_ (pa_cons pe_int (pa_cons (pe_callB call_len_s (by rfl) B.len_ boot_len (pa_cons (pv 1) pa_nil)) pa_nil))) (blkOk_by (own := [("at", 3)]) (N := ["many", "doors", "one", "at", "due", "door", "found", "other"]) (sc := defScope s_turners_for) (by decide +kernel)) (fun _ _ _ _ _ => (pg_name (i := 3) sc.nd rfl (by first | exact Or.inl rfl | exact Or.inr rfl))) (fun _ _ _ _ _ => pts_nil) (fun _ _ _ _ _ => (pe_cmpR op_ge (pe_ix (show IxR _ (rIxL K) from ix_list) (pv 1) (pe_op op_sub (pv 3) pe_int) (fun _ _ => rfl)) (pe_ix (show IxR _ (rIxL K) from ix_list) (pv 1) (pv 3) (fun _ _ => rfl)) (nomark _)))) pa_nil)))
      (pss_one ps_never) pss_nil)
      (pss_cons (ps_set (i := 4) sc.nd rfl (by first | exact Or.inl rfl | exact Or.inr rfl) (pe_op op_rep (pe_lst (pa_cons pe_bl pa_nil)) (pe_op op_add (pv 0) pe_int)))
      (pss_cons (ps_for PassesOwn.never rfl (pi_list (pv 1)) (pg_name (i := 5) sc.nd rfl (by first | exact Or.inl rfl | exact Or.inr rfl))
      (pss_one (ps_asg pe_bl (pg_sub (pv 4) (pv 5) set_list))))
      (pss_cons (ps_set (i := 6) sc.nd rfl (by first | exact Or.inl rfl | exact Or.inr rfl) (pe_lst pa_nil))
      (pss_cons (ps_for PassesOwn.never rfl (pi_range2 (by rfl) B.range_ (pa_cons pe_int (pa_cons (pe_op op_add (pv 0) pe_int) pa_nil))) (pg_name (i := 5) sc.nd rfl (by first | exact Or.inl rfl | exact Or.inr rfl))
      (pss_one (ps_if (pt_val (pe_ix ix_list (pv 4) (pv 5) (fun _ _ => rfl)))
      (pss_cons (ps_expr (pe_bm PySem.F.plainAttrs_list PySem.F.slot_list_append PySem.F.type_list_append mt_append (pv 6) (pa_cons (pv 5) pa_nil)))
      (pss_one (ps_for PassesOwn.never rfl (pi_range3 (by rfl) B.range_ (pa_cons (pv 5) (pa_cons (pe_op op_add (pv 0) pe_int) (pa_cons (pv 5) pa_nil)))) (pg_name (i := 7) sc.nd rfl (by first | exact Or.inl rfl | exact Or.inr rfl))
      (pss_one (ps_asg (pe_not (pe_ix ix_list (pv 4) (pv 7) (fun _ _ => rfl))) (pg_sub (pv 4) (pv 7) set_list)))))) pss_nil)))
      (pss_one (ps_ret (pv 6)))))))))), ?_⟩
    walk_at "go"
    refine ⟨n, rfl, by omega, by omega, ?_⟩
    walk_at "go"
    refine c_isiL hS ?_
    walk_at "go"
    refine el_lcL (K := K) (σ := [some (.int n), some (.ref a), none, none, none, none, none, none]) (fun _ => true) (fun i => V.bl true) (ev_var rfl) hS (by rw [List.length_map]; omega) (fun x => rfl) (fun i x H1 e hx => ?_) (fun i x H1 e hx _ => ?_) H (Ex.refl H) _ (fun p H2 hp e2 h2 => ?_)
    · exact fun H2 _ QB k => k H2 (Ex.refl H2)
    · obtain ⟨rfl, hi, _⟩ := getD_of hx
      have hx1 := hm _ (getD_mem hi)
      intro H2 e2 Q2 k
      walk_at "go"
      refine ⟨_, rfl, ?_⟩
      walk_at "go"
      refine w_t (decide_eq_true (by omega)) ?_
      walk_at "go"
      rw [decide_eq_true hx1.2]
      exact k H2 (Ex.refl H2)
    rw [List.length_map] at h2
    have h2' : H2 p = some (.lst ((List.replicate D.length true).map V.bl)) := by
      rw [h2, given_true D.length fun _ => true]
      rw [show (List.range D.length).map (fun _ => true) = List.replicate D.length true from by rw [List.map_const']; simp]
    walk_at "go"
    refine c_all (.inl (.inl h2')) ?_
    rw [show (List.replicate D.length true).all id = true from by simp]
    walk_at "go"
    refine el_lcR2 (σ := [some (.int n), some (.ref a), none, none, none, none, none, none]) (lo := 1) (hi := (D.length : Int)) (fun _ => true) (fun i => V.bl false) (fun H3 e3 Q3 k => ?_) (by omega) (by omega) (fun x => rfl) (fun i H3 e3 hi => ?_) (fun i H3 e3 hi _ => ?_) H2 (Ex.refl H2) _ (fun p3 H3 hp3 e3 h3 => ?_)
    · walk_at "go"
      refine c_len (ex_l (e2.trans e3) hS) ?_
      rw [List.length_map]
      walk_at "go"
      exact k H3 (Ex.refl H3)
    · exact fun H4 _ QB k => k H4 (Ex.refl H4)
    · intro H4 e4 Q4 k
      walk_at "go"
      refine ⟨a, _, _, _, rfl, rfl, ex_l ((e2.trans e3).trans e4) hS, atI_int (by omega) (by omega), ?_⟩
      walk_at "go"
      refine ⟨a, _, _, _, rfl, rfl, ex_l ((e2.trans e3).trans e4) hS, atI_int (by omega) (by omega), ?_⟩
      walk_at "go"
      have lt : D.getD (1 + (i : Int) - 1).toNat 0 < D.getD (1 + (i : Int)).toNat 0 := by
        have i1 : (1 + (i : Int) - 1).toNat = i := by omega
        have i2 : (1 + (i : Int)).toNat = i + 1 := by omega
        rw [i1, i2]
        have := List.pairwise_iff_getElem.mp hD i (i + 1) (by omega) (by omega) (by omega)
        rw [List.getD_eq_getElem?_getD, List.getD_eq_getElem?_getD, List.getElem?_eq_getElem (by omega), List.getElem?_eq_getElem (by omega)]
        exact this
      rw [decide_eq_false (by omega)]
      exact k H4 (Ex.refl H4)
    have h3' : H3 p3 = some (.lst ((List.replicate ((D.length : Int) - 1).toNat false).map V.bl)) := by
      rw [h3, given_true ((D.length : Int) - 1).toNat fun _ => false]
      rw [show (List.range ((D.length : Int) - 1).toNat).map (fun _ => false) = List.replicate ((D.length : Int) - 1).toNat false from by rw [List.map_const']; simp]
    walk_at "go"
    refine c_any (.inl (.inl h3')) ?_
    rw [show (List.replicate ((D.length : Int) - 1).toNat false).any id = false from by simp]
    have e03 : Ex H H3 := e2.trans e3
    clear h2 h2' h3 h3'
    walk_at "go"
    refine ⟨by show 1 ≤ sizeLine; decide, fun l1 n1 => ?_⟩
    walk_at "go"
    refine ⟨l1, _, _, rfl, rfl, upd_same, by omega, by omega, ?_, fun du ndu => ?_⟩
    · show 1 * ((n : Int) + 1).toNat ≤ sizeLine
      exact sz_of (by omega)
    rw [dueL_start]
    have e4 : Ex H (upd H3 l1 (.lst [.bl false])) := e03.trans (Ex.new n1)
    have ndu0 : H du = none := fresh_back e4 ndu
    have e5 : Ex H (upd (upd H3 l1 (.lst [.bl false])) du (.lst (dueL n fun _ => false))) := e4.trans (Ex.new ndu)
    have hdu : (upd (upd H3 l1 (.lst [.bl false])) du (.lst (dueL n fun _ => false))) du = some (.lst (dueL n fun _ => false)) := upd_same
    generalize upd (upd H3 l1 (.lst [.bl false])) du (.lst (dueL n fun _ => false)) = H5 at e5 hdu ⊢
    walk_at "go"
    refine ⟨a, rfl, ⟨_, ex_l e5 hS⟩, f_list (xs := D.map V.int) (fun i σ H' => ∃ y, σ = [some (.int n), some (.ref a), none, none, some (.ref du), y, none, none] ∧ Ex H H' ∧ H' du = some (.lst (dueL n fun d => decide (d ∈ D.take i))))
      ⟨none, rfl, e5, by rw [hdu]; simp⟩ (fun i σ H' _ h => by obtain ⟨_, _, e, _⟩ := h; exact ex_l e hS) (fun i x σ H6 hx h => ?_) (fun σ H6 h => ?_)⟩
    · obtain ⟨y, rfl, e6, h6⟩ := h
      obtain ⟨rfl, hi, hg⟩ := getD_of hx
      have hb := hm _ (getD_mem hi)
      have tk : D.take (i + 1) = D.take i ++ [D.getD i 0] := by rw [List.take_add_one, hg]; rfl
      generalize D.getD i 0 = d at hb tk
      obtain ⟨d, rfl⟩ := Int.eq_ofNat_of_zero_le (show 0 ≤ d by omega)
      walk_at "go"
      refine ⟨_, rfl, _, rfl, du, _, _, d, rfl, rfl, h6, ixN_nat (by rw [dueL_len]; omega), _, rfl, e6.mut ndu0, ?_⟩
      rw [upd_same, dueL_set (by omega), tk]
      congr 2
      refine dueL_congr fun z _ _ => ?_
      by_cases ez : z = (d : Int)
      · subst ez
        simp
      · simp [ez]
    obtain ⟨y, rfl, e6, h6⟩ := h
    rw [List.length_map, List.take_length] at h6
    walk_at "go"
    refine ⟨Nat.zero_le _, fun fo nfo => ?_⟩
    have nfo0 : H fo = none := fresh_back e6 nfo
    have hnd : du ≠ fo := fun z => by rw [z] at h6; rw [h6] at nfo; cases nfo
    have e7 : Ex H (upd H6 fo (.lst [])) := e6.trans (Ex.new nfo)
    have h7 : (upd H6 fo (.lst [])) du = some (.lst (dueL n fun d => decide (d ∈ D))) := by rw [upd_ne hnd]; exact h6
    have f7 : (upd H6 fo (.lst [])) fo = some (.lst (([] : List Int).map V.int)) := upd_same
    generalize upd H6 fo (.lst []) = H7 at e7 h7 f7 ⊢
    walk_at "go"
    refine ⟨1, (n : Int) + 1, rfl, by omega, ?_⟩
    rw [show ((n : Int) + 1 - 1).toNat = n by omega]
    refine f_range (fun i σ H' => ∃ y z, σ = [some (.int n), some (.ref a), none, none, some (.ref du), y, some (.ref fo), z] ∧ i ≤ n ∧ Ex H H' ∧ ∃ Fs Bs, H' du = some (.lst (dueL n Bs)) ∧ H' fo = some (.lst (Fs.map V.int)) ∧ Sv D n i Fs Bs)
      ⟨_, _, rfl, Nat.zero_le _, e7, [], _, h7, f7, Sv.start D n⟩ (fun i σ H8 hi h => ?_) (fun σ H8 h => ?_)
    · obtain ⟨y, z, rfl, _, e8, Fs, Bs, h8, f8, sv⟩ := h
      have lF : Fs.length ≤ i := rise_len sv.rise sv.rng
      walk_at "go"
      refine ⟨du, _, _, _, rfl, rfl, .inl (.inl h8), dueL_at (by omega) (by omega), ?_⟩
      walk_at "go"
      refine w_2 (fun hb => ?_) (fun hb => ?_)
      · walk_at "go"
        refine ⟨tyLl (.inl (.inl f8)), ?_⟩
        walk_at "go"
        refine c_app f8 (by rw [List.length_map]; omega) ?_
        have e9 : Ex H (upd H8 fo (.lst (Fs.map V.int ++ [.int (1 + (i : Int))]))) := e8.mut nfo0
        have h9 : (upd H8 fo (.lst (Fs.map V.int ++ [.int (1 + (i : Int))]))) du = some (.lst (dueL n Bs)) := by rw [upd_ne hnd]; exact h8
        have f9 : (upd H8 fo (.lst (Fs.map V.int ++ [.int (1 + (i : Int))]))) fo = some (.lst ((Fs ++ [1 + (i : Int)]).map V.int)) := by rw [upd_same, List.map_append]; rfl
        generalize upd H8 fo (.lst (Fs.map V.int ++ [.int (1 + (i : Int))])) = H9 at e9 h9 f9 ⊢
        have dpos : 1 ≤ 1 + (i : Int) := by omega
        walk_at "go"
        refine c_iR3 ?_
        walk_at "go"
        refine ⟨_, _, _, _, rfl, rgC_steps dpos (by omega) (by omega), ?_⟩
        generalize hd : 1 + (i : Int) = d at dpos f9
        refine for_rangeC (fun j σ H' => ∃ z, σ = [some (.int n), some (.ref a), none, none, some (.ref du), some (.int d), some (.ref fo), z] ∧ Ex H H' ∧ H' fo = some (.lst ((Fs ++ [d]).map V.int)) ∧ H' du = some (.lst (dueL n fun x => if x % d = 0 ∧ d ≤ x ∧ x < d + j * d then !Bs x else Bs x)))
          ⟨_, rfl, e9, f9, ?_⟩ (fun j σ Ha hj h => ?_) (fun σ Ha h => ?_)
        · rw [h9]
          congr 2
          refine dueL_congr fun x _ _ => ?_
          rw [if_neg (by omega)]
        · obtain ⟨z, rfl, ea, fa, ha⟩ := h
          have jd : (j : Int) + 1 ≤ (n : Int) / d := by omega
          have in1 : d + (j : Int) * d ≤ n := by
            have h1 : ((j : Int) + 1) * d ≤ (n : Int) / d * d := Int.mul_le_mul_of_nonneg_right jd (by omega)
            have h2 : (n : Int) / d * d ≤ n := Int.ediv_mul_le _ (by omega)
            rw [Int.add_mul, Int.one_mul] at h1
            omega
          have in0 : 0 ≤ (j : Int) * d := Int.mul_nonneg (by omega) (by omega)
          have md : (d + (j : Int) * d) % d = 0 := by rw [Int.add_mul_emod_self_right]; exact Int.emod_self
          walk_at "go"
          generalize hx : d + (j : Int) * d = x at in1 md ⊢
          refine ⟨du, _, _, _, rfl, rfl, .inl (.inl ha), dueL_at (by omega) (by omega), ?_⟩
          obtain ⟨k, rfl⟩ := Int.eq_ofNat_of_zero_le (show 0 ≤ x by omega)
          walk_at "go"
          refine ⟨_, rfl, _, rfl, du, _, _, k, rfl, rfl, ha, ixN_nat (by rw [dueL_len]; omega), _, rfl, ea.mut ndu0, ?_, ?_⟩
          · rw [upd_ne (Ne.symm hnd)]; exact fa
          · rw [upd_same, dueL_set (by omega)]
            congr 2
            refine dueL_congr fun y _ _ => ?_
            have ej : ((j + 1 : Nat) : Int) * d = (j : Int) * d + d := by rw [Int.natCast_add, Int.add_mul]; simp
            by_cases ez : y = (k : Int)
            · subst ez
              rw [if_pos rfl, if_neg (by omega), if_pos ⟨md, by omega, by rw [ej]; omega⟩]
            · rw [if_neg ez]
              by_cases c1 : y % d = 0 ∧ d ≤ y ∧ y < d + (j : Int) * d
              · rw [if_pos c1, if_pos ⟨c1.1, c1.2.1, by rw [ej]; omega⟩]
              · rw [if_neg c1, if_neg]
                rintro ⟨c2, c3, c4⟩
                refine c1 ⟨c2, c3, ?_⟩
                rw [ej] at c4
                obtain ⟨u, hu⟩ := Int.dvd_of_emod_eq_zero c2
                obtain ⟨v, hv⟩ := Int.dvd_of_emod_eq_zero md
                have : u < v + 1 := by
                  by_cases hh : u < v + 1
                  · exact hh
                  · have : d * (v + 1) ≤ d * u := Int.mul_le_mul_of_nonneg_left (by omega) (by omega)
                    rw [Int.mul_add, Int.mul_one] at this
                    omega
                have uv : u ≠ v := fun z => ez (by rw [hu, hv, z])
                have : d * (u + 1) ≤ d * v := Int.mul_le_mul_of_nonneg_left (by omega) (by omega)
                rw [Int.mul_add, Int.mul_one] at this
                omega
        · obtain ⟨z, rfl, ea, fa, ha⟩ := h
          walk_at "go"
          refine ⟨_, _, rfl, hi, ea, _, _, ha, fa, ?_⟩
          have p := sv.put hi hb
          rw [hd] at p
          refine p.congr hi fun x h1 h2 => ?_
          by_cases g : x % d = 0
          · rw [if_pos g, if_pos]
            have le := le_of_goes (by omega) g
            refine ⟨g, le, ?_⟩
            have e1 : ((n : Int) / d).toNat = (n : Int) / d := Int.toNat_of_nonneg (Int.ediv_nonneg (by omega) (by omega))
            rw [e1]
            have := Int.lt_ediv_add_one_mul_self (n : Int) (show 0 < d by omega)
            rw [Int.add_mul, Int.one_mul] at this
            omega
          · rw [if_neg g, if_neg fun z => g z.1]
      · walk_at "go"
        exact ⟨_, _, rfl, hi, e8, Fs, Bs, h8, f8, sv.skip hi hb⟩
    · obtain ⟨y, z, rfl, _, e8, Fs, Bs, h8, f8, sv⟩ := h
      walk_at "go"
      exact q Fs ⟨sv.rise, sv.rng, opens_eq hD hm sv.done⟩ fo H8 nfo0 e8 f8
end
abbrev s__law_doors : Stmt := topS 21
section
variable {P : Program} {w : World} {K : PySem.W.Frag} {mg : Str → Option Value} {base : Heap}
/-- some doors by the cells: rising, from 1 to n -/
def spLawDoors (K : PySem.W.Frag) : Sp := fun vs H Q _ => ∃ (a : Addr) (ns : List Int) (by_ : Int) (n : Nat), vs = [.ref a, .int by_, .int n] ∧ SqL K H a (ns.map V.int) ∧ ns.length ≤ 63 ∧ Bits ns ∧ 0 ≤ by_ ∧ by_ ≤ 100 ∧ n ≤ 1000 ∧
  ∀ D : List Int, D.Pairwise (· < ·) → (∀ x ∈ D, 1 ≤ x ∧ x ≤ n) → RetL (D.map V.int) H Q
theorem ok__law_doors (F : Df K mg "_law_doors" s__law_doors ["_law_script", "_law_by", "_law_many"]) (B : Blt mg) (c__law_number : Cal P w K mg base CX0 1 "_law_number" spLawNumber) : Cal P w K mg base CX0 2 "_law_doors" (spLawDoors K) := by
  have sc : FnScope ["_law_script", "_law_by", "_law_many", "_law_cells", "_law_whole", "_law_found", "_law_door", "_law_number_here"] ["_law_script", "_law_by", "_law_many"] (defScope s__law_doors) := ⟨rfl, rfl, rfl, by decide +kernel, rfl, by decide +kernel, by decide +kernel⟩
  refine F.ok sc (fun vs H Q E h => ?_) (fun f cdv A outer s H vs Q E hr h => ?_)
  · obtain ⟨a, ns, by_, n, rfl, _⟩ := h
    rfl
  · obtain ⟨a, ns, by_, n, rfl, hS, hl, hB, b0, b1, hn, q⟩ := h
    refine ⟨_, (pss_cons (ps_set (i := 3) sc.nd rfl (by first | exact Or.inl rfl | exact Or.inr rfl) (pe_ifExp (pt_cmpR (op_neD hr.units) (pv 0) (pe_lst pa_nil) (nomark _)) (pe_slice sl_list (pv 0) po_none (po_some pe_int)) (pe_lst (pa_cons pe_int pa_nil))))
      (pss_cons (ps_set (i := 4) sc.nd rfl (by first | exact Or.inl rfl | exact Or.inr rfl) (pe_op op_add (pe_callB call_abs_s (by rfl) B.abs_ boot_abs (pa_cons (pe_callB (cr_sum rfl) (by rfl) B.sum_ boot_sum (pa_cons (pv 3) pa_nil)) pa_nil)) (pv 1)))
      (pss_cons (ps_set (i := 5) sc.nd rfl (by first | exact Or.inl rfl | exact Or.inr rfl) (pe_lst pa_nil))
      (pss_cons (ps_for PassesOwn.never rfl (pi_range2 (by rfl) B.range_ (pa_cons pe_int (pa_cons (pe_op op_add (pv 2) pe_int) pa_nil))) (pg_name (i := 6) sc.nd rfl (by first | exact Or.inl rfl | exact Or.inr rfl))
      (pss_cons (ps_set (i := 7) sc.nd rfl (by first | exact Or.inl rfl | exact Or.inr rfl) (pe_d c__law_number hr (by decide) (by rfl) (pa_cons (pe_ix ix_list (pv 3) (pe_op op_mod (pe_op op_add (pv 6) (pv 1)) (pe_callB call_len_s (by rfl) B.len_ boot_len (pa_cons (pv 3) pa_nil))) (fun _ _ => rfl)) (pa_cons (pe_op op_add (pv 6) (pv 1)) (pa_cons (pv 4) pa_nil)))))
      (pss_one (ps_if (pt_cmpR op_eq (pe_op op_mod (pe_op op_fdiv (pv 7) pe_int) (pe_ix ix_tup (pe_tup (pa_cons pe_int (pa_cons pe_int (pa_cons pe_int (pa_cons pe_int pa_nil))))) (pe_op op_mod (pv 4) pe_int) (fun _ _ => rfl))) pe_int (nomark _))
      (pss_one (ps_expr (pe_bm PySem.F.plainAttrs_list PySem.F.slot_list_append PySem.F.type_list_append mt_append (pv 5) (pa_cons (pv 6) pa_nil)))) pss_nil))))
      (pss_one (ps_ret (pv 5))))))), ?_⟩
    walk_at "go1"
    refine c_ev (fun v H1 => ∃ cs c, v = .ref c ∧ Ex H H1 ∧ H1 c = some (.lst (cs.map V.int)) ∧ cs ≠ [] ∧ cs.length ≤ 63 ∧ ∀ z ∈ cs, z.natAbs < 2 ^ big) (fun Q' k => ?_) (fun v H1 hv => ?_)
    · walk_at "go"
      refine ⟨Nat.zero_le _, fun p np => ?_⟩
      have eP : Ex H (upd H p (.lst [])) := Ex.new np
      refine c_neL (xs := ns) (ys := []) (ex_l eP hS) (.inl (.inl upd_same)) ?_
      walk_at "go"
      refine w_2 (fun hb => ?_) (fun hb => ?_)
      · walk_at "go"
        refine ⟨a, _, rfl, ex_l eP hS, fun c nc => k _ _ ⟨ns, c, rfl, eP.trans (Ex.new nc), ?_, ?_, hl, fun z hz => num_le (num_bits (hB z hz)) (by decide)⟩⟩
        · rw [upd_same, cut63 (by rw [List.length_map]; exact hl)]
        · intro z
          rw [decide_eq_true z] at hb
          cases hb
      · walk_at "go"
        refine ⟨by show 1 ≤ sizeLine; decide, fun c nc => k _ _ ⟨[5], c, rfl, eP.trans (Ex.new nc), ?_, by simp, by simp, fun z hz => ?_⟩⟩
        · rw [upd_same]; rfl
        · rw [List.mem_singleton.mp hz]
          exact num_le (n := big) (m := 3) (by decide) (by decide)
    obtain ⟨cs, c, rfl, e1, hc, hne, hcl, hcb⟩ := hv
    walk_at "go"
    refine c_sum (.inl (.inl hc)) ?_
    walk_at "go"
    refine c_abs ?_
    walk_at "go"
    generalize hW : ((cs.sum.natAbs : Int) + by_) = W
    have W0 : 0 ≤ W := by omega
    walk_at "go"
    refine ⟨Nat.zero_le _, fun fo nfo => ?_⟩
    have e3 : Ex H1 (upd H1 fo (.lst [])) := Ex.new nfo
    have e13 := e1.trans e3
    have nfo0 : H fo = none := fresh_back e1 nfo
    have hc3 : (upd H1 fo (.lst [])) c = some (.lst (cs.map V.int)) := e3 _ _ hc
    have hf3 : (upd H1 fo (.lst [])) fo = some (.lst (([] : List Int).map V.int)) := upd_same
    have hne3 : c ≠ fo := fun z => by rw [z] at hc; rw [nfo] at hc; cases hc
    generalize upd H1 fo (.lst []) = H3 at e3 e13 hc3 hf3 ⊢
    have hcl' : 0 < (cs.length : Int) := by
      cases cs with
      | nil => exact absurd rfl hne
      | cons x r => rw [List.length_cons]; omega
    walk_at "go"
    refine ⟨1, (n : Int) + 1, rfl, by omega, ?_⟩
    rw [show ((n : Int) + 1 - 1).toNat = n by omega]
    refine f_range (fun i σ H4 => ∃ y z, σ = [some (.ref a), some (.int by_), some (.int n), some (.ref c), some (.int W), some (.ref fo), y, z] ∧ Ex H H4 ∧ H4 c = some (.lst (cs.map V.int)) ∧
        ∃ D : List Int, H4 fo = some (.lst (D.map V.int)) ∧ D.length ≤ i ∧ D.Pairwise (· < ·) ∧ ∀ x ∈ D, 1 ≤ x ∧ x ≤ i)
      ⟨_, _, rfl, e13, hc3, [], hf3, Nat.zero_le _, List.Pairwise.nil, fun x h => nomatch h⟩ (fun i σ H4 hi hP => ?_) (fun σ H4 hP => ?_)
    · obtain ⟨y, z, rfl, e4, hc4, D, hf4, hDl, hDr, hDm⟩ := hP
      walk_at "go"
      refine c_len (.inl (.inl hc4)) ?_
      walk_at "go"
      refine c_I (by rw [List.length_map]; exact hcl') ?_
      rw [List.length_map]
      generalize hx : (1 + (i : Int) + by_) % (cs.length : Int) = ix
      have x0 : 0 ≤ ix := by rw [← hx]; exact Int.emod_nonneg _ (by omega)
      have x1 : ix < cs.length := by rw [← hx]; exact Int.emod_lt_of_pos _ hcl'
      refine ⟨c, _, _, _, rfl, rfl, .inl (.inl hc4), atI_int x0 x1, ?_⟩
      walk_at "go"
      refine ⟨_, _, _, rfl, hcb _ (getD_mem (by omega)), by omega, by omega, fun nn _ => ?_⟩
      walk_at "go"
      refine c_I ⟨by decide, by decide⟩ ?_
      walk_at "go"
      refine ⟨by show 4 ≤ sizeLine; decide, fun tp ntp => ?_⟩
      walk_at "go"
      refine c_I (by decide) ?_
      have i0 : 0 ≤ W % 4 := Int.emod_nonneg _ (by decide)
      have i1 : W % 4 < 4 := Int.emod_lt_of_pos _ (by decide)
      have hwd : ∃ wd : Int, atI [V.int 2, .int 5, .int 1, .int 30] (W % 4) = some (.int wd) ∧ 1 ≤ wd ∧ wd ≤ 30 := by
        have c4 : W % 4 = 0 ∨ W % 4 = 1 ∨ W % 4 = 2 ∨ W % 4 = 3 := by omega
        rcases c4 with z | z | z | z <;> rw [z]
        · exact ⟨2, rfl, by decide, by decide⟩
        · exact ⟨5, rfl, by decide, by decide⟩
        · exact ⟨1, rfl, by decide, by decide⟩
        · exact ⟨30, rfl, by decide, by decide⟩
      obtain ⟨wd, hwd, w1, w2⟩ := hwd
      have e5 : Ex H4 (upd H4 tp (.tup [V.int 2, .int 5, .int 1, .int 30])) := Ex.new ntp
      refine ⟨tp, _, _, _, rfl, rfl, .inl (.inl upd_same), hwd, ?_⟩
      generalize upd H4 tp (.tup [V.int 2, .int 5, .int 1, .int 30]) = H5 at e5 ⊢
      walk_at "go"
      refine c_I (by omega) ?_
      walk_at "go"
      refine w_2 (fun _ => ?_) (fun _ => ?_)
      · walk_at "go"
        refine ⟨tyLl (.inl (.inl (e5 _ _ hf4))), ?_⟩
        walk_at "go"
        refine c_app (e5 _ _ hf4) (by rw [List.length_map]; omega) ?_
        refine ⟨_, _, rfl, (e4.trans e5).mut nfo0, ?_, D ++ [1 + (i : Int)], ?_, ?_, ?_, ?_⟩
        · rw [upd_ne hne3]; exact e5 _ _ hc4
        · rw [upd_same, List.map_append]; rfl
        · rw [List.length_append]; show D.length + 1 ≤ i + 1; omega
        · refine List.pairwise_append.mpr ⟨hDr, List.pairwise_singleton _ _, fun x hx y hy => ?_⟩
          have := hDm x hx
          rw [List.mem_singleton.mp hy]; omega
        · intro x hx
          rcases List.mem_append.mp hx with m | m
          · have := hDm x m; omega
          · rw [List.mem_singleton.mp m]; omega
      · walk_at "go"
        exact ⟨_, _, rfl, e4.trans e5, e5 _ _ hc4, D, e5 _ _ hf4, by omega, hDr, fun x hx => by have := hDm x hx; omega⟩
    · obtain ⟨y, z, rfl, e4, hc4, D, hf4, hDl, hDr, hDm⟩ := hP
      walk_at "go"
      exact q D hDr hDm fo H4 nfo0 e4 hf4
end
abbrev s_law : Stmt := topS 22
section
variable {P : Program} {w : World} {K : PySem.W.Frag} {mg : Str → Option Value} {base : Heap}
def spLaw (K : PySem.W.Frag) : Sp := fun vs H Q _ => ∃ (a : Addr) (ns : List Int), vs = [.ref a] ∧ SqL K H a (ns.map V.int) ∧ ns.length ≤ 63 ∧ Bits ns ∧ ∀ H', Q (.bl true) H'
theorem c_lc {σ : L2.St} {H : Hp} {Q : VK} {wi : TI} {g : TG} {tt : TT} {te : TE} {vs : List Nat} (k : wi σ H fun J H1 => ∀ D, H1 D = none → ∃ W : Nat → Nat → Hp → Prop, (∃ m, W 0 m (upd H1 D (.lst []))) ∧ ∀ i m H, W i m H →
    (J.stop i H ∧ Q (.ref D) H) ∨ (J.go i H ∧ ∃ Nx : Hp → Prop, (∀ H', Nx H' → ∃ m', m' < m ∧ W (i + 1) m' H') ∧ ∀ x H', J.yld i H x H' → g x (wipe σ vs) H' fun σ2 H2 => wipe σ2 vs = wipe σ vs ∧ tt σ2 H2 fun b H3 =>
      if b = true then te σ2 H3 fun y H4 => ∃ acc, H4 D = some (.lst acc) ∧ acc.length < sizeLine ∧ Nx (upd H4 D (.lst (acc ++ [y]))) else Nx H3)) : tLc wi g tt te vs σ H Q := k
theorem brings_uniq {n : Nat} {D F G : List Int} (h : Brings n D F) (h' : Brings n D G) : F = G :=
  same_rows h.rise h'.rise h.rng h'.rng fun d h1 h2 => by
    have e := h.opens.trans h'.opens.symm
    have m : d ∈ opens F n ↔ d ∈ opens G n := by rw [e]
    rw [mem_opens, mem_opens] at m
    rw [Bool.eq_iff_iff]
    exact ⟨fun z => (m.mp ⟨⟨h1, h2⟩, z⟩).2, fun z => (m.mpr ⟨⟨h1, h2⟩, z⟩).2⟩
def bringsB (n : Nat) (D F : List Int) : Bool := decide (F.Pairwise (· < ·)) && (F.all fun x => decide (1 ≤ x ∧ x ≤ n)) && decide (opens F n = D)
theorem brings_by {n : Nat} {D F : List Int} (h : bringsB n D F = true) : Brings n D F := by
  unfold bringsB at h
  rw [Bool.and_eq_true, Bool.and_eq_true] at h
  exact ⟨of_decide_eq_true h.1.1, fun x hx => of_decide_eq_true (List.all_eq_true.mp h.1.2 x hx), of_decide_eq_true h.2⟩
theorem ok_law {f : Addr} {fd : FuncData} (F : Fun K "law" "law" s_law f fd) (B : Blt mg) (c__law_turners : Cal P w K mg base CX0 2 "_law_turners" (spLawTurners K)) (c__law_open : Cal P w K mg base CX0 1 "_law_open" (spLawOpen K))
    (c__law_doors : Cal P w K mg base CX0 2 "_law_doors" (spLawDoors K)) (c_turners_for : Cal P w K mg base CX0 2 "turners_for" (spBring K)) (c_kept : Cal P w K mg base CX0 3 "kept" (spKept K)) (c_open_doors : Cal P w K mg base CX0 3 "open_doors" (spOpens K)) : FnOk P w K mg base CX0 4 f fd ["_law_script"] (spLaw K) := by
  have sc : FnScope ["_law_script", "_law_whole", "_law_by", "_law_many", "_law_doors_here", "_law_handed", "_law_again", "_law_found", "_law_one", "_law_door", "_law_turners_here"] ["_law_script"] (defScope s_law) := ⟨rfl, rfl, rfl, by decide +kernel, rfl, by decide +kernel, by decide +kernel⟩
  refine F.ok sc (fun vs H Q E h => ?_) (fun cdv A outer s H vs Q E hr h => ?_)
  · obtain ⟨a, ns, rfl, _⟩ := h
    rfl
  · obtain ⟨a, ns, rfl, hS, hl, hB, q⟩ := h
    refine ⟨_, (pss_cons (ps_set (i := 1) sc.nd rfl (by first | exact Or.inl rfl | exact Or.inr rfl) (pe_callB call_abs_s (by rfl) B.abs_ boot_abs (pa_cons (pe_callB (cr_sum rfl) (by rfl) B.sum_ boot_sum (pa_cons (pe_slice sl_list (pv 0) po_none (po_some pe_int)) pa_nil)) pa_nil)))
      (pss_cons (ps_for PassesOwn.never rfl (pi_list (pe_lst (pa_cons pe_int (pa_cons pe_int pa_nil)))) (pg_name (i := 2) sc.nd rfl (by first | exact Or.inl rfl | exact Or.inr rfl))
      (pss_cons (ps_set (i := 3) sc.nd rfl (by first | exact Or.inl rfl | exact Or.inr rfl) (pe_ifExp (pt_cmpR op_eq (pe_op op_mod (pv 1) pe_int) (pv 2) (nomark _)) (pe_op op_add pe_int (pe_op op_mod (pv 1) pe_int)) (pe_op op_mod (pe_op op_add (pv 1) (pe_op op_mul (pv 2) pe_int)) pe_int)))
      (pss_cons (ps_for PassesOwn.never rfl (pi_list (pe_lst (pa_cons (pe_d c__law_doors hr (by decide) (by rfl) (pa_cons (pv 0) (pa_cons (pv 2) (pa_cons (pv 3) pa_nil)))) (pa_cons (pe_lst pa_nil) (pa_cons (pe_listRg rfl (by rfl) B.list_ (prg_2 (by rfl) B.range_ pe_int (pe_op op_add (pv 3) pe_int))) pa_nil))))) (pg_name (i := 4) sc.nd rfl (by first | exact Or.inl rfl | exact Or.inr rfl))
      (pss_cons (ps_set (i := 5) sc.nd rfl (by first | exact Or.inl rfl | exact Or.inr rfl) (pe_callTy call_list_s (by rfl) B.list_ boot_list (pa_cons (pv 4) pa_nil)))
      (pss_one (ps_for PassesOwn.never rfl (pi_range1 (by rfl) B.range_ (pa_cons pe_int pa_nil)) (pg_name (i := 6) sc.nd rfl (by first | exact Or.inl rfl | exact Or.inr rfl))
      (pss_cons (ps_set (i := 7) sc.nd rfl (by first | exact Or.inl rfl | exact Or.inr rfl) (pe_d c_turners_for hr (by decide) (by rfl) (pa_cons (pv 3) (pa_cons (pv 5) pa_nil))))
      (pss_cons (ps_if (PW.pt (pw_or (pt_not (pt_val (pe_callB call_isi (by rfl) B.isinstance_ boot_isinstance (pa_cons (pv 7) (pa_cons (pe_bltn (v := .ty "list") (by rfl) B.list_ boot_list rfl) pa_nil))))) (pw_or (pt_cmpR (op_neD hr.units) (pv 7) (pe_callB (call_sorted_set rfl) (by rfl) B.sorted_ boot_sorted (pa_cons (pe_callTy (call_set_s rfl) (by rfl) B.set_ boot_set (pa_cons (pv 7) pa_nil)) pa_nil)) (nomark _)) (pw_or1 (pt_cmpR (op_neD hr.units) (pv 5) (pv 4) (nomark _))))))
      (pss_one (ps_ret pe_bl)) pss_nil)
      (pss_cons (ps_if (pt_val (pe_callB (cr_any rfl) (by rfl) B.any_ boot_any (pa_cons (pe_lc (own := [("_law_one", 8)]) (g := (gName 8)) (by rfl) sc.nd (pi_list (pv 7)) (blkOk_by (own := [("_law_one", 8)]) (N := ["_law_script", "_law_whole", "_law_by", "_law_many", "_law_doors_here", "_law_handed", "_law_again", "_law_found", "_law_one", "_law_door", "_law_turners_here"]) (sc := defScope s_law) (by decide +kernel)) (fun _ _ _ _ _ => (pg_name (i := 8) sc.nd rfl (by first | exact Or.inl rfl | exact Or.inr rfl))) (fun _ _ _ _ _ => pts_nil) (fun _ _ _ _ _ => (pe_or (pe_callB (show CallR _ _ (rIsi K) from call_isi) (by rfl) B.isinstance_ boot_isinstance (pa_cons (pv 8) (pa_cons (pe_bltn (v := .ty "bool") (by rfl) B.bool_ boot_bool rfl) pa_nil))) (pe_one (pe_not (pe_chain op_le op_le pe_int (pv 8) (pv 3))))))) pa_nil)))
      (pss_one (ps_ret pe_bl)) pss_nil)
      (pss_cons (ps_if (pt_cmpR (op_neD hr.units) (pe_lc (own := [("_law_door", 9)]) (g := (gName 9)) (by rfl) sc.nd (pi_range2 (by rfl) B.range_ (pa_cons pe_int (pa_cons (pe_op op_add (pv 3) pe_int) pa_nil))) (blkOk_by (own := [("_law_door", 9)]) (N := ["_law_script", "_law_whole", "_law_by", "_law_many", "_law_doors_here", "_law_handed", "_law_again", "_law_found", "_law_one", "_law_door", "_law_turners_here"]) (sc := defScope s_law) (by decide +kernel)) (fun _ _ _ _ _ => (pg_name (i := 9) sc.nd rfl (by first | exact Or.inl rfl | exact Or.inr rfl))) (fun _ _ _ _ _ => (pts_one (pt_val (pe_d c__law_open hr (by decide) (by rfl) (pa_cons (pv 7) (pa_cons (pv 9) pa_nil)))))) (fun _ _ _ _ _ => (pv 9))) (pv 4) (nomark _))
      (pss_one (ps_ret pe_bl)) pss_nil)
      (pss_one (ps_expr (pe_bm PySem.F.plainAttrs_list PySem.F.slot_list_append PySem.F.type_list_append mt_append (pv 7) (pa_cons pe_int pa_nil))))))))))))
      (pss_cons (ps_setLc (i := 10) (own := [("_law_one", 8)]) (g := (gName 8)) (by rfl) sc.nd rfl rfl (sw_true rfl rfl rfl (by decide +kernel)) (pi_list (pe_d c_kept hr (by decide) (by rfl) (pa_cons (pe_d c__law_turners hr (by decide) (by rfl) (pa_cons (pv 0) (pa_cons (pv 2) (pa_cons pe_int pa_nil)))) pa_nil))) (blkOk_by (own := [("_law_one", 8)]) (N := ["_law_script", "_law_whole", "_law_by", "_law_many", "_law_doors_here", "_law_handed", "_law_again", "_law_found", "_law_one", "_law_door", "_law_turners_here"]) (sc := defScope s_law) (by decide +kernel)) (fun _ _ _ _ _ => (pg_name (i := 8) sc.nd rfl (by first | exact Or.inl rfl | exact Or.inr rfl))) (fun _ _ _ _ _ => (pts_one (pt_cmpR op_le (pv 8) (pv 3) (nomark _)))) (fun _ _ _ _ _ => (pv 8)))
      (pss_one (ps_if (pt_cmpR (op_neD hr.units) (pe_d c_turners_for hr (by decide) (by rfl) (pa_cons (pv 3) (pa_cons (pe_d c_open_doors hr (by decide) (by rfl) (pa_cons (pv 10) (pa_cons (pv 3) pa_nil))) pa_nil))) (pv 10) (nomark _))
      (pss_one (ps_ret pe_bl)) pss_nil))))))
      (pss_one (ps_ret (pe_and (pe_cmpR (op_eqD hr.units) (pe_d c_turners_for hr (by decide) (by rfl) (pa_cons pe_int (pa_cons (pe_lst (pa_cons pe_int (pa_cons pe_int pa_nil))) pa_nil))) (pe_lst (pa_cons pe_int (pa_cons pe_int (pa_cons pe_int (pa_cons pe_int (pa_cons pe_int (pa_cons pe_int pa_nil))))))) (nomark _)) (pe_and (pe_cmpR (op_eqD hr.units) (pe_d c_turners_for hr (by decide) (by rfl) (pa_cons pe_int (pa_cons (pe_lst (pa_cons pe_int (pa_cons pe_int pa_nil))) pa_nil))) (pe_lst (pa_cons pe_int pa_nil)) (nomark _)) (pe_one (pe_cmpR (op_eqD hr.units) (pe_d c_turners_for hr (by decide) (by rfl) (pa_cons pe_int (pa_cons (pe_lst pa_nil) pa_nil))) (pe_lst pa_nil) (nomark _))))))))), ?_⟩
    walk_at "go"
    refine ⟨a, _, rfl, hS, fun c nc => ?_⟩
    rw [cut63 (by rw [List.length_map]; exact hl)]
    walk_at "go"
    refine c_sum (.inl (.inl upd_same)) ?_
    walk_at "go"
    refine c_abs ?_
    have ec : Ex H (upd H c (.lst (ns.map V.int))) := Ex.new nc
    generalize upd H c (.lst (ns.map V.int)) = Hc at ec ⊢
    generalize hW : (ns.sum.natAbs : Int) = W
    have W0 : 0 ≤ W := by omega
    walk_at "go"
    refine ⟨by show 2 ≤ sizeLine; decide, fun bl nbl => ?_⟩
    have e0 : Ex H (upd Hc bl (.lst [.int 0, .int 1])) := ec.trans (Ex.new nbl)
    have hbl : (upd Hc bl (.lst [.int 0, .int 1])) bl = some (.lst [.int 0, .int 1]) := upd_same
    generalize upd Hc bl (.lst [.int 0, .int 1]) = Hb at e0 hbl ⊢
    refine ⟨bl, rfl, ⟨_, .inl (.inl hbl)⟩, f_list (xs := [.int 0, .int 1]) (fun i σ H' => ∃ y2 y3 y4 y5 y6 y7 y8 y9 y10, σ = [some (.ref a), some (.int W), y2, y3, y4, y5, y6, y7, y8, y9, y10] ∧ Ex Hb H')
      ⟨_, _, _, _, _, _, _, _, _, rfl, Ex.refl _⟩ (fun i σ H' _ h => by obtain ⟨_, _, _, _, _, _, _, _, _, _, e⟩ := h; exact .inl (.inl (e _ _ hbl))) (fun i x σ H1 hx h => ?_) (fun σ H1 h => ?_)⟩
    · obtain ⟨y2, y3, y4, y5, y6, y7, y8, y9, y10, rfl, e1⟩ := h
      obtain ⟨b, rfl, b0, b1⟩ : ∃ b : Int, x = .int b ∧ 0 ≤ b ∧ b ≤ 1 := by
        have hm := List.mem_of_getElem? hx
        simp only [List.mem_cons, List.not_mem_nil, or_false] at hm
        rcases hm with z | z <;> subst z
        · exact ⟨0, rfl, by decide, by decide⟩
        · exact ⟨1, rfl, by decide, by decide⟩
      refine c_g ?_
      walk_at "go1"
      refine c_ev (fun v H' => ∃ n : Nat, v = .int n ∧ n ≤ 300 ∧ H' = H1) (fun Q' k => ?_) (fun v H' hv => ?_)
      · walk_at "go"
        refine c_I (by decide) ?_
        walk_at "go"
        refine w_2 (fun _ => ?_) (fun _ => ?_)
        · walk_at "go"
          refine c_I (by decide) ?_
          have r0 := Int.emod_nonneg W (show (151 : Int) ≠ 0 by decide)
          have r1 := Int.emod_lt_of_pos W (show (0 : Int) < 151 by decide)
          walk_at "go"
          exact k _ _ ⟨(150 + W % 151).toNat, by rw [Int.toNat_of_nonneg (by omega)], by omega, rfl⟩
        · walk_at "go"
          refine c_I (.inl ⟨by omega, by omega⟩) ?_
          walk_at "go"
          refine c_I (by decide) ?_
          have r0 := Int.emod_nonneg (W + b * 7) (show (81 : Int) ≠ 0 by decide)
          have r1 := Int.emod_lt_of_pos (W + b * 7) (show (0 : Int) < 81 by decide)
          walk_at "go"
          exact k _ _ ⟨((W + b * 7) % 81).toNat, by rw [Int.toNat_of_nonneg (by omega)], by omega, rfl⟩
      obtain ⟨n, rfl, hn, eH⟩ := hv
      rw [eH]
      clear eH
      walk_at "go"
      refine ⟨a, ns, b, n, rfl, ex_l (e0.trans e1) hS, hl, hB, b0, by omega, by omega, fun D hDr hDm d1 H2 nd1 e2 hd1 => ?_⟩
      walk_at "go"
      refine ⟨Nat.zero_le _, fun d2 nd2 => ?_⟩
      have e3 : Ex H2 (upd H2 d2 (.lst [])) := Ex.new nd2
      have hd2 : (upd H2 d2 (.lst [])) d2 = some (.lst (([] : List Int).map V.int)) := upd_same
      generalize upd H2 d2 (.lst []) = H3 at e3 hd2 ⊢
      walk_at "go"
      refine c_lstRg (c_rg2 ?_)
      walk_at "go"
      refine ⟨1, (n : Int) + 1, rfl, rfl, ⟨by omega, by omega, by omega, by omega, by omega⟩, fun d3 nd3 => ?_⟩
      rw [rgV_upto]
      have e4 : Ex H3 (upd H3 d3 (.lst ((upto n).map V.int))) := Ex.new nd3
      have hd3 : (upd H3 d3 (.lst ((upto n).map V.int))) d3 = some (.lst ((upto n).map V.int)) := upd_same
      generalize upd H3 d3 (.lst ((upto n).map V.int)) = H4 at e4 hd3 ⊢
      walk_at "go"
      refine ⟨by show 3 ≤ sizeLine; decide, fun li nli => ?_⟩
      have e5 : Ex H4 (upd H4 li (.lst [.ref d1, .ref d2, .ref d3])) := Ex.new nli
      have hli : (upd H4 li (.lst [.ref d1, .ref d2, .ref d3])) li = some (.lst [.ref d1, .ref d2, .ref d3]) := upd_same
      generalize upd H4 li (.lst [.ref d1, .ref d2, .ref d3]) = H5 at e5 hli ⊢
      have rows : ∀ x ∈ [V.ref d1, .ref d2, .ref d3], ∃ (p : Addr) (D' : List Int), x = .ref p ∧ H5 p = some (.lst (D'.map V.int)) ∧ D'.Pairwise (· < ·) ∧ ∀ x ∈ D', 1 ≤ x ∧ x ≤ (n : Int) := by
        intro x hx
        simp only [List.mem_cons, List.not_mem_nil, or_false] at hx
        rcases hx with z | z | z <;> subst z
        · exact ⟨d1, D, rfl, e5 _ _ (e4 _ _ (e3 _ _ hd1)), hDr, hDm⟩
        · exact ⟨d2, [], rfl, e5 _ _ (e4 _ _ hd2), List.Pairwise.nil, fun x h => nomatch h⟩
        · exact ⟨d3, upto n, rfl, e5 _ _ hd3, upto_rise n, fun x h => mem_upto.mp h⟩
      have e15 : Ex H1 H5 := ((e2.trans e3).trans e4).trans e5
      refine ⟨li, rfl, ⟨_, .inl (.inl hli)⟩, f_list (xs := [.ref d1, .ref d2, .ref d3]) (fun i σ H' => ∃ y4 y5 y6 y7 y8 y9, σ = [some (.ref a), some (.int W), some (.int b), some (.int n), y4, y5, y6, y7, y8, y9, y10] ∧ Ex H5 H')
        ⟨_, _, _, _, _, _, rfl, Ex.refl _⟩ (fun i σ H' _ h => by obtain ⟨_, _, _, _, _, _, _, e⟩ := h; exact .inl (.inl (e _ _ hli))) (fun i x σ H6 hx h => ?_) (fun σ H6 h => ?_)⟩
      · obtain ⟨y4, y5, y6, y7, y8, y9, rfl, e6⟩ := h
        obtain ⟨dp, D', rfl, hdp, hr', hm'⟩ := rows x (List.mem_of_getElem? hx)
        have hdp6 := e6 _ _ hdp
        walk_at "go"
        refine c_list (.inl (.inl hdp6)) fun h nh => ?_
        have e7 : Ex H6 (upd H6 h (.lst (D'.map V.int))) := Ex.new nh
        have hh7 : (upd H6 h (.lst (D'.map V.int))) h = some (.lst (D'.map V.int)) := upd_same
        have hdp7 := e7 _ _ hdp6
        generalize upd H6 h (.lst (D'.map V.int)) = H7 at e7 hh7 hdp7 ⊢
        walk_at "go"
        refine ⟨2, rfl, by decide, by decide, f_range (fun i σ H' => ∃ y6 y7 y8 y9, σ = [some (.ref a), some (.int W), some (.int b), some (.int n), some (.ref dp), some (.ref h), y6, y7, y8, y9, y10] ∧ Ex H7 H') ⟨_, _, _, _, rfl, Ex.refl _⟩ (fun i σ H8 hi hP => ?_) (fun σ H8 hP => ?_)⟩
        · obtain ⟨y6, y7, y8, y9, rfl, e8⟩ := hP
          have hh8 := e8 _ _ hh7
          have hdp8 := e8 _ _ hdp7
          walk_at "go"
          refine ⟨h, D', n, rfl, .inl (.inl hh8), by omega, hr', hm', fun Fs hF fo H9 nfo e9 hfo => ?_⟩
          have lF : Fs.length ≤ n := rise_len hF.rise hF.rng
          walk_at "go"
          refine c_isiL (.inl (.inl hfo)) ?_
          walk_at "go"
          refine c_mkset (.inl (.inl hfo)) (by omega) fun sp so hso nsp => ?_
          have e10 := Ex.new (o := so) nsp
          have hsp : (upd H9 sp so) sp = some so := upd_same
          generalize upd H9 sp so = Ha at e10 hsp ⊢
          walk_at "go"
          refine c_sortset hsp hso fun ms mp hms hmem nmp => ?_
          have ems : ms = Fs := rise_eq hms hF.rise fun x => by rw [hmem x]; simp
          subst ems
          have e11 := e10.trans (Ex.new (o := .lst (ms.map V.int)) nmp)
          walk_at "go"
          refine c_neL (.inl (.inl (e11 _ _ hfo))) (.inl (.inl upd_same)) ?_
          walk_at "go"
          refine w_f (by simp) ?_
          walk_at "go"
          generalize upd Ha mp (.lst (ms.map V.int)) = Hd at e11 ⊢
          have hfo11 := e11 _ _ hfo
          have hdp11 := e11 _ _ (e9 _ _ hdp8)
          refine c_neL (.inl (.inl (e11 _ _ (e9 _ _ hh8)))) (.inl (.inl hdp11)) ?_
          walk_at "go"
          refine w_f (by simp) ?_
          walk_at "go"
          refine el_lcL (K := K) (σ := [some (.ref a), some (.int W), some (.int b), some (.int n), some (.ref dp), some (.ref h), some (.int (0 + (i : Int))), some (.ref fo), y8, y9, y10]) (fun _ => true) (fun i => V.bl false) (ev_var rfl) (.inl (.inl hfo11)) (by rw [List.length_map]; omega) (fun x => rfl) (fun i x H1 e hx => ?_) (fun i x H1 e hx _ => ?_) Hd (Ex.refl Hd) _ (fun p He hp ee hE => ?_)
          · exact fun H2 _ QB k => k H2 (Ex.refl H2)
          · obtain ⟨rfl, hi, _⟩ := getD_of hx
            have hx1 := hF.rng _ (getD_mem hi)
            intro H2 e2 Q2 k
            walk_at "go"
            refine w_t (decide_eq_true hx1.1) ?_
            walk_at "go"
            rw [decide_eq_true hx1.2]
            exact k H2 (Ex.refl H2)
          rw [List.length_map, given_true ms.length fun _ => false, show (List.range ms.length).map (fun _ => false) = List.replicate ms.length false from by rw [List.map_const']; simp] at hE
          walk_at "go"
          refine c_any (.inl (.inl hE)) ?_
          rw [show (List.replicate ms.length false).any id = false from by simp]
          walk_at "go"
          refine el_lcR2 (σ := [some (.ref a), some (.int W), some (.int b), some (.int n), some (.ref dp), some (.ref h), some (.int (0 + (i : Int))), some (.ref fo), y8, y9, y10]) (lo := 1) (hi := (n : Int) + 1) (fun i => opn ms (1 + (i : Int))) (fun i => V.int (1 + (i : Int))) (fun H3 e3 Q3 k => ?_) (by omega) (by omega) (fun x => rfl) (fun i H3 e3 hi => ?_) (fun i H3 e3 hi _ => ev_var rfl) He (Ex.refl He) _ (fun p3 Hf hp3 ef hf => ?_)
          · walk_at "go"
            exact k H3 (Ex.refl H3)
          · intro H4 e4 Q4 k
            walk_at "go"
            refine ⟨fo, ms, _, rfl, .inl (.inl (e4 _ _ (e3 _ _ (ee _ _ hfo11)))), fun t ht => (hF.rng t ht).1, ?_⟩
            walk_at "go"
            exact k H4 (Ex.refl H4)
          rw [show ((n : Int) + 1 - 1).toNat = n by omega, given_opens (fun d => opn ms d)] at hf
          have eO : (upto n).filter (fun d => opn ms d) = D' := hF.opens
          rw [eO] at hf
          have ef2 := ee.trans ef
          walk_at "go"
          refine c_neL (.inl (.inl hf)) (.inl (.inl (ef2 _ _ hdp11))) ?_
          walk_at "go"
          refine w_f (by simp) ?_
          walk_at "go"
          refine ⟨tyLl (.inl (.inl (ef2 _ _ hfo11))), ?_⟩
          walk_at "go"
          refine c_app (ef2 _ _ hfo11) (by rw [List.length_map]; omega) ?_
          exact ⟨_, _, _, _, rfl, ((e8.trans e9).trans (e11.trans ef2)).mut (fresh_back e8 nfo)⟩
        · obtain ⟨y6, y7, y8, y9, rfl, e8⟩ := hP
          exact ⟨_, _, _, _, _, _, rfl, (e6.trans e7).trans e8⟩
      · obtain ⟨y4, y5, y6, y7, y8, y9, rfl, e6⟩ := h
        have e16 := (e0.trans e1).trans (e15.trans e6)
        walk_at "go1"
        refine c_lc ?_
        walk_at "go"
        refine ⟨a, ns, b, 30, rfl, ex_l e16 hS, hl, hB, b0, by omega, by decide, by decide, fun ts hM T H7 nT e7 hT => ?_⟩
        have hG := hM.good (by decide)
        walk_at "go"
        refine ⟨T, ts, rfl, .inl (.inl hT), hG, fun ks hk kp H8 nkp e8 hkp => ?_⟩
        have hGk : Good ks := ⟨by have := hG.len; have := hk.len; omega, hk.pos hG.pos⟩
        walk_at "go"
        refine ⟨kp, rfl, ⟨_, .inl (.inl hkp)⟩, fun Dl nDl => ?_⟩
        refine lc_list (K := K) (xs := ks.map V.int) (Cw H8 (fun i => decide (ks.getD i 0 ≤ (n : Int))) (fun i => V.int (ks.getD i 0)) Dl) ⟨nDl, Ex.new nDl, upd_same⟩ (fun i H' _ p => .inl (.inl (p.2.1 _ _ hkp))) (fun i x H' hi p => ?_) (fun H9 p => ?_)
        · obtain ⟨rfl, hi', _⟩ := getD_of hi
          have := hGk.len
          refine c_g ⟨rfl, cw_turn p (by omega) (fun H2 _ Q2 k => ?_) (fun _ => ev_var rfl)⟩
          walk_at "go"
          exact k H2 (Ex.refl H2)
        obtain ⟨_, e9, h9⟩ := p
        rw [List.length_map, given_filter ks fun x => decide (x ≤ (n : Int))] at h9
        have k0 : ∀ x ∈ ks.filter (fun x => decide (x ≤ (n : Int))), 1 ≤ x ∧ x ≤ (n : Int) := fun x hx => by
          obtain ⟨h1, h2⟩ := List.mem_filter.mp hx
          exact ⟨hGk.pos x h1, of_decide_eq_true h2⟩
        have k1 : (ks.filter (fun x => decide (x ≤ (n : Int)))).Pairwise (· < ·) := hk.rise.filter _
        have k2 : (ks.filter (fun x => decide (x ≤ (n : Int)))).length ≤ 40 := by
          have := List.length_filter_le (fun x => decide (x ≤ (n : Int))) ks
          have := hGk.len
          omega
        generalize ks.filter (fun x => decide (x ≤ (n : Int))) = us at h9 k0 k1 k2
        walk_at "go"
        refine ⟨Dl, us, n, rfl, .inl (.inl h9), ⟨k2, fun t ht => (k0 t ht).1⟩, by omega, fun op Ha nop ea hop => ?_⟩
        walk_at "go"
        refine ⟨op, opens us n, n, rfl, .inl (.inl hop), by omega, opens_rise us n, fun x hx => (mem_opens.mp hx).1, fun Fs hF fo Hb2 nfo eb hfo => ?_⟩
        have eF := brings_uniq hF ⟨k1, k0, rfl⟩
        subst eF
        walk_at "go"
        refine c_neL (.inl (.inl hfo)) (.inl (.inl (eb _ _ (ea _ _ h9)))) ?_
        walk_at "go"
        refine w_f (by simp) ?_
        walk_at "go"
        exact ⟨_, _, _, _, _, _, _, _, _, rfl, (e1.trans (e15.trans e6)).trans (((e7.trans e8).trans e9).trans (ea.trans eb))⟩
    · obtain ⟨y2, y3, y4, y5, y6, y7, y8, y9, y10, rfl, e1⟩ := h
      walk_at "go"
      refine ⟨by show 2 ≤ sizeLine; decide, fun l1 n1 => ?_⟩
      walk_at "go"
      refine ⟨l1, [1, 4], 6, rfl, .inl (.inl upd_same), by decide, by decide, by decide, fun Fs hF p1 H2 np1 e2 hp1 => ?_⟩
      have ek := brings_uniq (brings_by (n := 6) (D := [1, 4]) (F := [1, 2, 3, 4, 5, 6]) (by decide +kernel)) hF
      subst ek
      walk_at "go"
      refine ⟨by show 6 ≤ sizeLine; decide, fun l2 n2 => ?_⟩
      walk_at "go"
      refine c_eqL (xs := [1, 2, 3, 4, 5, 6]) (ys := [1, 2, 3, 4, 5, 6]) (.inl (.inl (Ex.new n2 _ _ hp1))) (.inl (.inl upd_same)) ?_
      walk_at "go"
      refine ⟨by show 2 ≤ sizeLine; decide, fun l3 n3 => ?_⟩
      walk_at "go"
      refine ⟨l3, [2, 4], 5, rfl, .inl (.inl upd_same), by decide, by decide, by decide, fun Fs hF p3 H4 np3 e4 hp3 => ?_⟩
      have ek := brings_uniq (brings_by (n := 5) (D := [2, 4]) (F := [2]) (by decide +kernel)) hF
      subst ek
      walk_at "go"
      refine ⟨by show 1 ≤ sizeLine; decide, fun l4 n4 => ?_⟩
      walk_at "go"
      refine c_eqL (xs := [2]) (ys := [2]) (.inl (.inl (Ex.new n4 _ _ hp3))) (.inl (.inl upd_same)) ?_
      walk_at "go"
      refine ⟨Nat.zero_le _, fun l5 n5 => ?_⟩
      walk_at "go"
      refine ⟨l5, [], 0, rfl, .inl (.inl upd_same), by decide, by decide, by decide, fun Fs hF p5 H6 np5 e6 hp5 => ?_⟩
      have ek := brings_uniq (brings_by (n := 0) (D := []) (F := []) (by decide +kernel)) hF
      subst ek
      walk_at "go"
      refine ⟨Nat.zero_le _, fun l6 n6 => ?_⟩
      walk_at "go"
      refine c_eqL (xs := []) (ys := []) (.inl (.inl (Ex.new n6 _ _ hp5))) (.inl (.inl upd_same)) ?_
      exact q _
end
theorem all_mk {l : PySem.W.OpenLaw} {w : World} {K : PySem.W.Frag} {h : Heap} {mg : Str → Option Value} {fa : Addr} (X : K.In h) (G : h.Ns mainGlobals mg) (hfa : mg "law" = some (.ref fa))
    {f_is_number : Addr} {od_is_number an_is_number : Option Addr} {sl_is_number : Array (Option Value)} {oc_is_number kV_is_number dc_is_number pm_is_number cd_is_number ct_is_number : Value}
    {f_asked_turners : Addr} {od_asked_turners an_asked_turners : Option Addr} {sl_asked_turners : Array (Option Value)} {oc_asked_turners kV_asked_turners dc_asked_turners pm_asked_turners cd_asked_turners ct_asked_turners : Value}
    {f_asked_small : Addr} {od_asked_small an_asked_small : Option Addr} {sl_asked_small : Array (Option Value)} {oc_asked_small kV_asked_small dc_asked_small pm_asked_small cd_asked_small ct_asked_small : Value}
    {f_stands_open : Addr} {od_stands_open an_stands_open : Option Addr} {sl_stands_open : Array (Option Value)} {oc_stands_open kV_stands_open dc_stands_open pm_stands_open cd_stands_open ct_stands_open : Value}
    {f_open_doors : Addr} {od_open_doors an_open_doors : Option Addr} {sl_open_doors : Array (Option Value)} {oc_open_doors kV_open_doors dc_open_doors pm_open_doors cd_open_doors ct_open_doors : Value}
    {f_left_over : Addr} {od_left_over an_left_over : Option Addr} {sl_left_over : Array (Option Value)} {oc_left_over kV_left_over dc_left_over pm_left_over cd_left_over ct_left_over : Value}
    {f_kept : Addr} {od_kept an_kept : Option Addr} {sl_kept : Array (Option Value)} {oc_kept kV_kept dc_kept pm_kept cd_kept ct_kept : Value}
    {f_turners_for : Addr} {od_turners_for an_turners_for : Option Addr} {sl_turners_for : Array (Option Value)} {oc_turners_for kV_turners_for dc_turners_for pm_turners_for cd_turners_for ct_turners_for : Value}
    {f__law_number : Addr} {od__law_number an__law_number : Option Addr} {sl__law_number : Array (Option Value)} {oc__law_number kV__law_number dc__law_number pm__law_number cd__law_number ct__law_number : Value}
    {f__law_turners : Addr} {od__law_turners an__law_turners : Option Addr} {sl__law_turners : Array (Option Value)} {oc__law_turners kV__law_turners dc__law_turners pm__law_turners cd__law_turners ct__law_turners : Value}
    {f__law_open : Addr} {od__law_open an__law_open : Option Addr} {sl__law_open : Array (Option Value)} {oc__law_open kV__law_open dc__law_open pm__law_open cd__law_open ct__law_open : Value}
    {f__law_doors : Addr} {od__law_doors an__law_doors : Option Addr} {sl__law_doors : Array (Option Value)} {oc__law_doors kV__law_doors dc__law_doors pm__law_doors cd__law_doors ct__law_doors : Value}
    {f_law : Addr} {od_law an_law : Option Addr} {sl_law : Array (Option Value)} {oc_law kV_law dc_law pm_law cd_law ct_law : Value}
    {t_MOST : Tok}
    {t_SMALL : Tok}
    (a_is_number : PySem.W.nsIn K mainGlobals "is_number" = some (some (.ref f_is_number))) (l_is_number : K.lookup f_is_number = some ⟨oc_is_number, od_is_number, .func (PySem.W.fnOf "is_number" "is_number" (defArgs s_is_number) (defBody s_is_number) (defScope s_is_number) .none kV_is_number dc_is_number pm_is_number an_is_number cd_is_number ct_is_number), sl_is_number⟩) (q_is_number : PySem.W.codeIn K cd_is_number "is_number" = true) (k_is_number : PySem.W.keepIn K (.ref f_is_number) = true)
    (a_asked_turners : PySem.W.nsIn K mainGlobals "asked_turners" = some (some (.ref f_asked_turners))) (l_asked_turners : K.lookup f_asked_turners = some ⟨oc_asked_turners, od_asked_turners, .func (PySem.W.fnOf "asked_turners" "asked_turners" (defArgs s_asked_turners) (defBody s_asked_turners) (defScope s_asked_turners) .none kV_asked_turners dc_asked_turners pm_asked_turners an_asked_turners cd_asked_turners ct_asked_turners), sl_asked_turners⟩) (q_asked_turners : PySem.W.codeIn K cd_asked_turners "asked_turners" = true) (k_asked_turners : PySem.W.keepIn K (.ref f_asked_turners) = true)
    (a_asked_small : PySem.W.nsIn K mainGlobals "asked_small" = some (some (.ref f_asked_small))) (l_asked_small : K.lookup f_asked_small = some ⟨oc_asked_small, od_asked_small, .func (PySem.W.fnOf "asked_small" "asked_small" (defArgs s_asked_small) (defBody s_asked_small) (defScope s_asked_small) .none kV_asked_small dc_asked_small pm_asked_small an_asked_small cd_asked_small ct_asked_small), sl_asked_small⟩) (q_asked_small : PySem.W.codeIn K cd_asked_small "asked_small" = true) (k_asked_small : PySem.W.keepIn K (.ref f_asked_small) = true)
    (a_stands_open : PySem.W.nsIn K mainGlobals "stands_open" = some (some (.ref f_stands_open))) (l_stands_open : K.lookup f_stands_open = some ⟨oc_stands_open, od_stands_open, .func (PySem.W.fnOf "stands_open" "stands_open" (defArgs s_stands_open) (defBody s_stands_open) (defScope s_stands_open) .none kV_stands_open dc_stands_open pm_stands_open an_stands_open cd_stands_open ct_stands_open), sl_stands_open⟩) (q_stands_open : PySem.W.codeIn K cd_stands_open "stands_open" = true) (k_stands_open : PySem.W.keepIn K (.ref f_stands_open) = true)
    (a_open_doors : PySem.W.nsIn K mainGlobals "open_doors" = some (some (.ref f_open_doors))) (l_open_doors : K.lookup f_open_doors = some ⟨oc_open_doors, od_open_doors, .func (PySem.W.fnOf "open_doors" "open_doors" (defArgs s_open_doors) (defBody s_open_doors) (defScope s_open_doors) .none kV_open_doors dc_open_doors pm_open_doors an_open_doors cd_open_doors ct_open_doors), sl_open_doors⟩) (q_open_doors : PySem.W.codeIn K cd_open_doors "open_doors" = true) (k_open_doors : PySem.W.keepIn K (.ref f_open_doors) = true)
    (a_left_over : PySem.W.nsIn K mainGlobals "left_over" = some (some (.ref f_left_over))) (l_left_over : K.lookup f_left_over = some ⟨oc_left_over, od_left_over, .func (PySem.W.fnOf "left_over" "left_over" (defArgs s_left_over) (defBody s_left_over) (defScope s_left_over) .none kV_left_over dc_left_over pm_left_over an_left_over cd_left_over ct_left_over), sl_left_over⟩) (q_left_over : PySem.W.codeIn K cd_left_over "left_over" = true) (k_left_over : PySem.W.keepIn K (.ref f_left_over) = true)
    (a_kept : PySem.W.nsIn K mainGlobals "kept" = some (some (.ref f_kept))) (l_kept : K.lookup f_kept = some ⟨oc_kept, od_kept, .func (PySem.W.fnOf "kept" "kept" (defArgs s_kept) (defBody s_kept) (defScope s_kept) .none kV_kept dc_kept pm_kept an_kept cd_kept ct_kept), sl_kept⟩) (q_kept : PySem.W.codeIn K cd_kept "kept" = true) (k_kept : PySem.W.keepIn K (.ref f_kept) = true)
    (a_turners_for : PySem.W.nsIn K mainGlobals "turners_for" = some (some (.ref f_turners_for))) (l_turners_for : K.lookup f_turners_for = some ⟨oc_turners_for, od_turners_for, .func (PySem.W.fnOf "turners_for" "turners_for" (defArgs s_turners_for) (defBody s_turners_for) (defScope s_turners_for) .none kV_turners_for dc_turners_for pm_turners_for an_turners_for cd_turners_for ct_turners_for), sl_turners_for⟩) (q_turners_for : PySem.W.codeIn K cd_turners_for "turners_for" = true) (k_turners_for : PySem.W.keepIn K (.ref f_turners_for) = true)
    (a__law_number : PySem.W.nsIn K mainGlobals "_law_number" = some (some (.ref f__law_number))) (l__law_number : K.lookup f__law_number = some ⟨oc__law_number, od__law_number, .func (PySem.W.fnOf "_law_number" "_law_number" (defArgs s__law_number) (defBody s__law_number) (defScope s__law_number) .none kV__law_number dc__law_number pm__law_number an__law_number cd__law_number ct__law_number), sl__law_number⟩) (q__law_number : PySem.W.codeIn K cd__law_number "_law_number" = true) (k__law_number : PySem.W.keepIn K (.ref f__law_number) = true)
    (a__law_turners : PySem.W.nsIn K mainGlobals "_law_turners" = some (some (.ref f__law_turners))) (l__law_turners : K.lookup f__law_turners = some ⟨oc__law_turners, od__law_turners, .func (PySem.W.fnOf "_law_turners" "_law_turners" (defArgs s__law_turners) (defBody s__law_turners) (defScope s__law_turners) .none kV__law_turners dc__law_turners pm__law_turners an__law_turners cd__law_turners ct__law_turners), sl__law_turners⟩) (q__law_turners : PySem.W.codeIn K cd__law_turners "_law_turners" = true) (k__law_turners : PySem.W.keepIn K (.ref f__law_turners) = true)
    (a__law_open : PySem.W.nsIn K mainGlobals "_law_open" = some (some (.ref f__law_open))) (l__law_open : K.lookup f__law_open = some ⟨oc__law_open, od__law_open, .func (PySem.W.fnOf "_law_open" "_law_open" (defArgs s__law_open) (defBody s__law_open) (defScope s__law_open) .none kV__law_open dc__law_open pm__law_open an__law_open cd__law_open ct__law_open), sl__law_open⟩) (q__law_open : PySem.W.codeIn K cd__law_open "_law_open" = true) (k__law_open : PySem.W.keepIn K (.ref f__law_open) = true)
    (a__law_doors : PySem.W.nsIn K mainGlobals "_law_doors" = some (some (.ref f__law_doors))) (l__law_doors : K.lookup f__law_doors = some ⟨oc__law_doors, od__law_doors, .func (PySem.W.fnOf "_law_doors" "_law_doors" (defArgs s__law_doors) (defBody s__law_doors) (defScope s__law_doors) .none kV__law_doors dc__law_doors pm__law_doors an__law_doors cd__law_doors ct__law_doors), sl__law_doors⟩) (q__law_doors : PySem.W.codeIn K cd__law_doors "_law_doors" = true) (k__law_doors : PySem.W.keepIn K (.ref f__law_doors) = true)
    (a_law : PySem.W.nsIn K mainGlobals "law" = some (some (.ref f_law))) (l_law : K.lookup f_law = some ⟨oc_law, od_law, .func (PySem.W.fnOf "law" "law" (defArgs s_law) (defBody s_law) (defScope s_law) .none kV_law dc_law pm_law an_law cd_law ct_law), sl_law⟩) (q_law : PySem.W.codeIn K cd_law "law" = true) (k_law : PySem.W.keepIn K (.ref f_law) = true)
    (h_MOST : PySem.W.nsIn K mainGlobals "MOST" = some (some (.int 40 t_MOST)))
    (h_SMALL : PySem.W.nsIn K mainGlobals "SMALL" = some (some (.int 1000 t_SMALL)))
    (z_isinstance : PySem.W.nsIn K mainGlobals "isinstance" = some none)
    (z_len : PySem.W.nsIn K mainGlobals "len" = some none)
    (z_all : PySem.W.nsIn K mainGlobals "all" = some none)
    (z_any : PySem.W.nsIn K mainGlobals "any" = some none)
    (z_sum : PySem.W.nsIn K mainGlobals "sum" = some none)
    (z_abs : PySem.W.nsIn K mainGlobals "abs" = some none)
    (z_max : PySem.W.nsIn K mainGlobals "max" = some none)
    (z_min : PySem.W.nsIn K mainGlobals "min" = some none)
    (z_range : PySem.W.nsIn K mainGlobals "range" = some none)
    (z_sorted : PySem.W.nsIn K mainGlobals "sorted" = some none)
    (z_enumerate : PySem.W.nsIn K mainGlobals "enumerate" = some none)
    (z_int : PySem.W.nsIn K mainGlobals "int" = some none)
    (z_bool : PySem.W.nsIn K mainGlobals "bool" = some none)
    (z_list : PySem.W.nsIn K mainGlobals "list" = some none)
    (z_set : PySem.W.nsIn K mainGlobals "set" = some none)
    (z_str : PySem.W.nsIn K mainGlobals "str" = some none)
    (z_tuple : PySem.W.nsIn K mainGlobals "tuple" = some none)
    (z_ValueError : PySem.W.nsIn K mainGlobals "ValueError" = some none)
    : ∃ fd : FuncData, (∀ (s : Shared) (v : Value), BindsTo s fd ⟨[v], []⟩ [("_law_script", v)]) ∧ ∀ base : Heap, K.In base → base.Ns mainGlobals mg → FnOk l.prog w K mg base CX0 4 fa fd ["_law_script"] (spLaw K) := by
  have e := hfa.symm.trans (PySem.W.mg_of X G a_law)
  cases e
  have D_is_number : Df K mg "is_number" s_is_number ["thing"] := df_mk X G a_is_number l_is_number q_is_number k_is_number (fun _ _ _ _ _ _ us hl => match us, hl with | [_], _ => rfl)
  have D_asked_turners : Df K mg "asked_turners" s_asked_turners ["turners"] := df_mk X G a_asked_turners l_asked_turners q_asked_turners k_asked_turners (fun _ _ _ _ _ _ us hl => match us, hl with | [_], _ => rfl)
  have D_asked_small : Df K mg "asked_small" s_asked_small ["many"] := df_mk X G a_asked_small l_asked_small q_asked_small k_asked_small (fun _ _ _ _ _ _ us hl => match us, hl with | [_], _ => rfl)
  have D_stands_open : Df K mg "stands_open" s_stands_open ["turners", "door"] := df_mk X G a_stands_open l_stands_open q_stands_open k_stands_open (fun _ _ _ _ _ _ us hl => match us, hl with | [_, _], _ => rfl)
  have D_open_doors : Df K mg "open_doors" s_open_doors ["turners", "many"] := df_mk X G a_open_doors l_open_doors q_open_doors k_open_doors (fun _ _ _ _ _ _ us hl => match us, hl with | [_, _], _ => rfl)
  have D_left_over : Df K mg "left_over" s_left_over ["turners"] := df_mk X G a_left_over l_left_over q_left_over k_left_over (fun _ _ _ _ _ _ us hl => match us, hl with | [_], _ => rfl)
  have D_kept : Df K mg "kept" s_kept ["turners"] := df_mk X G a_kept l_kept q_kept k_kept (fun _ _ _ _ _ _ us hl => match us, hl with | [_], _ => rfl)
  have D_turners_for : Df K mg "turners_for" s_turners_for ["many", "doors"] := df_mk X G a_turners_for l_turners_for q_turners_for k_turners_for (fun _ _ _ _ _ _ us hl => match us, hl with | [_, _], _ => rfl)
  have D__law_number : Df K mg "_law_number" s__law_number ["_law_cell", "_law_at", "_law_whole"] := df_mk X G a__law_number l__law_number q__law_number k__law_number (fun _ _ _ _ _ _ us hl => match us, hl with | [_, _, _], _ => rfl)
  have D__law_turners : Df K mg "_law_turners" s__law_turners ["_law_script", "_law_by", "_law_most"] := df_mk X G a__law_turners l__law_turners q__law_turners k__law_turners (fun _ _ _ _ _ _ us hl => match us, hl with | [_, _, _], _ => rfl)
  have D__law_open : Df K mg "_law_open" s__law_open ["_law_turners_here", "_law_door"] := df_mk X G a__law_open l__law_open q__law_open k__law_open (fun _ _ _ _ _ _ us hl => match us, hl with | [_, _], _ => rfl)
  have D__law_doors : Df K mg "_law_doors" s__law_doors ["_law_script", "_law_by", "_law_many"] := df_mk X G a__law_doors l__law_doors q__law_doors k__law_doors (fun _ _ _ _ _ _ us hl => match us, hl with | [_, _, _], _ => rfl)
  have g_MOST : ∃ t, mg "MOST" = some (.int 40 t) := ⟨_, PySem.W.mg_of X G h_MOST⟩
  have g_SMALL : ∃ t, mg "SMALL" = some (.int 1000 t) := ⟨_, PySem.W.mg_of X G h_SMALL⟩
  have B : Blt mg := ⟨PySem.W.mg_none_of X G z_isinstance, PySem.W.mg_none_of X G z_len, PySem.W.mg_none_of X G z_all, PySem.W.mg_none_of X G z_any, PySem.W.mg_none_of X G z_sum, PySem.W.mg_none_of X G z_abs, PySem.W.mg_none_of X G z_max, PySem.W.mg_none_of X G z_min, PySem.W.mg_none_of X G z_range, PySem.W.mg_none_of X G z_sorted, PySem.W.mg_none_of X G z_enumerate, PySem.W.mg_none_of X G z_int, PySem.W.mg_none_of X G z_bool, PySem.W.mg_none_of X G z_list, PySem.W.mg_none_of X G z_set, PySem.W.mg_none_of X G z_str, PySem.W.mg_none_of X G z_tuple, PySem.W.mg_none_of X G z_ValueError⟩
  have F_law := fun_mk (st := s_law) l_law q_law k_law
  refine ⟨PySem.W.fnOf "law" "law" (defArgs s_law) (defBody s_law) (defScope s_law) .none kV_law dc_law pm_law an_law cd_law ct_law, fun s v => .of_eq rfl, fun base _ _ => ?_⟩
  have c1 := ok_is_number (P := l.prog) (w := w) (base := base) D_is_number B
  have c2 := ok_asked_turners D_asked_turners B g_MOST c1
  have c4 := ok_asked_small (P := l.prog) (w := w) (base := base) D_asked_small B g_SMALL
  have c5 := ok_stands_open (P := l.prog) (w := w) (base := base) D_stands_open B
  have c6 := ok_open_doors D_open_doors B c2 c4 c5
  have c7 := ok_left_over (P := l.prog) (w := w) (base := base) D_left_over B
  have c11 := ok_kept D_kept c2 c7
  have c12 := ok_turners_for D_turners_for B c1 c4
  have c8 := ok__law_number (P := l.prog) (w := w) (base := base) D__law_number
  have c9 := ok__law_turners D__law_turners B c8
  have c10 := ok__law_open (P := l.prog) (w := w) (base := base) D__law_open
  have c13 := ok__law_doors D__law_doors B c8
  exact ok_law F_law B c9 c10 c13 c12 c11 c6
end Dt
open PySem PySem.W PyProof.Rows
set_option maxHeartbeats 0 in
theorem PySem.Challenge.cw_doorturns_k03_whole_brought_holds : PySem.Challenge.rw_doorturns_k03_whole_brought.Holds := by
  w_on; o_law; k_head; (case hw => w_witness2)
  k_fill
  refine L2.walk_ofB (l := PySem.Challenge.rw_doorturns_k03_whole_brought) (n := 63) (k := 4) (x := "_law_script") (CX := fun _ => L2.CX0) (sp := fun w => Dt.spLaw _) rfl (by decide) rfl ⟨rfl, by decide, by decide⟩ (fun w h Y => PySem.W.kIn_of Y) ?F (fun _ _ a ns hl hb _ hS => ⟨a, ns, rfl, hS, hl, hb, fun _ => rfl⟩) (fun _ _ _ _ _ h => h)
  case F =>
    intro w mg fa h KX G hmg
    refine' Dt.all_mk KX G hmg ?a_is_number ?l_is_number ?q_is_number ?k_is_number ?a_asked_turners ?l_asked_turners ?q_asked_turners ?k_asked_turners ?a_asked_small ?l_asked_small ?q_asked_small ?k_asked_small ?a_stands_open ?l_stands_open ?q_stands_open ?k_stands_open ?a_open_doors ?l_open_doors ?q_open_doors ?k_open_doors ?a_left_over ?l_left_over ?q_left_over ?k_left_over ?a_kept ?l_kept ?q_kept ?k_kept ?a_turners_for ?l_turners_for ?q_turners_for ?k_turners_for ?a__law_number ?l__law_number ?q__law_number ?k__law_number ?a__law_turners ?l__law_turners ?q__law_turners ?k__law_turners ?a__law_open ?l__law_open ?q__law_open ?k__law_open ?a__law_doors ?l__law_doors ?q__law_doors ?k__law_doors ?a_law ?l_law ?q_law ?k_law ?h_MOST ?h_SMALL ?z_isinstance ?z_len ?z_all ?z_any ?z_sum ?z_abs ?z_max ?z_min ?z_range ?z_sorted ?z_enumerate ?z_int ?z_bool ?z_list ?z_set ?z_str ?z_tuple ?z_ValueError
    (case a_is_number => k_is)
    (case l_is_number => k_is)
    (case q_is_number => k_is)
    (case k_is_number => k_is)
    (case a_asked_turners => k_is)
    (case l_asked_turners => k_is)
    (case q_asked_turners => k_is)
    (case k_asked_turners => k_is)
    (case a_asked_small => k_is)
    (case l_asked_small => k_is)
    (case q_asked_small => k_is)
    (case k_asked_small => k_is)
    (case a_stands_open => k_is)
    (case l_stands_open => k_is)
    (case q_stands_open => k_is)
    (case k_stands_open => k_is)
    (case a_open_doors => k_is)
    (case l_open_doors => k_is)
    (case q_open_doors => k_is)
    (case k_open_doors => k_is)
    (case a_left_over => k_is)
    (case l_left_over => k_is)
    (case q_left_over => k_is)
    (case k_left_over => k_is)
    (case a_kept => k_is)
    (case l_kept => k_is)
    (case q_kept => k_is)
    (case k_kept => k_is)
    (case a_turners_for => k_is)
    (case l_turners_for => k_is)
    (case q_turners_for => k_is)
    (case k_turners_for => k_is)
    (case a__law_number => k_is)
    (case l__law_number => k_is)
    (case q__law_number => k_is)
    (case k__law_number => k_is)
    (case a__law_turners => k_is)
    (case l__law_turners => k_is)
    (case q__law_turners => k_is)
    (case k__law_turners => k_is)
    (case a__law_open => k_is)
    (case l__law_open => k_is)
    (case q__law_open => k_is)
    (case k__law_open => k_is)
    (case a__law_doors => k_is)
    (case l__law_doors => k_is)
    (case q__law_doors => k_is)
    (case k__law_doors => k_is)
    (case a_law => k_is)
    (case l_law => k_is)
    (case q_law => k_is)
    (case k_law => k_is)
    (case h_MOST => k_is)
    (case h_SMALL => k_is)
    (case z_isinstance => k_is)
    (case z_len => k_is)
    (case z_all => k_is)
    (case z_any => k_is)
    (case z_sum => k_is)
    (case z_abs => k_is)
    (case z_max => k_is)
    (case z_min => k_is)
    (case z_range => k_is)
    (case z_sorted => k_is)
    (case z_enumerate => k_is)
    (case z_int => k_is)
    (case z_bool => k_is)
    (case z_list => k_is)
    (case z_set => k_is)
    (case z_str => k_is)
    (case z_tuple => k_is)
    (case z_ValueError => k_is)

