import PyProof.Rows.All
import Wide.All
import OpenK.AllK
import Wide.FinOn
import HandS.ForMost
import HandS.Walk
import HandS.Conv
import HandS.More
import HandS.SortRule
import HandS.SortInts
import PySem.Challenge.RW_oftenlots_k32_whole_days_that_come_and_g
set_option Elab.async false
set_option linter.all false
set_option maxRecDepth 100000
set_option maxHeartbeats 4000000
/-! The mathematics of the keeper, with no program in sight: lots as Nats, within by &&&, closed lots, dicts as lists of pairs. -/
namespace KM

/-! ### within -/
def wi (n b : Nat) : Bool := decide (n &&& b = n)
theorem wi_iff {n b : Nat} : wi n b = true ↔ n &&& b = n := decide_eq_true_iff
theorem wi_refl (n : Nat) : wi n n = true := wi_iff.mpr (Nat.and_self n)
theorem wi_trans {a b c : Nat} (h1 : wi a b = true) (h2 : wi b c = true) : wi a c = true := by
  rw [wi_iff] at *
  rw [← h1, Nat.and_assoc, h2]
theorem wi_anti {a b : Nat} (h1 : wi a b = true) (h2 : wi b a = true) : a = b := by
  rw [wi_iff] at *
  rw [← h1, Nat.and_comm, h2]
theorem wi_left (a b : Nat) : wi (a &&& b) a = true := by
  rw [wi_iff, Nat.and_comm a b, Nat.and_assoc, Nat.and_self]
theorem wi_right (a b : Nat) : wi (a &&& b) b = true := by
  rw [wi_iff, Nat.and_assoc, Nat.and_self]
theorem wi_meet {m a b : Nat} (h1 : wi m a = true) (h2 : wi m b = true) : wi m (a &&& b) = true := by
  rw [wi_iff] at *
  rw [← Nat.and_assoc, h1, h2]
theorem wi_le {a b : Nat} (h : wi a b = true) : a ≤ b := by
  rw [wi_iff] at h
  rw [← h]
  exact Nat.and_le_right

/-! ### counts and closed lots -/
def cnt (bs : List Nat) (n : Nat) : Nat := (bs.filter (wi n)).length
theorem cnt_nil (n : Nat) : cnt [] n = 0 := rfl
theorem cnt_append (as bs : List Nat) (n : Nat) : cnt (as ++ bs) n = cnt as n + cnt bs n := by
  unfold cnt
  rw [List.filter_append, List.length_append]
theorem cnt_one_in {n b : Nat} (h : wi n b = true) : cnt [b] n = 1 := by
  unfold cnt
  rw [List.filter_cons_of_pos h]
  rfl
theorem cnt_one_out {n b : Nat} (h : ¬ wi n b = true) : cnt [b] n = 0 := by
  unfold cnt
  rw [List.filter_cons_of_neg h]
  rfl
theorem cnt_pos {bs : List Nat} {n : Nat} : 0 < cnt bs n ↔ ∃ b ∈ bs, wi n b = true := by
  unfold cnt
  rw [List.length_pos_iff_exists_mem]
  constructor
  · rintro ⟨b, h⟩
    exact ⟨b, (List.mem_filter.mp h).1, (List.mem_filter.mp h).2⟩
  · rintro ⟨b, h1, h2⟩
    exact ⟨b, List.mem_filter.mpr ⟨h1, h2⟩⟩
theorem cnt_mono {n s : Nat} (h : wi n s = true) : ∀ bs : List Nat, cnt bs s ≤ cnt bs n
  | [] => Nat.le_refl _
  | b :: bs => by
    have ih := cnt_mono h bs
    have e : ∀ x, cnt (b :: bs) x = cnt [b] x + cnt bs x := fun x => cnt_append [b] bs x
    rw [e, e]
    by_cases h1 : wi s b = true
    · rw [cnt_one_in h1, cnt_one_in (wi_trans h h1)]
      omega
    · rw [cnt_one_out h1]
      omega
theorem cnt_congr {n s : Nat} : ∀ {bs : List Nat}, (∀ b ∈ bs, wi n b = true ↔ wi s b = true) → cnt bs n = cnt bs s
  | [], _ => rfl
  | b :: bs, h => by
    have ih := cnt_congr (bs := bs) fun x hx => h x (List.mem_cons_of_mem _ hx)
    have e : ∀ x, cnt (b :: bs) x = cnt [b] x + cnt bs x := fun x => cnt_append [b] bs x
    have hb := h b List.mem_cons_self
    rw [e, e, ih]
    by_cases h1 : wi s b = true
    · rw [cnt_one_in h1, cnt_one_in (hb.mpr h1)]
    · rw [cnt_one_out h1, cnt_one_out (fun z => h1 (hb.mp z))]

/-- n is what some of the baskets have in common -/
def IsC (bs : List Nat) (n : Nat) : Prop := (∃ b ∈ bs, wi n b = true) ∧ ∀ m, (∀ b ∈ bs, wi n b = true → wi m b = true) → wi m n = true

theorem isC_nil (n : Nat) : ¬ IsC [] n := fun h => by
  obtain ⟨⟨b, hb, _⟩, _⟩ := h
  exact absurd hb List.not_mem_nil
theorem isC_lt {bs : List Nat} {n N : Nat} (h : IsC bs n) (hb : ∀ b ∈ bs, b < N) : n < N := by
  obtain ⟨⟨b, h1, h2⟩, _⟩ := h
  exact Nat.lt_of_le_of_lt (wi_le h2) (hb b h1)
theorem isC_cnt {bs : List Nat} {n : Nat} (h : IsC bs n) : 0 < cnt bs n := cnt_pos.mpr h.1

/-- what a list of baskets has in common -/
theorem glb (b : Nat) : ∀ bs : List Nat, ∃ s, (∀ x ∈ b :: bs, wi s x = true) ∧ ∀ m, (∀ x ∈ b :: bs, wi m x = true) → wi m s = true
  | [] => ⟨b, fun x hx => by rw [List.mem_singleton.mp hx]; exact wi_refl b, fun m h => h b List.mem_cons_self⟩
  | c :: bs => by
    obtain ⟨s, h1, h2⟩ := glb c bs
    refine ⟨b &&& s, fun x hx => ?_, fun m h => wi_meet (h b List.mem_cons_self) (h2 m fun x hx => h x (List.mem_cons_of_mem _ hx))⟩
    rcases List.mem_cons.mp hx with rfl | hx
    · exact wi_left _ _
    · exact wi_trans (wi_right _ _) (h1 x hx)
/-- the closing of a lot that some basket has -/
theorem clo {bs : List Nat} {n : Nat} (h : ∃ b ∈ bs, wi n b = true) : ∃ s, IsC bs s ∧ wi n s = true ∧ ∀ b ∈ bs, (wi n b = true ↔ wi s b = true) := by
  obtain ⟨b, hb, hw⟩ := h
  have hm : b ∈ bs.filter (wi n) := List.mem_filter.mpr ⟨hb, hw⟩
  cases e : bs.filter (wi n) with
  | nil => rw [e] at hm; exact absurd hm List.not_mem_nil
  | cons c r =>
    obtain ⟨s, h1, h2⟩ := glb c r
    have m1 : ∀ x, x ∈ c :: r ↔ x ∈ bs ∧ wi n x = true := fun x => by rw [← e]; exact List.mem_filter
    have ns : wi n s = true := h2 n fun x hx => ((m1 x).mp hx).2
    have eq : ∀ x ∈ bs, (wi n x = true ↔ wi s x = true) := fun x hx => ⟨fun z => h1 x ((m1 x).mpr ⟨hx, z⟩), fun z => wi_trans ns z⟩
    refine ⟨s, ⟨⟨b, hb, (eq b hb).mp hw⟩, fun m hm => h2 m fun x hx => ?_⟩, ns, eq⟩
    have q := (m1 x).mp hx
    exact hm x q.1 ((eq x q.1).mp q.2)

theorem isC_app_left {as bs : List Nat} {n : Nat} (h : IsC as n) : IsC (as ++ bs) n :=
  ⟨let ⟨b, h1, h2⟩ := h.1; ⟨b, List.mem_append_left _ h1, h2⟩, fun m hm => h.2 m fun b hb => hm b (List.mem_append_left _ hb)⟩
theorem isC_app_right {as bs : List Nat} {n : Nat} (h : IsC bs n) : IsC (as ++ bs) n :=
  ⟨let ⟨b, h1, h2⟩ := h.1; ⟨b, List.mem_append_right _ h1, h2⟩, fun m hm => h.2 m fun b hb => hm b (List.mem_append_right _ hb)⟩
theorem isC_new {bs : List Nat} {b : Nat} : IsC (bs ++ [b]) b :=
  ⟨⟨b, by simp, wi_refl b⟩, fun m hm => hm b (by simp) (wi_refl b)⟩
theorem isC_cross {bs : List Nat} {b s : Nat} (h : IsC bs s) : IsC (bs ++ [b]) (s &&& b) := by
  refine ⟨⟨b, by simp, wi_right _ _⟩, fun m hm => wi_meet (h.2 m fun x hx hs => hm x (List.mem_append_left _ hx) (wi_trans (wi_left _ _) hs)) (hm b (by simp) (wi_right _ _))⟩
/-- a basket more -/
theorem isC_snoc {bs : List Nat} {b n : Nat} : IsC (bs ++ [b]) n ↔ IsC bs n ∨ n = b ∨ ∃ s, IsC bs s ∧ s &&& b = n := by
  constructor
  · intro h
    by_cases hb : wi n b = true
    · by_cases hx : ∃ x ∈ bs, wi n x = true
      · obtain ⟨s, h1, h2, h3⟩ := clo hx
        refine .inr (.inr ⟨s, h1, (wi_anti (wi_meet h2 hb) (h.2 _ fun x hx hn => ?_)).symm⟩)
        rcases List.mem_append.mp hx with hx | hx
        · exact wi_trans (wi_left _ _) ((h3 x hx).mp hn)
        · rw [List.mem_singleton.mp hx]
          exact wi_right _ _
      · refine .inr (.inl (wi_anti hb (h.2 _ fun x hx' hn => ?_)))
        rcases List.mem_append.mp hx' with hx' | hx'
        · exact absurd ⟨x, hx', hn⟩ hx
        · rw [List.mem_singleton.mp hx']
          exact wi_refl b
    · refine .inl ⟨?_, fun m hm => h.2 m fun x hx hn => ?_⟩
      · obtain ⟨x, hx, hn⟩ := h.1
        rcases List.mem_append.mp hx with hx | hx
        · exact ⟨x, hx, hn⟩
        · rw [List.mem_singleton.mp hx] at hn
          exact absurd hn hb
      · rcases List.mem_append.mp hx with hx | hx
        · exact hm x hx hn
        · rw [List.mem_singleton.mp hx] at hn
          exact absurd hn hb
  · rintro (h | rfl | ⟨s, h, rfl⟩)
    · exact isC_app_left h
    · exact isC_new
    · exact isC_cross h

/-! ### dicts as lists of pairs -/
section
variable {α : Type}
def get (m : List (Nat × α)) (n : Nat) : Option α := (m.find? fun p => decide (p.1 = n)).map (·.2)
def put (m : List (Nat × α)) (n : Nat) (c : α) : List (Nat × α) :=
  if (m.any fun p => decide (p.1 = n)) = true then m.map (fun p => if p.1 = n then (p.1, c) else p) else m ++ [(n, c)]
def drop (m : List (Nat × α)) (n : Nat) : List (Nat × α) := m.filter fun p => decide (p.1 ≠ n)
abbrev keys (m : List (Nat × α)) : List Nat := m.map (·.1)

theorem get_nil (n : Nat) : get ([] : List (Nat × α)) n = none := rfl
theorem get_pos {p : Nat × α} {r : List (Nat × α)} {n : Nat} (e : p.1 = n) : get (p :: r) n = some p.2 := by simp [get, List.find?_cons, e]
theorem get_neg {p : Nat × α} {r : List (Nat × α)} {n : Nat} (e : ¬ p.1 = n) : get (p :: r) n = get r n := by simp [get, List.find?_cons, e]
theorem get_isSome {n : Nat} : ∀ {m : List (Nat × α)}, (get m n).isSome = true ↔ n ∈ keys m
  | [] => by simp [get]
  | p :: r => by
    have ih := get_isSome (n := n) (m := r)
    by_cases e : p.1 = n
    · rw [get_pos e]
      simp [keys, e]
    · rw [get_neg e, ih]
      simp only [keys, List.map_cons, List.mem_cons]
      exact ⟨.inr, fun h => h.resolve_left fun z => e z.symm⟩
theorem any_key {n : Nat} {m : List (Nat × α)} : (m.any fun p => decide (p.1 = n)) = true ↔ n ∈ keys m := by
  rw [List.any_eq_true]
  constructor
  · rintro ⟨p, h1, h2⟩
    exact List.mem_map.mpr ⟨p, h1, of_decide_eq_true h2⟩
  · intro h
    obtain ⟨p, h1, h2⟩ := List.mem_map.mp h
    exact ⟨p, h1, decide_eq_true h2⟩
theorem get_none {n : Nat} {m : List (Nat × α)} : get m n = none ↔ n ∉ keys m := by
  rw [← get_isSome]
  cases get m n <;> simp
theorem get_mem {n : Nat} {c : α} : ∀ {m : List (Nat × α)}, (keys m).Nodup → ((n, c) ∈ m ↔ get m n = some c)
  | [], _ => by simp [get]
  | p :: r, h => by
    have h' := List.nodup_cons.mp (show (p.1 :: keys r).Nodup from h)
    have ih := get_mem (n := n) (c := c) h'.2
    by_cases e : p.1 = n
    · rw [get_pos e]
      constructor
      · intro q
        rcases List.mem_cons.mp q with q | q
        · rw [← q]
        · exact absurd (List.mem_map.mpr ⟨_, q, rfl⟩) (by rw [← e]; exact h'.1)
      · intro q
        have q := Option.some.inj q
        exact List.mem_cons.mpr (.inl (Prod.ext e.symm q.symm))
    · rw [get_neg e, ← ih]
      constructor
      · intro q
        rcases List.mem_cons.mp q with q | q
        · rw [← q] at e
          exact absurd rfl e
        · exact q
      · exact List.mem_cons_of_mem _
theorem get_map (k j : Nat) (c : α) : ∀ m : List (Nat × α), get (m.map fun p => if p.1 = k then (p.1, c) else p) j = (get m j).map fun x => if j = k then c else x
  | [] => rfl
  | p :: r => by
    have ih := get_map k j c r
    rw [List.map_cons]
    by_cases h : p.1 = k
    · rw [if_pos h]
      by_cases e : p.1 = j
      · rw [get_pos (p := (p.1, c)) e, get_pos e, Option.map_some, if_pos (e.symm.trans h)]
      · rw [get_neg (p := (p.1, c)) e, get_neg e, ih]
    · rw [if_neg h]
      by_cases e : p.1 = j
      · rw [get_pos (p := p) e, get_pos e, Option.map_some, if_neg (fun z => h (e.trans z))]
      · rw [get_neg (p := p) e, get_neg e, ih]
theorem get_snoc (k j : Nat) (c : α) : ∀ m : List (Nat × α), k ∉ keys m → get (m ++ [(k, c)]) j = if j = k then some c else get m j
  | [], _ => by
    by_cases e : k = j
    · rw [if_pos e.symm]; exact get_pos (p := (k, c)) e
    · rw [if_neg (fun z => e z.symm)]; exact get_neg (p := (k, c)) e
  | p :: r, hn => by
    rw [List.cons_append]
    have hk : ¬ p.1 = k := fun z => hn (by simp [keys, z])
    have hr : k ∉ keys r := fun z => hn (List.mem_cons_of_mem _ z)
    have ih := get_snoc k j c r hr
    by_cases e : p.1 = j
    · rw [get_pos e, get_pos e, if_neg (fun z => hk (e.trans z))]
    · rw [get_neg e, get_neg e, ih]
theorem get_put (m : List (Nat × α)) (k j : Nat) (c : α) : get (put m k c) j = if j = k then some c else get m j := by
  unfold put
  by_cases a : (m.any fun p => decide (p.1 = k)) = true
  · rw [if_pos a, get_map]
    have a := get_isSome.mpr (any_key.mp a)
    by_cases e : j = k
    · obtain ⟨x, hx⟩ := Option.isSome_iff_exists.mp a
      rw [if_pos e, e, hx, Option.map_some, if_pos rfl]
    · rw [if_neg e]
      cases get m j with
      | none => rfl
      | some x => rw [Option.map_some, if_neg e]
  · rw [if_neg a]
    exact get_snoc k j c m fun z => a (any_key.mpr z)
theorem get_drop (m : List (Nat × α)) (k j : Nat) : get (drop m k) j = if j = k then none else get m j := by
  unfold drop
  induction m with
  | nil => simp [get]
  | cons p r ih =>
    by_cases h : p.1 = k
    · rw [List.filter_cons_of_neg (by simp [h]), ih]
      by_cases e : j = k
      · rw [if_pos e, if_pos e]
      · rw [if_neg e, if_neg e, get_neg (fun z => e (z.symm.trans h))]
    · rw [List.filter_cons_of_pos (by simp [h])]
      by_cases e : p.1 = j
      · rw [get_pos e, get_pos e, if_neg (fun z => h (e.trans z))]
      · rw [get_neg e, get_neg e, ih]
theorem keys_map (k : Nat) (c : α) (m : List (Nat × α)) : keys (m.map fun p => if p.1 = k then (p.1, c) else p) = keys m := by
  unfold keys
  rw [List.map_map]
  refine List.map_congr_left fun p _ => ?_
  show (if p.1 = k then (p.1, c) else p).1 = p.1
  split <;> rfl
theorem keys_put (m : List (Nat × α)) (k : Nat) (c : α) : keys (put m k c) = if k ∈ keys m then keys m else keys m ++ [k] := by
  unfold put
  by_cases a : k ∈ keys m
  · rw [if_pos (any_key.mpr a), if_pos a, keys_map]
  · rw [if_neg (fun z => a (any_key.mp z)), if_neg a]
    simp [keys]
/-- keys apart, all below 4096 -/
structure Ok (m : List (Nat × α)) : Prop where
  nd : (keys m).Nodup
  lt : ∀ n ∈ keys m, n < 4096
theorem Ok.nil : Ok ([] : List (Nat × α)) := ⟨List.nodup_nil, fun _ h => absurd h List.not_mem_nil⟩
theorem Ok.one {n : Nat} {c : α} (h : n < 4096) : Ok [(n, c)] := ⟨by simp [keys], fun x hx => by rw [List.mem_singleton.mp hx]; exact h⟩
theorem Ok.put {m : List (Nat × α)} (h : Ok m) {n : Nat} (c : α) (hn : n < 4096) : Ok (put m n c) := by
  refine ⟨?_, ?_⟩
  · rw [keys_put]
    split
    · exact h.nd
    · rename_i q
      rw [List.nodup_append]
      refine ⟨h.nd, by simp, fun a ha b hb => ?_⟩
      rw [List.mem_singleton.mp hb]
      intro z
      exact q (z ▸ ha)
  · rw [keys_put]
    split
    · exact h.lt
    · intro x hx
      rcases List.mem_append.mp hx with hx | hx
      · exact h.lt x hx
      · rw [List.mem_singleton.mp hx]; exact hn
theorem Ok.drop {m : List (Nat × α)} (h : Ok m) (n : Nat) : Ok (drop m n) := by
  have sub : List.Sublist (keys (KM.drop m n)) (keys m) := (List.filter_sublist (l := m)).map _
  exact ⟨h.nd.sublist sub, fun x hx => h.lt x (sub.subset hx)⟩
theorem nodup_len : ∀ (N : Nat) (l : List Nat), l.Nodup → (∀ x ∈ l, x < N) → l.length ≤ N
  | 0, [], _, _ => Nat.le_refl _
  | 0, x :: _, _, h => absurd (h x List.mem_cons_self) (Nat.not_lt_zero _)
  | N + 1, l, hn, h => by
    have h1 := nodup_len N (l.erase N) (hn.erase _) fun x hx => by
      have a := h x (List.mem_of_mem_erase hx)
      have b : x ≠ N := fun z => by
        rw [z] at hx
        exact (hn.mem_erase_iff.mp hx).1 rfl
      omega
    rw [List.length_erase] at h1
    split at h1 <;> omega
theorem Ok.len {m : List (Nat × α)} (h : Ok m) : m.length ≤ 4096 := by
  have q := nodup_len 4096 (keys m) h.nd h.lt
  rw [List.length_map] at q
  exact q
end

/-! ### folds with what holds of a prefix -/
theorem fold_inv {α β : Type} {f : β → α → β} (G : List α → β → Prop) (step : ∀ pre x b, G pre b → G (pre ++ [x]) (f b x)) : ∀ (l pre : List α) (b : β), G pre b → G (pre ++ l) (l.foldl f b)
  | [], pre, b, h => by
    rw [List.append_nil]
    exact h
  | x :: l, pre, b, h => by
    have q := fold_inv G step l (pre ++ [x]) (f b x) (step pre x b h)
    rw [List.append_assoc] at q
    exact q
theorem fold_take {α β : Type} {f : β → α → β} {l : List α} {i : Nat} {x : α} (b : β) (h : l[i]? = some x) : (l.take (i + 1)).foldl f b = f ((l.take i).foldl f b) x := by
  rw [List.take_add_one, h, List.foldl_append]
  rfl
theorem fold_ok {α β : Type} {f : β → α → β} (G : β → Prop) (l : List α) (b : β) (h0 : G b) (step : ∀ b x, x ∈ l → G b → G (f b x)) : G (l.foldl f b) := by
  induction l generalizing b with
  | nil => exact h0
  | cons x l ih => exact ih (f b x) (step b x List.mem_cons_self h0) fun b y hy hb => step b y (List.mem_cons_of_mem _ hy) hb

/-! ### the keeper's dict -/
structure KMap (m : List (Nat × Int)) (bs : List Nat) : Prop where
  nd : (keys m).Nodup
  at_ : ∀ n c, get m n = some c ↔ IsC bs n ∧ c = (cnt bs n : Int)
theorem KMap.nil : KMap [] [] := ⟨List.nodup_nil, fun n c => by
  rw [get_nil]
  exact ⟨fun h => (by cases h), fun h => absurd h.1 (isC_nil n)⟩⟩
theorem KMap.ok {m : List (Nat × Int)} {bs : List Nat} (h : KMap m bs) (hb : ∀ b ∈ bs, b < 4096) : Ok m := ⟨h.nd, fun n hn => by
  obtain ⟨c, hc⟩ := Option.isSome_iff_exists.mp (get_isSome.mpr hn)
  exact isC_lt ((h.at_ n c).mp hc).1 hb⟩

/-- max(i, j) as the machine has it -/
def mx (i j : Int) : Int := if j > i then j else i
def step1 (b : Nat) (f : List (Nat × Int)) (p : Nat × Int) : List (Nat × Int) := put f (p.1 &&& b) (mx ((get f (p.1 &&& b)).getD 0) p.2)
def step2 (k : List (Nat × Int)) (p : Nat × Int) : List (Nat × Int) := put k p.1 (p.2 + 1)
def found (m : List (Nat × Int)) (b : Nat) : List (Nat × Int) := m.foldl (step1 b) [(b, 0)]
def comes (m : List (Nat × Int)) (b : Nat) : List (Nat × Int) := (found m b).foldl step2 m

structure Found (b : Nat) (l f : List (Nat × Int)) : Prop where
  ok : Ok f
  dom : ∀ x, (get f x).isSome = true ↔ x = b ∨ ∃ p ∈ l, p.1 &&& b = x
  up : ∀ x v, get f x = some v → 0 ≤ v ∧ ∀ p ∈ l, p.1 &&& b = x → p.2 ≤ v
  at_ : ∀ x v, get f x = some v → v = 0 ∨ ∃ p ∈ l, p.1 &&& b = x ∧ p.2 = v
theorem Found.start {b : Nat} (hb : b < 4096) : Found b [] [(b, 0)] := by
  have e : ∀ x, get [(b, (0 : Int))] x = if x = b then some 0 else none := fun x => by
    by_cases e : x = b
    · rw [if_pos e]; exact get_pos (p := (b, (0 : Int))) e.symm
    · rw [if_neg e, get_neg (p := (b, (0 : Int))) (fun z => e z.symm), get_nil]
  refine ⟨Ok.one hb, fun x => ?_, fun x v h => ?_, fun x v h => ?_⟩
  · rw [e]
    by_cases q : x = b
    · rw [if_pos q]
      simp [q]
    · rw [if_neg q]
      simp [q]
  · rw [e] at h
    split at h
    · cases h
      exact ⟨Int.le_refl _, fun p hp => absurd hp List.not_mem_nil⟩
    · cases h
  · rw [e] at h
    split at h
    · cases h
      exact .inl rfl
    · cases h
theorem Found.step {b : Nat} {l f : List (Nat × Int)} (hb : b < 4096) (p : Nat × Int) (h : Found b l f) : Found b (l ++ [p]) (step1 b f p) := by
  have hlt : p.1 &&& b < 4096 := Nat.lt_of_le_of_lt Nat.and_le_right hb
  refine ⟨h.ok.put _ hlt, fun x => ?_, fun x v q => ?_, fun x v q => ?_⟩
  · unfold step1
    rw [get_put]
    by_cases e : x = p.1 &&& b
    · rw [if_pos e]
      simp [e]
    · rw [if_neg e, h.dom]
      constructor
      · rintro (z | ⟨r, h1, h2⟩)
        · exact .inl z
        · exact .inr ⟨r, List.mem_append_left _ h1, h2⟩
      · rintro (z | ⟨r, h1, h2⟩)
        · exact .inl z
        · rcases List.mem_append.mp h1 with h1 | h1
          · exact .inr ⟨r, h1, h2⟩
          · rw [List.mem_singleton.mp h1] at h2
            exact absurd h2.symm e
  · unfold step1 at q
    rw [get_put] at q
    by_cases e : x = p.1 &&& b
    · rw [if_pos e] at q
      have q := Option.some.inj q
      have g : 0 ≤ (get f x).getD 0 ∧ ∀ r ∈ l, r.1 &&& b = x → r.2 ≤ (get f x).getD 0 := by
        cases z : get f x with
        | none =>
          refine ⟨Int.le_refl _, fun r hr e => ?_⟩
          have y := (h.dom x).mpr (.inr ⟨r, hr, e⟩)
          rw [z] at y
          cases y
        | some y => exact h.up x y z
      rw [← e] at q
      unfold mx at q
      refine ⟨?_, fun r hr er => ?_⟩
      · split at q <;> omega
      · rcases List.mem_append.mp hr with hr | hr
        · have z := g.2 r hr er
          split at q <;> omega
        · rw [List.mem_singleton.mp hr]
          split at q <;> omega
    · rw [if_neg e] at q
      have z := h.up x v q
      refine ⟨z.1, fun r hr er => ?_⟩
      rcases List.mem_append.mp hr with hr | hr
      · exact z.2 r hr er
      · rw [List.mem_singleton.mp hr] at er
        exact absurd er.symm e
  · unfold step1 at q
    rw [get_put] at q
    by_cases e : x = p.1 &&& b
    · rw [if_pos e] at q
      have q := Option.some.inj q
      rw [← e] at q
      unfold mx at q
      split at q
      · exact .inr ⟨p, by simp, e.symm, q⟩
      · cases z : get f x with
        | none =>
          rw [z] at q
          exact .inl q.symm
        | some y =>
          rw [z] at q
          have q : y = v := q
          rcases h.at_ x y z with w | ⟨r, h1, h2, h3⟩
          · exact .inl (q.symm.trans w)
          · exact .inr ⟨r, List.mem_append_left _ h1, h2, h3.trans q⟩
    · rw [if_neg e] at q
      rcases h.at_ x v q with w | ⟨r, h1, h2, h3⟩
      · exact .inl w
      · exact .inr ⟨r, List.mem_append_left _ h1, h2, h3⟩
theorem Found.all {b : Nat} (hb : b < 4096) (l : List (Nat × Int)) : Found b l (l.foldl (step1 b) [(b, 0)]) := by
  have q := fold_inv (f := step1 b) (Found b) (fun pre x f h => h.step hb x) l [] _ (Found.start hb)
  exact q

/-- the dict found, over the keeper's own -/
theorem found_at {m : List (Nat × Int)} {bs : List Nat} {b : Nat} (K : KMap m bs) (hb : b < 4096) (x : Nat) (v : Int) :
    get (found m b) x = some v ↔ (IsC (bs ++ [b]) x ∧ wi x b = true) ∧ v = (cnt bs x : Int) := by
  have F : Found b m (found m b) := Found.all hb m
  have mem : ∀ s c, (s, c) ∈ m ↔ IsC bs s ∧ c = (cnt bs s : Int) := fun s c => by rw [get_mem K.nd, K.at_]
  have dm : (get (found m b) x).isSome = true ↔ IsC (bs ++ [b]) x ∧ wi x b = true := by
    rw [F.dom]
    constructor
    · rintro (rfl | ⟨⟨s, c⟩, h1, h2⟩)
      · exact ⟨isC_new, wi_refl x⟩
      · have h2 : s &&& b = x := h2
        rw [← h2]
        exact ⟨isC_cross ((mem s c).mp h1).1, wi_right _ _⟩
    · rintro ⟨h1, h2⟩
      rcases isC_snoc.mp h1 with h1 | h1 | ⟨s, h1, h3⟩
      · exact .inr ⟨(x, (cnt bs x : Int)), (mem _ _).mpr ⟨h1, rfl⟩, wi_iff.mp h2⟩
      · exact .inl h1
      · exact .inr ⟨(s, (cnt bs s : Int)), (mem _ _).mpr ⟨h1, rfl⟩, h3⟩
  have val : ∀ v, get (found m b) x = some v → v = (cnt bs x : Int) := by
    intro v hv
    have hd := dm.mp (by rw [hv]; rfl)
    have h1 : v ≤ (cnt bs x : Int) := by
      rcases F.at_ x v hv with z | ⟨⟨s, c⟩, h1, h2, h3⟩
      · omega
      · have h3 : c = v := h3
        have h2 : s &&& b = x := h2
        have hc := ((mem s c).mp h1).2
        have hm := cnt_mono (n := x) (s := s) (by rw [← h2]; exact wi_left _ _) bs
        omega
    have h2 : (cnt bs x : Int) ≤ v := by
      by_cases h0 : 0 < cnt bs x
      · obtain ⟨s, c1, c2, c3⟩ := clo (cnt_pos.mp h0)
        have ec : cnt bs x = cnt bs s := cnt_congr c3
        have es : s &&& b = x := by
          refine wi_anti ?_ (wi_meet c2 hd.2)
          refine hd.1.2 _ fun y hy hn => ?_
          rcases List.mem_append.mp hy with hy | hy
          · exact wi_trans (wi_left _ _) ((c3 y hy).mp hn)
          · rw [List.mem_singleton.mp hy]
            exact wi_right _ _
        have u := (F.up x v hv).2 (s, (cnt bs s : Int)) ((mem _ _).mpr ⟨c1, rfl⟩) es
        have u : (cnt bs s : Int) ≤ v := u
        omega
      · have u := (F.up x v hv).1
        omega
    omega
  constructor
  · intro h
    exact ⟨dm.mp (by rw [h]; rfl), val v h⟩
  · rintro ⟨h1, h2⟩
    obtain ⟨y, hy⟩ := Option.isSome_iff_exists.mp (dm.mpr h1)
    rw [hy, h2, val y hy]

theorem fold2_get : ∀ (f m : List (Nat × Int)) (x : Nat), (keys f).Nodup → get (f.foldl step2 m) x = match get f x with | some v => some (v + 1) | none => get m x
  | [], m, x, _ => rfl
  | p :: r, m, x, h => by
    have h' := List.nodup_cons.mp (show (p.1 :: keys r).Nodup from h)
    have ih := fold2_get r (step2 m p) x h'.2
    rw [List.foldl_cons, ih]
    unfold step2
    rw [get_put]
    by_cases e : p.1 = x
    · rw [get_pos e, if_pos e.symm]
      have n : get r x = none := get_none.mpr (by rw [← e]; exact h'.1)
      rw [n]
    · rw [get_neg e, if_neg (fun z => e z.symm)]
theorem fold2_ok {f m : List (Nat × Int)} (hf : Ok f) (hm : Ok m) : Ok (f.foldl step2 m) :=
  fold_ok (f := step2) Ok f m hm fun k p hp hk => hk.put _ (hf.lt _ (List.mem_map.mpr ⟨p, hp, rfl⟩))

theorem KMap.comes {m : List (Nat × Int)} {bs : List Nat} {b : Nat} (K : KMap m bs) (hbs : ∀ x ∈ bs, x < 4096) (hb : b < 4096) : KMap (comes m b) (bs ++ [b]) := by
  have F : Found b m (found m b) := Found.all hb m
  refine ⟨(fold2_ok F.ok (K.ok hbs)).nd, fun n c => ?_⟩
  unfold KM.comes
  rw [fold2_get _ _ _ F.ok.nd, cnt_append]
  cases e : get (found m b) n with
  | some v =>
    obtain ⟨h1, h2⟩ := (found_at K hb n v).mp e
    rw [cnt_one_in h1.2]
    show some (v + 1) = some c ↔ _
    constructor
    · intro q
      have q := Option.some.inj q
      exact ⟨h1.1, by omega⟩
    · rintro ⟨_, q⟩
      exact congrArg some (by omega)
  | none =>
    show get m n = some c ↔ _
    have no : ¬ (IsC (bs ++ [b]) n ∧ wi n b = true) := fun z => by
      have q := (found_at K hb n _).mpr ⟨z, rfl⟩
      rw [e] at q
      cases q
    rw [K.at_]
    constructor
    · rintro ⟨h1, h2⟩
      have nb : ¬ wi n b = true := fun z => no ⟨isC_app_left h1, z⟩
      rw [cnt_one_out nb]
      exact ⟨isC_app_left h1, by omega⟩
    · rintro ⟨h1, h2⟩
      have nb : ¬ wi n b = true := fun z => no ⟨h1, z⟩
      rw [cnt_one_out nb] at h2
      rcases isC_snoc.mp h1 with h3 | h3 | ⟨s, h3, h4⟩
      · exact ⟨h3, by omega⟩
      · rw [h3] at nb
        exact absurd (wi_refl b) nb
      · rw [← h4] at nb
        exact absurd (wi_right _ _) nb
/-! ### baskets that go -/
def touchedOf (m : List (Nat × Int)) (b : Nat) : List Nat := (m.filter fun p => wi p.1 b).map (·.1)
def dec1 (k : List (Nat × Int)) (x : Nat) : List (Nat × Int) := put k x ((get k x).getD 0 - 1)
def goes (m : List (Nat × Int)) (b : Nat) : List (Nat × Int) := (touchedOf m b).foldl dec1 m
theorem touched_sub (m : List (Nat × Int)) (b : Nat) : List.Sublist (touchedOf m b) (keys m) := (List.filter_sublist (l := m)).map _
theorem touched_in {m : List (Nat × Int)} {b n : Nat} {c : Int} (h : wi n b = true) : touchedOf (m ++ [(n, c)]) b = touchedOf m b ++ [n] := by
  unfold touchedOf
  rw [List.filter_append, List.filter_cons_of_pos (p := fun p : Nat × Int => wi p.1 b) h, List.map_append]
  rfl
theorem touched_out {m : List (Nat × Int)} {b n : Nat} {c : Int} (h : ¬ wi n b = true) : touchedOf (m ++ [(n, c)]) b = touchedOf m b := by
  unfold touchedOf
  rw [List.filter_append, List.filter_cons_of_neg (p := fun p : Nat × Int => wi p.1 b) h, List.map_append]
  simp
theorem mem_touched {m : List (Nat × Int)} {b x : Nat} : x ∈ touchedOf m b ↔ x ∈ keys m ∧ wi x b = true := by
  unfold touchedOf
  rw [List.mem_map]
  constructor
  · rintro ⟨p, h1, rfl⟩
    have q := List.mem_filter.mp h1
    exact ⟨List.mem_map.mpr ⟨p, q.1, rfl⟩, q.2⟩
  · rintro ⟨h1, h2⟩
    obtain ⟨p, hp, rfl⟩ := List.mem_map.mp h1
    exact ⟨p, List.mem_filter.mpr ⟨hp, h2⟩, rfl⟩
theorem keys_dec1 {m : List (Nat × Int)} {x : Nat} (h : x ∈ keys m) : keys (dec1 m x) = keys m := by
  unfold dec1
  rw [keys_put, if_pos h]
theorem keys_dec : ∀ (ts : List Nat) (m : List (Nat × Int)), (∀ x ∈ ts, x ∈ keys m) → keys (ts.foldl dec1 m) = keys m
  | [], _, _ => rfl
  | x :: ts, m, h => by
    have e := keys_dec1 (h x List.mem_cons_self)
    rw [List.foldl_cons, keys_dec ts (dec1 m x) (fun y hy => by rw [e]; exact h y (List.mem_cons_of_mem _ hy)), e]
theorem get_dec : ∀ (ts : List Nat) (m : List (Nat × Int)) (x : Nat), ts.Nodup → (∀ x ∈ ts, x ∈ keys m) → get (ts.foldl dec1 m) x = if x ∈ ts then (get m x).map (· - 1) else get m x
  | [], m, x, _, _ => by simp
  | t :: ts, m, x, hn, h => by
    have hn' := List.nodup_cons.mp hn
    have ht := h t List.mem_cons_self
    have e := keys_dec1 ht
    rw [List.foldl_cons, get_dec ts (dec1 m t) x hn'.2 (fun y hy => by rw [e]; exact h y (List.mem_cons_of_mem _ hy))]
    obtain ⟨c, hc⟩ := Option.isSome_iff_exists.mp (get_isSome.mpr ht)
    unfold dec1
    rw [get_put]
    by_cases q : x = t
    · rw [q, if_neg hn'.1, if_pos rfl, if_pos List.mem_cons_self, hc]
      rfl
    · rw [if_neg q]
      by_cases z : x ∈ ts
      · rw [if_pos z, if_pos (List.mem_cons_of_mem _ z)]
      · rw [if_neg z, if_neg (fun y => (List.mem_cons.mp y).elim q z)]
/-- the counts while some of the baskets have gone -/
structure KMid (m : List (Nat × Int)) (bs ds : List Nat) : Prop where
  nd : (keys m).Nodup
  at_ : ∀ n c, get m n = some c ↔ IsC bs n ∧ c = (cnt bs n : Int) - (cnt ds n : Int)
theorem KMid.start {m : List (Nat × Int)} {bs : List Nat} (K : KMap m bs) : KMid m bs [] := ⟨K.nd, fun n c => by
  rw [K.at_, cnt_nil]
  constructor
  · rintro ⟨a, b⟩; exact ⟨a, by omega⟩
  · rintro ⟨a, b⟩; exact ⟨a, by omega⟩⟩
theorem KMid.key {m : List (Nat × Int)} {bs ds : List Nat} (K : KMid m bs ds) {n : Nat} : n ∈ keys m ↔ IsC bs n := by
  rw [← get_isSome]
  constructor
  · intro h
    obtain ⟨c, hc⟩ := Option.isSome_iff_exists.mp h
    exact ((K.at_ n c).mp hc).1
  · intro h
    rw [(K.at_ n _).mpr ⟨h, rfl⟩]
    rfl
theorem KMid.ok {m : List (Nat × Int)} {bs ds : List Nat} (h : KMid m bs ds) (hb : ∀ b ∈ bs, b < 4096) : Ok m := ⟨h.nd, fun n hn => isC_lt (h.key.mp hn) hb⟩
theorem KMid.goes {m : List (Nat × Int)} {bs ds : List Nat} {b : Nat} (K : KMid m bs ds) : KMid (goes m b) bs (ds ++ [b]) := by
  have hs : ∀ x ∈ touchedOf m b, x ∈ keys m := fun x hx => (mem_touched.mp hx).1
  have hn : (touchedOf m b).Nodup := K.nd.sublist (touched_sub m b)
  refine ⟨?_, fun n c => ?_⟩
  · unfold KM.goes
    rw [keys_dec _ _ hs]
    exact K.nd
  · unfold KM.goes
    rw [get_dec _ _ _ hn hs, cnt_append]
    by_cases h : n ∈ touchedOf m b
    · obtain ⟨h1, h2⟩ := mem_touched.mp h
      rw [if_pos h, cnt_one_in h2, (K.at_ n _).mpr ⟨K.key.mp h1, rfl⟩]
      show some ((cnt bs n : Int) - (cnt ds n : Int) - 1) = some c ↔ _
      constructor
      · intro q
        have q := Option.some.inj q
        exact ⟨K.key.mp h1, by omega⟩
      · rintro ⟨_, q⟩
        exact congrArg some (by omega)
    · rw [if_neg h, K.at_]
      constructor
      · rintro ⟨h1, h2⟩
        have nb : ¬ wi n b = true := fun z => h (mem_touched.mpr ⟨K.key.mpr h1, z⟩)
        rw [cnt_one_out nb]
        exact ⟨h1, by omega⟩
      · rintro ⟨h1, h2⟩
        have nb : ¬ wi n b = true := fun z => h (mem_touched.mpr ⟨K.key.mpr h1, z⟩)
        rw [cnt_one_out nb] at h2
        exact ⟨h1, by omega⟩
/-- the touched ones so far, as a dict -/
def tput (t : List (Nat × Unit)) (x : Nat) : List (Nat × Unit) := put t x ()
def tall (t : List (Nat × Unit)) (m : List (Nat × Int)) (b : Nat) : List (Nat × Unit) := (touchedOf m b).foldl tput t
theorem keys_tput {t : List (Nat × Unit)} {x y : Nat} : y ∈ keys (tput t x) ↔ y ∈ keys t ∨ y = x := by
  unfold tput
  rw [keys_put]
  by_cases h : x ∈ keys t
  · rw [if_pos h]
    exact ⟨.inl, fun q => q.elim id fun e => e ▸ h⟩
  · rw [if_neg h, List.mem_append, List.mem_singleton]
theorem keys_tfold : ∀ (ts : List Nat) (t : List (Nat × Unit)) (y : Nat), y ∈ keys (ts.foldl tput t) ↔ y ∈ keys t ∨ y ∈ ts
  | [], t, y => by simp
  | x :: ts, t, y => by
    rw [List.foldl_cons, keys_tfold ts (tput t x) y, keys_tput, List.mem_cons, or_assoc]
/-- is the lot closed no longer, by what is there -/
def gstep (lot : Nat) (o : Option Nat) (b : Nat) : Option Nat := if wi lot b = true then (match o with | none => some b | some f => some (f &&& b)) else o
def gfold (lot : Nat) (there : List Nat) : Option Nat := there.foldl (gstep lot) none
structure GF (lot : Nat) (pre : List Nat) (o : Option Nat) : Prop where
  no : o = none → ∀ b ∈ pre, ¬ wi lot b = true
  at_ : ∀ f, o = some f → (∃ b ∈ pre, wi lot b = true) ∧ (∀ b ∈ pre, wi lot b = true → wi f b = true) ∧ ∀ m, (∀ b ∈ pre, wi lot b = true → wi m b = true) → wi m f = true
theorem GF.step {lot : Nat} {pre : List Nat} {o : Option Nat} (b : Nat) (h : GF lot pre o) : GF lot (pre ++ [b]) (gstep lot o b) := by
  unfold gstep
  by_cases hb : wi lot b = true
  · rw [if_pos hb]
    cases o with
    | none =>
      refine ⟨fun z => (by cases z), fun f z => ?_⟩
      cases z
      have no := h.no rfl
      refine ⟨⟨b, by simp, hb⟩, fun x hx hw => ?_, fun m hm => hm b (by simp) hb⟩
      rcases List.mem_append.mp hx with hx | hx
      · exact absurd hw (no x hx)
      · rw [List.mem_singleton.mp hx]
        exact wi_refl b
    | some f =>
      refine ⟨fun z => (by cases z), fun f' z => ?_⟩
      cases z
      obtain ⟨h1, h2, h3⟩ := h.at_ f rfl
      refine ⟨⟨b, by simp, hb⟩, fun x hx hw => ?_, fun m hm => wi_meet (h3 m fun x hx hw => hm x (List.mem_append_left _ hx) hw) (hm b (by simp) hb)⟩
      rcases List.mem_append.mp hx with hx | hx
      · exact wi_trans (wi_left _ _) (h2 x hx hw)
      · rw [List.mem_singleton.mp hx]
        exact wi_right _ _
  · rw [if_neg hb]
    have off : ∀ x ∈ pre ++ [b], wi lot x = true → x ∈ pre := fun x hx hw => by
      rcases List.mem_append.mp hx with hx | hx
      · exact hx
      · rw [List.mem_singleton.mp hx] at hw
        exact absurd hw hb
    refine ⟨fun z x hx hw => h.no z x (off x hx hw) hw, fun f z => ?_⟩
    obtain ⟨⟨y, h0, h1⟩, h2, h3⟩ := h.at_ f z
    exact ⟨⟨y, List.mem_append_left _ h0, h1⟩, fun x hx hw => h2 x (off x hx hw) hw, fun m hm => h3 m fun x hx hw => hm x (List.mem_append_left _ hx) hw⟩
theorem GF.all (lot : Nat) (there : List Nat) : GF lot there (gfold lot there) :=
  fold_inv (f := gstep lot) (GF lot) (fun pre x o h => h.step x) there [] none ⟨fun _ b hb => absurd hb List.not_mem_nil, fun f z => (by cases z)⟩
theorem gfold_iff (lot : Nat) (there : List Nat) : gfold lot there = some lot ↔ IsC there lot := by
  have G := GF.all lot there
  constructor
  · intro e
    obtain ⟨h1, _, h3⟩ := G.at_ lot e
    exact ⟨h1, h3⟩
  · intro h
    cases e : gfold lot there with
    | none =>
      obtain ⟨b, h1, h2⟩ := h.1
      exact absurd h2 (G.no e b h1)
    | some f =>
      obtain ⟨h1, h2, h3⟩ := G.at_ f e
      rw [wi_anti (h.2 f h2) (h3 lot fun _ _ z => z)]
def gone (lot : Nat) (there : List Nat) : Bool := decide (gfold lot there ≠ some lot)
theorem gone_iff {lot : Nat} {there : List Nat} : gone lot there = true ↔ ¬ IsC there lot := by
  unfold gone
  rw [decide_eq_true_iff, Ne, gfold_iff]
def wash1 (there : List Nat) (k : List (Nat × Int)) (x : Nat) : List (Nat × Int) := if gone x there = true then drop k x else k
theorem get_wash (there : List Nat) : ∀ (ts : List Nat) (k : List (Nat × Int)) (n : Nat), get (ts.foldl (wash1 there) k) n = if n ∈ ts ∧ gone n there = true then none else get k n
  | [], k, n => by simp
  | t :: ts, k, n => by
    rw [List.foldl_cons, get_wash there ts (wash1 there k t) n]
    unfold wash1
    by_cases h1 : n ∈ ts ∧ gone n there = true
    · rw [if_pos h1, if_pos ⟨List.mem_cons_of_mem _ h1.1, h1.2⟩]
    · rw [if_neg h1]
      by_cases h2 : gone t there = true
      · rw [if_pos h2, get_drop]
        by_cases e : n = t
        · rw [if_pos e, if_pos ⟨by rw [e]; exact List.mem_cons_self, by rw [e]; exact h2⟩]
        · rw [if_neg e, if_neg (fun z => h1 ⟨(List.mem_cons.mp z.1).resolve_left e, z.2⟩)]
      · rw [if_neg h2]
        rw [if_neg (fun z => by
          rcases List.mem_cons.mp z.1 with e | q
          · rw [e] at z; exact h2 z.2
          · exact h1 ⟨q, z.2⟩)]
theorem wash_keys (there : List Nat) (ts : List Nat) (k : List (Nat × Int)) : List.Sublist (keys (ts.foldl (wash1 there) k)) (keys k) := by
  induction ts generalizing k with
  | nil => exact List.Sublist.refl _
  | cons t ts ih =>
    rw [List.foldl_cons]
    refine (ih _).trans ?_
    unfold wash1
    split
    · exact (List.filter_sublist (l := k)).map _
    · exact List.Sublist.refl _
/-- a day has gone: what was touched and is closed no longer is dropped -/
theorem KMap.wash {m : List (Nat × Int)} {ds rest : List Nat} {ts : List Nat} (K : KMid m (ds ++ rest) ds) (ht : ∀ n, n ∈ ts ↔ IsC (ds ++ rest) n ∧ ∃ b ∈ ds, wi n b = true) : KMap (ts.foldl (wash1 rest) m) rest := by
  refine ⟨K.nd.sublist (wash_keys _ _ _), fun n c => ?_⟩
  rw [get_wash]
  have ec : (cnt (ds ++ rest) n : Int) - (cnt ds n : Int) = (cnt rest n : Int) := by
    rw [cnt_append]
    omega
  by_cases h : n ∈ ts ∧ gone n rest = true
  · rw [if_pos h]
    exact ⟨fun z => (by cases z), fun z => absurd z.1 (gone_iff.mp h.2)⟩
  · rw [if_neg h, K.at_, ec]
    constructor
    · rintro ⟨h1, h2⟩
      refine ⟨?_, h2⟩
      by_cases hx : ∃ b ∈ ds, wi n b = true
      · by_cases hc : IsC rest n
        · exact hc
        · exact absurd ⟨(ht n).mpr ⟨h1, hx⟩, gone_iff.mpr hc⟩ h
      · obtain ⟨⟨b, b1, b2⟩, q⟩ := h1
        refine ⟨⟨b, (List.mem_append.mp b1).resolve_left fun z => hx ⟨b, z, b2⟩, b2⟩, fun m hm => q m fun x hx' hw => ?_⟩
        rcases List.mem_append.mp hx' with y | y
        · exact absurd ⟨x, y, hw⟩ hx
        · exact hm x y hw
    · rintro ⟨h1, h2⟩
      exact ⟨isC_app_right h1, h2⟩
/-! ### the lists that are told -/
/-- the closed lots that are often, rising -/
structure IsCL (bs : List Nat) (least : Int) (L : List (Nat × Int)) : Prop where
  up : L.Pairwise fun p q => p.1 < q.1
  at_ : ∀ n c, (n, c) ∈ L ↔ IsC bs n ∧ c = (cnt bs n : Int) ∧ least ≤ c
theorem sorted_uniq : ∀ {L M : List (Nat × Int)}, L.Pairwise (fun p q => p.1 < q.1) → M.Pairwise (fun p q => p.1 < q.1) → (∀ p, p ∈ L ↔ p ∈ M) → L = M
  | [], [], _, _, _ => rfl
  | [], q :: M, _, _, h => absurd ((h q).mpr List.mem_cons_self) List.not_mem_nil
  | p :: L, [], _, _, h => absurd ((h p).mp List.mem_cons_self) List.not_mem_nil
  | p :: L, q :: M, hL, hM, h => by
    have l := List.pairwise_cons.mp hL
    have m := List.pairwise_cons.mp hM
    have e : p = q := by
      rcases List.mem_cons.mp ((h p).mp List.mem_cons_self) with e | e1
      · exact e
      · rcases List.mem_cons.mp ((h q).mpr List.mem_cons_self) with e | e2
        · exact e.symm
        · have a := l.1 q e2
          have b := m.1 p e1
          omega
    subst e
    refine congrArg (p :: ·) (sorted_uniq l.2 m.2 fun r => ?_)
    constructor
    · intro hr
      rcases List.mem_cons.mp ((h r).mp (List.mem_cons_of_mem _ hr)) with e | e
      · have a := l.1 r hr
        rw [e] at a
        omega
      · exact e
    · intro hr
      rcases List.mem_cons.mp ((h r).mpr (List.mem_cons_of_mem _ hr)) with e | e
      · have a := m.1 r hr
        rw [e] at a
        omega
      · exact e
theorem IsCL.uniq {bs : List Nat} {least : Int} {L M : List (Nat × Int)} (a : IsCL bs least L) (b : IsCL bs least M) : L = M :=
  sorted_uniq a.up b.up fun p => by
    obtain ⟨n, c⟩ := p
    rw [a.at_, b.at_]
theorem IsCL.nil (least : Int) : IsCL [] least [] := ⟨List.Pairwise.nil, fun n c => ⟨fun h => absurd h List.not_mem_nil, fun h => absurd h.1 (isC_nil n)⟩⟩
theorem keys_of_up {L : List (Nat × Int)} (h : L.Pairwise fun p q => p.1 < q.1) : (keys L).Nodup := by
  unfold keys List.Nodup
  rw [List.pairwise_map]
  exact h.imp fun z e => absurd (e ▸ z) (Nat.lt_irrefl _)
theorem IsCL.ok {bs : List Nat} {least : Int} {L : List (Nat × Int)} (h : IsCL bs least L) (hb : ∀ b ∈ bs, b < 4096) : Ok L :=
  ⟨keys_of_up h.up, fun n hn => by
    obtain ⟨⟨n', c⟩, hp, e⟩ := List.mem_map.mp hn
    have e : n' = n := e
    rw [← e]
    exact isC_lt ((h.at_ n' c).mp hp).1 hb⟩
/-- the keeper's closed lots, put in order -/
theorem KMap.closed {m : List (Nat × Int)} {bs : List Nat} (K : KMap m bs) {least : Int} {L : List (Nat × Int)} (hp : L.Perm (m.filter fun p => decide (least ≤ p.2))) (hs : L.Pairwise fun p q => p.1 ≤ q.1) : IsCL bs least L := by
  have hnd : (keys L).Nodup := (hp.map (·.1)).symm.nodup (K.nd.sublist ((List.filter_sublist (l := m)).map _))
  refine ⟨?_, fun n c => ?_⟩
  · unfold keys List.Nodup at hnd
    rw [List.pairwise_map] at hnd
    exact (hs.and hnd).imp fun {p q} z => by
      have a := z.1
      have b := z.2
      omega
  · rw [hp.mem_iff, List.mem_filter, get_mem K.nd, K.at_]
    simp only [decide_eq_true_eq]
    exact ⟨fun ⟨⟨a, b⟩, c⟩ => ⟨a, b, c⟩, fun ⟨a, b, c⟩ => ⟨⟨a, b⟩, c⟩⟩
/-- the count of a lot, as the keeper has it -/
theorem KMap.count {m : List (Nat × Int)} {bs : List Nat} (K : KMap m bs) {lot : Nat} {z : Int} (h1 : z = 0 ∨ ∃ p ∈ m, wi lot p.1 = true ∧ p.2 = z) (h2 : 0 ≤ z) (h3 : ∀ p ∈ m, wi lot p.1 = true → p.2 ≤ z) : z = (cnt bs lot : Int) := by
  have mem : ∀ s c, (s, c) ∈ m ↔ IsC bs s ∧ c = (cnt bs s : Int) := fun s c => by rw [get_mem K.nd, K.at_]
  have a : z ≤ (cnt bs lot : Int) := by
    rcases h1 with e | ⟨⟨s, c⟩, p1, p2, p3⟩
    · omega
    · have p3 : c = z := p3
      have q := ((mem s c).mp p1).2
      have r := cnt_mono (n := lot) (s := s) p2 bs
      omega
  have b : (cnt bs lot : Int) ≤ z := by
    by_cases h0 : 0 < cnt bs lot
    · obtain ⟨s, c1, c2, c3⟩ := clo (cnt_pos.mp h0)
      have ec : cnt bs lot = cnt bs s := cnt_congr c3
      have q : (cnt bs s : Int) ≤ z := h3 (s, (cnt bs s : Int)) ((mem _ _).mpr ⟨c1, rfl⟩) c2
      omega
    · omega
  omega
/-! ### the law's own way -/
def lput (b : Nat) (f : List (Nat × Int)) (x : Nat) : List (Nat × Int) := put f (x &&& b) 0
def lstep (f : List (Nat × Int)) (b : Nat) : List (Nat × Int) := (keys f ++ [b]).foldl (lput b) f
def lfound (bs : List Nat) : List (Nat × Int) := bs.foldl lstep []
theorem keys_lfold (b : Nat) : ∀ (xs : List Nat) (f : List (Nat × Int)) (y : Nat), y ∈ keys (xs.foldl (lput b) f) ↔ y ∈ keys f ∨ ∃ x ∈ xs, x &&& b = y
  | [], f, y => by simp
  | x :: xs, f, y => by
    rw [List.foldl_cons, keys_lfold b xs (lput b f x) y]
    unfold lput
    rw [keys_put]
    by_cases h : x &&& b ∈ keys f
    · rw [if_pos h]
      constructor
      · rintro (q | ⟨z, h1, h2⟩)
        · exact .inl q
        · exact .inr ⟨z, List.mem_cons_of_mem _ h1, h2⟩
      · rintro (q | ⟨z, h1, h2⟩)
        · exact .inl q
        · rcases List.mem_cons.mp h1 with e | h1
          · rw [e] at h2
            exact .inl (h2 ▸ h)
          · exact .inr ⟨z, h1, h2⟩
    · rw [if_neg h, List.mem_append, List.mem_singleton]
      constructor
      · rintro ((q | q) | ⟨z, h1, h2⟩)
        · exact .inl q
        · exact .inr ⟨x, List.mem_cons_self, q.symm⟩
        · exact .inr ⟨z, List.mem_cons_of_mem _ h1, h2⟩
      · rintro (q | ⟨z, h1, h2⟩)
        · exact .inl (.inl q)
        · rcases List.mem_cons.mp h1 with e | h1
          · rw [e] at h2
            exact .inl (.inr h2.symm)
          · exact .inr ⟨z, h1, h2⟩
theorem lput_ok {b : Nat} (hb : b < 4096) {f : List (Nat × Int)} (h : Ok f) (x : Nat) : Ok (lput b f x) := h.put _ (Nat.lt_of_le_of_lt Nat.and_le_right hb)
theorem lstep_ok {b : Nat} (hb : b < 4096) {f : List (Nat × Int)} (h : Ok f) : Ok (lstep f b) := fold_ok (f := lput b) Ok _ _ h fun f x _ hf => lput_ok hb hf x
theorem lfound_ok {bs : List Nat} (hb : ∀ b ∈ bs, b < 4096) : Ok (lfound bs) := fold_ok (f := lstep) Ok _ _ Ok.nil fun f x hx hf => lstep_ok (hb x hx) hf
theorem lfound_at (bs : List Nat) (n : Nat) : n ∈ keys (lfound bs) ↔ IsC bs n := by
  have q := fold_inv (f := lstep) (fun pre f => ∀ n, n ∈ keys f ↔ IsC pre n) (fun pre b f h n => by
    unfold lstep
    rw [keys_lfold, isC_snoc, h]
    constructor
    · rintro (q | ⟨x, h1, h2⟩)
      · exact .inl q
      · rcases List.mem_append.mp h1 with h1 | h1
        · exact .inr (.inr ⟨x, (h x).mp h1, h2⟩)
        · rw [List.mem_singleton.mp h1, Nat.and_self] at h2
          exact .inr (.inl h2.symm)
    · rintro (q | q | ⟨s, h1, h2⟩)
      · exact .inl q
      · exact .inr ⟨b, by simp, by rw [Nat.and_self, q]⟩
      · exact .inr ⟨s, List.mem_append_left _ ((h s).mpr h1), h2⟩) bs [] [] (fun n => ⟨fun h => absurd h List.not_mem_nil, fun h => absurd h (isC_nil n)⟩)
  exact q n
/-- the law's rows: the keys in order, each with its count, those that are often -/
def rowsOf (bs : List Nat) (ks : List Nat) : List (Nat × Int) := ks.map fun n => (n, (cnt bs n : Int))
theorem law_closed {bs ks : List Nat} {least : Int} (hp : ks.Perm (keys (lfound bs))) (hs : ks.Pairwise (· ≤ ·)) (hb : ∀ b ∈ bs, b < 4096) : IsCL bs least ((rowsOf bs ks).filter fun p => decide (least ≤ p.2)) := by
  have nd : ks.Nodup := hp.symm.nodup (lfound_ok hb).nd
  have st : ks.Pairwise (· < ·) := (hs.and nd).imp fun {p q} z => Nat.lt_of_le_of_ne z.1 z.2
  refine ⟨?_, fun n c => ?_⟩
  · refine List.Pairwise.filter _ ?_
    unfold rowsOf
    rw [List.pairwise_map]
    exact st
  · rw [List.mem_filter]
    unfold rowsOf
    rw [List.mem_map]
    simp only [decide_eq_true_eq]
    constructor
    · rintro ⟨⟨x, h1, h2⟩, h3⟩
      cases h2
      exact ⟨(lfound_at bs n).mp (hp.mem_iff.mp h1), rfl, h3⟩
    · rintro ⟨h1, h2, h3⟩
      exact ⟨⟨n, hp.mem_iff.mpr ((lfound_at bs n).mpr h1), by rw [h2]⟩, h3⟩
/-! ### changes -/
def cameL (A B : List (Nat × Int)) : List (Nat × Int) := B.filter fun p => (get A p.1).isNone
def movedL (A B : List (Nat × Int)) : List (Nat × Int × Int) := B.filterMap fun p => match get A p.1 with | some c => if c = p.2 then none else some (p.1, c, p.2) | none => none
theorem moved_app (A L M : List (Nat × Int)) : movedL A (L ++ M) = movedL A L ++ movedL A M := List.filterMap_append
theorem moved_no {A : List (Nat × Int)} {n : Nat} {c : Int} (h : get A n = none) : movedL A [(n, c)] = [] := by
  simp [movedL, h]
theorem moved_same {A : List (Nat × Int)} {n : Nat} {a c : Int} (h : get A n = some a) (e : a = c) : movedL A [(n, c)] = [] := by
  simp [movedL, h, e]
theorem moved_one {A : List (Nat × Int)} {n : Nat} {a c : Int} (h : get A n = some a) (e : ¬ a = c) : movedL A [(n, c)] = [(n, a, c)] := by
  simp [movedL, h, e]
/-- a dict made of a list of pairs whose keys stand apart -/
def ofL (L : List (Nat × Int)) : List (Nat × Int) := L.foldl (fun m p => put m p.1 p.2) []
theorem ofL_pre : ∀ (L m : List (Nat × Int)), (keys (m ++ L)).Nodup → L.foldl (fun m p => put m p.1 p.2) m = m ++ L
  | [], m, _ => by simp
  | p :: L, m, h => by
    have e : m ++ p :: L = (m ++ [p]) ++ L := by simp
    have hk : p.1 ∉ keys m := fun z => by
      unfold keys at h z
      rw [List.map_append, List.nodup_append] at h
      exact h.2.2 p.1 z p.1 (by simp) rfl
    have q : put m p.1 p.2 = m ++ [p] := by
      unfold put
      rw [if_neg (fun z => hk (any_key.mp z))]
    rw [List.foldl_cons, q, e]
    exact ofL_pre L (m ++ [p]) (by rw [← e]; exact h)
theorem ofL_eq {L : List (Nat × Int)} (h : (keys L).Nodup) : ofL L = L := ofL_pre L [] h
end KM

/-! Rules that the layer lacks: d.keys() as a value, list(d.keys()), sorted(d.keys()), sorted(d), any number of int keys. -/
namespace Kp
open PySem PySem.Spec PyProof.Rows L2
/-- the view d.keys() at p -/
def keysO (p d : Addr) : HO := .ext fun h => PySem.W.KdlKeysView h p d
theorem keysO_ok {P : Program} {w : World} {H : Hp} {h : Heap} {p d : Addr} (e : h.get? p = some { cls := .type "dict_keys", data := .fields #[.ref d] }) : ObjOk P w H h p (keysO p d) :=
  ⟨⟨_, e, rfl, rfl⟩, ⟨_, e⟩, fun _ _ x k => let ⟨o, ho, r⟩ := x; ⟨o, k o ho, r⟩⟩
/-- d.keys() -/
def rKeysV : V → List V → Hp → VK → Prop := fun x xs H Q => ∃ (a : Addr) (kvs : List (L2.Key × V)), x = .ref a ∧ xs = [] ∧ Rd H a (.dK kvs) ∧ ∀ p, H p = none → Q (.ref p) (upd H p (keysO p a))
section
variable {X : Cx}
theorem mt_keysV : MtR X "dict.keys" rKeysV := by
  intro pins s st H x xs v us Q I rx rxs hh
  obtain ⟨a, kvs, rfl, rfl, ha, q⟩ := hh
  cases rx
  cases rxs
  obtain ⟨_, lo, vs, _, dd⟩ := dk_rd I.hok ha
  have fr : H s.heap.objs.size = none := I.hok.fresh (Nat.le_refl _)
  refine call_meetsIn PySem.F.slot_dict_keys dd.typeIs PySem.F.entry_dict_keys (PySem.F.args_dict_keys_1 _) (PySem.W.kdl_meets_keys (mixKind X.prog X.w) a lo) ⟨⟨vs, dd⟩, ?_⟩
  exact ⟨.ref s.heap.objs.size, upd H s.heap.objs.size (keysO s.heap.objs.size a), I.laid (t' := s.toks) (fun _ _ e => Heap.get?_push_of_some _ e) (Nat.le_refl _) (keysO_ok (Heap.get?_push_size _ rfl)), rfl, q _ fr⟩
end
/-- the ints that a source of keys gives -/
theorem keys_vals {P : Program} {w : World} {kvs : List (L2.Key × V)} {vs : List (L2.Key × Value)} {acc : Array Value} (rel : KV kvs vs)
    (hacc : ItemsOf (fun i v => ∃ k x, vs[i]? = some (k, x) ∧ (mixKind P w).is k v = true) acc vs.length) : Vals (kvs.map fun kv => kV kv.1) acc.toList := by
  have hl : kvs.length = vs.length := Paired.length rel
  have el : acc.toList.length = acc.size := by simp
  refine vals_of_at (by rw [List.length_map, el, hacc.1, hl]) fun j x u h1 h2 => ?_
  obtain ⟨k, y, hky, hi⟩ := hacc.2 j u (by rw [← Array.getElem?_toList]; exact h2)
  have h3 : (vs.map (·.1))[j]? = some k := by
    rw [List.getElem?_map, hky]
    rfl
  rw [← KV.keys rel, List.getElem?_map] at h3
  rw [List.getElem?_map] at h1
  cases e : kvs[j]? with
  | none =>
    rw [e] at h3
    cases h3
  | some p =>
    rw [e] at h1 h3
    have h1 : kV p.1 = x := Option.some.inj h1
    have h3 : p.1 = k := Option.some.inj h3
    rw [← h1, h3]
    exact keyIs_rel hi
/-- list(v), v the view d.keys() -/
def rListKV : List V → Hp → VK → Prop := fun xs H Q => ∃ (v a : Addr) (kvs : List (L2.Key × V)), xs = [.ref v] ∧ H v = some (keysO v a) ∧ Rd H a (.dK kvs) ∧ ∀ q, H q = none → Q (.ref q) (upd H q (.lst (kvs.map fun kv => kV kv.1)))
/-- sorted(v), v the view d.keys(), the keys ints -/
def rSortKV : List V → Hp → VK → Prop := fun xs H Q => ∃ (v a : Addr) (kvs : List (L2.Key × V)) (ks : List Int), xs = [.ref v] ∧ H v = some (keysO v a) ∧ Rd H a (.dK kvs) ∧ (kvs.map fun kv => kV kv.1) = ks.map V.int ∧
  ∀ (ys : List Int) (q : Addr), ys.Perm ks → ys.Pairwise (· ≤ ·) → H q = none → Q (.ref q) (upd H q (.lst (ys.map V.int)))
/-- sorted(d), the keys ints -/
def rSortD : List V → Hp → VK → Prop := fun xs H Q => ∃ (a : Addr) (kvs : List (L2.Key × V)) (ks : List Int), xs = [.ref a] ∧ Rd H a (.dK kvs) ∧ (kvs.map fun kv => kV kv.1) = ks.map V.int ∧
  ∀ (ys : List Int) (q : Addr), ys.Perm ks → ys.Pairwise (· ≤ ·) → H q = none → Q (.ref q) (upd H q (.lst (ys.map V.int)))
section
variable {X : Cx}
theorem call_listKV (hc : X.calm = true) : CallR X (.type "list") rListKV := by
  intro pins s st H xs us Q I r hq
  obtain ⟨v, a, kvs, rfl, hv, ha, q⟩ := hq
  obtain ⟨u, rfl, ru⟩ := vals1 r
  obtain rfl : u = Value.ref v := ru
  have view : PySem.W.KdlKeysView s.heap v a := (show ObjOk X.prog X.w H s.heap v (keysO v a) from I.hok v _ hv).1
  obtain ⟨z, lo, vs, rel, dd⟩ := dk_rd I.hok ha
  obtain ⟨ep, hat⟩ := dd.dictAt
  have hl : kvs.length = vs.length := Paired.length rel
  refine PySem.W.kdl_call (PySem.W.kdl_keys (knd := mixKind X.prog X.w) (r := v) (d := a) (kvs := vs) (ep := ep)) (I.ok.hd hc) ⟨view, hat⟩ (by omega) fun h' tk acc c keep hS hacc => ?_
  have hv := keys_vals rel hacc
  refine ⟨.ref s.heap.objs.size, upd H s.heap.objs.size (.lst (kvs.map fun kv => kV kv.1)), I.laid keep (Nat.le_refl _) ⟨by rw [List.length_map]; exact z, acc.toList, c, hv, ?_⟩, rfl, q _ (I.hok.fresh (Nat.le_refl _))⟩
  rw [Array.toArray_toList]
  exact hS
/-- sorted of a source of int keys -/
theorem sort_src {T : String} {r d : Addr} {n : Nat} {Pk : Nat → Value → Prop} {OK : Heap → Prop} {pins : List (Addr × Obj)} {s : Shared} {st : L2.St} {H : Hp} {Q : VK} {ks : List Int} (hc : X.calm = true) (I : Inv X pins st H s)
    (S : PySem.W.KdlSrc X.prog X.w T r d n Pk OK) (ok : OK s.heap) (hn : n ≤ sizeLine) (hv : ∀ acc : Array Value, ItemsOf Pk acc n → Vals (ks.map V.int) acc.toList)
    (q : ∀ (ys : List Int) (p : Addr), ys.Perm ks → ys.Pairwise (· ≤ ·) → H p = none → Q (.ref p) (upd H p (.lst (ys.map V.int)))) :
    wpAny (model X.prog X.w) X.A (call (.builtin "sorted") [.ref r]) (EP X pins st Q) X.xe s := by
  refine Calls.call_function_entry PyProof.Rows.kind_sorted PyProof.Rows.plain_sorted PyProof.Rows.entry_sorted (PyProof.Rows.args_sorted1 _) ?_
  unfold Builtin.«sorted»
  refine wpAny_bind (m := checkCount "sorted" 1 1 _) (wpAny_pure ?_)
  refine wpAny_bind (PySem.W.kdu_collect (A := X.A.in1) S (I.ok.hd hc) ok hn fun h1 tk acc keep hacc => ?_)
  have rv := hv acc hacc
  have hi := rv.ints
  have el : acc.toList.length = n := by rw [Array.length_toList, hacc.1]
  have J : Inv X pins st H { s with heap := h1, toks := tk } := I.kept keep
  refine wpAny_bind (wpAny_newList ?_ (by rw [el]; exact hn))
  have ob : (h1.push (seqObj "list" acc.toList.toArray 0)).get? h1.objs.size = some (seqObj "list" acc.toList.toArray 0) := Heap.get?_push_size _ rfl
  show wpAny _ _ _ _ _ { s with heap := h1.push (seqObj "list" acc.toList.toArray 0), toks := tk }
  refine wpAny_bind (wpAny_holding (wpAny_call_entry PyProof.Rows.slot_list_sort ⟨_, ob, rfl⟩ PyProof.Rows.entry_list_sort
    (SrtO.list_sort_ord (s := { s with heap := h1.push (seqObj "list" acc.toList.toArray 0), toks := tk }) SrtO.swo_int ob (by rw [el]; exact hn) (fun h2 => SrtO.ints_sortable hi h2) fun out g1 g2 => ⟨.none, rfl, ?_⟩) (PyProof.Rows.args_list_sort _)))
  obtain ⟨k1, k2, k3⟩ := SrtO.ints_out hi g1 g2
  obtain ⟨ep, hep⟩ := PyProof.Rows.sortedHeap_at (vs := acc.toList) (out := out.toArray) ob
  have hz : ((out.map SrtO.iv).map V.int).length ≤ sizeLine := by
    rw [List.length_map, k2.length_eq]
    have e := Vals.length rv
    rw [List.length_map] at e
    omega
  refine wpAny_pure ⟨_, rfl, .ref h1.objs.size, upd H h1.objs.size (.lst ((out.map SrtO.iv).map V.int)), J.laid (t' := tk) (fun b u e => ?_) (Nat.le_refl _) ⟨hz, out, ep, vals_of_ints k1, hep⟩, rfl, q _ _ k2 k3 (J.hok.fresh (Nat.le_refl _))⟩
  have hb : b < h1.objs.size := Heap.lt_size e
  rw [PyProof.Rows.sortedHeap_old (Nat.ne_of_lt hb) (by rw [size_push']; exact Nat.lt_succ_of_lt hb)]
  exact Heap.get?_push_of_some _ e
theorem call_sortKV (hc : X.calm = true) : CallR X (.builtin "sorted") rSortKV := by
  intro pins s st H xs us Q I r hq
  obtain ⟨v, a, kvs, ks, rfl, hv, ha, hk, q⟩ := hq
  obtain ⟨u, rfl, ru⟩ := vals1 r
  obtain rfl : u = Value.ref v := ru
  have view : PySem.W.KdlKeysView s.heap v a := (show ObjOk X.prog X.w H s.heap v (keysO v a) from I.hok v _ hv).1
  obtain ⟨z, lo, vs, rel, dd⟩ := dk_rd I.hok ha
  obtain ⟨ep, hat⟩ := dd.dictAt
  have hl : kvs.length = vs.length := Paired.length rel
  exact sort_src hc I (PySem.W.kdl_keys (knd := mixKind X.prog X.w) (r := v) (d := a) (kvs := vs) (ep := ep)) ⟨view, hat⟩ (by omega) (fun acc hacc => by rw [← hk]; exact keys_vals rel hacc) q
theorem call_sortD (hc : X.calm = true) : CallR X (.builtin "sorted") rSortD := by
  intro pins s st H xs us Q I r hq
  obtain ⟨a, kvs, ks, rfl, ha, hk, q⟩ := hq
  obtain ⟨u, rfl, ru⟩ := vals1 r
  obtain rfl : u = Value.ref a := ru
  obtain ⟨z, lo, vs, rel, dd⟩ := dk_rd I.hok ha
  obtain ⟨ep, hat⟩ := dd.dictAt
  have hl : kvs.length = vs.length := Paired.length rel
  exact sort_src hc I (PySem.W.kdl_dict (knd := mixKind X.prog X.w) (kvs := vs) (ep := ep) lo) hat (by omega) (fun acc hacc => by rw [← hk]; exact keys_vals rel hacc) q
end
end Kp

/-! The text by places, its names by slots, dicts and lists of pairs in the heap. -/
namespace Kp
open PySem PySem.Spec PyProof.Rows L2
/-! ### the text -/
def top (i : Nat) : Stmt := PySem.Challenge.pw_oftenlots_k32_whole_days_that_come_and_g.main.body.getD i (.Pass ⟨0, 0, 0, 0⟩)
abbrev sWithin : Stmt := top 2
abbrev sInit : Stmt := inClass (top 4) 0
abbrev sComes : Stmt := inClass (top 4) 1
abbrev sGoes : Stmt := inClass (top 4) 2
abbrev sGone : Stmt := inClass (top 4) 3
abbrev sDayGoes : Stmt := inClass (top 4) 4
abbrev sCome : Stmt := inClass (top 4) 5
abbrev sClosed : Stmt := inClass (top 4) 9
abbrev sCount : Stmt := inClass (top 4) 10
abbrev sChanges : Stmt := inClass (top 4) 11
abbrev sCellAt : Stmt := top 6
abbrev sDraws : Stmt := top 7
abbrev sLCount : Stmt := top 8
abbrev sLClosed : Stmt := top 9
abbrev sLChanges : Stmt := top 10
abbrev sDay : Stmt := top 11
abbrev sLaw : Stmt := top 12
theorem scWithin : FnScope ["one", "other"] ["one", "other"] (defScope sWithin) := ⟨rfl, rfl, rfl, by decide +kernel, rfl, by decide +kernel, by decide +kernel⟩
theorem scInit : FnScope ["self", "many", "least", "most"] ["self", "many", "least", "most"] (defScope sInit) := ⟨rfl, rfl, rfl, by decide +kernel, rfl, by decide +kernel, by decide +kernel⟩
theorem scComes : FnScope ["self", "basket", "found", "lot", "crossing"] ["self", "basket"] (defScope sComes) := ⟨rfl, rfl, rfl, by decide +kernel, rfl, by decide +kernel, by decide +kernel⟩
theorem scGoes : FnScope ["self", "basket", "lot", "touched"] ["self", "basket"] (defScope sGoes) := ⟨rfl, rfl, rfl, by decide +kernel, rfl, by decide +kernel, by decide +kernel⟩
theorem scGone : FnScope ["self", "lot", "there", "found", "basket"] ["self", "lot", "there"] (defScope sGone) := ⟨rfl, rfl, rfl, by decide +kernel, rfl, by decide +kernel, by decide +kernel⟩
theorem scDayGoes : FnScope ["self", "touched", "basket", "lot", "there", "day"] ["self"] (defScope sDayGoes) := ⟨rfl, rfl, rfl, by decide +kernel, rfl, by decide +kernel, by decide +kernel⟩
theorem scCome : FnScope ["self", "day", "basket"] ["self", "day"] (defScope sCome) := ⟨rfl, rfl, rfl, by decide +kernel, rfl, by decide +kernel, by decide +kernel⟩
theorem scClosed : FnScope ["self", "lot"] ["self"] (defScope sClosed) := ⟨rfl, rfl, rfl, by decide +kernel, rfl, by decide +kernel, by decide +kernel⟩
theorem scCount : FnScope ["self", "lot", "other"] ["self", "lot"] (defScope sCount) := ⟨rfl, rfl, rfl, by decide +kernel, rfl, by decide +kernel, by decide +kernel⟩
theorem scChanges : FnScope ["self", "then", "lot", "many", "now", "came", "went", "moved"] ["self"] (defScope sChanges) := ⟨rfl, rfl, rfl, by decide +kernel, rfl, by decide +kernel, by decide +kernel⟩
theorem scCellAt : FnScope ["_law_script", "_law_k"] ["_law_script", "_law_k"] (defScope sCellAt) := ⟨rfl, rfl, rfl, by decide +kernel, rfl, by decide +kernel, by decide +kernel⟩
theorem scDraws : FnScope ["_law_cell", "_law_many", "_law_base", "_law_found", "_law_left", "_law_k", "_law_number"] ["_law_cell", "_law_many", "_law_base"] (defScope sDraws) := ⟨rfl, rfl, rfl, by decide +kernel, rfl, by decide +kernel, by decide +kernel⟩
theorem scLCount : FnScope ["_law_book", "_law_lot", "_law_basket"] ["_law_book", "_law_lot"] (defScope sLCount) := ⟨rfl, rfl, rfl, by decide +kernel, rfl, by decide +kernel, by decide +kernel⟩
theorem scLClosed : FnScope ["_law_many", "_law_days", "_law_least", "_law_book", "_law_day", "_law_found", "_law_basket", "_law_lot", "_law_rows", "_law_row"] ["_law_many", "_law_days", "_law_least"] (defScope sLClosed) := ⟨rfl, rfl, rfl, by decide +kernel, rfl, by decide +kernel, by decide +kernel⟩
theorem scLChanges : FnScope ["_law_ahead", "_law_behind", "_law_then", "_law_now", "_law_came", "_law_went", "_law_moved", "_law_row", "_law_lot"] ["_law_ahead", "_law_behind"] (defScope sLChanges) := ⟨rfl, rfl, rfl, by decide +kernel, rfl, by decide +kernel, by decide +kernel⟩
theorem scDay : FnScope ["_law_cell", "_law_many", "_law_digits", "_law_day", "_law_k", "_law_basket"] ["_law_cell", "_law_many"] (defScope sDay) := ⟨rfl, rfl, rfl, by decide +kernel, rfl, by decide +kernel, by decide +kernel⟩
theorem scLaw : FnScope ["_law_script", "_law_keeper", "_law_days", "_law_ahead", "_law_k", "_law_cell", "_law_shift", "_law_day", "_law_now", "_law_book", "_law_one", "_law_basket"] ["_law_script"] (defScope sLaw) := ⟨rfl, rfl, rfl, by decide +kernel, rfl, by decide +kernel, by decide +kernel⟩
/-! ### bits -/
theorem and_nat (a b : Nat) : Builtin.bitAnd (a : Int) (b : Int) = ((a &&& b : Nat) : Int) := by
  unfold Builtin.bitAnd
  rw [decide_eq_true (Int.natCast_nonneg a), decide_eq_true (Int.natCast_nonneg b)]
  rfl
theorem and_neg1 (b : Nat) : Builtin.bitAnd (-1) (b : Int) = (b : Int) := by
  unfold Builtin.bitAnd
  rw [decide_eq_true (Int.natCast_nonneg b), show decide ((0 : Int) ≤ -1) = false from rfl]
  show (b : Int) - (((b : Int).toNat &&& (Builtin.bitNot (-1)).toNat : Nat) : Int) = (b : Int)
  rw [show (Builtin.bitNot (-1)).toNat = 0 from rfl, Nat.and_zero]
  simp
/-- a & b of lots -/
def rAndN : R2 := fun x y H Q => ∃ a b : Nat, x = .int (a : Int) ∧ y = .int (b : Int) ∧ Q (.int ((a &&& b : Nat) : Int)) H
theorem op_andN {X : Cx} : OpR X (binaryOp .BitAnd) rAndN := by
  intro pins s st H x y v u Q I rx ry h
  obtain ⟨a, b, rfl, rfl, q⟩ := h
  refine op_and pins s st H _ _ v u Q I rx ry ⟨_, _, rfl, rfl, ?_⟩
  show Q (.int (Builtin.bitAnd (a : Int) (b : Int))) H
  rw [and_nat]
  exact q
/-- what some baskets have in common, of none -1 -/
def oi : Option Nat → Int
  | none => -1
  | some n => (n : Int)
def rAndO : R2 := fun x y H Q => ∃ (o : Option Nat) (b : Nat), x = .int (oi o) ∧ y = .int (b : Int) ∧ Q (.int (oi (match o with | none => some b | some f => some (f &&& b)))) H
theorem op_andO {X : Cx} : OpR X (binaryOp .BitAnd) rAndO := by
  intro pins s st H x y v u Q I rx ry h
  obtain ⟨o, b, rfl, rfl, q⟩ := h
  refine op_and pins s st H _ _ v u Q I rx ry ⟨_, _, rfl, rfl, ?_⟩
  cases o with
  | none =>
    show Q (.int (Builtin.bitAnd (-1) (b : Int))) H
    rw [and_neg1]
    exact q
  | some f =>
    show Q (.int (Builtin.bitAnd (f : Int) (b : Int))) H
    rw [and_nat]
    exact q
/-! ### dicts whose keys are lots -/
section
variable {A : Type} (g : A → V)
abbrev kN (n : Nat) : L2.Key := Sum.inl (n : Int)
def enc (m : List (Nat × A)) : List (L2.Key × V) := m.map fun p => (kN p.1, g p.2)
theorem kN_iff {a b : Nat} : kN a = kN b ↔ a = b := by
  constructor
  · intro h
    exact Int.ofNat.inj (Sum.inl.inj h)
  · intro h
    rw [h]
theorem enc_len (m : List (Nat × A)) : (enc g m).length = m.length := List.length_map _
theorem enc_val (n : Nat) : ∀ m : List (Nat × A), valV (enc g m) (kN n) = (KM.get m n).map g
  | [] => rfl
  | p :: r => by
    have ih := enc_val n r
    show valV ((kN p.1, g p.2) :: enc g r) (kN n) = _
    by_cases e : p.1 = n
    · rw [valV_pos (show (kN p.1, g p.2).1 = kN n from kN_iff.mpr e), KM.get_pos e]
      rfl
    · rw [valV_neg (show ¬ (kN p.1, g p.2).1 = kN n from fun z => e (kN_iff.mp z)), KM.get_neg e]
      exact ih
theorem enc_any (n : Nat) (m : List (Nat × A)) : ((enc g m).any fun kv => decide (kv.1 = kN n)) = (m.any fun p => decide (p.1 = n)) := by
  unfold enc
  rw [List.any_map]
  refine congrArg (fun f => m.any f) (funext fun p => ?_)
  show decide (kN p.1 = kN n) = decide (p.1 = n)
  by_cases e : p.1 = n
  · rw [decide_eq_true e, decide_eq_true (kN_iff.mpr e)]
  · rw [decide_eq_false e, decide_eq_false (fun z => e (kN_iff.mp z))]
theorem enc_put (n : Nat) (c : A) (m : List (Nat × A)) : putK (enc g m) (kN n) (g c) = enc g (KM.put m n c) := by
  unfold putK KM.put
  rw [enc_any]
  by_cases h : (m.any fun p => decide (p.1 = n)) = true
  · rw [if_pos h, if_pos h]
    unfold enc
    rw [List.map_map, List.map_map]
    refine List.map_congr_left fun p _ => ?_
    show (if kN p.1 = kN n then (kN p.1, g c) else (kN p.1, g p.2)) = (kN (if p.1 = n then (p.1, c) else p).1, g (if p.1 = n then (p.1, c) else p).2)
    by_cases e : p.1 = n
    · rw [if_pos (kN_iff.mpr e), if_pos e]
    · rw [if_neg (fun z => e (kN_iff.mp z)), if_neg e]
  · rw [if_neg h, if_neg h]
    unfold enc
    rw [List.map_append]
    rfl
theorem enc_drop (n : Nat) (m : List (Nat × A)) : dropK (enc g m) (kN n) = enc g (KM.drop m n) := by
  unfold dropK KM.drop enc
  rw [List.filter_map]
  refine congrArg _ (congrArg (fun f => m.filter f) (funext fun p => ?_))
  show decide (kN p.1 ≠ kN n) = decide (p.1 ≠ n)
  by_cases e : p.1 = n
  · simp [e]
  · have q : ¬ kN p.1 = kN n := fun z => e (kN_iff.mp z)
    simp only [ne_eq, e, q, not_false_eq_true]
theorem enc_at {m : List (Nat × A)} {i : Nat} {k : L2.Key} {v : V} (h : (enc g m)[i]? = some (k, v)) : ∃ n c, m[i]? = some (n, c) ∧ k = kN n ∧ v = g c := by
  unfold enc at h
  rw [List.getElem?_map] at h
  cases e : m[i]? with
  | none => rw [e] at h; cases h
  | some p =>
    rw [e] at h
    have h := Option.some.inj h
    exact ⟨p.1, p.2, rfl, (congrArg Prod.fst h).symm, (congrArg Prod.snd h).symm⟩
theorem enc_keys (m : List (Nat × A)) : ((enc g m).map fun kv => kV kv.1) = (KM.keys m).map fun n : Nat => V.int (n : Int) := by
  unfold enc KM.keys
  rw [List.map_map, List.map_map]
  rfl
end
/-- reading and writing such a dict -/
theorem dget {A : Type} {g : A → V} {H : Hp} {d : Addr} {m : List (Nat × A)} (h : Rd H d (.dK (enc g m))) (n : Nat) : DGet H d (.int (n : Int)) ((KM.get m n).map g) :=
  .inl ⟨_, kN n, h, rfl, (enc_val g n m).symm⟩
theorem dget_at {A : Type} {g : A → V} {H : Hp} {d : Addr} {m : List (Nat × A)} {n : Nat} {c : A} (h : Rd H d (.dK (enc g m))) (e : KM.get m n = some c) : DGet H d (.int (n : Int)) (some (g c)) := by
  have q := dget h n
  rw [e] at q
  exact q
theorem dput {A : Type} {g : A → V} {H : Hp} {d : Addr} {m : List (Nat × A)} (h : H d = some (.dK (enc g m))) (hl : m.length ≤ 4096) (n : Nat) (c : A) : DPut H d (.int (n : Int)) (g c) (upd H d (.dK (enc g (KM.put m n c)))) := by
  have q : DPut H d (kV (kN n)) (g c) (upd H d (.dK (putK (enc g m) (kN n) (g c)))) := DPut.k h (by rw [enc_len]; exact Nat.lt_of_le_of_lt hl (by decide))
  rw [enc_put] at q
  exact q
theorem line4096 {n : Nat} (h : n ≤ 8192) : n < sizeLine := Nat.lt_of_le_of_lt h (by decide)
/-! ### lists of lots, lists of pairs -/
abbrev lots (ns : List Nat) : List V := ns.map fun n : Nat => V.int (n : Int)
theorem lots_at {ns : List Nat} {i : Nat} {x : V} (h : (lots ns)[i]? = some x) : ∃ n, ns[i]? = some n ∧ x = .int (n : Int) := by
  rw [List.getElem?_map] at h
  cases e : ns[i]? with
  | none => rw [e] at h; cases h
  | some n =>
    rw [e] at h
    exact ⟨n, rfl, (Option.some.inj h).symm⟩
theorem lots_app (ns ms : List Nat) : lots (ns ++ ms) = lots ns ++ lots ms := List.map_append
theorem lots_snoc (ns : List Nat) (n : Nat) : lots (ns ++ [n]) = lots ns ++ [V.int (n : Int)] := List.map_append
theorem lots_len (ns : List Nat) : (lots ns).length = ns.length := List.length_map _
theorem lots_int (ns : List Nat) : lots ns = (ns.map fun n : Nat => (n : Int)).map V.int := by
  rw [List.map_map]
  rfl
abbrev pr (p : Nat × Int) : HO := .tup [.int (p.1 : Int), .int p.2]
/-- at a a list of tuples, the pairs of L -/
def PLs (H : Hp) (a : Addr) (L : List (Nat × Int)) : Prop := ∃ ts : List Addr, H a = some (.lst (ts.map V.ref)) ∧ Paired (fun t p => H t = some (pr p)) ts L
/-- all is kept but what stands in ex -/
def Keep (ex : List Addr) (H H' : Hp) : Prop := ∀ b o, H b = some o → b ∉ ex → H' b = some o
theorem Keep.refl (ex : List Addr) (H : Hp) : Keep ex H H := fun _ _ h _ => h
theorem Keep.trans {ex : List Addr} {H H1 H2 : Hp} (a : Keep ex H H1) (b : Keep ex H1 H2) : Keep ex H H2 := fun c o h n => b c o (a c o h n) n
theorem Keep.of {ex : List Addr} {H H' : Hp} (a : Same H H') : Keep ex H H' := fun c o h _ => a c o h
theorem Keep.same {H H' : Hp} (a : Keep [] H H') : Same H H' := fun c o h => a c o h List.not_mem_nil
theorem Keep.mono {ex ex' : List Addr} {H H' : Hp} (a : Keep ex H H') (h : ∀ b ∈ ex, b ∈ ex') : Keep ex' H H' := fun c o e n => a c o e fun z => n (h c z)
theorem Keep.new {ex : List Addr} {H H' : Hp} {p : Addr} {o : HO} (a : Keep ex H H') (n : H' p = none) : Keep ex H (upd H' p o) := fun c u e z => by
  have q := a c u e z
  rw [upd_ne (ne_of_none q n)]
  exact q
theorem Keep.wr {ex : List Addr} {H H' : Hp} {p : Addr} {o : HO} (a : Keep ex H H') (n : p ∈ ex) : Keep ex H (upd H' p o) := fun c u e z => by
  have ne : c ≠ p := fun q => z (by rw [q]; exact n)
  rw [upd_ne ne]
  exact a c u e z
/-- written at a place that was new -/
theorem Keep.wn {ex : List Addr} {H H' : Hp} {p : Addr} {o : HO} (a : Keep ex H H') (n : H p = none) : Keep ex H (upd H' p o) := fun c u e z => by
  rw [upd_ne (ne_of_none e n)]
  exact a c u e z
theorem Keep.sub {ex ex' : List Addr} {H H' : Hp} (a : Keep ex' H H') (h : ∀ b ∈ ex', b ∈ ex ∨ H b = none) : Keep ex H H' := fun c o e n => a c o e fun z => by
  rcases h c z with q | q
  · exact n q
  · rw [q] at e
    cases e
theorem Keep.upd {ex : List Addr} {H H' : Hp} (a : Keep ex H H') {b : Addr} {o : HO} (h : H b = some o) (n : b ∉ ex) : H' b = some o := a b o h n
theorem paired_imp {A B : Type} {F G : A → B → Prop} : ∀ {l : List A} {m : List B}, Paired F l m → (∀ a b, a ∈ l → F a b → G a b) → Paired G l m
  | _, _, .nil, _ => .nil
  | _, _, .cons h t, f => .cons (f _ _ List.mem_cons_self h) (paired_imp t fun a b ha => f a b (List.mem_cons_of_mem _ ha))
theorem PLs.keep {H H' : Hp} {a : Addr} {L : List (Nat × Int)} (h : PLs H a L) (ha : ∀ o, H a = some o → H' a = some o) (ht : ∀ b xs, H b = some (.tup xs) → H' b = some (.tup xs)) : PLs H' a L := by
  obtain ⟨ts, h1, h2⟩ := h
  exact ⟨ts, ha _ h1, paired_imp h2 fun t p _ e => ht _ _ e⟩
theorem PLs.same {H H' : Hp} {a : Addr} {L : List (Nat × Int)} (h : PLs H a L) (s : Same H H') : PLs H' a L := h.keep (fun o e => s _ o e) fun b xs e => s b _ e
theorem paired_at {A B : Type} {F : A → B → Prop} : ∀ {l : List A} {m : List B}, Paired F l m → ∀ {i : Nat} {a : A}, l[i]? = some a → ∃ b, m[i]? = some b ∧ F a b
  | _, _, .nil, i, a, h => by cases h
  | _, _, .cons r t, 0, a, h => by
    have e := Option.some.inj h
    subst e
    exact ⟨_, rfl, r⟩
  | _, _, .cons r t, i + 1, a, h => paired_at t h
theorem paired_snoc {A B : Type} {F : A → B → Prop} : ∀ {l : List A} {m : List B} {a : A} {b : B}, Paired F l m → F a b → Paired F (l ++ [a]) (m ++ [b])
  | _, _, _, _, .nil, h => .cons h .nil
  | _, _, _, _, .cons r t, h => .cons r (paired_snoc t h)
theorem paired_len {A B : Type} {F : A → B → Prop} : ∀ {l : List A} {m : List B}, Paired F l m → l.length = m.length
  | _, _, .nil => rfl
  | _, _, .cons _ t => congrArg (· + 1) (paired_len t)
/-- such a list as data -/
abbrev prD (p : Nat × Int) : PyData := .tuple [.int (p.1 : Int), .int p.2]
theorem dp_pairs {K : PySem.W.Frag} {H : Hp} : ∀ {ts : List Addr} {L : List (Nat × Int)}, Paired (fun t p => H t = some (pr p)) ts L → DpAll K H (ts.map V.ref) (L.map prD)
  | _, _, .nil => .nil
  | _, _, .cons h t => .cons (.tup (SqT.of h) (.cons (.int _) (.cons (.int _) .nil))) (dp_pairs t)
theorem PLs.dp {K : PySem.W.Frag} {H : Hp} {a : Addr} {L : List (Nat × Int)} (h : PLs H a L) : Dp K H (.ref a) (.list (L.map prD)) := by
  obtain ⟨ts, h1, h2⟩ := h
  exact .lst (SqL.of h1) (dp_pairs h2)
end Kp

/-! The comprehensions that tell what differs between two dicts of lots. -/
namespace Kp
open PySem PySem.Spec PyProof.Rows L2
/-! ### triples -/
abbrev tr (p : Nat × Int × Int) : HO := .tup [.int (p.1 : Int), .int p.2.1, .int p.2.2]
def TLs (H : Hp) (a : Addr) (L : List (Nat × Int × Int)) : Prop := ∃ ts : List Addr, H a = some (.lst (ts.map V.ref)) ∧ Paired (fun t p => H t = some (tr p)) ts L
abbrev trD (p : Nat × Int × Int) : PyData := .tuple [.int (p.1 : Int), .int p.2.1, .int p.2.2]
theorem TLs.same {H H' : Hp} {a : Addr} {L : List (Nat × Int × Int)} (h : TLs H a L) (s : Same H H') : TLs H' a L := by
  obtain ⟨ts, h1, h2⟩ := h
  exact ⟨ts, s _ _ h1, paired_imp h2 fun t p _ e => s _ _ e⟩
theorem dp_triples {K : PySem.W.Frag} {H : Hp} : ∀ {ts : List Addr} {L : List (Nat × Int × Int)}, Paired (fun t p => H t = some (tr p)) ts L → DpAll K H (ts.map V.ref) (L.map trD)
  | _, _, .nil => .nil
  | _, _, .cons h t => .cons (.tup (SqT.of h) (.cons (.int _) (.cons (.int _) (.cons (.int _) .nil)))) (dp_triples t)
theorem TLs.dp {K : PySem.W.Frag} {H : Hp} {a : Addr} {L : List (Nat × Int × Int)} (h : TLs H a L) : Dp K H (.ref a) (.list (L.map trD)) := by
  obtain ⟨ts, h1, h2⟩ := h
  exact .lst (SqL.of h1) (dp_triples h2)
/-- what changes tells, as data -/
def chgD (A B : List (Nat × Int)) : PyData := .tuple [.list ((KM.cameL A B).map prD), .list ((KM.cameL B A).map prD), .list ((KM.movedL A B).map trD)]
theorem chg_dp {K : PySem.W.Frag} {H : Hp} {a c1 c2 c3 : Addr} {A B : List (Nat × Int)} (h : H a = some (.tup [.ref c1, .ref c2, .ref c3])) (h1 : PLs H c1 (KM.cameL A B)) (h2 : PLs H c2 (KM.cameL B A)) (h3 : TLs H c3 (KM.movedL A B)) : Dp K H (.ref a) (chgD A B) :=
  .tup (SqT.of h) (.cons h1.dp (.cons h2.dp (.cons h3.dp .nil)))
mutual
theorem dp_same {K : PySem.W.Frag} {H H' : Hp} (s : Same H H') : ∀ {v : V} (d : PyData), Dp K H v d → Dp K H' v d
  | _, .none, h => by cases h; exact .non
  | _, .bool b, h => by cases h; exact .bl b
  | _, .int i, h => by cases h; exact .int i
  | _, .str x, h => by cases h; exact .str x
  | _, .list ds, h => by
    cases h with
    | lst h1 h2 => exact .lst (s.seq h1) (dpAll_same s ds h2)
  | _, .tuple ds, h => by
    cases h with
    | tup h1 h2 =>
      refine .tup ?_ (dpAll_same s ds h2)
      rcases h1 with (z | ⟨o, z⟩) | z
      · exact .inl (.inl (s _ _ z))
      · exact .inl (.inr ⟨o, s _ _ z⟩)
      · exact .inr z
  | _, .dict _, h => by cases h
theorem dpAll_same {K : PySem.W.Frag} {H H' : Hp} (s : Same H H') : ∀ {vs : List V} (ds : List PyData), DpAll K H vs ds → DpAll K H' vs ds
  | _, [], h => by cases h; exact .nil
  | _, d :: ds, h => by
    cases h with
    | cons h1 h2 => exact .cons (dp_same s d h1) (dpAll_same s ds h2)
end
/-! ### keys that rise -/
theorem keys_uniq {B : List (Nat × Int)} (hB : B.Pairwise fun p q => p.1 < q.1) {ys : List Int} (hp : ys.Perm ((KM.keys B).map fun n : Nat => (n : Int))) (hs : ys.Pairwise (· ≤ ·)) : ys.map V.int = lots (KM.keys B) := by
  have e : ys = (KM.keys B).map fun n : Nat => (n : Int) := by
    refine List.Perm.eq_of_pairwise (le := fun a b : Int => a ≤ b) (fun x y _ _ h1 h2 => Int.le_antisymm h1 h2) hs ?_ hp
    rw [List.pairwise_map, List.pairwise_map]
    exact hB.imp fun {p q} z => by
      have z : p.1 < q.1 := z
      omega
  rw [e, lots_int]
theorem slot_ne {s : L2.St} {i k : Nat} {x : Option V} {v : V} (h : i ≠ k) (e : s[i]? = some (some v)) : (s.set k x)[i]? = some (some v) := by
  rw [List.getElem?_set_ne (fun z => h z.symm)]
  exact e
theorem slot_at {s : L2.St} {k : Nat} {v : V} (h : k < s.length) : (s.set k (some v))[k]? = some (some v) := by
  rw [List.getElem?_set_self h]
theorem wipe1 (s : L2.St) (k : Nat) (v : V) : wipe ((wipe s [k]).set k (some v)) [k] = wipe s [k] := by
  show ((s.set k none).set k (some v)).set k none = s.set k none
  rw [List.set_set, List.set_set]
section
variable {K : PySem.W.Frag} {A B : List (Nat × Int)} {H : Hp} {dA dB : Addr} {s : L2.St} {i1 i2 k : Nat} {Q : VK}
/-- [(lot, d1[lot]) for lot in sorted(d1) if lot not in d2] -/
theorem comp_new (hA : Rd H dA (.dK (enc V.int A))) (hB : Rd H dB (.dK (enc V.int B))) (up : B.Pairwise fun p q => p.1 < q.1) (len : B.length ≤ 4096)
    (e1 : s[i1]? = some (some (.ref dB))) (e2 : s[i2]? = some (some (.ref dA))) (n1 : i1 ≠ k) (n2 : i2 ≠ k) (hk : k < s.length)
    (hq : ∀ H' D, Same H H' → H D = none → PLs H' D (KM.cameL A B) → Q (.ref D) H') :
    tLc (iList K (tCB rSortD (tCons (tVar i1) tNil))) (gName k) (tB (tDNotIn (tVar k) (tVar i2))) (tTup (tCons (tVar k) (tCons (tDGet (tVar i1) (tVar k)) tNil))) [k] s H Q := by
  refine ⟨_, e1, dB, _, (KM.keys B).map fun n : Nat => (n : Int), rfl, hB, (enc_keys V.int B).trans (lots_int _), fun ys q hp hs nq => ?_⟩
  rw [keys_uniq up hp hs]
  refine ⟨q, rfl, ⟨_, SqL.of upd_same⟩, fun D hD => ?_⟩
  have nqD : q ≠ D := ne_of_none upd_same hD
  rw [upd_ne nqD.symm] at hD
  have rdn : ∀ {H' : Hp} {d : Addr} {u : HO}, Same H H' → Rd H d u → Rd H' d u := fun sm r => by
    rcases r with r | ⟨o, r⟩
    · exact .inl (sm _ _ r)
    · exact .inr ⟨o, sm _ _ r⟩
  refine lc_list (K := K) (a := q) (xs := lots (KM.keys B)) (fun i H2 => Same H H2 ∧ H2 q = some (.lst (lots (KM.keys B))) ∧ PLs H2 D (KM.cameL A (B.take i)))
    ⟨Keep.same (((Keep.refl _ _).wn nq).wn hD), by rw [upd_ne nqD, upd_same], [], upd_same, .nil⟩ (fun i H2 _ h => SqL.of h.2.1) ?_ ?_
  · rintro i x H2 hi ⟨g1, g2, ts, g3, g4⟩
    obtain ⟨n, e3, rfl⟩ := lots_at hi
    have e4 : ∃ c, B[i]? = some (n, c) := by
      rw [List.getElem?_map] at e3
      cases z : B[i]? with
      | none => rw [z] at e3; cases e3
      | some p =>
        rw [z] at e3
        have e3 : p.1 = n := Option.some.inj e3
        exact ⟨p.2, by rw [← e3]⟩
    obtain ⟨c, e4⟩ := e4
    have et : B.take (i + 1) = B.take i ++ [(n, c)] := by
      rw [List.take_add_one, e4]
      rfl
    have gc : KM.get B n = some c := (KM.get_mem (KM.keys_of_up up)).mp (List.mem_of_getElem? e4)
    have lk : ((wipe s [k]).set k (some (V.int (n : Int))))[k]? = some (some (V.int (n : Int))) := slot_at (by rw [wipe_length]; exact hk)
    have l1 : ((wipe s [k]).set k (some (V.int (n : Int))))[i1]? = some (some (.ref dB)) := slot_ne n1 (slot_ne n1 e1)
    have l2 : ((wipe s [k]).set k (some (V.int (n : Int))))[i2]? = some (some (.ref dA)) := slot_ne n2 (slot_ne n2 e2)
    refine ⟨wipe1 s k _, _, lk, _, l2, dA, _, rfl, dget (rdn g1 hA) n, _, rfl, ?_⟩
    have eo : (!(Option.map V.int (KM.get A n)).isSome) = (KM.get A n).isNone := by
      cases KM.get A n <;> rfl
    rw [eo]
    refine ite2 (fun e => ?_) (fun e => ?_)
    · refine ⟨_, lk, _, l1, _, lk, dB, _, rfl, dget_at (rdn g1 hB) gc, (by show 2 ≤ sizeLine; decide), fun t ht => ?_⟩
      have nDt : D ≠ t := ne_of_none g3 ht
      have nqt : q ≠ t := ne_of_none g2 ht
      have ntD : ∀ u p, H2 u = some (pr p) → u ≠ D := fun u p hu => ne_of hu g3 (by intro z; cases z)
      refine ⟨_, by rw [upd_ne nDt]; exact g3, ?_, Keep.same (((Keep.of g1).new ht).wn hD), ?_, ts ++ [t], ?_, ?_⟩
      · rw [List.length_map, paired_len g4]
        have z1 : (KM.cameL A (B.take i)).length ≤ (B.take i).length := List.length_filter_le _ _
        rw [List.length_take] at z1
        exact line4096 (by omega)
      · rw [upd_ne nqD, upd_ne nqt]
        exact g2
      · rw [upd_same, List.map_append]
        rfl
      · rw [et]
        unfold KM.cameL
        rw [List.filter_append, List.filter_cons_of_pos (p := fun p : Nat × Int => (KM.get A p.1).isNone) e]
        refine paired_snoc (paired_imp g4 fun u r _ hur => ?_) ?_
        · rw [upd_ne (ntD u r hur), upd_ne (ne_of_none hur ht)]
          exact hur
        · rw [upd_ne nDt.symm, upd_same]
    · refine ⟨g1, g2, ts, g3, ?_⟩
      rw [et]
      unfold KM.cameL
      rw [List.filter_append, List.filter_cons_of_neg (p := fun p : Nat × Int => (KM.get A p.1).isNone) e, List.filter_nil, List.append_nil]
      exact g4
  · rintro H2 ⟨g1, g2, g3⟩
    rw [lots_len, List.length_map, List.take_length] at g3
    exact hq H2 D g1 hD g3
/-- [(lot, d2[lot], d1[lot]) for lot in sorted(d1) if lot in d2 and d2[lot] != d1[lot]] -/
theorem comp_moved (hA : Rd H dA (.dK (enc V.int A))) (hB : Rd H dB (.dK (enc V.int B))) (up : B.Pairwise fun p q => p.1 < q.1) (len : B.length ≤ 4096)
    (e1 : s[i1]? = some (some (.ref dB))) (e2 : s[i2]? = some (some (.ref dA))) (n1 : i1 ≠ k) (n2 : i2 ≠ k) (hk : k < s.length)
    (hq : ∀ H' D, Same H H' → H D = none → TLs H' D (KM.movedL A B) → Q (.ref D) H') :
    tLc (iList K (tCB rSortD (tCons (tVar i1) tNil))) (gName k) (tAnd (tB (tDIn (tVar k) (tVar i2))) (tB (tNeI (tDGet (tVar i2) (tVar k)) (tDGet (tVar i1) (tVar k)))))
      (tTup (tCons (tVar k) (tCons (tDGet (tVar i2) (tVar k)) (tCons (tDGet (tVar i1) (tVar k)) tNil)))) [k] s H Q := by
  refine ⟨_, e1, dB, _, (KM.keys B).map fun n : Nat => (n : Int), rfl, hB, (enc_keys V.int B).trans (lots_int _), fun ys q hp hs nq => ?_⟩
  rw [keys_uniq up hp hs]
  refine ⟨q, rfl, ⟨_, SqL.of upd_same⟩, fun D hD => ?_⟩
  have nqD : q ≠ D := ne_of_none upd_same hD
  rw [upd_ne nqD.symm] at hD
  have rdn : ∀ {H' : Hp} {d : Addr} {u : HO}, Same H H' → Rd H d u → Rd H' d u := fun sm r => by
    rcases r with r | ⟨o, r⟩
    · exact .inl (sm _ _ r)
    · exact .inr ⟨o, sm _ _ r⟩
  refine lc_list (K := K) (a := q) (xs := lots (KM.keys B)) (fun i H2 => Same H H2 ∧ H2 q = some (.lst (lots (KM.keys B))) ∧ TLs H2 D (KM.movedL A (B.take i)))
    ⟨Keep.same (((Keep.refl _ _).wn nq).wn hD), by rw [upd_ne nqD, upd_same], [], upd_same, .nil⟩ (fun i H2 _ h => SqL.of h.2.1) ?_ ?_
  · rintro i x H2 hi ⟨g1, g2, ts, g3, g4⟩
    obtain ⟨n, e3, rfl⟩ := lots_at hi
    have e4 : ∃ c, B[i]? = some (n, c) := by
      rw [List.getElem?_map] at e3
      cases z : B[i]? with
      | none => rw [z] at e3; cases e3
      | some p =>
        rw [z] at e3
        have e3 : p.1 = n := Option.some.inj e3
        exact ⟨p.2, by rw [← e3]⟩
    obtain ⟨c, e4⟩ := e4
    have et : B.take (i + 1) = B.take i ++ [(n, c)] := by
      rw [List.take_add_one, e4]
      rfl
    have gc : KM.get B n = some c := (KM.get_mem (KM.keys_of_up up)).mp (List.mem_of_getElem? e4)
    have lk : ((wipe s [k]).set k (some (V.int (n : Int))))[k]? = some (some (V.int (n : Int))) := slot_at (by rw [wipe_length]; exact hk)
    have l1 : ((wipe s [k]).set k (some (V.int (n : Int))))[i1]? = some (some (.ref dB)) := slot_ne n1 (slot_ne n1 e1)
    have l2 : ((wipe s [k]).set k (some (V.int (n : Int))))[i2]? = some (some (.ref dA)) := slot_ne n2 (slot_ne n2 e2)
    have no : KM.movedL A [(n, c)] = [] → TLs H2 D (KM.movedL A (B.take (i + 1))) := fun z => by
      refine ⟨ts, g3, ?_⟩
      rw [et, KM.moved_app, z, List.append_nil]
      exact g4
    refine ⟨wipe1 s k _, _, lk, _, l2, dA, _, rfl, dget (rdn g1 hA) n, _, rfl, ?_⟩
    cases ga : KM.get A n with
    | none => exact ⟨g1, g2, no (KM.moved_no ga)⟩
    | some a =>
      refine ⟨_, l2, _, lk, dA, _, rfl, dget_at (rdn g1 hA) ga, _, l1, _, lk, dB, _, rfl, dget_at (rdn g1 hB) gc, a, c, rfl, rfl, _, rfl, ?_⟩
      refine ite2 (fun e => ?_) (fun e => ?_)
      rotate_left
      · have eac : a = c := by
          have e : ¬ (!decide (a = c)) = true := e
          simpa using e
        exact ⟨g1, g2, no (KM.moved_same ga eac)⟩
      · have eac : ¬ a = c := by
          have e : (!decide (a = c)) = true := e
          simpa using e
        refine ⟨_, lk, _, l2, _, lk, dA, _, rfl, dget_at (rdn g1 hA) ga, _, l1, _, lk, dB, _, rfl, dget_at (rdn g1 hB) gc, (by show 3 ≤ sizeLine; decide), fun t ht => ?_⟩
        have nDt : D ≠ t := ne_of_none g3 ht
        have nqt : q ≠ t := ne_of_none g2 ht
        have ntD : ∀ u p, H2 u = some (tr p) → u ≠ D := fun u p hu => ne_of hu g3 (by intro z; cases z)
        refine ⟨_, by rw [upd_ne nDt]; exact g3, ?_, Keep.same (((Keep.of g1).new ht).wn hD), ?_, ts ++ [t], ?_, ?_⟩
        · rw [List.length_map, paired_len g4]
          have z1 : (KM.movedL A (B.take i)).length ≤ (B.take i).length := List.length_filterMap_le _ _
          rw [List.length_take] at z1
          exact line4096 (by omega)
        · rw [upd_ne nqD, upd_ne nqt]
          exact g2
        · rw [upd_same, List.map_append]
          rfl
        · rw [et, KM.moved_app, KM.moved_one ga eac]
          refine paired_snoc (paired_imp g4 fun u r _ hur => ?_) ?_
          · rw [upd_ne (ntD u r hur), upd_ne (ne_of_none hur ht)]
            exact hur
          · rw [upd_ne nDt.symm, upd_same]
  · rintro H2 ⟨g1, g2, g3⟩
    rw [lots_len, List.length_map, List.take_length] at g3
    exact hq H2 D g1 hD g3
end
end Kp

/-! The keeper's defs, the first: is_within, __init__, basket_comes. -/
namespace Kp
open PySem PySem.Spec PyProof.Rows L2
/-! ### the instance's fields -/
def kf (mn ls mo : Int) (ld dk la : Addr) : List (Str × V) := [("many", V.int mn), ("least", V.int ls), ("most", V.int mo), ("kept_days", V.ref ld), ("kept", V.ref dk), ("ahead", V.ref la)]
theorem lk_hd {k : Str} {v : V} {r : List (Str × V)} : List.lookup k ((k, v) :: r) = some v := by simp [List.lookup]
theorem lk_tl {k j : Str} {v : V} {r : List (Str × V)} (h : ¬ k = j) : List.lookup k ((j, v) :: r) = List.lookup k r := by
  have e : (k == j) = false := beq_eq_false_iff_ne.mpr h
  simp [List.lookup, e]
theorem pf_hd {k : Str} {v w : V} {r : List (Str × V)} : putF k w ((k, v) :: r) = (k, w) :: r := by
  show (if k = k then (k, w) :: r else (k, v) :: putF k w r) = (k, w) :: r
  rw [if_pos rfl]
theorem pf_tl {k j : Str} {v w : V} {r : List (Str × V)} (h : ¬ j = k) : putF k w ((j, v) :: r) = (j, v) :: putF k w r := by
  show (if j = k then (j, w) :: r else (j, v) :: putF k w r) = (j, v) :: putF k w r
  rw [if_neg h]
section
variable {mn ls mo : Int} {ld dk la : Addr}
theorem kf_least : (kf mn ls mo ld dk la).lookup ("least" : Str) = some (.int ls) := by
  unfold kf
  rw [lk_tl (by decide +kernel), lk_hd]
theorem kf_most : (kf mn ls mo ld dk la).lookup ("most" : Str) = some (.int mo) := by
  unfold kf
  rw [lk_tl (by decide +kernel), lk_tl (by decide +kernel), lk_hd]
theorem kf_days : (kf mn ls mo ld dk la).lookup ("kept_days" : Str) = some (.ref ld) := by
  unfold kf
  rw [lk_tl (by decide +kernel), lk_tl (by decide +kernel), lk_tl (by decide +kernel), lk_hd]
theorem kf_kept : (kf mn ls mo ld dk la).lookup ("kept" : Str) = some (.ref dk) := by
  unfold kf
  rw [lk_tl (by decide +kernel), lk_tl (by decide +kernel), lk_tl (by decide +kernel), lk_tl (by decide +kernel), lk_hd]
theorem kf_ahead : (kf mn ls mo ld dk la).lookup ("ahead" : Str) = some (.ref la) := by
  unfold kf
  rw [lk_tl (by decide +kernel), lk_tl (by decide +kernel), lk_tl (by decide +kernel), lk_tl (by decide +kernel), lk_tl (by decide +kernel), lk_hd]
theorem kf_no {m : Str} (h1 : ¬ m = "many") (h2 : ¬ m = "least") (h3 : ¬ m = "most") (h4 : ¬ m = "kept_days") (h5 : ¬ m = "kept") (h6 : ¬ m = "ahead") : (kf mn ls mo ld dk la).lookup m = none := by
  unfold kf
  rw [lk_tl h1, lk_tl h2, lk_tl h3, lk_tl h4, lk_tl h5, lk_tl h6]
  rfl
theorem kf_put (lb : Addr) : putF "ahead" (.ref lb) (kf mn ls mo ld dk la) = kf mn ls mo ld dk lb := by
  unfold kf
  rw [pf_tl (by decide +kernel), pf_tl (by decide +kernel), pf_tl (by decide +kernel), pf_tl (by decide +kernel), pf_tl (by decide +kernel), pf_hd]
end
theorem kf_comes {mn ls mo : Int} {ld dk la : Addr} : (kf mn ls mo ld dk la).lookup ("basket_comes" : Str) = none := kf_no (by decide +kernel) (by decide +kernel) (by decide +kernel) (by decide +kernel) (by decide +kernel) (by decide +kernel)
theorem kf_goes {mn ls mo : Int} {ld dk la : Addr} : (kf mn ls mo ld dk la).lookup ("basket_goes" : Str) = none := kf_no (by decide +kernel) (by decide +kernel) (by decide +kernel) (by decide +kernel) (by decide +kernel) (by decide +kernel)
theorem kf_gone {mn ls mo : Int} {ld dk la : Addr} : (kf mn ls mo ld dk la).lookup ("is_gone" : Str) = none := kf_no (by decide +kernel) (by decide +kernel) (by decide +kernel) (by decide +kernel) (by decide +kernel) (by decide +kernel)
theorem kf_dayg {mn ls mo : Int} {ld dk la : Addr} : (kf mn ls mo ld dk la).lookup ("day_goes" : Str) = none := kf_no (by decide +kernel) (by decide +kernel) (by decide +kernel) (by decide +kernel) (by decide +kernel) (by decide +kernel)
theorem kf_come {mn ls mo : Int} {ld dk la : Addr} : (kf mn ls mo ld dk la).lookup ("come" : Str) = none := kf_no (by decide +kernel) (by decide +kernel) (by decide +kernel) (by decide +kernel) (by decide +kernel) (by decide +kernel)
theorem kf_closed {mn ls mo : Int} {ld dk la : Addr} : (kf mn ls mo ld dk la).lookup ("closed" : Str) = none := kf_no (by decide +kernel) (by decide +kernel) (by decide +kernel) (by decide +kernel) (by decide +kernel) (by decide +kernel)
theorem kf_count {mn ls mo : Int} {ld dk la : Addr} : (kf mn ls mo ld dk la).lookup ("count" : Str) = none := kf_no (by decide +kernel) (by decide +kernel) (by decide +kernel) (by decide +kernel) (by decide +kernel) (by decide +kernel)
theorem kf_changes {mn ls mo : Int} {ld dk la : Addr} : (kf mn ls mo ld dk la).lookup ("changes" : Str) = none := kf_no (by decide +kernel) (by decide +kernel) (by decide +kernel) (by decide +kernel) (by decide +kernel) (by decide +kernel)
/-- what the walk asks of the top -/
structure Txt (K : PySem.W.Frag) (mg : Str → Option Value) (C : Addr) : Prop where
  cl : Cls K C
  nMany : NoAttr K C "many"
  nLeast : NoAttr K C "least"
  nMost : NoAttr K C "most"
  nDays : NoAttr K C "kept_days"
  nKept : NoAttr K C "kept"
  nAhead : NoAttr K C "ahead"
  mgC : mg "Keeper" = some (.ref C)
  len : mg "len" = none
  max : mg "max" = none
  list : mg "list" = none
  sorted : mg "sorted" = none
  range : mg "range" = none
  abs : mg "abs" = none
  int : mg "int" = none
  dict : mg "dict" = none
section
variable {P : Program} {w : World} {K : PySem.W.Frag} {mg : Str → Option Value} {base : Heap}
/-! ### is_within -/
def spWithin : Sp := fun vs H Q _ => ∃ a b : Nat, vs = [.int (a : Int), .int (b : Int)] ∧ Q (.bl (KM.wi a b)) H
theorem ok_within {f : Addr} {fd : FuncData} (F : Fun K "is_within" "is_within" sWithin f fd) : FnOk P w K mg base CX0 1 f fd ["one", "other"] spWithin := by
  refine F.ok scWithin (fun vs H Q E h => ?_) (fun cdv A outer s H vs Q E hr h => ?_)
  · obtain ⟨a, b, rfl, _⟩ := h
    rfl
  · obtain ⟨a, b, rfl, k⟩ := h
    refine ⟨_, pss_one (ps_ret (pe_cmpR op_eq (pe_op op_andN (pv 0) (pv 1)) (pv 0) (nomark _))), ?_⟩
    refine ⟨_, rfl, _, rfl, _, _, rfl, rfl, _, rfl, rfl, ?_⟩
    have e : decide (V.int ((a &&& b : Nat) : Int) = V.int (a : Int)) = KM.wi a b := by
      unfold KM.wi
      by_cases q : a &&& b = a
      · rw [decide_eq_true q, q, decide_eq_true rfl]
      · rw [decide_eq_false q]
        exact decide_eq_false fun z => q (Int.ofNat.inj (V.int.inj z))
    show Q (V.bl (decide (V.int ((a &&& b : Nat) : Int) = V.int (a : Int)))) H
    rw [e]
    exact k
/-! ### basket_comes -/
def spComes (C : Addr) : Sp := fun vs H Q _ => ∃ (p dx ld dk la : Addr) (mn ls mo : Int) (m : List (Nat × Int)) (b : Nat), vs = [.ref p, .int (b : Int)] ∧ H p = some (.ins C dx (kf mn ls mo ld dk la)) ∧ H dk = some (.dK (enc V.int m)) ∧ KM.Ok m ∧ b < 4096 ∧
  ∀ H', H' dk = some (.dK (enc V.int (KM.comes m b))) → Keep [dk] H H' → Q .non H'
theorem ok_comes {f C : Addr} {fd : FuncData} (F : Fun K "basket_comes" "Keeper.basket_comes" sComes f fd) (T : Txt K mg C) : FnOk P w K mg base CX0 1 f fd ["self", "basket"] (spComes C) := by
  refine F.ok scComes (fun vs H Q E h => ?_) (fun cdv A outer s H vs Q E hr h => ?_)
  · obtain ⟨p, dx, ld, dk, la, mn, ls, mo, m, b, rfl, _⟩ := h
    rfl
  · obtain ⟨p, dx, ld, dk, la, mn, ls, mo, m, b, rfl, hp, hk, ok, hb, k⟩ := h
    have hu := hu_of hr
    have nd := scComes.nd
    refine ⟨_, pss_cons (ps_set (i := 2) nd rfl (Or.inl rfl) (pe_disp (pps_cons (pv 1) pe_int pps_nil) (by rfl) (by rfl) (fun z => by cases z) (by decide)))
      (pss_cons (ps_lock (ps_for PassesOwn.never rfl (pi_keysM (pe_fld (pv 0) rfl)) (pg_name (i := 3) nd rfl (Or.inl rfl))
        (pss_cons (ps_set (i := 4) nd rfl (Or.inl rfl) (pe_op op_andN (pv 3) (pv 1)))
        (pss_one (ps_dput hu (pv 2) (pv 4) (pe_callB (call_max2 rfl) (by rfl) T.max (by decide +kernel) (pa_cons (pe_dget2 hu (pv 2) (pv 4) pe_int ⟨rfl, rfl, rfl, rfl⟩) (pa_cons (pe_dget hu (pe_fld (pv 0) rfl) (pv 3) (fun _ _ => rfl)) pa_nil))) rfl)))))
      (pss_one (ps_lock (ps_for PassesOwn.never rfl (pi_keysM (pv 2)) (pg_name (i := 3) nd rfl (Or.inl rfl))
        (pss_one (ps_dput hu (pe_fld (pv 0) rfl) (pv 3) (pe_op op_add (pe_dget hu (pv 2) (pv 3) (fun _ _ => rfl)) pe_int) rfl)))))), ?_⟩
    -- found = {basket: 0}
    intro d hd
    have ndk : d ≠ dk := (ne_of_none hk hd).symm
    have npk : p ≠ dk := ne_of hp hk (by intro z; cases z)
    refine ⟨_, rfl, upd_same, [(kN b, V.int 0)], rfl, (by show 1 ≤ 15; decide), ?_⟩
    have e0 : mergeK [] [(kN b, V.int 0)] = enc V.int [(b, 0)] := rfl
    rw [e0, upd_upd]
    -- for lot in self.kept.keys()
    have hk1 : (upd H d (.dK (enc V.int [(b, 0)]))) dk = some (.dK (enc V.int m)) := by
      rw [upd_ne ndk.symm]
      exact hk
    refine ⟨dk, _, hk1, trivial, fun od => ?_⟩
    have npd : p ≠ d := ne_of_none hp hd
    have hp1 : (upd (upd H d (.dK (enc V.int [(b, 0)]))) dk (.frz od (.dK (enc V.int m)))) p = some (.ins C dx (kf mn ls mo ld dk la)) := by
      rw [upd_ne npk, upd_ne npd]
      exact hp
    refine ⟨_, rfl, p, C, dx, _, _, rfl, hp1, T.cl, T.nKept, kf_kept, dk, od, _, rfl, upd_same, ?_⟩
    refine for_it walk_keys (fun i σ H2 => ∃ v3 v4, σ = [some (.ref p), some (.int (b : Int)), some (.ref d), v3, v4] ∧ H2 dk = some (.frz od (.dK (enc V.int m))) ∧ H2 d = some (.dK (enc V.int ((m.take i).foldl (KM.step1 b) [(b, 0)]))) ∧ Keep [dk, d] H H2)
      ⟨none, none, rfl, upd_same, by rw [upd_ne ndk, upd_same]; rfl, ((Keep.refl _ _).wr (by simp)).wr (by simp)⟩ (fun i σ H2 _ h => h.choose_spec.choose_spec.2.1) ?_ ?_
    · rintro i x σ H2 H3 hi ⟨v3, v4, rfl, g1, g2, g3⟩ ⟨rfl, kk, vv, e1, rfl⟩
      obtain ⟨n, c, e2, rfl, rfl⟩ := enc_at V.int e1
      have F : KM.Found b (m.take i) ((m.take i).foldl (KM.step1 b) [(b, 0)]) := KM.Found.all hb _
      -- crossing = lot & basket
      refine ⟨_, rfl, _, rfl, _, _, rfl, rfl, ?_⟩
      have hp3 : H3 p = some (.ins C dx (kf mn ls mo ld dk la)) := g3 _ _ hp (by simp [npk, npd])
      -- found[crossing] = max(found.get(crossing, 0), self.kept[lot])
      refine ⟨_, rfl, d, rfl, .inl ⟨_, .inl g2⟩, _, rfl, _, dget (.inl g2) (n &&& b), _, rfl, p, C, dx, _, _, rfl, hp3, T.cl, T.nKept, kf_kept, _, rfl, dk, _, rfl, dget_at (.inr ⟨_, g1⟩) ((KM.get_mem ok.nd).mp (List.mem_of_getElem? e2)), (KM.get ((m.take i).foldl (KM.step1 b) [(b, 0)]) (n &&& b)).getD 0, c, ?_, _, rfl, _, rfl, d, _, rfl, dput g2 F.ok.len (n &&& b) (KM.mx ((KM.get ((m.take i).foldl (KM.step1 b) [(b, 0)]) (n &&& b)).getD 0) c), ?_⟩
      · cases KM.get ((m.take i).foldl (KM.step1 b) [(b, 0)]) (n &&& b) <;> rfl
      · refine ⟨_, _, rfl, ?_, ?_, g3.wr (by simp)⟩
        · rw [upd_ne ndk.symm]
          exact g1
        · rw [upd_same, KM.fold_take _ e2]
          rfl
    · rintro σ H2 ⟨v3, v4, rfl, g1, g2, g3⟩
      rw [enc_len, List.take_length] at g2
      have F : KM.Found b m (KM.found m b) := KM.Found.all hb _
      refine ⟨g1, ?_⟩
      -- for lot in found.keys()
      have g2' : (upd H2 dk (.dK (enc V.int m))) d = some (.dK (enc V.int (KM.found m b))) := by
        rw [upd_ne ndk]
        exact g2
      refine ⟨d, _, g2', trivial, fun od2 => ?_⟩
      refine ⟨_, rfl, d, od2, _, rfl, upd_same, ?_⟩
      refine for_it walk_keys (fun i σ H3 => ∃ v3, σ = [some (.ref p), some (.int (b : Int)), some (.ref d), v3, v4] ∧ H3 d = some (.frz od2 (.dK (enc V.int (KM.found m b)))) ∧ H3 dk = some (.dK (enc V.int (((KM.found m b).take i).foldl KM.step2 m))) ∧ Keep [dk, d] H H3)
        ⟨v3, rfl, upd_same, by rw [upd_ne ndk.symm, upd_same]; rfl, (g3.wr (by simp)).wr (by simp)⟩ (fun i σ H2 _ h => h.choose_spec.2.1) ?_ ?_
      · rintro i x σ H3 H4 hi ⟨v3, rfl, g1, g2, g3⟩ ⟨rfl, kk, vv, e1, rfl⟩
        obtain ⟨n, c, e2, rfl, rfl⟩ := enc_at V.int e1
        have hp3 : H4 p = some (.ins C dx (kf mn ls mo ld dk la)) := g3 _ _ hp (by simp [npk, npd])
        have ok2 : KM.Ok (((KM.found m b).take i).foldl KM.step2 m) := KM.fold_ok (f := KM.step2) KM.Ok _ _ ok fun q r hr hq => hq.put _ (F.ok.lt _ (List.mem_map.mpr ⟨r, List.mem_of_mem_take hr, rfl⟩))
        refine ⟨_, rfl, _, rfl, d, _, rfl, dget_at (.inr ⟨_, g1⟩) ((KM.get_mem F.ok.nd).mp (List.mem_of_getElem? e2)), c, 1, rfl, rfl, _, rfl, p, C, dx, _, _, rfl, hp3, T.cl, T.nKept, kf_kept, _, rfl, dk, _, rfl, dput g2 ok2.len n (c + 1), ?_⟩
        refine ⟨_, rfl, ?_, ?_, g3.wr (by simp)⟩
        · rw [upd_ne ndk]
          exact g1
        · rw [upd_same, KM.fold_take _ e2]
          rfl
      · rintro σ H3 ⟨v3, rfl, g1, g2, g3⟩
        rw [enc_len, List.take_length] at g2
        refine ⟨g1, k _ ?_ ?_⟩
        · rw [upd_ne ndk.symm]
          exact g2
        · refine (g3.wr (by simp)).sub fun c hc => ?_
          rcases List.mem_cons.mp hc with rfl | hc
          · exact .inl (by simp)
          · rw [List.mem_singleton.mp hc]
            exact .inr hd
end
end Kp

/-! The keeper's defs: __init__, basket_goes, is_gone. -/
namespace Kp
open PySem PySem.Spec PyProof.Rows L2
section
variable {P : Program} {w : World} {K : PySem.W.Frag} {mg : Str → Option Value} {base : Heap}
/-! ### __init__ -/
theorem len_pf {f : Str} {v : V} {fs : List (Str × V)} {n : Nat} (h : fs.length ≤ n) : (putF f v fs).length ≤ n + 1 := Nat.le_trans (length_putF f v fs) (Nat.succ_le_succ h)
theorem lt1000 {n k : Nat} (h : n ≤ k) (hk : k < 1000) : n < 1000 := Nat.lt_of_le_of_lt h hk
theorem kf_made {mn ls mo : Int} {ld dk la : Addr} : putF "ahead" (.ref la) (putF "kept" (.ref dk) (putF "kept_days" (.ref ld) (putF "most" (.int mo) (putF "least" (.int ls) (putF "many" (.int mn) []))))) = kf mn ls mo ld dk la := by
  have e1 : putF "many" (V.int mn) [] = ([("many", V.int mn)] : List (Str × V)) := rfl
  have e2 : putF "least" (V.int ls) [("many", V.int mn)] = ([("many", V.int mn), ("least", V.int ls)] : List (Str × V)) := by
    rw [pf_tl (by decide +kernel)]
    rfl
  have e3 : putF "most" (V.int mo) [("many", V.int mn), ("least", V.int ls)] = ([("many", V.int mn), ("least", V.int ls), ("most", V.int mo)] : List (Str × V)) := by
    rw [pf_tl (by decide +kernel), pf_tl (by decide +kernel)]
    rfl
  have e4 : putF "kept_days" (V.ref ld) [("many", V.int mn), ("least", V.int ls), ("most", V.int mo)] = ([("many", V.int mn), ("least", V.int ls), ("most", V.int mo), ("kept_days", V.ref ld)] : List (Str × V)) := by
    rw [pf_tl (by decide +kernel), pf_tl (by decide +kernel), pf_tl (by decide +kernel)]
    rfl
  have e5 : putF "kept" (V.ref dk) [("many", V.int mn), ("least", V.int ls), ("most", V.int mo), ("kept_days", V.ref ld)] = ([("many", V.int mn), ("least", V.int ls), ("most", V.int mo), ("kept_days", V.ref ld), ("kept", V.ref dk)] : List (Str × V)) := by
    rw [pf_tl (by decide +kernel), pf_tl (by decide +kernel), pf_tl (by decide +kernel), pf_tl (by decide +kernel)]
    rfl
  have e6 : putF "ahead" (V.ref la) [("many", V.int mn), ("least", V.int ls), ("most", V.int mo), ("kept_days", V.ref ld), ("kept", V.ref dk)] = kf mn ls mo ld dk la := by
    rw [pf_tl (by decide +kernel), pf_tl (by decide +kernel), pf_tl (by decide +kernel), pf_tl (by decide +kernel), pf_tl (by decide +kernel)]
    rfl
  rw [e1, e2, e3, e4, e5, e6]
def spInit (C : Addr) : Sp := fun vs H Q _ => ∃ (p dx : Addr) (mn ls mo : Int), vs = [.ref p, .int mn, .int ls, .int mo] ∧ H p = some (.ins C dx []) ∧
  ∀ (ld dk la : Addr) (H' : Hp), H ld = none → H dk = none → H la = none → la ≠ ld → H' p = some (.ins C dx (kf mn ls mo ld dk la)) → H' ld = some (.lst []) → H' dk = some (.dK []) → H' la = some (.lst []) → Keep [p] H H' → Q .non H'
theorem ok_init {f C : Addr} {fd : FuncData} (F : Fun K "__init__" "Keeper.__init__" sInit f fd) (T : Txt K mg C) : FnOk P w K mg base CX0 1 f fd ["self", "many", "least", "most"] (spInit C) := by
  refine F.ok scInit (fun vs H Q E h => ?_) (fun cdv A outer s H vs Q E hr h => ?_)
  · obtain ⟨p, dx, mn, ls, mo, rfl, _⟩ := h
    rfl
  · obtain ⟨p, dx, mn, ls, mo, rfl, hp, k⟩ := h
    refine ⟨_, pss_cons (ps_fld (pv 0) (pv 1) rfl) (pss_cons (ps_fld (pv 0) (pv 2) rfl) (pss_cons (ps_fld (pv 0) (pv 3) rfl) (pss_cons (ps_fld (pv 0) (pe_lst pa_nil) rfl)
      (pss_cons (ps_fld (pv 0) pe_dnewK rfl) (pss_one (ps_fld (pv 0) (pe_lst pa_nil) rfl)))))), ?_⟩
    refine ⟨_, rfl, _, rfl, p, C, dx, [], rfl, hp, T.cl, T.nMany, (by show 0 < 1000; decide), ?_⟩
    have l1 : (putF "many" (V.int mn) []).length ≤ 1 := len_pf (Nat.le_refl _)
    refine ⟨_, rfl, _, rfl, p, C, dx, _, rfl, upd_same, T.cl, T.nLeast, lt1000 l1 (by decide), ?_⟩
    have l2 : (putF "least" (V.int ls) (putF "many" (V.int mn) [])).length ≤ 2 := len_pf l1
    refine ⟨_, rfl, _, rfl, p, C, dx, _, rfl, upd_same, T.cl, T.nMost, lt1000 l2 (by decide), ?_⟩
    have l3 : (putF "most" (V.int mo) (putF "least" (V.int ls) (putF "many" (V.int mn) []))).length ≤ 3 := len_pf l2
    rw [upd_upd, upd_upd]
    refine ⟨Nat.zero_le _, fun ld hld => ?_⟩
    have nl : p ≠ ld := ne_of_none upd_same hld
    refine ⟨_, rfl, p, C, dx, _, rfl, (by rw [upd_ne nl]; exact upd_same), T.cl, T.nDays, lt1000 l3 (by decide), ?_⟩
    have l4 : (putF "kept_days" (V.ref ld) (putF "most" (V.int mo) (putF "least" (V.int ls) (putF "many" (V.int mn) [])))).length ≤ 4 := len_pf l3
    intro dk hdk
    have nk : p ≠ dk := ne_of_none upd_same hdk
    refine ⟨_, rfl, p, C, dx, _, rfl, (by rw [upd_ne nk]; exact upd_same), T.cl, T.nKept, lt1000 l4 (by decide), ?_⟩
    have l5 : (putF "kept" (V.ref dk) (putF "kept_days" (V.ref ld) (putF "most" (V.int mo) (putF "least" (V.int ls) (putF "many" (V.int mn) []))))).length ≤ 5 := len_pf l4
    refine ⟨Nat.zero_le _, fun la hla => ?_⟩
    have na : p ≠ la := ne_of_none upd_same hla
    refine ⟨_, rfl, p, C, dx, _, rfl, (by rw [upd_ne na]; exact upd_same), T.cl, T.nAhead, lt1000 l5 (by decide), ?_⟩
    rw [upd_ne nk.symm] at hdk
    have nkl : dk ≠ ld := fun e => by
      rw [e, upd_same] at hdk
      cases hdk
    rw [upd_ne nl.symm] at hld
    rw [upd_ne nkl, upd_ne nk.symm] at hdk
    rw [upd_ne na.symm] at hla
    have nak : la ≠ dk := fun e => by
      rw [e, upd_same] at hla
      cases hla
    rw [upd_ne nak, upd_ne na.symm] at hla
    have nal : la ≠ ld := fun e => by
      rw [e, upd_same] at hla
      cases hla
    rw [upd_ne nal, upd_ne na.symm] at hla
    refine k ld dk la _ hld hdk hla nal ?_ ?_ ?_ ?_ ?_
    · rw [upd_same, kf_made]
    · rw [upd_ne nl.symm, upd_ne nal.symm, upd_ne nl.symm, upd_ne nkl.symm, upd_ne nl.symm, upd_same]
    · rw [upd_ne nk.symm, upd_ne nak.symm, upd_ne nk.symm, upd_same]
    · rw [upd_ne na.symm, upd_same]
    · exact (((((((Keep.refl _ _).wr (by simp)).wn hld).wr (by simp)).wn hdk).wr (by simp)).wn hla).wr (by simp)
/-! ### basket_goes -/
def spGoes (C : Addr) : Sp := fun vs H Q _ => ∃ (p dx ld dk la : Addr) (mn ls mo : Int) (m : List (Nat × Int)) (b : Nat), vs = [.ref p, .int (b : Int)] ∧ H p = some (.ins C dx (kf mn ls mo ld dk la)) ∧ H dk = some (.dK (enc V.int m)) ∧ KM.Ok m ∧
  ∀ H' t, H' dk = some (.dK (enc V.int (KM.goes m b))) → H t = none → H' t = some (.lst (lots (KM.touchedOf m b))) → Keep [dk] H H' → Q (.ref t) H'
theorem ok_goes {f fW C : Addr} {fd fdW : FuncData} (F : Fun K "basket_goes" "Keeper.basket_goes" sGoes f fd) (T : Txt K mg C) (FW : Fun K "is_within" "is_within" sWithin fW fdW) (bW : Binds K fdW ["one", "other"] []) (gW : mg "is_within" = some (.ref fW)) :
    FnOk P w K mg base CX0 2 f fd ["self", "basket"] (spGoes C) := by
  have GW : FnOk P w K mg base CX0 1 fW fdW ["one", "other"] spWithin := ok_within FW
  refine F.ok scGoes (fun vs H Q E h => ?_) (fun cdv A outer s H vs Q E hr h => ?_)
  · obtain ⟨p, dx, ld, dk, la, mn, ls, mo, m, b, rfl, _⟩ := h
    rfl
  · obtain ⟨p, dx, ld, dk, la, mn, ls, mo, m, b, rfl, hp, hk, ok, k⟩ := h
    have hu := hu_of hr
    have nd := scGoes.nd
    refine ⟨_, pss_cons (ps_lock (ps_setLc (i := 3) (own := [("lot", 2)]) (g := gName 2) rfl nd rfl rfl (sw_true rfl rfl rfl (by decide +kernel)) (pi_keysM (pe_fld (pv 0) rfl)) (blkOk_by (N := ["self", "basket", "lot", "touched"]) (sc := defScope sGoes) (by decide +kernel))
        (fun _ _ _ _ _ => pg_name (i := 2) nd rfl (Or.inl rfl)) (fun _ _ _ _ _ => pts_one (pt_val (pe_call GW hr (by rfl) gW FW.kp bW .nil pass0 (pa_cons (pv 2) (pa_cons (pv 1) pa_nil))))) (fun _ _ _ _ _ => pv 2)))
      (pss_cons (ps_for PassesOwn.never rfl (pi_list (pv 3)) (pg_name (i := 2) nd rfl (Or.inl rfl)) (pss_one (ps_daug hu (pe_fld (pv 0) rfl) (pv 2) pe_int in_sub (fun _ _ _ => rfl))))
      (pss_one (ps_ret (pv 3)))), ?_⟩
    have npk : p ≠ dk := ne_of hp hk (by intro z; cases z)
    refine ⟨dk, _, hk, trivial, fun od => ?_⟩
    have hp1 : (upd H dk (.frz od (.dK (enc V.int m)))) p = some (.ins C dx (kf mn ls mo ld dk la)) := by
      rw [upd_ne npk]
      exact hp
    refine ⟨_, rfl, p, C, dx, _, _, rfl, hp1, T.cl, T.nKept, kf_kept, dk, od, _, rfl, upd_same, fun t ht => ?_⟩
    have ntk : t ≠ dk := (ne_of_none upd_same ht).symm
    rw [upd_ne ntk] at ht
    refine lc_it walk_keys (fun i H2 => H2 dk = some (.frz od (.dK (enc V.int m))) ∧ H2 t = some (.lst (lots (KM.touchedOf (m.take i) b))) ∧ Keep [dk] H H2)
      ⟨by rw [upd_ne ntk.symm, upd_same], upd_same, ((Keep.refl _ _).wr (by simp)).wn ht⟩ (fun i H2 _ h => h.1) ?_ ?_
    · rintro i x H2 H3 hi ⟨g1, g2, g3⟩ ⟨rfl, kk, vv, e1, rfl⟩
      obtain ⟨n, c, e2, rfl, rfl⟩ := enc_at V.int e1
      have et : m.take (i + 1) = m.take i ++ [(n, c)] := by
        rw [List.take_add_one, e2]
        rfl
      refine ⟨rfl, _, rfl, _, rfl, n, b, rfl, _, rfl, ?_⟩
      refine ite2 (fun e => ?_) (fun e => ?_)
      · refine ⟨_, rfl, _, g2, ?_, ?_, ?_, g3.wn ht⟩
        · rw [List.length_map]
          have l1 : (KM.touchedOf (m.take i) b).length ≤ (m.take i).length := by
            unfold KM.touchedOf
            rw [List.length_map]
            exact List.length_filter_le _ _
          rw [List.length_take] at l1
          have l2 := ok.len
          exact line4096 (by omega)
        · rw [upd_ne ntk.symm]
          exact g1
        · rw [upd_same, et, KM.touched_in e, lots_snoc]
          rfl
      · refine ⟨g1, ?_, g3⟩
        rw [g2, et, KM.touched_out e]
    · rintro H2 ⟨g1, g2, g3⟩
      rw [enc_len, List.take_length] at g2
      refine ⟨g1, ?_⟩
      -- for lot in touched
      have g2' : (upd H2 dk (.dK (enc V.int m))) t = some (.lst (lots (KM.touchedOf m b))) := by
        rw [upd_ne ntk]
        exact g2
      refine ⟨_, rfl, t, rfl, ⟨_, SqL.of g2'⟩, for_list (K := K) (a := t) (xs := lots (KM.touchedOf m b)) (fun i σ H3 => ∃ v2, σ = [some (.ref p), some (.int (b : Int)), v2, some (.ref t)] ∧ H3 t = some (.lst (lots (KM.touchedOf m b))) ∧ H3 dk = some (.dK (enc V.int (((KM.touchedOf m b).take i).foldl KM.dec1 m))) ∧ Keep [dk] H H3)
        ⟨_, rfl, g2', upd_same, g3.wr (by simp)⟩ (fun i σ H3 _ h => SqL.of h.choose_spec.2.1) ?_ ?_⟩
      · rintro i x σ H3 hi ⟨v2, rfl, g1, g2, g3⟩
        obtain ⟨n, e2, rfl⟩ := lots_at hi
        have hp3 : H3 p = some (.ins C dx (kf mn ls mo ld dk la)) := g3 _ _ hp (by simp [npk])
        have ks : KM.keys (((KM.touchedOf m b).take i).foldl KM.dec1 m) = KM.keys m := KM.keys_dec _ _ fun x hx => (KM.mem_touched.mp (List.mem_of_mem_take hx)).1
        have ok2 : KM.Ok (((KM.touchedOf m b).take i).foldl KM.dec1 m) := ⟨by rw [ks]; exact ok.nd, by rw [ks]; exact ok.lt⟩
        have hn : n ∈ KM.keys (((KM.touchedOf m b).take i).foldl KM.dec1 m) := by
          rw [ks]
          exact (KM.mem_touched.mp (List.mem_of_getElem? e2)).1
        obtain ⟨c, hc⟩ := Option.isSome_iff_exists.mp (KM.get_isSome.mpr hn)
        refine ⟨_, rfl, p, C, dx, _, _, rfl, hp3, T.cl, T.nKept, kf_kept, _, rfl, dk, _, rfl, dget_at (.inl g2) hc, c, 1, rfl, rfl, _, dput g2 ok2.len n (c - 1), ?_⟩
        refine ⟨_, rfl, ?_, ?_, g3.wr (by simp)⟩
        · rw [upd_ne ntk]
          exact g1
        · have ed : KM.dec1 (((KM.touchedOf m b).take i).foldl KM.dec1 m) n = KM.put (((KM.touchedOf m b).take i).foldl KM.dec1 m) n (c - 1) := by
            show KM.put _ n ((KM.get _ n).getD 0 - 1) = _
            rw [hc]
            rfl
          rw [upd_same, KM.fold_take _ e2, ed]
      · rintro σ H3 ⟨v2, rfl, g1, g2, g3⟩
        rw [List.length_map, List.take_length] at g2
        exact ⟨_, rfl, k H3 t g2 ht g1 g3⟩
/-! ### is_gone -/
def spGone : Sp := fun vs H Q _ => ∃ (x : V) (n : Nat) (t : Addr) (there : List Nat), vs = [x, .int (n : Int), .ref t] ∧ H t = some (.lst (lots there)) ∧ Q (.bl (KM.gone n there)) H
theorem oi_ne {o : Option Nat} {n : Nat} : (!decide (V.int (oi o) = V.int (n : Int))) = decide (o ≠ some n) := by
  have q : V.int (oi o) = V.int (n : Int) ↔ o = some n := by
    constructor
    · intro h
      have h := V.int.inj h
      cases o with
      | none =>
        have h : (-1 : Int) = (n : Int) := h
        omega
      | some f =>
        have h : (f : Int) = (n : Int) := h
        exact congrArg some (by omega)
    · rintro rfl
      rfl
  by_cases e : o = some n
  · rw [decide_eq_true (q.mpr e)]
    exact (decide_eq_false (fun z => z e)).symm
  · rw [decide_eq_false (fun z => e (q.mp z)), decide_eq_true e]
    rfl
theorem ok_gone {f fW : Addr} {fd fdW : FuncData} (F : Fun K "is_gone" "Keeper.is_gone" sGone f fd) (FW : Fun K "is_within" "is_within" sWithin fW fdW) (bW : Binds K fdW ["one", "other"] []) (gW : mg "is_within" = some (.ref fW)) :
    FnOk P w K mg base CX0 2 f fd ["self", "lot", "there"] spGone := by
  have GW : FnOk P w K mg base CX0 1 fW fdW ["one", "other"] spWithin := ok_within FW
  refine F.ok scGone (fun vs H Q E h => ?_) (fun cdv A outer s H vs Q E hr h => ?_)
  · obtain ⟨x, n, t, there, rfl, _⟩ := h
    rfl
  · obtain ⟨x, n, t, there, rfl, ht, k⟩ := h
    have nd := scGone.nd
    refine ⟨_, pss_cons (ps_set (i := 3) nd rfl (Or.inl rfl) (pe_un un_neg pe_int))
      (pss_cons (ps_for PassesOwn.never rfl (pi_list (pv 2)) (pg_name (i := 4) nd rfl (Or.inl rfl))
        (pss_one (ps_if (pt_val (pe_call GW hr (by rfl) gW FW.kp bW .nil pass0 (pa_cons (pv 1) (pa_cons (pv 4) pa_nil)))) (pss_one (ps_set (i := 3) nd rfl (Or.inl rfl) (pe_op op_andO (pv 3) (pv 4)))) pss_nil)))
      (pss_one (ps_ret (pe_cmpR op_ne (pv 3) (pv 1) (nomark _))))), ?_⟩
    refine ⟨1, rfl, ?_⟩
    refine ⟨_, rfl, t, rfl, ⟨_, SqL.of ht⟩, for_list (K := K) (a := t) (xs := lots there) (fun i σ H3 => H3 = H ∧ ∃ v4, σ = [some x, some (.int (n : Int)), some (.ref t), some (.int (oi (KM.gfold n (there.take i)))), v4])
      ⟨rfl, none, rfl⟩ (fun i σ H3 _ h => by rw [h.1]; exact SqL.of ht) ?_ ?_⟩
    · rintro i y σ H3 hi ⟨rfl, v4, rfl⟩
      obtain ⟨b, e2, rfl⟩ := lots_at hi
      have eg : KM.gfold n (there.take (i + 1)) = KM.gstep n (KM.gfold n (there.take i)) b := by
        unfold KM.gfold
        rw [KM.fold_take _ e2]
      refine ⟨_, rfl, _, rfl, n, b, rfl, _, rfl, ?_⟩
      refine ite2 (fun e => ?_) (fun e => ?_)
      · refine ⟨_, rfl, _, rfl, _, b, rfl, rfl, rfl, some (.int (b : Int)), ?_⟩
        rw [eg]
        unfold KM.gstep
        rw [if_pos e]
        rfl
      · refine ⟨rfl, some (.int (b : Int)), ?_⟩
        rw [eg]
        unfold KM.gstep
        rw [if_neg e]
        rfl
    · rintro σ H3 ⟨rfl, v4, rfl⟩
      rw [List.length_map, List.take_length]
      refine ⟨_, rfl, _, rfl, rfl, ?_⟩
      show Q (V.bl (!decide (V.int (oi (KM.gfold n there)) = V.int (n : Int)))) H3
      rw [oi_ne]
      exact k
end
end Kp

/-! The keeper's defs: closed, count. -/
namespace Kp
open PySem PySem.Spec PyProof.Rows L2
/-! ### pairs put in order -/
def pk (H : Hp) (v : V) : Int × Int := match v with
  | .ref t => (match H t with | some (.tup [.int i, .int j]) => (i, j) | _ => (0, 0))
  | _ => (0, 0)
theorem pk_at {H : Hp} {t : Addr} {p : Nat × Int} (h : H t = some (pr p)) : pk H (.ref t) = ((p.1 : Int), p.2) := by
  unfold pk
  simp only [h, pr]
theorem pk_all {H : Hp} {ts : List Addr} {L : List (Nat × Int)} (h : Paired (fun t p => H t = some (pr p)) ts L) : ∀ x ∈ ts.map V.ref, ∃ t, x = V.ref t ∧ H t = some (.tup [.int (pk H x).1, .int (pk H x).2]) := by
  intro x hx
  obtain ⟨t, ht, rfl⟩ := List.mem_map.mp hx
  obtain ⟨i, hi⟩ := List.getElem?_of_mem ht
  obtain ⟨p, _, hp⟩ := paired_at h hi
  refine ⟨t, rfl, ?_⟩
  rw [pk_at hp]
  exact hp
/-- the pair that a tuple holds -/
def pq (H : Hp) (v : V) : Nat × Int := ((pk H v).1.toNat, (pk H v).2)
theorem pq_map {H : Hp} : ∀ {ts : List Addr} {L : List (Nat × Int)}, Paired (fun t p => H t = some (pr p)) ts L → (ts.map V.ref).map (pq H) = L
  | _, _, .nil => rfl
  | _, _, .cons (a := t) (b := p) h r => by
    rw [List.map_cons, List.map_cons, pq_map r]
    refine congrArg (· :: _) ?_
    unfold pq
    rw [pk_at h]
    rfl
theorem paired_of {H : Hp} : ∀ {ys : List V}, (∀ y ∈ ys, ∃ t p, y = V.ref t ∧ H t = some (pr p)) → ∃ ts : List Addr, ys = ts.map V.ref ∧ Paired (fun t p => H t = some (pr p)) ts (ys.map (pq H))
  | [], _ => ⟨[], rfl, .nil⟩
  | y :: ys, h => by
    obtain ⟨t, p, e, ht⟩ := h y List.mem_cons_self
    obtain ⟨ts, e2, hr⟩ := paired_of (ys := ys) fun z hz => h z (List.mem_cons_of_mem _ hz)
    subst e
    refine ⟨t :: ts, by rw [List.map_cons, ← e2], .cons ?_ hr⟩
    unfold pq
    rw [pk_at ht]
    exact ht
theorem pairs_sorted {H : Hp} {ts : List Addr} {L : List (Nat × Int)} (h : Paired (fun t p => H t = some (pr p)) ts L) {ys : List V} (h1 : SrtO.Srtd (ltP (pk H)) ys) (h2 : SrtO.Stb (ltP (pk H)) ys (ts.map V.ref)) :
    ∃ (ts' : List Addr) (L' : List (Nat × Int)), ys = ts'.map V.ref ∧ Paired (fun t p => H t = some (pr p)) ts' L' ∧ L'.Perm L ∧ L'.Pairwise fun p q => p.1 ≤ q.1 := by
  have all : ∀ y ∈ ys, ∃ t p, y = V.ref t ∧ H t = some (pr p) := fun y hy => by
    obtain ⟨t, ht, rfl⟩ := List.mem_map.mp (h2.perm.mem_iff.mp hy)
    obtain ⟨i, hi⟩ := List.getElem?_of_mem ht
    obtain ⟨p, _, hp⟩ := paired_at h hi
    exact ⟨t, p, rfl, hp⟩
  obtain ⟨ts', e, hp⟩ := paired_of all
  refine ⟨ts', ys.map (pq H), e, hp, ?_, ?_⟩
  · have q := h2.perm.map (pq H)
    rw [pq_map h] at q
    exact q
  · rw [List.pairwise_map]
    refine List.Pairwise.imp (fun {x y} z => ?_) h1
    have q := SrtO.lexB_no.mp z
    unfold pq
    show (pk H x).1.toNat ≤ (pk H y).1.toNat
    omega
section
variable {P : Program} {w : World} {K : PySem.W.Frag} {mg : Str → Option Value} {base : Heap}
/-! ### closed -/
def spClosed (C : Addr) : Sp := fun vs H Q _ => ∃ (p dx ld dk la : Addr) (mn ls mo : Int) (m : List (Nat × Int)), vs = [.ref p] ∧ H p = some (.ins C dx (kf mn ls mo ld dk la)) ∧ H dk = some (.dK (enc V.int m)) ∧ KM.Ok m ∧
  ∀ H' a L, Same H H' → H a = none → PLs H' a L → L.Perm (m.filter fun p => decide (ls ≤ p.2)) → (L.Pairwise fun p q => p.1 ≤ q.1) → Q (.ref a) H'
theorem ok_closed {f C : Addr} {fd : FuncData} (F : Fun K "closed" "Keeper.closed" sClosed f fd) (T : Txt K mg C) : FnOk P w K mg base CX0 1 f fd ["self"] (spClosed C) := by
  refine F.ok scClosed (fun vs H Q E h => ?_) (fun cdv A outer s H vs Q E hr h => ?_)
  · obtain ⟨p, dx, ld, dk, la, mn, ls, mo, m, rfl, _⟩ := h
    rfl
  · obtain ⟨p, dx, ld, dk, la, mn, ls, mo, m, rfl, hp, hk, ok, k⟩ := h
    have hu := hu_of hr
    have nd := scClosed.nd
    refine ⟨_, pss_one (ps_ret (pe_callB cr_sortedPO (by rfl) T.sorted (by decide +kernel) (pa_cons (pe_lock (pe_lc (own := [("lot", 1)]) (g := gName 1) (tt := tB (tGe (tDGet (tFld K (tVar 0) "kept") (tVar 1)) (tFld K (tVar 0) "least"))) (te := tTup (tCons (tVar 1) (tCons (tDGet (tFld K (tVar 0) "kept") (tVar 1)) tNil))) rfl nd (pi_keysM (pe_fld (pv 0) rfl)) (blkOk_by (N := ["self", "lot"]) (sc := defScope sClosed) (by decide +kernel))
      (fun _ _ _ _ _ => pg_name (i := 1) nd rfl (Or.inl rfl)) (fun _ _ _ _ _ => pts_one (pt_cmp (pc_ge (pe_dget hu (pe_fld (pv 0) rfl) (pv 1) (fun _ _ => rfl)) (pe_fld (pv 0) rfl))))
      (fun _ _ _ _ _ => pe_tup (pa_cons (pv 1) (pa_cons (pe_dget hu (pe_fld (pv 0) rfl) (pv 1) (fun _ _ => rfl)) pa_nil))))) pa_nil))), ?_⟩
    have npk : p ≠ dk := ne_of hp hk (by intro z; cases z)
    refine ⟨dk, _, hk, trivial, fun od => ?_⟩
    have hp1 : (upd H dk (.frz od (.dK (enc V.int m)))) p = some (.ins C dx (kf mn ls mo ld dk la)) := by
      rw [upd_ne npk]
      exact hp
    refine ⟨_, rfl, p, C, dx, _, _, rfl, hp1, T.cl, T.nKept, kf_kept, dk, od, _, rfl, upd_same, fun t ht => ?_⟩
    have ntk : t ≠ dk := (ne_of_none upd_same ht).symm
    rw [upd_ne ntk] at ht
    refine lc_it walk_keys (fun i H2 => H2 dk = some (.frz od (.dK (enc V.int m))) ∧ PLs H2 t ((m.take i).filter fun p => decide (ls ≤ p.2)) ∧ Keep [dk] H H2)
      ⟨by rw [upd_ne ntk.symm, upd_same], ⟨[], upd_same, .nil⟩, ((Keep.refl _ _).wr (by simp)).wn ht⟩ (fun i H2 _ h => h.1) ?_ ?_
    · rintro i x H2 H3 hi ⟨g1, ⟨ts, g2, g4⟩, g3⟩ ⟨rfl, kk, vv, e1, rfl⟩
      obtain ⟨n, c, e2, rfl, rfl⟩ := enc_at V.int e1
      have et : m.take (i + 1) = m.take i ++ [(n, c)] := by
        rw [List.take_add_one, e2]
        rfl
      have hp3 : H3 p = some (.ins C dx (kf mn ls mo ld dk la)) := g3 _ _ hp (by simp [npk])
      have gc : KM.get m n = some c := (KM.get_mem ok.nd).mp (List.mem_of_getElem? e2)
      refine ⟨rfl, _, rfl, p, C, dx, _, _, rfl, hp3, T.cl, T.nKept, kf_kept, _, rfl, dk, _, rfl, dget_at (.inr ⟨_, g1⟩) gc, _, rfl, p, C, dx, _, _, rfl, hp3, T.cl, T.nLeast, kf_least, c, ls, rfl, rfl, _, rfl, ?_⟩
      refine ite2 (fun e => ?_) (fun e => ?_)
      · refine ⟨_, rfl, _, rfl, p, C, dx, _, _, rfl, hp3, T.cl, T.nKept, kf_kept, _, rfl, dk, _, rfl, dget_at (.inr ⟨_, g1⟩) gc, (by show 2 ≤ sizeLine; decide), fun q hq => ?_⟩
        have nqt : t ≠ q := ne_of_none g2 hq
        have nqk : dk ≠ q := ne_of_none g1 hq
        refine ⟨_, by rw [upd_ne nqt]; exact g2, ?_, ?_, ⟨ts ++ [q], ?_, ?_⟩, ?_⟩
        · have l1 : (ts.map V.ref).length ≤ (m.take i).length := by
            rw [List.length_map, paired_len g4]
            exact List.length_filter_le _ _
          rw [List.length_take] at l1
          have l2 := ok.len
          exact line4096 (by omega)
        · rw [upd_ne ntk.symm, upd_ne nqk]
          exact g1
        · rw [upd_same, List.map_append]
          rfl
        · rw [et, List.filter_append, List.filter_cons_of_pos (p := fun p : Nat × Int => decide (ls ≤ p.2)) e]
          refine paired_snoc (paired_imp g4 fun u r _ hur => ?_) ?_
          · rw [upd_ne (ne_of hur g2 (by intro z; cases z)), upd_ne (ne_of_none hur hq)]
            exact hur
          · rw [upd_ne nqt.symm, upd_same]
            rfl
        · exact (g3.new hq).wn ht
      · refine ⟨g1, ?_, g3⟩
        rw [et, List.filter_append, List.filter_cons_of_neg (p := fun p : Nat × Int => decide (ls ≤ p.2)) e, List.filter_nil, List.append_nil]
        exact ⟨ts, g2, g4⟩
    · rintro H2 ⟨g1, ⟨ts, g2, g4⟩, g3⟩
      rw [enc_len, List.take_length] at g4
      refine ⟨g1, ?_⟩
      have sm : Same H (upd H2 dk (.dK (enc V.int m))) := fun b o e => by
        by_cases q : b = dk
        · rw [q, upd_same, ← hk, ← q]
          exact e
        · rw [upd_ne q]
          exact g3 b o e (by simp [q])
      have g5 : Paired (fun t p => (upd H2 dk (.dK (enc V.int m))) t = some (pr p)) ts (m.filter fun p => decide (ls ≤ p.2)) := paired_imp g4 fun u r _ hur => by
        rw [upd_ne (ne_of hur g1 (by intro z; cases z))]
        exact hur
      refine ⟨t, ts.map V.ref, pk _, rfl, SqL.of (by rw [upd_ne ntk]; exact g2), pk_all g5, fun ys a h1 h2 ha => ?_⟩
      obtain ⟨ts', L', rfl, k1, k2, k3⟩ := pairs_sorted g5 h1 h2
      refine k _ a L' (Keep.same ((Keep.of sm).new ha)) (sm.free ha) ⟨ts', upd_same, paired_imp k1 fun u r _ hur => ?_⟩ k2 k3
      rw [upd_ne (ne_of_none hur ha)]
      exact hur
/-! ### count -/
def spCount (C : Addr) : Sp := fun vs H Q _ => ∃ (p dx ld dk la : Addr) (mn ls mo : Int) (m : List (Nat × Int)) (bs : List Nat) (n : Nat), vs = [.ref p, .int (n : Int)] ∧ H p = some (.ins C dx (kf mn ls mo ld dk la)) ∧ H dk = some (.dK (enc V.int m)) ∧ KM.KMap m bs ∧ m.length ≤ 4096 ∧
  ∀ H', Same H H' → Q (.int (KM.cnt bs n : Int)) H'
/-- the counts of the closed lots that have it -/
def cntL (m : List (Nat × Int)) (n : Nat) : List Int := (m.filter fun p => KM.wi n p.1).map (·.2)
theorem cntL_in {m : List (Nat × Int)} {n k : Nat} {c : Int} (h : KM.wi n k = true) : cntL (m ++ [(k, c)]) n = cntL m n ++ [c] := by
  unfold cntL
  rw [List.filter_append, List.filter_cons_of_pos (p := fun p : Nat × Int => KM.wi n p.1) h, List.map_append]
  rfl
theorem cntL_out {m : List (Nat × Int)} {n k : Nat} {c : Int} (h : ¬ KM.wi n k = true) : cntL (m ++ [(k, c)]) n = cntL m n := by
  unfold cntL
  rw [List.filter_append, List.filter_cons_of_neg (p := fun p : Nat × Int => KM.wi n p.1) h, List.map_append]
  simp
theorem cntL_mem {m : List (Nat × Int)} {n : Nat} {z : Int} : z ∈ cntL m n ↔ ∃ p ∈ m, KM.wi n p.1 = true ∧ p.2 = z := by
  unfold cntL
  rw [List.mem_map]
  constructor
  · rintro ⟨p, h1, h2⟩
    have q := List.mem_filter.mp h1
    exact ⟨p, q.1, q.2, h2⟩
  · rintro ⟨p, h1, h2, h3⟩
    exact ⟨p, List.mem_filter.mpr ⟨h1, h2⟩, h3⟩
theorem ok_count {f fW C : Addr} {fd fdW : FuncData} (F : Fun K "count" "Keeper.count" sCount f fd) (T : Txt K mg C) (FW : Fun K "is_within" "is_within" sWithin fW fdW) (bW : Binds K fdW ["one", "other"] []) (gW : mg "is_within" = some (.ref fW)) :
    FnOk P w K mg base CX0 2 f fd ["self", "lot"] (spCount C) := by
  have GW : FnOk P w K mg base CX0 1 fW fdW ["one", "other"] spWithin := ok_within FW
  refine F.ok scCount (fun vs H Q E h => ?_) (fun cdv A outer s H vs Q E hr h => ?_)
  · obtain ⟨p, dx, ld, dk, la, mn, ls, mo, m, bs, n, rfl, _⟩ := h
    rfl
  · obtain ⟨p, dx, ld, dk, la, mn, ls, mo, m, bs, n, rfl, hp, hk, hm, hml, k⟩ := h
    have hu := hu_of hr
    have nd := scCount.nd
    refine ⟨_, pss_one (ps_ret (pe_callB (cr_max rfl) (by rfl) T.max (by decide +kernel) (pa_cons (pe_op op_cat (pe_lst (pa_cons pe_int pa_nil)) (pe_lock (pe_lc (own := [("other", 2)]) (g := gName 2) (te := tDGet (tFld K (tVar 0) "kept") (tVar 2)) rfl nd (pi_keysM (pe_fld (pv 0) rfl)) (blkOk_by (N := ["self", "lot", "other"]) (sc := defScope sCount) (by decide +kernel))
      (fun _ _ _ _ _ => pg_name (i := 2) nd rfl (Or.inl rfl)) (fun _ _ _ _ _ => pts_one (pt_val (pe_call GW hr (by rfl) gW FW.kp bW .nil pass0 (pa_cons (pv 1) (pa_cons (pv 2) pa_nil)))))
      (fun _ _ _ _ _ => pe_dget hu (pe_fld (pv 0) rfl) (pv 2) (fun _ _ => rfl))))) pa_nil))), ?_⟩
    have npk : p ≠ dk := ne_of hp hk (by intro z; cases z)
    refine ⟨(by show 1 ≤ sizeLine; decide), fun z hz => ?_⟩
    have nzk : z ≠ dk := (ne_of_none hk hz).symm
    have npz : p ≠ z := ne_of_none hp hz
    have hk1 : (upd H z (.lst [.int 0])) dk = some (.dK (enc V.int m)) := by
      rw [upd_ne nzk.symm]
      exact hk
    refine ⟨dk, _, hk1, trivial, fun od => ?_⟩
    have hp1 : (upd (upd H z (.lst [.int 0])) dk (.frz od (.dK (enc V.int m)))) p = some (.ins C dx (kf mn ls mo ld dk la)) := by
      rw [upd_ne npk, upd_ne npz]
      exact hp
    refine ⟨_, rfl, p, C, dx, _, _, rfl, hp1, T.cl, T.nKept, kf_kept, dk, od, _, rfl, upd_same, fun t ht => ?_⟩
    have ntk : t ≠ dk := (ne_of_none upd_same ht).symm
    rw [upd_ne ntk] at ht
    have ntz : t ≠ z := (ne_of_none upd_same ht).symm
    have ht0 : H t = none := by
      rw [upd_ne ntz] at ht
      exact ht
    refine lc_it walk_keys (fun i H2 => H2 dk = some (.frz od (.dK (enc V.int m))) ∧ H2 z = some (.lst [.int 0]) ∧ H2 t = some (.lst ((cntL (m.take i) n).map V.int)) ∧ Keep [dk] H H2)
      ⟨by rw [upd_ne ntk.symm, upd_same], by rw [upd_ne ntz.symm, upd_ne nzk, upd_same], upd_same, (((Keep.refl _ _).wn hz).wr (by simp)).wn ht0⟩ (fun i H2 _ h => h.1) ?_ ?_
    · rintro i x H2 H3 hi ⟨g1, g0, g2, g3⟩ ⟨rfl, kk, vv, e1, rfl⟩
      obtain ⟨j, c, e2, rfl, rfl⟩ := enc_at V.int e1
      have et : m.take (i + 1) = m.take i ++ [(j, c)] := by
        rw [List.take_add_one, e2]
        rfl
      have hp3 : H3 p = some (.ins C dx (kf mn ls mo ld dk la)) := g3 _ _ hp (by simp [npk])
      have gc : KM.get m j = some c := (KM.get_mem hm.nd).mp (List.mem_of_getElem? e2)
      refine ⟨rfl, _, rfl, _, rfl, n, j, rfl, _, rfl, ?_⟩
      refine ite2 (fun e => ?_) (fun e => ?_)
      · refine ⟨_, rfl, p, C, dx, _, _, rfl, hp3, T.cl, T.nKept, kf_kept, _, rfl, dk, _, rfl, dget_at (.inr ⟨_, g1⟩) gc, _, g2, ?_, ?_, ?_, ?_, g3.wn ht0⟩
        · have l1 : (cntL (m.take i) n).length ≤ (m.take i).length := by
            unfold cntL
            rw [List.length_map]
            exact List.length_filter_le _ _
          rw [List.length_take] at l1
          rw [List.length_map]
          exact line4096 (by omega)
        · rw [upd_ne ntk.symm]
          exact g1
        · rw [upd_ne ntz.symm]
          exact g0
        · rw [upd_same, et, cntL_in e, List.map_append]
          rfl
      · refine ⟨g1, g0, ?_, g3⟩
        rw [g2, et, cntL_out e]
    · rintro H2 ⟨g1, g0, g2, g3⟩
      rw [enc_len, List.take_length] at g2
      refine ⟨g1, ?_⟩
      have sm : Same H (upd H2 dk (.dK (enc V.int m))) := fun b o e => by
        by_cases q : b = dk
        · rw [q, upd_same, ← hk, ← q]
          exact e
        · rw [upd_ne q]
          exact g3 b o e (by simp [q])
      refine ⟨z, t, _, _, rfl, rfl, by rw [upd_ne nzk]; exact g0, by rw [upd_ne ntk]; exact g2, ?_, fun q hq => ?_⟩
      · rw [List.length_map]
        have l1 : (cntL m n).length ≤ m.length := by
          unfold cntL
          rw [List.length_map]
          exact List.length_filter_le _ _
        exact Nat.le_of_lt (line4096 (by show 1 + _ ≤ _; omega))
      · refine ⟨q, 0 :: cntL m n, rfl, SqL.of upd_same, Nat.succ_pos _, fun v hv hall => ?_⟩
        have ev : v = (KM.cnt bs n : Int) := by
          refine hm.count ?_ (hall 0 List.mem_cons_self) fun r hr hw => hall _ (List.mem_cons_of_mem _ (cntL_mem.mpr ⟨r, hr, hw, rfl⟩))
          rcases List.mem_cons.mp hv with e | e
          · exact .inl e
          · exact .inr (cntL_mem.mp e)
        rw [ev]
        exact k _ (Keep.same ((Keep.of sm).new hq))
end
end Kp

/-! The keeper's def: changes. -/
namespace Kp
open PySem PySem.Spec PyProof.Rows L2
theorem kept_keys {m L : List (Nat × Int)} {q : Nat × Int → Bool} (ok : KM.Ok m) (hp : L.Perm (m.filter q)) (hs : L.Pairwise fun p q => p.1 ≤ q.1) : KM.Ok L ∧ L.Pairwise fun p q => p.1 < q.1 := by
  have sub : List.Sublist (KM.keys (m.filter q)) (KM.keys m) := (List.filter_sublist (l := m)).map _
  have nd : (KM.keys L).Nodup := (hp.map (·.1)).symm.nodup (ok.nd.sublist sub)
  refine ⟨⟨nd, fun n hn => ok.lt n (sub.subset ((hp.map (·.1)).mem_iff.mp hn))⟩, ?_⟩
  unfold KM.keys List.Nodup at nd
  rw [List.pairwise_map] at nd
  exact (hs.and nd).imp fun {p q} z => Nat.lt_of_le_of_ne z.1 z.2
theorem of_take {L : List (Nat × Int)} (h : (KM.keys L).Nodup) (i : Nat) : (L.take i).foldl (fun m p => KM.put m p.1 p.2) [] = L.take i :=
  KM.ofL_eq (h.sublist ((List.take_sublist i L).map _))
section
variable {P : Program} {w : World} {K : PySem.W.Frag} {mg : Str → Option Value} {base : Heap}
def spChanges (K : PySem.W.Frag) (C : Addr) : Sp := fun vs H Q _ => ∃ (p dx ld dk la : Addr) (mn ls mo : Int) (m A : List (Nat × Int)), vs = [.ref p] ∧ H p = some (.ins C dx (kf mn ls mo ld dk la)) ∧ H dk = some (.dK (enc V.int m)) ∧ KM.Ok m ∧
  PLs H la A ∧ KM.Ok A ∧ (A.Pairwise fun p q => p.1 < q.1) ∧ ∀ H' a B, Same H H' → B.Perm (m.filter fun p => decide (ls ≤ p.2)) → (B.Pairwise fun p q => p.1 ≤ q.1) → Dp K H' (.ref a) (chgD A B) → Q (.ref a) H'
theorem ok_changes {f fC C : Addr} {fd fdC : FuncData} (F : Fun K "changes" "Keeper.changes" sChanges f fd) (T : Txt K mg C) (FC : Fun K "closed" "Keeper.closed" sClosed fC fdC) (bC : Binds K fdC ["self"] []) (mC : Meth K C "closed" fC) :
    FnOk P w K mg base CX0 2 f fd ["self"] (spChanges K C) := by
  have GC : FnOk P w K mg base CX0 1 fC fdC ["self"] (spClosed C) := ok_closed FC T
  refine F.ok scChanges (fun vs H Q E h => ?_) (fun cdv A outer s H vs Q E hr h => ?_)
  · obtain ⟨p, dx, ld, dk, la, mn, ls, mo, m, A, rfl, _⟩ := h
    rfl
  · obtain ⟨p, dx, ld, dk, la, mn, ls, mo, m, A, rfl, hp, hk, ok, ⟨ta, hA, hT⟩, okA, upA, k⟩ := h
    have hu := hu_of hr
    have nd := scChanges.nd
    refine ⟨_, pss_cons (ps_set (i := 1) nd rfl (Or.inr rfl) pe_dnewK)
      (pss_cons (ps_for PassesOwn.never rfl (pi_list (pe_fld (pv 0) rfl)) (pg_tup rfl (pgs_cons (pg_name (i := 2) nd rfl (Or.inl rfl)) (pgs_cons (pg_name (i := 3) nd rfl (Or.inl rfl)) pgs_nil)))
        (pss_one (ps_dput hu (pv 1) (pv 2) (pv 3) rfl)))
      (pss_cons (ps_set (i := 4) nd rfl (Or.inr rfl) pe_dnewK)
      (pss_cons (ps_for PassesOwn.never rfl (pi_list (pe_meth0 (pv 0) T.cl mC GC hr bC .nil pass0)) (pg_tup rfl (pgs_cons (pg_name (i := 2) nd rfl (Or.inl rfl)) (pgs_cons (pg_name (i := 3) nd rfl (Or.inl rfl)) pgs_nil)))
        (pss_one (ps_dput hu (pv 4) (pv 2) (pv 3) rfl)))
      (pss_cons (ps_setLc (i := 5) (own := [("lot", 2)]) (g := gName 2) rfl nd rfl rfl (sw_true rfl rfl rfl (by decide +kernel)) (pi_list (pe_callB (call_sortD rfl) (by rfl) T.sorted (by decide +kernel) (pa_cons (pv 4) pa_nil)))
        (blkOk_by (N := ["self", "then", "lot", "many", "now", "came", "went", "moved"]) (sc := defScope sChanges) (by decide +kernel)) (fun _ _ _ _ _ => pg_name (i := 2) nd rfl (Or.inl rfl))
        (fun _ _ _ _ _ => pts_one (pt_cmp (pc_dnotin hu (pv 2) (pv 1)))) (fun _ _ _ _ _ => pe_tup (pa_cons (pv 2) (pa_cons (pe_dget hu (pv 4) (pv 2) (fun _ _ => rfl)) pa_nil))))
      (pss_cons (ps_setLc (i := 6) (own := [("lot", 2)]) (g := gName 2) rfl nd rfl rfl (sw_true rfl rfl rfl (by decide +kernel)) (pi_list (pe_callB (call_sortD rfl) (by rfl) T.sorted (by decide +kernel) (pa_cons (pv 1) pa_nil)))
        (blkOk_by (N := ["self", "then", "lot", "many", "now", "came", "went", "moved"]) (sc := defScope sChanges) (by decide +kernel)) (fun _ _ _ _ _ => pg_name (i := 2) nd rfl (Or.inl rfl))
        (fun _ _ _ _ _ => pts_one (pt_cmp (pc_dnotin hu (pv 2) (pv 4)))) (fun _ _ _ _ _ => pe_tup (pa_cons (pv 2) (pa_cons (pe_dget hu (pv 1) (pv 2) (fun _ _ => rfl)) pa_nil))))
      (pss_cons (ps_setLc (i := 7) (own := [("lot", 2)]) (g := gName 2) rfl nd rfl rfl (sw_true rfl rfl rfl (by decide +kernel)) (pi_list (pe_callB (call_sortD rfl) (by rfl) T.sorted (by decide +kernel) (pa_cons (pv 4) pa_nil)))
        (blkOk_by (N := ["self", "then", "lot", "many", "now", "came", "went", "moved"]) (sc := defScope sChanges) (by decide +kernel)) (fun _ _ _ _ _ => pg_name (i := 2) nd rfl (Or.inl rfl))
        (fun _ _ _ _ _ => pts_one (PW.pt (pw_and (pt_cmp (pc_din hu (pv 2) (pv 1))) (pw_and1 (pt_cmp (pc_neI (pe_dget hu (pv 1) (pv 2) (fun _ _ => rfl)) (pe_dget hu (pv 4) (pv 2) (fun _ _ => rfl))))))))
        (fun _ _ _ _ _ => pe_tup (pa_cons (pv 2) (pa_cons (pe_dget hu (pv 1) (pv 2) (fun _ _ => rfl)) (pa_cons (pe_dget hu (pv 4) (pv 2) (fun _ _ => rfl)) pa_nil)))))
      (pss_one (ps_ret (pe_tup (pa_cons (pv 5) (pa_cons (pv 6) (pa_cons (pv 7) pa_nil)))))))))))), ?_⟩
    -- then = {}
    intro d1 hd1
    have np1 : p ≠ d1 := ne_of_none hp hd1
    have na1 : la ≠ d1 := ne_of_none hA hd1
    have hp1 : ∀ o, (upd H d1 o) p = some (.ins C dx (kf mn ls mo ld dk la)) := fun o => by rw [upd_ne np1]; exact hp
    have hA1 : ∀ o, (upd H d1 o) la = some (.lst (ta.map V.ref)) := fun o => by rw [upd_ne na1]; exact hA
    refine ⟨_, rfl, p, C, dx, _, _, rfl, hp1 _, T.cl, T.nAhead, kf_ahead, la, rfl, ⟨_, SqL.of (hA1 _)⟩, for_list (K := K) (a := la) (xs := ta.map V.ref) (fun i σ H2 => ∃ v2 v3, σ = [some (.ref p), some (.ref d1), v2, v3, none, none, none, none] ∧ H2 = upd H d1 (.dK (enc V.int (A.take i))))
      ⟨none, none, rfl, rfl⟩ (fun i σ H2 _ h => by rw [h.choose_spec.choose_spec.2]; exact SqL.of (hA1 _)) ?_ ?_⟩
    · rintro i x σ H2 hi ⟨v2, v3, rfl, rfl⟩
      rw [List.getElem?_map] at hi
      cases e : ta[i]? with
      | none => rw [e] at hi; cases hi
      | some t =>
        rw [e] at hi
        cases hi
        obtain ⟨⟨n, c⟩, e2, ht⟩ := paired_at hT e
        have ht1 : (upd H d1 (.dK (enc V.int (A.take i)))) t = some (pr (n, c)) := by
          rw [upd_ne (ne_of_none ht hd1)]
          exact ht
        refine ⟨t, _, rfl, SqT.of ht1, rfl, _, _, rfl, _, _, rfl, rfl, ?_⟩
        have l1 : (A.take i).length ≤ 4096 := by
          rw [List.length_take]
          have := okA.len
          omega
        refine ⟨_, rfl, _, rfl, _, rfl, d1, _, rfl, dput upd_same l1 n c, ?_⟩
        refine ⟨_, _, rfl, ?_⟩
        rw [upd_upd, ← of_take okA.nd (i + 1), KM.fold_take _ e2, of_take okA.nd i]
    · rintro σ H2 ⟨v2, v3, rfl, rfl⟩
      have lA : (A.take (ta.map V.ref).length) = A := by
        rw [List.length_map, paired_len hT]
        exact List.take_length
      rw [lA]
      -- now = {}
      intro d2 hd2
      have n21 : d2 ≠ d1 := fun e => by
        rw [e, upd_same] at hd2
        cases hd2
      rw [upd_ne n21] at hd2
      have np2 : p ≠ d2 := ne_of_none hp hd2
      have nk1 : dk ≠ d1 := ne_of_none hk hd1
      have nk2 : dk ≠ d2 := ne_of_none hk hd2
      refine ⟨_, rfl, p, dx, _, rfl, by rw [upd_ne np2, upd_ne np1]; exact hp, kf_closed, p, dx, ld, dk, la, mn, ls, mo, m, rfl, by rw [upd_ne np2, upd_ne np1]; exact hp, by rw [upd_ne nk2, upd_ne nk1]; exact hk, ok, fun Hc a B smc na ⟨tb, hB, hTB⟩ pB sB => ?_⟩
      obtain ⟨okB, upB⟩ := kept_keys ok pB sB
      have c1 : Hc d1 = some (.dK (enc V.int A)) := smc _ _ (by rw [upd_ne n21.symm, upd_same])
      have c2 : Hc d2 = some (.dK (enc V.int ([] : List (Nat × Int)))) := smc _ _ upd_same
      have smH : Same H Hc := fun b o e => smc _ _ (by rw [upd_ne (ne_of_none e hd2), upd_ne (ne_of_none e hd1)]; exact e)
      have nab : a ≠ d2 := ne_of hB c2 (by intro z; cases z)
      refine ⟨a, rfl, ⟨_, SqL.of hB⟩, for_list (K := K) (a := a) (xs := tb.map V.ref) (fun i σ H2 => ∃ v2 v3, σ = [some (.ref p), some (.ref d1), v2, v3, some (.ref d2), none, none, none] ∧ H2 = upd Hc d2 (.dK (enc V.int (B.take i))))
        ⟨_, _, rfl, by
          funext b
          by_cases q : b = d2
          · rw [q, upd_same]
            exact c2
          · rw [upd_ne q]⟩ (fun i σ H2 _ h => by rw [h.choose_spec.choose_spec.2]; exact SqL.of (by rw [upd_ne nab]; exact hB)) ?_ ?_⟩
      · rintro i x σ H2 hi ⟨v2, v3, rfl, rfl⟩
        rw [List.getElem?_map] at hi
        cases e : tb[i]? with
        | none => rw [e] at hi; cases hi
        | some t =>
          rw [e] at hi
          cases hi
          obtain ⟨⟨n, c⟩, e2, ht⟩ := paired_at hTB e
          have ht1 : (upd Hc d2 (.dK (enc V.int (B.take i)))) t = some (pr (n, c)) := by
            rw [upd_ne (ne_of ht c2 (by intro z; cases z))]
            exact ht
          refine ⟨t, _, rfl, SqT.of ht1, rfl, _, _, rfl, _, _, rfl, rfl, ?_⟩
          have l1 : (B.take i).length ≤ 4096 := by
            rw [List.length_take]
            have := okB.len
            omega
          refine ⟨_, rfl, _, rfl, _, rfl, d2, _, rfl, dput upd_same l1 n c, ?_⟩
          refine ⟨_, _, rfl, ?_⟩
          rw [upd_upd, ← of_take okB.nd (i + 1), KM.fold_take _ e2, of_take okB.nd i]
      · rintro σ H2 ⟨v2, v3, rfl, rfl⟩
        have lB : (B.take (tb.map V.ref).length) = B := by
          rw [List.length_map, paired_len hTB]
          exact List.take_length
        rw [lB]
        have s2 : Same H (upd Hc d2 (.dK (enc V.int B))) := fun b o e => by
          rw [upd_ne (ne_of_none e hd2)]
          exact smH _ _ e
        have w1 : (upd Hc d2 (.dK (enc V.int B))) d1 = some (.dK (enc V.int A)) := by
          rw [upd_ne n21.symm]
          exact c1
        have w2 : (upd Hc d2 (.dK (enc V.int B))) d2 = some (.dK (enc V.int B)) := upd_same
        -- came
        dsimp only [tSeq, tAsg]
        refine comp_new (s := [some (.ref p), some (.ref d1), v2, v3, some (.ref d2), none, none, none]) (A := A) (B := B) (dA := d1) (dB := d2) (i1 := 4) (i2 := 1) (k := 2) (.inl w1) (.inl w2) upB okB.len rfl rfl (by decide) (by decide) (by show 2 < 8; decide) fun H3 l1 s3 _ P1 => ?_
        -- went
        dsimp only [gName, tSeq, tAsg]
        refine comp_new (s := [some (.ref p), some (.ref d1), v2, v3, some (.ref d2), some (.ref l1), none, none]) (A := B) (B := A) (dA := d2) (dB := d1) (i1 := 1) (i2 := 4) (k := 2) (.inl (s3 _ _ w2)) (.inl (s3 _ _ w1)) upA okA.len rfl rfl (by decide) (by decide) (by show 2 < 8; decide) fun H4 l2 s4 _ P2 => ?_
        -- moved
        try dsimp only [gName, tSeq, tAsg]
        refine comp_moved (s := [some (.ref p), some (.ref d1), v2, v3, some (.ref d2), some (.ref l1), some (.ref l2), none]) (A := A) (B := B) (dA := d1) (dB := d2) (i1 := 4) (i2 := 1) (k := 2) (.inl (s4 _ _ (s3 _ _ w1))) (.inl (s4 _ _ (s3 _ _ w2))) upB okB.len rfl rfl (by decide) (by decide) (by show 2 < 8; decide) fun H5 l3 s5 _ P3 => ?_
        try dsimp only [gName, tRet]
        refine ⟨_, rfl, _, rfl, _, rfl, (by show 3 ≤ sizeLine; decide), fun t ht => ?_⟩
        have s6 : Same H5 (upd H5 t (.tup [.ref l1, .ref l2, .ref l3])) := Keep.same ((Keep.refl _ _).new ht)
        exact k _ t B (((s2.trans s3).trans s4).trans (s5.trans s6)) pB sB (chg_dp upd_same ((P1.same s4).same (s5.trans s6)) ((P2.same s5).same s6) (P3.same s6))
end
end Kp

/-! The keeper's defs: day_goes, come. -/
namespace Kp
open PySem PySem.Spec PyProof.Rows L2
abbrev DayAt (H : Hp) (a : Addr) (d : List Nat) : Prop := H a = some (.lst (lots d))
abbrev gU : Unit → V := fun _ => V.bl true
section
variable {P : Program} {w : World} {K : PySem.W.Frag} {mg : Str → Option Value} {base : Heap}
/-! ### day_goes -/
def spDayGoes (C : Addr) : Sp := fun vs H Q _ => ∃ (p dx ld dk la : Addr) (mn ls mo : Int) (m : List (Nat × Int)) (d : List Nat) (rest : List (List Nat)) (ad : Addr) (ars : List Addr), vs = [.ref p] ∧ H p = some (.ins C dx (kf mn ls mo ld dk la)) ∧
  H ld = some (.lst (V.ref ad :: ars.map V.ref)) ∧ DayAt H ad d ∧ Paired (DayAt H) ars rest ∧ ad ≠ ld ∧ ld ∉ ars ∧ H dk = some (.dK (enc V.int m)) ∧ KM.KMap m (d ++ rest.flatten) ∧ (∀ b ∈ d ++ rest.flatten, b < 4096) ∧ rest.flatten.length ≤ 8192 ∧
  ∀ H' m', H' dk = some (.dK (enc V.int m')) → KM.KMap m' rest.flatten → H' ld = some (.lst (ars.map V.ref)) → Keep [dk, ld] H H' → Q .non H'
theorem ok_dayGoes {f fW fG fN C : Addr} {fd fdW fdG fdN : FuncData} (F : Fun K "day_goes" "Keeper.day_goes" sDayGoes f fd) (T : Txt K mg C) (FW : Fun K "is_within" "is_within" sWithin fW fdW) (bW : Binds K fdW ["one", "other"] []) (gW : mg "is_within" = some (.ref fW))
    (FG : Fun K "basket_goes" "Keeper.basket_goes" sGoes fG fdG) (bG : Binds K fdG ["self", "basket"] []) (mG : Meth K C "basket_goes" fG) (FN : Fun K "is_gone" "Keeper.is_gone" sGone fN fdN) (bN : Binds K fdN ["self", "lot", "there"] []) (mN : Meth K C "is_gone" fN) :
    FnOk P w K mg base CX0 3 f fd ["self"] (spDayGoes C) := by
  have GG : FnOk P w K mg base CX0 2 fG fdG ["self", "basket"] (spGoes C) := ok_goes FG T FW bW gW
  have GN : FnOk P w K mg base CX0 2 fN fdN ["self", "lot", "there"] spGone := ok_gone FN FW bW gW
  refine F.ok scDayGoes (fun vs H Q E h => ?_) (fun cdv A outer s H vs Q E hr h => ?_)
  · obtain ⟨p, dx, ld, dk, la, mn, ls, mo, m, d, rest, ad, ars, rfl, _⟩ := h
    rfl
  · obtain ⟨p, dx, ld, dk, la, mn, ls, mo, m, d, rest, ad, ars, rfl, hp, hl, hd, hrs, nal, nls, hk, hm, hlt, hlen, k⟩ := h
    have hu := hu_of hr
    have nd := scDayGoes.nd
    refine ⟨_, pss_cons (ps_set (i := 1) nd rfl (Or.inl rfl) pe_dnewK)
      (pss_cons (ps_for PassesOwn.never rfl (pi_list (pe_bm PySem.F.plainAttrs_list PySem.F.slot_list_pop PySem.F.type_list_pop mt_popAt (pe_fld (pv 0) rfl) (pa_cons pe_int pa_nil))) (pg_name (i := 2) nd rfl (Or.inl rfl))
        (pss_one (ps_for PassesOwn.never rfl (pi_list (pe_meth (pv 0) T.cl mG GG hr bG .nil pass0 (pa_cons (pv 2) pa_nil))) (pg_name (i := 3) nd rfl (Or.inl rfl)) (pss_one (ps_dput hu (pv 1) (pv 3) pe_bl rfl)))))
      (pss_cons (ps_set (i := 4) nd rfl (Or.inl rfl) (pe_lst pa_nil))
      (pss_cons (ps_for PassesOwn.never rfl (pi_list (pe_fld (pv 0) rfl)) (pg_name (i := 5) nd rfl (Or.inl rfl))
        (pss_one (ps_expr (pe_bm PySem.F.plainAttrs_list PySem.F.slot_list_extend PySem.F.type_list_extend mt_extend (pv 4) (pa_cons (pv 5) pa_nil)))))
      (pss_one (ps_lock (ps_for PassesOwn.never rfl (pi_keysM (pv 1)) (pg_name (i := 3) nd rfl (Or.inl rfl))
        (pss_one (ps_if (pt_val (pe_meth (pv 0) T.cl mN GN hr bN .nil pass0 (pa_cons (pv 3) (pa_cons (pv 4) pa_nil)))) (pss_one (ps_expr (pe_dpop1 (pe_fld (pv 0) rfl) (pv 3) ⟨rfl, rfl, rfl, rfl⟩))) pss_nil)))))))), ?_⟩
    -- touched = {}
    intro td htd
    have npk : p ≠ dk := ne_of hp hk (by intro z; cases z)
    have npl : p ≠ ld := ne_of hp hl (by intro z; cases z)
    have nkl : dk ≠ ld := ne_of hk hl (by intro z; cases z)
    have npt : p ≠ td := ne_of_none hp htd
    have nkt : dk ≠ td := ne_of_none hk htd
    have nlt : ld ≠ td := ne_of_none hl htd
    have nat : ad ≠ td := ne_of_none hd htd
    have nak : ad ≠ dk := ne_of hd hk (by intro z; cases z)
    have nap : ad ≠ p := ne_of hd hp (by intro z; cases z)
    -- self.kept_days.pop(0)
    have hl1 : (upd H td (.dK [])) ld = some (.lst (V.ref ad :: ars.map V.ref)) := by
      rw [upd_ne nlt]
      exact hl
    refine ⟨_, rfl, p, C, dx, _, _, rfl, by rw [upd_ne npt]; exact hp, T.cl, T.nDays, kf_days, .inl ⟨rfl, _, SqL.of hl1⟩, ld, _, 0, 0, .ref ad, rfl, rfl, hl1, by decide, by decide, seqIndex_of (Int.le_refl 0) (by simp), rfl, ?_⟩
    have e0 : (V.ref ad :: ars.map V.ref).eraseIdx 0 = ars.map V.ref := rfl
    rw [e0]
    refine ⟨ad, rfl, ⟨lots d, SqL.of (by rw [upd_ne nal, upd_ne nat]; exact hd)⟩, for_list (K := K) (a := ad) (xs := lots d) (fun i σ H2 => ∃ m1 t1 v2 v3, σ = [some (.ref p), some (.ref td), v2, v3, none, none] ∧ H2 dk = some (.dK (enc V.int m1)) ∧ KM.KMid m1 (d ++ rest.flatten) (d.take i) ∧
        H2 td = some (.dK (enc gU t1)) ∧ KM.Ok t1 ∧ (∀ n, n ∈ KM.keys t1 ↔ KM.IsC (d ++ rest.flatten) n ∧ ∃ b ∈ d.take i, KM.wi n b = true) ∧ H2 ld = some (.lst (ars.map V.ref)) ∧ Keep [dk, ld, td] H H2)
      ⟨m, [], none, none, rfl, by rw [upd_ne nkl, upd_ne nkt]; exact hk, KM.KMid.start hm, by rw [upd_ne nlt.symm, upd_same]; rfl, KM.Ok.nil, fun n => by simp [KM.keys], upd_same, ((Keep.refl _ _).wr (by simp)).wr (by simp)⟩
      (fun i σ H2 _ h => by
        obtain ⟨_, _, _, _, _, _, _, _, _, _, _, g⟩ := h
        exact SqL.of (g _ _ hd (by simp [nak, nal, nat]))) ?_ ?_⟩
    · rintro i x σ H2 hi ⟨m1, t1, v2, v3, rfl, g1, g2, g3, g4, g5, g6, g7⟩
      obtain ⟨b, e2, rfl⟩ := lots_at hi
      have hp2 : H2 p = some (.ins C dx (kf mn ls mo ld dk la)) := g7 _ _ hp (by simp [npk, npl, npt])
      have ok1 : KM.Ok m1 := g2.ok hlt
      -- for lot in self.basket_goes(basket)
      refine ⟨_, rfl, p, dx, _, rfl, hp2, kf_goes, _, rfl, p, dx, ld, dk, la, mn, ls, mo, m1, b, rfl, hp2, g1, ok1, fun H3 t k1 nt ht k2 => ?_⟩
      have ntl : t ≠ ld := (ne_of_none g6 nt).symm
      have ntk : t ≠ dk := (ne_of_none g1 nt).symm
      have ntt : t ≠ td := (ne_of_none g3 nt).symm
      have n0 : H t = none := by
        cases q : H t with
        | none => rfl
        | some o =>
          have z := g7 _ _ q (by simp [ntk, ntl, ntt])
          rw [nt] at z
          cases z
      refine ⟨t, rfl, ⟨_, SqL.of ht⟩, for_list (K := K) (a := t) (xs := lots (KM.touchedOf m1 b)) (fun j σ H4 => ∃ v3, σ = [some (.ref p), some (.ref td), some (.int (b : Int)), v3, none, none] ∧ H4 t = some (.lst (lots (KM.touchedOf m1 b))) ∧ H4 td = some (.dK (enc gU (((KM.touchedOf m1 b).take j).foldl KM.tput t1))) ∧
          H4 dk = some (.dK (enc V.int (KM.goes m1 b))) ∧ H4 ld = some (.lst (ars.map V.ref)) ∧ Keep [dk, ld, td] H H4)
        ⟨v3, rfl, ht, k2 _ _ g3 (by simp [nkt.symm]), k1, k2 _ _ g6 (by simp [nkl.symm]), g7.trans (k2.mono (by simp))⟩ (fun j σ H4 _ h => SqL.of h.choose_spec.2.1) ?_ ?_⟩
      · rintro j x σ H4 hj ⟨v3, rfl, q1, q2, q3, q4, q5⟩
        obtain ⟨n, e3, rfl⟩ := lots_at hj
        have okt : KM.Ok (((KM.touchedOf m1 b).take j).foldl KM.tput t1) := KM.fold_ok (f := KM.tput) KM.Ok _ _ g4 fun u y hy hu => hu.put () (ok1.lt _ (KM.mem_touched.mp (List.mem_of_mem_take hy)).1)
        refine ⟨_, rfl, _, rfl, td, _, rfl, dput (g := gU) q2 okt.len n (), ?_⟩
        refine ⟨_, rfl, ?_, ?_, ?_, ?_, q5.wr (by simp)⟩
        · rw [upd_ne ntt]
          exact q1
        · rw [upd_same, KM.fold_take _ e3]
          rfl
        · rw [upd_ne nkt]
          exact q3
        · rw [upd_ne nlt]
          exact q4
      · rintro σ H4 ⟨v3, rfl, q1, q2, q3, q4, q5⟩
        rw [lots_len, List.take_length] at q2
        have ed : d.take (i + 1) = d.take i ++ [b] := by
          rw [List.take_add_one, e2]
          rfl
        refine ⟨KM.goes m1 b, (KM.touchedOf m1 b).foldl KM.tput t1, _, v3, rfl, q3, by rw [ed]; exact g2.goes, q2, KM.fold_ok (f := KM.tput) KM.Ok _ _ g4 fun u y hy hu => hu.put () (ok1.lt _ (KM.mem_touched.mp hy).1), fun n => ?_, q4, q5⟩
        rw [KM.keys_tfold, g5, KM.mem_touched, g2.key, ed]
        constructor
        · rintro (⟨h1, c, h2, h3⟩ | ⟨h1, h2⟩)
          · exact ⟨h1, c, List.mem_append_left _ h2, h3⟩
          · exact ⟨h1, b, by simp, h2⟩
        · rintro ⟨h1, c, h2, h3⟩
          rcases List.mem_append.mp h2 with h2 | h2
          · exact .inl ⟨h1, c, h2, h3⟩
          · rw [List.mem_singleton.mp h2] at h3
            exact .inr ⟨h1, h3⟩
    · rintro σ H2 ⟨m1, t1, v2, v3, rfl, g1, g2, g3, g4, g5, g6, g7⟩
      rw [lots_len, List.take_length] at g2 g5
      -- there = []
      refine ⟨Nat.zero_le _, fun th hth => ?_⟩
      have nlh : ld ≠ th := ne_of_none g6 hth
      have nkh : dk ≠ th := ne_of_none g1 hth
      have nth : td ≠ th := ne_of_none g3 hth
      have hp2 : H2 p = some (.ins C dx (kf mn ls mo ld dk la)) := g7 _ _ hp (by simp [npk, npl, npt])
      have nph : p ≠ th := ne_of_none hp2 hth
      have hrs2 : Paired (DayAt H2) ars rest := paired_imp hrs fun a x ha z => by
        refine g7 _ _ z ?_
        have y1 : a ≠ ld := fun e => nls (e ▸ ha)
        have y2 : a ≠ dk := ne_of z hk (by intro z; cases z)
        have y3 : a ≠ td := ne_of_none z htd
        simp [y1, y2, y3]
      -- for day in self.kept_days
      refine ⟨_, rfl, p, C, dx, _, _, rfl, by rw [upd_ne nph]; exact hp2, T.cl, T.nDays, kf_days, ld, rfl, ⟨_, SqL.of (by rw [upd_ne nlh]; exact g6)⟩, for_list (K := K) (a := ld) (xs := ars.map V.ref) (fun i σ H3 => ∃ v5, σ = [some (.ref p), some (.ref td), v2, v3, some (.ref th), v5] ∧ H3 = upd H2 th (.lst (lots (rest.take i).flatten)))
        ⟨none, rfl, rfl⟩ (fun i σ H3 _ h => by
          obtain ⟨_, _, e⟩ := h
          rw [e]
          exact SqL.of (by rw [upd_ne nlh]; exact g6)) ?_ ?_⟩
      · rintro i x σ H3 hi ⟨v5, rfl, rfl⟩
        rw [List.getElem?_map] at hi
        cases e : ars[i]? with
        | none => rw [e] at hi; cases hi
        | some a =>
          rw [e] at hi
          cases hi
          obtain ⟨x, e2, hx⟩ := paired_at hrs2 e
          have nah : a ≠ th := ne_of_none hx hth
          have ef : (rest.take (i + 1)).flatten = (rest.take i).flatten ++ x := by
            rw [List.take_add_one, e2, List.flatten_append]
            simp
          have ll : ((rest.take i).flatten ++ x).length ≤ rest.flatten.length := by
            rw [← ef]
            have q : rest.flatten = (rest.take (i + 1)).flatten ++ (rest.drop (i + 1)).flatten := by rw [← List.flatten_append, List.take_append_drop]
            have q2 := congrArg List.length q
            rw [List.length_append] at q2
            omega
          refine ⟨_, rfl, .inl ⟨rfl, _, SqL.of upd_same⟩, _, rfl, th, a, _, _, rfl, rfl, upd_same, by rw [upd_ne nah]; exact hx, ?_, ?_⟩
          · rw [lots_len, lots_len]
            rw [List.length_append] at ll
            exact Nat.le_of_lt (line4096 (by omega))
          · refine ⟨_, rfl, ?_⟩
            rw [upd_upd, ← lots_app, ← ef]
      · rintro σ H3 ⟨v5, rfl, rfl⟩
        have er : rest.take (ars.map V.ref).length = rest := by
          rw [List.length_map, paired_len hrs]
          exact List.take_length
        rw [er]
        -- for lot in touched.keys()
        have g3' : (upd H2 th (.lst (lots rest.flatten))) td = some (.dK (enc gU t1)) := by
          rw [upd_ne nth]
          exact g3
        refine ⟨td, _, g3', trivial, fun od => ?_⟩
        refine ⟨_, rfl, td, od, _, rfl, upd_same, ?_⟩
        refine for_it walk_keys (fun i σ H4 => ∃ v3, σ = [some (.ref p), some (.ref td), v2, v3, some (.ref th), v5] ∧ H4 td = some (.frz od (.dK (enc gU t1))) ∧ H4 dk = some (.dK (enc V.int (((KM.keys t1).take i).foldl (KM.wash1 rest.flatten) m1))) ∧ H4 th = some (.lst (lots rest.flatten)) ∧
            H4 ld = some (.lst (ars.map V.ref)) ∧ Keep [dk, ld, td] H2 H4)
          ⟨v3, rfl, upd_same, by rw [upd_ne nkt, upd_ne nkh]; exact g1, by rw [upd_ne nth.symm, upd_same], by rw [upd_ne nlt, upd_ne nlh]; exact g6, ((Keep.refl _ _).wn hth).wr (by simp)⟩ (fun i σ H4 _ h => h.choose_spec.2.1) ?_ ?_
        · rintro i x σ H4 H5 hi ⟨v3, rfl, q1, q2, q3, q4, q5⟩ ⟨rfl, kk, vv, e1, rfl⟩
          obtain ⟨n, c, e2, rfl, rfl⟩ := enc_at gU e1
          have hp4 : H5 p = some (.ins C dx (kf mn ls mo ld dk la)) := q5 _ _ hp2 (by simp [npk, npl, npt])
          have e3 : (KM.keys t1)[i]? = some n := by
            rw [List.getElem?_map, e2]
            rfl
          refine ⟨_, rfl, p, dx, _, rfl, hp4, kf_gone, _, rfl, _, rfl, _, n, th, rest.flatten, rfl, q3, _, rfl, ?_⟩
          have ew : ((KM.keys t1).take (i + 1)).foldl (KM.wash1 rest.flatten) m1 = KM.wash1 rest.flatten (((KM.keys t1).take i).foldl (KM.wash1 rest.flatten) m1) n := KM.fold_take _ e3
          refine ite2 (fun e => ?_) (fun e => ?_)
          · have nin : n ∉ (KM.keys t1).take i := fun z => by
              obtain ⟨j, hj⟩ := List.getElem?_of_mem z
              rw [List.getElem?_take] at hj
              split at hj
              · rename_i hji
                have ej := nd_ix g4.nd hj e3
                omega
              · cases hj
            have hn : KM.IsC (d ++ rest.flatten) n := ((g5 n).mp (List.mem_of_getElem? e3)).1
            have gn : ∃ c, KM.get (((KM.keys t1).take i).foldl (KM.wash1 rest.flatten) m1) n = some c := by
              rw [KM.get_wash, if_neg (fun z => nin z.1)]
              exact Option.isSome_iff_exists.mp (KM.get_isSome.mpr (g2.key.mpr hn))
            obtain ⟨c, gn⟩ := gn
            refine ⟨_, rfl, p, C, dx, _, _, rfl, hp4, T.cl, T.nKept, kf_kept, dk, rfl, .inl ⟨_, .inl q2⟩, _, rfl, _, kN n, V.int c, q2, rfl, by rw [enc_val, gn]; rfl, ?_⟩
            refine ⟨_, rfl, ?_, ?_, ?_, ?_, q5.wr (by simp)⟩
            · rw [upd_ne nkt.symm]
              exact q1
            · rw [upd_same, enc_drop, ew]
              unfold KM.wash1
              rw [if_pos e]
            · rw [upd_ne nkh.symm]
              exact q3
            · rw [upd_ne nkl.symm]
              exact q4
          · refine ⟨_, rfl, q1, ?_, q3, q4, q5⟩
            rw [ew]
            unfold KM.wash1
            rw [if_neg e]
            exact q2
        · rintro σ H4 ⟨v3, rfl, q1, q2, q3, q4, q5⟩
          have et : (KM.keys t1).take (enc gU t1).length = KM.keys t1 := by
            rw [enc_len, ← List.length_map (as := t1) (·.1)]
            exact List.take_length
          rw [et] at q2
          refine ⟨q1, k _ _ ?_ (KM.KMap.wash g2 g5) ?_ ?_⟩
          · rw [upd_ne nkt]
            exact q2
          · rw [upd_ne nlt]
            exact q4
          · refine ((g7.trans q5).wr (by simp)).sub fun c hc => ?_
            rcases List.mem_cons.mp hc with rfl | hc
            · exact .inl (by simp)
            · rcases List.mem_cons.mp hc with rfl | hc
              · exact .inl (by simp)
              · rw [List.mem_singleton.mp hc]
                exact .inr htd
/-! ### the keeper between two deeds -/
structure KpAt (C : Addr) (H : Hp) (p ld dk : Addr) (ls mo : Int) (days : List (List Nat)) (A : List (Nat × Int)) : Prop where
  ex : ∃ (dx la : Addr) (mn : Int) (das : List Addr) (m : List (Nat × Int)), H p = some (.ins C dx (kf mn ls mo ld dk la)) ∧ PLs H la A ∧ la ≠ ld ∧ H ld = some (.lst (das.map V.ref)) ∧ ld ∉ das ∧ Paired (DayAt H) das days ∧ H dk = some (.dK (enc V.int m)) ∧ KM.KMap m days.flatten
  sm : ∀ b ∈ days.flatten, b < 4096
def nxt (mo : Int) (days : List (List Nat)) (day : List Nat) : List (List Nat) := if mo < ((days.length + 1 : Nat) : Int) then (days ++ [day]).drop 1 else days ++ [day]
def spCome (C : Addr) : Sp := fun vs H Q _ => ∃ (p a ld dk : Addr) (ls mo : Int) (days : List (List Nat)) (A : List (Nat × Int)) (day : List Nat), vs = [.ref p, .ref a] ∧ KpAt C H p ld dk ls mo days A ∧ DayAt H a day ∧ a ≠ ld ∧ (∀ b ∈ day, b < 4096) ∧
  days.length ≤ 100 ∧ days.flatten.length + day.length ≤ 8192 ∧ ∀ H' A', KM.IsCL days.flatten ls A' → KpAt C H' p ld dk ls mo (nxt mo days day) A' → Keep [p, ld, dk] H H' → Q .non H'
theorem ok_come {f fW fG fN fC fB fD C : Addr} {fd fdW fdG fdN fdC fdB fdD : FuncData} (F : Fun K "come" "Keeper.come" sCome f fd) (T : Txt K mg C) (FW : Fun K "is_within" "is_within" sWithin fW fdW) (bW : Binds K fdW ["one", "other"] []) (gW : mg "is_within" = some (.ref fW))
    (FG : Fun K "basket_goes" "Keeper.basket_goes" sGoes fG fdG) (bG : Binds K fdG ["self", "basket"] []) (mG : Meth K C "basket_goes" fG) (FN : Fun K "is_gone" "Keeper.is_gone" sGone fN fdN) (bN : Binds K fdN ["self", "lot", "there"] []) (mN : Meth K C "is_gone" fN)
    (FC : Fun K "closed" "Keeper.closed" sClosed fC fdC) (bC : Binds K fdC ["self"] []) (mC : Meth K C "closed" fC) (FB : Fun K "basket_comes" "Keeper.basket_comes" sComes fB fdB) (bB : Binds K fdB ["self", "basket"] []) (mB : Meth K C "basket_comes" fB)
    (FD : Fun K "day_goes" "Keeper.day_goes" sDayGoes fD fdD) (bD : Binds K fdD ["self"] []) (mD : Meth K C "day_goes" fD) : FnOk P w K mg base CX0 4 f fd ["self", "day"] (spCome C) := by
  have GC : FnOk P w K mg base CX0 1 fC fdC ["self"] (spClosed C) := ok_closed FC T
  have GB : FnOk P w K mg base CX0 1 fB fdB ["self", "basket"] (spComes C) := ok_comes FB T
  have GD : FnOk P w K mg base CX0 3 fD fdD ["self"] (spDayGoes C) := ok_dayGoes FD T FW bW gW FG bG mG FN bN mN
  refine F.ok scCome (fun vs H Q E h => ?_) (fun cdv A0 outer s H vs Q E hr h => ?_)
  · obtain ⟨p, a, ld, dk, ls, mo, days, A, day, rfl, _⟩ := h
    rfl
  · obtain ⟨p, a, ld, dk, ls, mo, days, A, day, rfl, ⟨⟨dx, la, mn, das, m, hp, hA, nla, hl, nld, hds, hk, hm⟩, sm⟩, hd, nal, hday, hdl, hlen, k⟩ := h
    have hr1 : Room 1 _ := hr.mono (by decide)
    have nd := scCome.nd
    refine ⟨_, pss_cons (ps_fld (pv 0) (pe_meth0 (pv 0) T.cl mC GC hr1 bC .nil pass0) rfl)
      (pss_cons (ps_expr (pe_bm PySem.F.plainAttrs_list PySem.F.slot_list_append PySem.F.type_list_append mt_append (pe_fld (pv 0) rfl) (pa_cons (pe_callTy call_list_of (by rfl) T.list (by decide +kernel) (pa_cons (pv 1) pa_nil)) pa_nil)))
      (pss_cons (ps_for PassesOwn.never rfl (pi_list (pv 1)) (pg_name (i := 2) nd rfl (Or.inl rfl)) (pss_one (ps_expr (pe_meth (pv 0) T.cl mB GB hr1 bB .nil pass0 (pa_cons (pv 2) pa_nil)))))
      (pss_one (ps_if (pt_cmpR op_gt (pe_callB call_len_seq (by rfl) T.len PySem.boot_len (pa_cons (pe_fld (pv 0) rfl) pa_nil)) (pe_fld (pv 0) rfl) (nomark _)) (pss_one (ps_expr (pe_meth0 (pv 0) T.cl mD GD hr bD .nil pass0))) pss_nil)))), ?_⟩
    have ok : KM.Ok m := hm.ok sm
    have npk : p ≠ dk := ne_of hp hk (by intro z; cases z)
    have npl : p ≠ ld := ne_of hp hl (by intro z; cases z)
    have nkl : dk ≠ ld := ne_of hk hl (by intro z; cases z)
    -- self.ahead = self.closed()
    refine ⟨_, rfl, p, dx, _, rfl, hp, kf_closed, p, dx, ld, dk, la, mn, ls, mo, m, rfl, hp, hk, ok, fun H1 lb L s1 nb PL pL sL => ?_⟩
    have CL : KM.IsCL days.flatten ls L := hm.closed pL sL
    refine ⟨_, rfl, p, C, dx, _, rfl, s1 _ _ hp, T.cl, T.nAhead, (by show 6 < 1000; decide), ?_⟩
    rw [kf_put]
    have nbl : lb ≠ ld := (ne_of_none hl nb).symm
    have nbk : lb ≠ dk := (ne_of_none hk nb).symm
    have nbp : lb ≠ p := (ne_of_none hp nb).symm
    have k1 : Keep [p] H (upd H1 p (.ins C dx (kf mn ls mo ld dk lb))) := (Keep.of s1).wr (by simp)
    generalize hH2 : upd H1 p (.ins C dx (kf mn ls mo ld dk lb)) = H2 at k1
    have p2 : H2 p = some (.ins C dx (kf mn ls mo ld dk lb)) := by
      rw [← hH2]
      exact upd_same
    have PL2 : PLs H2 lb L := by
      rw [← hH2]
      refine PL.keep (fun o e => by rw [upd_ne nbp]; exact e) fun b xs e => ?_
      rw [upd_ne (ne_of e (s1 _ _ hp) (by intro z; cases z))]
      exact e
    have l2 : H2 ld = some (.lst (das.map V.ref)) := k1 _ _ hl (by simp [npl.symm])
    have d2 : H2 dk = some (.dK (enc V.int m)) := k1 _ _ hk (by simp [npk.symm])
    have nap : a ≠ p := ne_of hd hp (by intro z; cases z)
    have nak : a ≠ dk := ne_of hd hk (by intro z; cases z)
    have a2 : DayAt H2 a day := k1 _ _ hd (by simp [nap])
    have ds2 : Paired (DayAt H2) das days := paired_imp hds fun u x _ z => k1 _ _ z (by
      have y : u ≠ p := ne_of z hp (by intro z; cases z)
      simp [y])
    -- self.kept_days.append(list(day))
    refine ⟨_, rfl, p, C, dx, _, _, rfl, p2, T.cl, T.nDays, kf_days, .inl ⟨rfl, _, SqL.of l2⟩, _, rfl, a, _, rfl, .inl (SqL.of a2), fun e he => ?_⟩
    have nel : e ≠ ld := (ne_of_none l2 he).symm
    have nek : e ≠ dk := (ne_of_none d2 he).symm
    have nep : e ≠ p := (ne_of_none p2 he).symm
    have nea : a ≠ e := ne_of_none a2 he
    refine ⟨ld, _, _, rfl, rfl, by rw [upd_ne nel.symm]; exact l2, by rw [List.length_map, paired_len hds]; exact line4096 (by omega), ?_⟩
    have k3 : Keep [p, ld] H (upd (upd H2 e (.lst (lots day))) ld (.lst (das.map V.ref ++ [V.ref e]))) := ((k1.mono (by simp)).new he).wr (by simp)
    have q1 : (upd (upd H2 e (.lst (lots day))) ld (.lst (das.map V.ref ++ [V.ref e]))) p = some (.ins C dx (kf mn ls mo ld dk lb)) := by
      rw [upd_ne npl, upd_ne nep.symm]
      exact p2
    have q2 : PLs (upd (upd H2 e (.lst (lots day))) ld (.lst (das.map V.ref ++ [V.ref e]))) lb L := by
      have nbe : ∀ o, H2 lb = some o → lb ≠ e := fun o z => ne_of_none z he
      refine PL2.keep (fun o z => by rw [upd_ne nbl, upd_ne (nbe o z)]; exact z) fun b xs z => ?_
      rw [upd_ne (ne_of z l2 (by intro z; cases z)), upd_ne (ne_of_none z he)]
      exact z
    have q3 : (upd (upd H2 e (.lst (lots day))) ld (.lst (das.map V.ref ++ [V.ref e]))) ld = some (.lst ((das ++ [e]).map V.ref)) := by
      rw [upd_same, List.map_append]
      rfl
    have q4 : Paired (DayAt (upd (upd H2 e (.lst (lots day))) ld (.lst (das.map V.ref ++ [V.ref e])))) (das ++ [e]) (days ++ [day]) := by
      refine paired_snoc (paired_imp ds2 fun u x hu z => ?_) ?_
      · have y : u ≠ ld := fun y => nld (y ▸ hu)
        show (upd _ _ _) u = _
        rw [upd_ne y, upd_ne (ne_of_none z he)]
        exact z
      · show (upd _ _ _) e = _
        rw [upd_ne nel, upd_same]
    have q5 : (upd (upd H2 e (.lst (lots day))) ld (.lst (das.map V.ref ++ [V.ref e]))) dk = some (.dK (enc V.int m)) := by
      rw [upd_ne nkl, upd_ne nek.symm]
      exact d2
    have q6 : DayAt (upd (upd H2 e (.lst (lots day))) ld (.lst (das.map V.ref ++ [V.ref e]))) a day := by
      show (upd _ _ _) a = _
      rw [upd_ne nal, upd_ne nea]
      exact a2
    have nld2 : ld ∉ das ++ [e] := fun z => by
      rcases List.mem_append.mp z with z | z
      · exact nld z
      · exact nel (List.mem_singleton.mp z).symm
    generalize hH3 : upd (upd H2 e (.lst (lots day))) ld (.lst (das.map V.ref ++ [V.ref e])) = H3 at k3 q1 q2 q3 q4 q5 q6
    -- for basket in day
    have all : ∀ b ∈ days.flatten ++ day, b < 4096 := fun b hb => (List.mem_append.mp hb).elim (sm b) (hday b)
    refine ⟨_, rfl, a, rfl, ⟨_, SqL.of q6⟩, for_list (K := K) (a := a) (xs := lots day) (fun i σ H4 => ∃ m1 v2, σ = [some (.ref p), some (.ref a), v2] ∧ H4 dk = some (.dK (enc V.int m1)) ∧ KM.KMap m1 (days.flatten ++ day.take i) ∧ Keep [dk] H3 H4)
      ⟨m, none, rfl, q5, by rw [List.take_zero, List.append_nil]; exact hm, Keep.refl _ _⟩ (fun i σ H4 _ h => by
        obtain ⟨_, _, _, _, _, g⟩ := h
        exact SqL.of (g _ _ q6 (by simp [nak]))) ?_ ?_⟩
    · rintro i x σ H4 hi ⟨m1, v2, rfl, g1, g2, g3⟩
      obtain ⟨b, e2, rfl⟩ := lots_at hi
      have p4 : H4 p = some (.ins C dx (kf mn ls mo ld dk lb)) := g3 _ _ q1 (by simp [npk])
      have ed : day.take (i + 1) = day.take i ++ [b] := by
        rw [List.take_add_one, e2]
        rfl
      have sub : ∀ x ∈ days.flatten ++ day.take i, x < 4096 := fun x hx => all x ((List.mem_append.mp hx).elim (List.mem_append_left _) fun z => List.mem_append_right _ (List.mem_of_mem_take z))
      have hb : b < 4096 := hday b (List.mem_of_getElem? e2)
      refine ⟨_, rfl, p, dx, _, rfl, p4, kf_comes, _, rfl, p, dx, ld, dk, lb, mn, ls, mo, m1, b, rfl, p4, g1, g2.ok sub, hb, fun H5 r1 r2 => ?_⟩
      refine ⟨_, _, rfl, r1, ?_, g3.trans r2⟩
      rw [ed, ← List.append_assoc]
      exact g2.comes sub hb
    · rintro σ H4 ⟨m1, v2, rfl, g1, g2, g3⟩
      rw [lots_len, List.take_length] at g2
      have p4 : H4 p = some (.ins C dx (kf mn ls mo ld dk lb)) := g3 _ _ q1 (by simp [npk])
      have l4 : H4 ld = some (.lst ((das ++ [e]).map V.ref)) := g3 _ _ q3 (by simp [nkl.symm])
      have PL4 : PLs H4 lb L := q2.keep (fun o z => g3 _ _ z (by simp [nbk])) fun b xs z => g3 _ _ z (by
        have y : b ≠ dk := ne_of z q5 (by intro z; cases z)
        simp [y])
      have ds4 : Paired (DayAt H4) (das ++ [e]) (days ++ [day]) := paired_imp q4 fun u x _ z => g3 _ _ z (by
        have y : u ≠ dk := ne_of z q5 (by intro z; cases z)
        simp [y])
      have kall : Keep [p, ld, dk] H H4 := (k3.mono (by simp)).trans (g3.mono (by simp))
      have efl : (days ++ [day]).flatten = days.flatten ++ day := by
        rw [List.flatten_append]
        simp
      have elen : (das ++ [e]).length = days.length + 1 := by
        rw [List.length_append, paired_len hds]
        rfl
      -- if len(self.kept_days) > self.most
      refine ⟨_, rfl, p, C, dx, _, _, rfl, p4, T.cl, T.nDays, kf_days, ld, _, rfl, .inl (SqL.of l4), _, rfl, p, C, dx, _, _, rfl, p4, T.cl, T.nMost, kf_most, _, mo, rfl, rfl, _, rfl, ?_⟩
      refine ite2 (fun e' => ?_) (fun e' => ?_)
      · have e1 : mo < ((days.length + 1 : Nat) : Int) := by
          have z := of_decide_eq_true e'
          rw [List.length_map, elen] at z
          exact z
        have en : nxt mo days day = (days ++ [day]).drop 1 := by
          unfold nxt
          rw [if_pos e1]
        generalize hdd : days ++ [day] = dd at ds4 efl en
        generalize haa : das ++ [e] = aa at ds4 l4 nld2
        cases ds4 with
        | nil => exact absurd hdd (by simp)
        | @cons u x us xs hu hus =>
          have nul : u ≠ ld := fun y => nld2 (y ▸ List.mem_cons_self)
          have nus : ld ∉ us := fun y => nld2 (List.mem_cons_of_mem _ y)
          have efx : x ++ xs.flatten = days.flatten ++ day := by
            rw [← efl]
            rfl
          refine ⟨_, rfl, p, dx, _, rfl, p4, kf_dayg, p, dx, ld, dk, lb, mn, ls, mo, m1, x, xs, u, us, rfl, p4, l4, hu, hus, nul, nus, g1, by rw [efx]; exact g2, by rw [efx]; exact all, ?_, fun H5 m5 r1 r2 r3 r4 => ?_⟩
          · have z := congrArg List.length efx
            rw [List.length_append, List.length_append] at z
            omega
          · have p5 : H5 p = some (.ins C dx (kf mn ls mo ld dk lb)) := r4 _ _ p4 (by simp [npk, npl])
            refine k H5 L CL ?_ (kall.trans (r4.mono (by simp)))
            rw [en]
            refine ⟨⟨dx, lb, mn, us, m5, p5, ?_, nbl, r3, nus, paired_imp hus fun v y hv z => r4 _ _ z ?_, r1, r2⟩, fun b hb => all b (by rw [← efx]; exact List.mem_append_right _ hb)⟩
            · refine PL4.keep (fun o z => r4 _ _ z (by simp [nbk, nbl])) fun b ys z => r4 _ _ z ?_
              have y1 : b ≠ dk := ne_of z g1 (by intro z; cases z)
              have y2 : b ≠ ld := ne_of z l4 (by intro z; cases z)
              simp [y1, y2]
            · have y1 : v ≠ dk := ne_of z g1 (by intro z; cases z)
              have y2 : v ≠ ld := fun y => nus (y ▸ hv)
              simp [y1, y2]
      · have e1 : ¬ mo < ((days.length + 1 : Nat) : Int) := fun z => e' (by
          refine decide_eq_true ?_
          rw [List.length_map, elen]
          exact z)
        have en : nxt mo days day = days ++ [day] := by
          unfold nxt
          rw [if_neg e1]
        refine k H4 L CL ?_ kall
        rw [en]
        exact ⟨⟨dx, lb, mn, das ++ [e], m1, p4, PL4, nbl, l4, nld2, ds4, g1, by rw [efl]; exact g2⟩, by rw [efl]; exact all⟩
end
end Kp

/-! The law's own defs: a cell, draws, a count, a great day. -/
namespace Kp
open PySem PySem.Spec PyProof.Rows L2
abbrev LotsAt (H : Hp) (a : Addr) (d : List Nat) : Prop := H a = some (.lst (lots d))
/-! ### data that may be compared -/
theorem can_map {A : Type} (f : A → PyData) (h : ∀ p, (f p).canLay0 = true) : ∀ L : List A, PyData.canLayAll0 (L.map f) = true
  | [] => rfl
  | p :: L => by
    show ((f p).canLay0 && PyData.canLayAll0 (L.map f)) = true
    rw [h p, can_map f h L]
    rfl
theorem depth_map {A : Type} (f : A → PyData) {k : Nat} (h : ∀ p, (f p).depth ≤ k) : ∀ L : List A, PyData.depthAll (L.map f) ≤ k
  | [] => Nat.zero_le _
  | p :: L => by
    show max (f p).depth (PyData.depthAll (L.map f)) ≤ k
    have a := h p
    have b := depth_map f h L
    omega
theorem shaped_list {A : Type} (f : A → PyData) {k : Nat} (h1 : ∀ p, (f p).canLay0 = true) (h2 : ∀ p, (f p).depth ≤ k) (hk : k < 64) (L : List A) : SeqAt.shaped (.list (L.map f)) = true := by
  unfold SeqAt.shaped
  have a : (PyData.list (L.map f)).canLay0 = true := can_map f h1 L
  have b : (PyData.list (L.map f)).depth ≤ 64 := by
    show PyData.depthAll (L.map f) + 1 ≤ 64
    have q := depth_map f h2 L
    omega
  rw [a, decide_eq_true b]
  rfl
theorem shaped_pairs (L : List (Nat × Int)) : SeqAt.shaped (.list (L.map prD)) = true := shaped_list (k := 1) prD (fun _ => rfl) (fun _ => Nat.le_refl _) (by decide) L
theorem can_pairs (L : List (Nat × Int)) : (PyData.list (L.map prD)).canLay0 = true := can_map prD (fun _ => rfl) L
theorem shaped_chg (A B : List (Nat × Int)) : SeqAt.shaped (chgD A B) = true := by
  unfold SeqAt.shaped
  have a : (chgD A B).canLay0 = true := by
    show ((PyData.list ((KM.cameL A B).map prD)).canLay0 && ((PyData.list ((KM.cameL B A).map prD)).canLay0 && ((PyData.list ((KM.movedL A B).map trD)).canLay0 && true))) = true
    rw [can_pairs, can_pairs, show (PyData.list ((KM.movedL A B).map trD)).canLay0 = true from can_map trD (fun _ => rfl) _]
    rfl
  have b : (chgD A B).depth ≤ 64 := by
    show max (PyData.depthAll ((KM.cameL A B).map prD) + 1) (max (PyData.depthAll ((KM.cameL B A).map prD) + 1) (max (PyData.depthAll ((KM.movedL A B).map trD) + 1) 0)) + 1 ≤ 64
    have q1 := depth_map (k := 1) prD (fun _ => Nat.le_refl _) (KM.cameL A B)
    have q2 := depth_map (k := 1) prD (fun _ => Nat.le_refl _) (KM.cameL B A)
    have q3 := depth_map (k := 1) trD (fun _ => Nat.le_refl _) (KM.movedL A B)
    omega
  rw [a, decide_eq_true b]
  rfl
abbrev inD (n : Nat) : PyData := .int (n : Int)
theorem dp_lots {K : PySem.W.Frag} {H : Hp} : ∀ ds : List Nat, DpAll K H (lots ds) (ds.map inD)
  | [] => .nil
  | _ :: ds => .cons (.int _) (dp_lots ds)
theorem shaped_lots (L : List Nat) : SeqAt.shaped (.list (L.map inD)) = true := shaped_list (k := 0) inD (fun _ => rfl) (fun _ => Nat.le_refl _) (by decide) L
theorem eqv_nil (L : List Nat) : PyData.eqv (.list (L.map inD)) (.list []) = L.isEmpty := by
  cases L <;> simp [PyData.eqv, PyData.eqvAll]
/-- an int below a bound as a lot -/
theorem nat_mod {z : Int} {n : Nat} (h : 0 < n) : ∃ d : Nat, z % (n : Int) = (d : Int) ∧ d < n := by
  have h1 : 0 ≤ z % (n : Int) := Int.emod_nonneg _ (by omega)
  have h2 : z % (n : Int) < (n : Int) := Int.emod_lt_of_pos _ (by omega)
  exact ⟨(z % (n : Int)).toNat, by omega, by omega⟩
section
variable {P : Program} {w : World} {K : PySem.W.Frag} {mg : Str → Option Value} {base : Heap}
/-! ### _law_cell_at -/
def spCellAt (K : PySem.W.Frag) : Sp := fun vs H Q _ => ∃ (a : Addr) (ns : List Int) (k : Nat), vs = [.ref a, .int (k : Int)] ∧ SqL K H a (ns.map V.int) ∧ ∀ z : Int, Q (.int z) H
theorem ok_cellAt {f : Addr} {fd : FuncData} (F : Fun K "_law_cell_at" "_law_cell_at" sCellAt f fd) (ml : mg "len" = none) : FnOk P w K mg base CX0 1 f fd ["_law_script", "_law_k"] (spCellAt K) := by
  refine F.ok scCellAt (fun vs H Q E h => ?_) (fun cdv A outer s H vs Q E hr h => ?_)
  · obtain ⟨a, ns, k, rfl, _⟩ := h
    rfl
  · obtain ⟨a, ns, k, rfl, hS, q⟩ := h
    refine ⟨_, pss_cons (ps_if (pt_cmpR op_lt (pv 1) (pe_callB call_len_seq (by rfl) ml PySem.boot_len (pa_cons (pv 0) pa_nil)) (nomark _)) (pss_one (ps_ret (pe_ix ix_list (pv 0) (pv 1) (fun _ _ => rfl)))) pss_nil)
      (pss_one (ps_ret pe_int)), ?_⟩
    refine ⟨_, rfl, _, rfl, a, _, rfl, .inl hS, _, _, rfl, rfl, _, rfl, ?_⟩
    refine ite2 (fun e => ?_) (fun e => q 0)
    have hk : k < ns.length := by
      have z := of_decide_eq_true e
      rw [List.length_map] at z
      omega
    refine ⟨_, rfl, _, rfl, a, _, _, .int ns[k], rfl, rfl, hS, at_of rfl ?_, q _⟩
    rw [List.getElem?_map, List.getElem?_eq_getElem hk]
    rfl
/-! ### _law_draws -/
def spDraws : Sp := fun vs H Q _ => ∃ (c : Int) (n : Nat), vs = [.int c, .int (n : Int), .int 4096] ∧ n ≤ 1000 ∧ ∀ H' t ds, Same H H' → H t = none → LotsAt H' t ds → ds.length = n → (∀ d ∈ ds, d < 4096) → Q (.ref t) H'
theorem ok_draws {f : Addr} {fd : FuncData} (F : Fun K "_law_draws" "_law_draws" sDraws f fd) (mr : mg "range" = none) (ma : mg "abs" = none) : FnOk P w K mg base CX0 1 f fd ["_law_cell", "_law_many", "_law_base"] spDraws := by
  refine F.ok scDraws (fun vs H Q E h => ?_) (fun cdv A outer s H vs Q E hr h => ?_)
  · obtain ⟨c, n, rfl, _⟩ := h
    rfl
  · obtain ⟨c, n, rfl, hn, q⟩ := h
    have nd := scDraws.nd
    refine ⟨_, pss_cons (ps_set (i := 3) nd rfl (Or.inl rfl) (pe_lst pa_nil)) (pss_cons (ps_set (i := 4) nd rfl (Or.inl rfl) (pv 0))
      (pss_cons (ps_for PassesOwn.never rfl (pi_range1 rfl mr (pa_cons (pv 1) pa_nil)) (pg_name (i := 5) nd rfl (Or.inl rfl))
        (pss_one (ps_if (PW.pt (pw_and (pt_cmpR op_ge (pe_callB call_abs (by rfl) ma (by decide +kernel) (pa_cons (pv 0) pa_nil)) (pe_op op_pow pe_int pe_int) (nomark _)) (pw_and (pt_cmpR op_ne (pv 4) pe_int (nomark _)) (pw_and1 (pt_cmpR op_ne (pv 4) (pe_un un_neg pe_int) (nomark _))))))
          (pss_cons (ps_expr (pe_bm PySem.F.plainAttrs_list PySem.F.slot_list_append PySem.F.type_list_append mt_append (pv 3) (pa_cons (pe_op op_mod (pv 4) (pv 2)) pa_nil)))
            (pss_one (ps_set (i := 4) nd rfl (Or.inl rfl) (pe_op op_fdiv (pv 4) (pv 2)))))
          (pss_cons (ps_set (i := 6) nd rfl (Or.inl rfl) (pe_op op_mod (pe_op op_add (pe_op op_mul (pe_op op_add (pv 0) pe_int) pe_int) (pe_op op_mul pe_int (pv 5))) pe_int))
            (pss_cons (ps_set (i := 6) nd rfl (Or.inl rfl) (pe_op op_mod (pe_op op_add (pe_op op_add (pe_op op_mul (pv 6) (pv 6)) (pe_op op_mul pe_int (pv 5))) pe_int) pe_int))
            (pss_one (ps_expr (pe_bm PySem.F.plainAttrs_list PySem.F.slot_list_append PySem.F.type_list_append mt_append (pv 3) (pa_cons (pe_op op_mod (pe_op op_fdiv (pe_op op_mod (pe_op op_mul (pv 6) (pv 6)) pe_int) pe_int) (pv 2)) pa_nil)))))))))
      (pss_one (ps_ret (pv 3))))), ?_⟩
    refine ⟨Nat.zero_le _, fun t ht => ?_⟩
    refine ⟨_, rfl, ?_⟩
    have e0 : (V.int (n : Int)) = V.int ((n : Nat) : Int) := rfl
    refine ⟨_, rfl, _, rfl, by omega, by omega, ?_⟩
    rw [show ((n : Int)).toNat = n from Int.toNat_natCast n]
    refine for_range (lo := 0) (n := n) (fun i σ H2 => ∃ lf v5 v6 ds, σ = [some (.int c), some (.int (n : Int)), some (.int 4096), some (.ref t), some (.int lf), v5, v6] ∧ H2 = upd H t (.lst (lots ds)) ∧ ds.length = i ∧ ∀ d ∈ ds, d < 4096)
      ⟨c, none, none, [], rfl, rfl, rfl, fun d hd => absurd hd List.not_mem_nil⟩ ?_ ?_
    · rintro i σ H2 hi ⟨lf, v5, v6, ds, rfl, rfl, hlen, hall⟩
      have fin : ∀ z : Int, ∃ d : Nat, z % 4096 = (d : Int) ∧ d < 4096 := fun z => nat_mod (n := 4096) (by decide)
      have put : ∀ (z : Int) (lf' : Int) (v5' v6' : Option V), ∃ lf v5 v6 ds', [some (V.int c), some (.int (n : Int)), some (.int 4096), some (.ref t), some (.int lf'), v5', v6'] = [some (V.int c), some (.int (n : Int)), some (.int 4096), some (.ref t), some (.int lf), v5, v6] ∧
          upd (upd H t (.lst (lots ds))) t (.lst (lots ds ++ [V.int (z % 4096)])) = upd H t (.lst (lots ds')) ∧ ds'.length = i + 1 ∧ ∀ d ∈ ds', d < 4096 := fun z lf' v5' v6' => by
        obtain ⟨d, e, hd⟩ := fin z
        refine ⟨lf', v5', v6', ds ++ [d], rfl, ?_, by rw [List.length_append, hlen]; rfl, fun x hx => ?_⟩
        · rw [upd_upd, e, lots_snoc]
        · rcases List.mem_append.mp hx with hx | hx
          · exact hall x hx
          · rw [List.mem_singleton.mp hx]
            exact hd
      have lsz : (lots ds).length < sizeLine := by
        rw [lots_len, hlen]
        exact line4096 (by omega)
      have mm : ∀ x : Int, -(2 ^ 64) < x % 2147483629 ∧ x % 2147483629 < 2 ^ 64 := fun x => by omega
      refine ⟨_, rfl, c, rfl, 10, 18, rfl, rfl, ⟨by decide, by decide, by decide⟩, _, _, rfl, rfl, _, rfl, ?_⟩
      refine ite2 (fun _ => ?A) (fun _ => iteF ?E1)
      case' A =>
        refine ⟨_, rfl, rfl, _, rfl, ?_⟩
        refine ite2 (fun _ => ?B) (fun _ => iteF ?E2)
      case' B =>
        refine ⟨_, rfl, 1, rfl, rfl, _, rfl, ?_⟩
        refine ite2 (fun _ => ?C) (fun _ => ?E3)
      case C =>
        refine ⟨_, rfl, .inl ⟨rfl, _, SqL.of upd_same⟩, _, rfl, _, rfl, _, _, rfl, rfl, (by show (0 : Int) < 4096; decide), t, _, _, rfl, rfl, upd_same, lsz, ?_⟩
        refine ⟨_, rfl, _, rfl, _, _, rfl, rfl, ⟨by decide, by decide⟩, ?_⟩
        exact put lf _ _ _
      all_goals
        refine ⟨_, rfl, _, _, rfl, rfl, _, _, rfl, rfl, .inr ⟨by decide, by decide⟩, _, rfl, _, _, rfl, rfl, .inl ⟨by decide, by decide⟩, _, _, rfl, rfl, _, _, rfl, rfl, (by show (0 : Int) < 2147483629; decide), ?_⟩
        refine ⟨_, rfl, _, rfl, _, _, rfl, rfl, .inl (mm _), _, rfl, _, _, rfl, rfl, .inl ⟨by decide, by decide⟩, _, _, rfl, rfl, _, _, rfl, rfl, _, _, rfl, rfl, (by show (0 : Int) < 2147483629; decide), ?_⟩
        refine ⟨_, rfl, .inl ⟨rfl, _, SqL.of upd_same⟩, _, rfl, _, rfl, _, _, rfl, rfl, .inl (mm _), _, _, rfl, rfl, (by show (0 : Int) < 2147483587; decide), _, _, rfl, rfl, ⟨by decide, by decide⟩, _, rfl, _, _, rfl, rfl, (by show (0 : Int) < 4096; decide), t, _, _, rfl, rfl, upd_same, lsz, ?_⟩
        exact put _ _ _ _
    · rintro σ H2 ⟨lf, v5, v6, ds, rfl, rfl, hlen, hall⟩
      exact ⟨_, rfl, q _ t ds (Keep.same ((Keep.refl _ _).new ht)) ht upd_same hlen hall⟩
/-! ### _law_count -/
def spLCount : Sp := fun vs H Q _ => ∃ (b l : Addr) (x : V) (bs : List Nat) (n : Nat), vs = [.ref b, .int (n : Int)] ∧ H b = some (.tup [x, .ref l]) ∧ LotsAt H l bs ∧ bs.length ≤ 8192 ∧ ∀ H', Same H H' → Q (.int (KM.cnt bs n : Int)) H'
theorem ok_lcount {f : Addr} {fd : FuncData} (F : Fun K "_law_count" "_law_count" sLCount f fd) (ml : mg "len" = none) : FnOk P w K mg base CX0 1 f fd ["_law_book", "_law_lot"] spLCount := by
  refine F.ok scLCount (fun vs H Q E h => ?_) (fun cdv A outer s H vs Q E hr h => ?_)
  · obtain ⟨b, l, x, bs, n, rfl, _⟩ := h
    rfl
  · obtain ⟨b, l, x, bs, n, rfl, hb, hl, hlen, q⟩ := h
    have nd := scLCount.nd
    refine ⟨_, pss_one (ps_ret (pe_callB call_len_seq (by rfl) ml PySem.boot_len (pa_cons (pe_lc (own := [("_law_basket", 2)]) (g := gName 2) rfl nd (pi_list (pe_ix ix_tup (pv 0) pe_int (fun _ _ => rfl)))
      (blkOk_by (N := ["_law_book", "_law_lot", "_law_basket"]) (sc := defScope sLCount) (by decide +kernel)) (fun _ _ _ _ _ => pg_name (i := 2) nd rfl (Or.inl rfl))
      (fun _ _ _ _ _ => pts_one (pt_cmp (pc_eqI (pe_op op_andN (pv 2) (pv 1)) (pv 1)))) (fun _ _ _ _ _ => pv 2)) pa_nil))), ?_⟩
    refine ⟨_, rfl, b, _, 1, _, rfl, rfl, SqT.of hb, at_of (j := 1) rfl rfl, l, rfl, ⟨_, SqL.of hl⟩, fun D hD => ?_⟩
    have nlD : l ≠ D := ne_of_none hl hD
    refine lc_list (K := K) (a := l) (xs := lots bs) (fun i H2 => H2 = upd H D (.lst (lots ((bs.take i).filter (KM.wi n))))) rfl (fun i H2 _ h => by rw [h]; exact SqL.of (by rw [upd_ne nlD]; exact hl)) ?_ ?_
    · rintro i y H2 hi rfl
      obtain ⟨m, e2, rfl⟩ := lots_at hi
      have et : bs.take (i + 1) = bs.take i ++ [m] := by
        rw [List.take_add_one, e2]
        rfl
      have ew : decide (((m &&& n : Nat) : Int) = (n : Int)) = KM.wi n m := by
        unfold KM.wi
        rw [Nat.and_comm m n]
        by_cases z : n &&& m = n
        · rw [decide_eq_true z, z, decide_eq_true rfl]
        · rw [decide_eq_false z]
          exact decide_eq_false fun y => z (by omega)
      refine ⟨rfl, _, rfl, _, rfl, m, n, rfl, rfl, _, rfl, _, _, rfl, rfl, _, rfl, ?_⟩
      refine ite2 (fun e => ?_) (fun e => ?_)
      · have e : decide (((m &&& n : Nat) : Int) = (n : Int)) = true := e
        rw [ew] at e
        refine ⟨_, rfl, _, upd_same, ?_, ?_⟩
        · rw [lots_len]
          have z := List.length_filter_le (KM.wi n) (bs.take i)
          rw [List.length_take] at z
          exact line4096 (by omega)
        · rw [upd_upd, et, List.filter_append, List.filter_cons_of_pos (p := KM.wi n) e, List.filter_nil, lots_snoc]
      · have e : ¬ decide (((m &&& n : Nat) : Int) = (n : Int)) = true := e
        rw [ew] at e
        show upd _ _ _ = upd _ _ _
        rw [et, List.filter_append, List.filter_cons_of_neg (p := KM.wi n) e, List.filter_nil, List.append_nil]
    · rintro H2 rfl
      rw [lots_len, List.take_length]
      refine ⟨D, _, rfl, .inl (SqL.of upd_same), ?_⟩
      rw [lots_len]
      exact q _ (Keep.same ((Keep.refl _ _).new hD))
/-! ### _law_great_day -/
def spDay : Sp := fun vs H Q _ => ∃ (c : Int) (n : Nat), vs = [.int c, .int (n : Int)] ∧ n ≤ 40 ∧ ∀ H' t ds, Same H H' → H t = none → LotsAt H' t ds → ds.length = n → (∀ d ∈ ds, d < 4096) → Q (.ref t) H'
theorem ok_day {f fD : Addr} {fd fdD : FuncData} (F : Fun K "_law_great_day" "_law_great_day" sDay f fd) (FD : Fun K "_law_draws" "_law_draws" sDraws fD fdD) (bD : Binds K fdD ["_law_cell", "_law_many", "_law_base"] []) (gD : mg "_law_draws" = some (.ref fD))
    (mr : mg "range" = none) (ma : mg "abs" = none) (ml : mg "len" = none) : FnOk P w K mg base CX0 2 f fd ["_law_cell", "_law_many"] spDay := by
  have GD : FnOk P w K mg base CX0 1 fD fdD ["_law_cell", "_law_many", "_law_base"] spDraws := ok_draws FD mr ma
  refine F.ok scDay (fun vs H Q E h => ?_) (fun cdv A outer s H vs Q E hr h => ?_)
  · obtain ⟨c, n, rfl, _⟩ := h
    rfl
  · obtain ⟨c, n, rfl, hn, q⟩ := h
    have nd := scDay.nd
    refine ⟨_, pss_cons (ps_set (i := 2) nd rfl (Or.inl rfl) (pe_call GD hr (by rfl) gD FD.kp bD .nil pass0 (pa_cons (pv 0) (pa_cons pe_int (pa_cons pe_int pa_nil)))))
      (pss_cons (ps_set (i := 3) nd rfl (Or.inl rfl) (pe_lst pa_nil))
      (pss_cons (ps_for PassesOwn.never rfl (pi_range1 rfl mr (pa_cons (pv 1) pa_nil)) (pg_name (i := 4) nd rfl (Or.inl rfl))
        (pss_cons (ps_set (i := 5) nd rfl (Or.inl rfl) (pe_op op_andN (pe_ix ix_list (pv 2) (pe_op op_mul pe_int (pv 4)) (fun _ _ => rfl)) (pe_ix ix_list (pv 2) (pe_op op_add (pe_op op_mul pe_int (pv 4)) pe_int) (fun _ _ => rfl))))
        (pss_cons (ps_if (pt_cmpR op_gt (pe_op op_mod (pe_op op_fdiv (pv 0) pe_int) pe_int) pe_int (nomark _)) (pss_one (ps_set (i := 5) nd rfl (Or.inl rfl) (pe_op op_andN (pv 5) pe_int))) pss_nil)
        (pss_cons (ps_if (PW.pt (pw_and (pt_cmpR op_eq (pe_op op_mod (pv 4) pe_int) pe_int (nomark _)) (pw_and1 (pt_cmpR (op_neD hr.units) (pv 3) (pe_lst pa_nil) (nomark _)))))
          (pss_one (ps_set (i := 5) nd rfl (Or.inl rfl) (pe_ix ix_list (pv 3) (pe_op op_mod (pe_ix ix_list (pv 2) (pe_op op_mul pe_int (pv 4)) (fun _ _ => rfl)) (pe_callB call_len_seq (by rfl) ml PySem.boot_len (pa_cons (pv 3) pa_nil))) (fun _ _ => rfl)))) pss_nil)
        (pss_one (ps_expr (pe_bm PySem.F.plainAttrs_list PySem.F.slot_list_append PySem.F.type_list_append mt_append (pv 3) (pa_cons (pv 5) pa_nil))))))))
      (pss_one (ps_ret (pv 3))))), ?_⟩
    refine ⟨_, rfl, c, 82, rfl, by decide, fun H1 g dg s1 ng hg lg allg => ?_⟩
    refine ⟨Nat.zero_le _, fun t ht => ?_⟩
    have ngt : g ≠ t := ne_of_none hg ht
    have t0 : H t = none := s1.free ht
    refine ⟨_, rfl, _, rfl, by omega, by omega, ?_⟩
    rw [show ((n : Int)).toNat = n from Int.toNat_natCast n]
    refine for_range (lo := 0) (n := n) (fun i σ H2 => ∃ v4 v5 ds, σ = [some (.int c), some (.int (n : Int)), some (.ref g), some (.ref t), v4, v5] ∧ Keep [t] H1 H2 ∧ LotsAt H2 t ds ∧ ds.length = i ∧ ∀ d ∈ ds, d < 4096)
      ⟨none, none, [], rfl, (Keep.refl _ _).wr (by simp), upd_same, rfl, fun d hd => absurd hd List.not_mem_nil⟩ ?_ ?_
    · rintro i σ H2 hi ⟨v4, v5, ds, rfl, k2, ht2, hlen, hall⟩
      have hg2 : LotsAt H2 g dg := k2 _ _ hg (by simp [ngt])
      have dat : ∀ j, j < 82 → ∃ d : Nat, (lots dg)[j]? = some (.int (d : Int)) ∧ d < 4096 := fun j hj => by
        have hj : j < dg.length := by omega
        refine ⟨dg[j], ?_, allg _ (List.getElem_mem hj)⟩
        rw [List.getElem?_map, List.getElem?_eq_getElem hj]
        rfl
      obtain ⟨a1, h1, l1⟩ := dat (2 * i) (by omega)
      obtain ⟨a2, h2, l2⟩ := dat (2 * i + 1) (by omega)
      -- behind the basket: it is put to the day
      have put : ∀ (H3 : Hp) (b : Nat) (v4' v5' : Option V), Keep [t] H1 H3 → LotsAt H3 t ds → b < 4096 → (lots ds).length < sizeLine ∧ ∃ v4 v5 ds', [some (V.int c), some (.int (n : Int)), some (.ref g), some (.ref t), v4', v5'] = [some (V.int c), some (.int (n : Int)), some (.ref g), some (.ref t), v4, v5] ∧
          Keep [t] H1 (upd H3 t (.lst (lots ds ++ [V.int (b : Int)]))) ∧ LotsAt (upd H3 t (.lst (lots ds ++ [V.int (b : Int)]))) t ds' ∧ ds'.length = i + 1 ∧ ∀ d ∈ ds', d < 4096 := fun H3 b v4' v5' k3 h3 hb => by
        refine ⟨by rw [lots_len, hlen]; exact line4096 (by omega), v4', v5', ds ++ [b], rfl, k3.wr (by simp), ?_, by rw [List.length_append, hlen]; rfl, fun x hx => ?_⟩
        · show upd _ _ _ t = _
          rw [upd_same, lots_snoc]
        · rcases List.mem_append.mp hx with hx | hx
          · exact hall x hx
          · rw [List.mem_singleton.mp hx]
            exact hb
      -- basket = digits[2 * k] & digits[2 * k + 1]
      refine ⟨_, rfl, _, rfl, 2, _, rfl, rfl, .inl ⟨by decide, by decide⟩, g, _, _, _, rfl, rfl, SqL.of hg2, at_of (j := 2 * i) (by omega) h1, _, rfl, _, rfl, 2, _, rfl, rfl, .inl ⟨by decide, by decide⟩, _, 1, rfl, rfl, g, _, _, _, rfl, rfl, SqL.of hg2, at_of (j := 2 * i + 1) (by omega) h2, a1, a2, rfl, rfl, ?_⟩
      have lb : a1 &&& a2 < 4096 := Nat.lt_of_le_of_lt Nat.and_le_left l1
      -- if cell // 31 % 4 > 0: basket = basket & 1023
      refine ⟨_, rfl, _, 31, rfl, rfl, ⟨by decide, by decide⟩, _, 4, rfl, rfl, (by show (0 : Int) < 4; decide), _, 0, rfl, rfl, _, rfl, ?_⟩
      refine ite2 (fun _ => ?A) (fun _ => ?B)
      case' A => refine ⟨_, rfl, a1 &&& a2, 1023, rfl, rfl, ?_⟩
      case' A => have lb' : (a1 &&& a2) &&& 1023 < 4096 := Nat.lt_of_le_of_lt Nat.and_le_left lb
      case' B => have lb' : a1 &&& a2 < 4096 := lb
      all_goals
        refine ⟨_, rfl, _, 8, rfl, rfl, (by show (0 : Int) < 8; decide), rfl, _, rfl, ?_⟩
        refine ite2 (fun _ => ?_) (fun _ => iteF ?_)
        · refine ⟨_, rfl, Nat.zero_le _, fun z hz => ?_⟩
          have ntz : t ≠ z := ne_of_none ht2 hz
          have ngz : g ≠ z := ne_of_none hg2 hz
          have ht3 : LotsAt (upd H2 z (.lst [])) t ds := by
            show upd _ _ _ t = _
            rw [upd_ne ntz]
            exact ht2
          have hg3 : LotsAt (upd H2 z (.lst [])) g dg := by
            show upd _ _ _ g = _
            rw [upd_ne ngz]
            exact hg2
          refine ⟨_, _, .lst (SqL.of ht3) (dp_lots ds), .lst (SqL.of upd_same) .nil, shaped_lots ds, rfl, _, rfl, ?_⟩
          rw [eqv_nil]
          refine ite2 (fun e => ?_) (fun e => ?_)
          · have dn : 0 < ds.length := by
              cases ds with
              | nil => cases e
              | cons => simp
            obtain ⟨j, ej, hj⟩ := nat_mod (z := (a1 : Int)) dn
            have hds : (lots ds)[j]? = some (.int (ds[j] : Int)) := by
              rw [List.getElem?_map, List.getElem?_eq_getElem hj]
              rfl
            refine ⟨_, rfl, _, rfl, _, rfl, 2, _, rfl, rfl, .inl ⟨by decide, by decide⟩, g, _, _, _, rfl, rfl, SqL.of hg3, at_of (j := 2 * i) (by omega) h1, _, rfl, t, _, rfl, .inl (SqL.of ht3), _, _, rfl, rfl, ?_, t, _, _, _, rfl, rfl, SqL.of ht3, at_of (j := j) ?_ hds, ?_⟩
            · show (0 : Int) < ((lots ds).length : Int)
              rw [lots_len]
              omega
            · rw [lots_len]
              exact ej
            · refine ⟨_, rfl, .inl ⟨rfl, _, SqL.of ht3⟩, _, rfl, t, _, _, rfl, rfl, ht3, ?_⟩
              exact put _ ds[j] _ _ (k2.new hz) ht3 (hall _ (List.getElem_mem hj))
          · refine ⟨_, rfl, .inl ⟨rfl, _, SqL.of ht3⟩, _, rfl, t, _, _, rfl, rfl, ht3, ?_⟩
            exact put _ _ _ _ (k2.new hz) ht3 lb'
        · refine ⟨_, rfl, .inl ⟨rfl, _, SqL.of ht2⟩, _, rfl, t, _, _, rfl, rfl, ht2, ?_⟩
          exact put _ _ _ _ k2 ht2 lb'
    · rintro σ H2 ⟨v4, v5, ds, rfl, k2, ht2, hlen, hall⟩
      exact ⟨_, rfl, q H2 t ds (Keep.same (((Keep.of s1 : Keep [t] H H1).trans k2).sub fun b hb => by rw [List.mem_singleton.mp hb]; exact .inr t0)) t0 ht2 hlen hall⟩
end
end Kp

/-! The law's own defs: its closed lots, its changes. -/
namespace Kp
open PySem PySem.Spec PyProof.Rows L2
theorem flat_take {A : Type} {L : List (List A)} {i : Nat} {x : List A} (h : L[i]? = some x) : (L.take (i + 1)).flatten = (L.take i).flatten ++ x ∧ ((L.take i).flatten ++ x).length ≤ L.flatten.length := by
  have e : (L.take (i + 1)).flatten = (L.take i).flatten ++ x := by
    rw [List.take_add_one, h, List.flatten_append]
    simp
  refine ⟨e, ?_⟩
  rw [← e]
  have q : L.flatten = (L.take (i + 1)).flatten ++ (L.drop (i + 1)).flatten := by rw [← List.flatten_append, List.take_append_drop]
  have q2 := congrArg List.length q
  rw [List.length_append] at q2
  omega
theorem rows_snoc (bs ks : List Nat) (n : Nat) : KM.rowsOf bs (ks ++ [n]) = KM.rowsOf bs ks ++ [(n, (KM.cnt bs n : Int))] := List.map_append
section
variable {K : PySem.W.Frag} {A B : List (Nat × Int)} {H : Hp} {a dA : Addr} {s : L2.St} {i1 i2 k : Nat} {Q : VK}
/-- [row for row in rows if row[0] not in d] -/
theorem comp_keep (hB : PLs H a B) (hA : Rd H dA (.dK (enc V.int A))) (len : B.length ≤ 4096) (e1 : s[i1]? = some (some (.ref a))) (e2 : s[i2]? = some (some (.ref dA))) (n2 : i2 ≠ k) (hk : k < s.length)
    (hq : ∀ H' D, Same H H' → H D = none → PLs H' D (KM.cameL A B) → Q (.ref D) H') :
    tLc (iList K (tVar i1)) (gName k) (tB (tDNotIn (tOp (rIxT K) (tVar k) (tC (.int 0))) (tVar i2))) (tVar k) [k] s H Q := by
  obtain ⟨tb, hl, hT⟩ := hB
  refine ⟨_, e1, a, rfl, ⟨_, SqL.of hl⟩, fun D hD => ?_⟩
  have naD : a ≠ D := ne_of_none hl hD
  have rdn : ∀ {H' : Hp} {d : Addr} {u : HO}, Same H H' → Rd H d u → Rd H' d u := fun sm r => by
    rcases r with r | ⟨o, r⟩
    · exact .inl (sm _ _ r)
    · exact .inr ⟨o, sm _ _ r⟩
  refine lc_list (K := K) (a := a) (xs := tb.map V.ref) (fun i H2 => Same H H2 ∧ PLs H2 D (KM.cameL A (B.take i)))
    ⟨Keep.same ((Keep.refl _ _).wn hD), [], upd_same, .nil⟩ (fun i H2 _ h => SqL.of (h.1 _ _ hl)) ?_ ?_
  · rintro i x H2 hi ⟨g1, ts, g3, g4⟩
    rw [List.getElem?_map] at hi
    cases e : tb[i]? with
    | none => rw [e] at hi; cases hi
    | some t =>
      rw [e] at hi
      cases hi
      obtain ⟨⟨n, c⟩, e4, ht⟩ := paired_at hT e
      have ht2 : H2 t = some (pr (n, c)) := g1 _ _ ht
      have et : B.take (i + 1) = B.take i ++ [(n, c)] := by
        rw [List.take_add_one, e4]
        rfl
      have lk : ((wipe s [k]).set k (some (V.ref t)))[k]? = some (some (V.ref t)) := slot_at (by rw [wipe_length]; exact hk)
      have l2 : ((wipe s [k]).set k (some (V.ref t)))[i2]? = some (some (.ref dA)) := slot_ne n2 (slot_ne n2 e2)
      refine ⟨wipe1 s k _, _, lk, t, _, 0, _, rfl, rfl, SqT.of ht2, at_of (j := 0) rfl rfl, _, l2, dA, _, rfl, dget (rdn g1 hA) n, _, rfl, ?_⟩
      have eo : (!(Option.map V.int (KM.get A n)).isSome) = (KM.get A n).isNone := by
        cases KM.get A n <;> rfl
      rw [eo]
      refine ite2 (fun e => ?_) (fun e => ?_)
      · refine ⟨_, lk, _, g3, ?_, Keep.same ((Keep.of g1).wn hD), ts ++ [t], ?_, ?_⟩
        · rw [List.length_map, paired_len g4]
          have z1 : (KM.cameL A (B.take i)).length ≤ (B.take i).length := List.length_filter_le _ _
          rw [List.length_take] at z1
          exact line4096 (by omega)
        · rw [upd_same, List.map_append]
          rfl
        · rw [et]
          unfold KM.cameL
          rw [List.filter_append, List.filter_cons_of_pos (p := fun p : Nat × Int => (KM.get A p.1).isNone) e]
          have ntD : ∀ u p, H2 u = some (pr p) → u ≠ D := fun u p hu => ne_of hu g3 (by intro z; cases z)
          refine paired_snoc (paired_imp g4 fun u r _ hur => ?_) ?_
          · rw [upd_ne (ntD u r hur)]
            exact hur
          · rw [upd_ne (ntD t _ ht2)]
            exact ht2
      · refine ⟨g1, ts, g3, ?_⟩
        rw [et]
        unfold KM.cameL
        rw [List.filter_append, List.filter_cons_of_neg (p := fun p : Nat × Int => (KM.get A p.1).isNone) e, List.filter_nil, List.append_nil]
        exact g4
  · rintro H2 ⟨g1, g3⟩
    rw [List.length_map, paired_len hT, List.take_length] at g3
    exact hq H2 D g1 hD g3
end
/-- dict(pairs) as the fold that it is -/
theorem merge_enc : ∀ (L m : List (Nat × Int)), mergeK (enc V.int m) (enc V.int L) = enc V.int (L.foldl (fun m p => KM.put m p.1 p.2) m)
  | [], m => rfl
  | p :: L, m => by
    show mergeK (putK (enc V.int m) (kN p.1) (V.int p.2)) (enc V.int L) = _
    rw [enc_put, merge_enc L]
    rfl
theorem paired_enc {K : PySem.W.Frag} {H : Hp} : ∀ {ts : List Addr} {L : List (Nat × Int)}, Paired (fun t p => H t = some (pr p)) ts L → Paired (fun (p : Addr) (kv : L2.Key × V) => SqT K H p [kV kv.1, kv.2]) ts (enc V.int L)
  | _, _, .nil => .nil
  | _, _, .cons h t => .cons (SqT.of h) (paired_enc t)
section
variable {P : Program} {w : World} {K : PySem.W.Frag} {mg : Str → Option Value} {base : Heap}
/-! ### _law_changes -/
def spLChanges (K : PySem.W.Frag) : Sp := fun vs H Q _ => ∃ (a b : Addr) (A B : List (Nat × Int)), vs = [.ref a, .ref b] ∧ PLs H a A ∧ PLs H b B ∧ KM.Ok A ∧ KM.Ok B ∧ (A.Pairwise fun p q => p.1 < q.1) ∧ (B.Pairwise fun p q => p.1 < q.1) ∧
  ∀ H' t, Same H H' → Dp K H' (.ref t) (chgD A B) → Q (.ref t) H'
theorem ok_lchanges {f : Addr} {fd : FuncData} (F : Fun K "_law_changes" "_law_changes" sLChanges f fd) (md : mg "dict" = none) (ms : mg "sorted" = none) : FnOk P w K mg base CX0 1 f fd ["_law_ahead", "_law_behind"] (spLChanges K) := by
  refine F.ok scLChanges (fun vs H Q E h => ?_) (fun cdv A0 outer s H vs Q E hr h => ?_)
  · obtain ⟨a, b, A, B, rfl, _⟩ := h
    rfl
  · obtain ⟨a, b, A, B, rfl, ⟨ta, hA, hTA⟩, ⟨tb, hB, hTB⟩, okA, okB, upA, upB, q⟩ := h
    have hu := hu_of hr
    have nd := scLChanges.nd
    refine ⟨_, pss_cons (ps_set (i := 2) nd rfl (Or.inr rfl) (pe_callTy (call_dictP rfl) (by rfl) md (by decide +kernel) (pa_cons (pv 0) pa_nil)))
      (pss_cons (ps_set (i := 3) nd rfl (Or.inr rfl) (pe_callTy (call_dictP rfl) (by rfl) md (by decide +kernel) (pa_cons (pv 1) pa_nil)))
      (pss_cons (ps_setLc (i := 4) (own := [("_law_row", 7)]) (g := gName 7) (tt := tB (tDNotIn (tOp (rIxT K) (tVar 7) (tC (.int 0))) (tVar 2))) rfl nd rfl rfl (sw_true rfl rfl rfl (by decide +kernel)) (pi_list (pv 1))
        (blkOk_by (N := ["_law_ahead", "_law_behind", "_law_then", "_law_now", "_law_came", "_law_went", "_law_moved", "_law_row", "_law_lot"]) (sc := defScope sLChanges) (by decide +kernel)) (fun _ _ _ _ _ => pg_name (i := 7) nd rfl (Or.inl rfl))
        (fun _ _ _ _ _ => pts_one (pt_cmp (pc_dnotin hu (pe_ix ix_tup (pv 7) pe_int (fun _ _ => rfl)) (pv 2)))) (fun _ _ _ _ _ => pv 7))
      (pss_cons (ps_setLc (i := 5) (own := [("_law_row", 7)]) (g := gName 7) (tt := tB (tDNotIn (tOp (rIxT K) (tVar 7) (tC (.int 0))) (tVar 3))) rfl nd rfl rfl (sw_true rfl rfl rfl (by decide +kernel)) (pi_list (pv 0))
        (blkOk_by (N := ["_law_ahead", "_law_behind", "_law_then", "_law_now", "_law_came", "_law_went", "_law_moved", "_law_row", "_law_lot"]) (sc := defScope sLChanges) (by decide +kernel)) (fun _ _ _ _ _ => pg_name (i := 7) nd rfl (Or.inl rfl))
        (fun _ _ _ _ _ => pts_one (pt_cmp (pc_dnotin hu (pe_ix ix_tup (pv 7) pe_int (fun _ _ => rfl)) (pv 3)))) (fun _ _ _ _ _ => pv 7))
      (pss_cons (ps_setLc (i := 6) (own := [("_law_lot", 8)]) (g := gName 8) rfl nd rfl rfl (sw_true rfl rfl rfl (by decide +kernel)) (pi_list (pe_callB (call_sortD rfl) (by rfl) ms (by decide +kernel) (pa_cons (pv 3) pa_nil)))
        (blkOk_by (N := ["_law_ahead", "_law_behind", "_law_then", "_law_now", "_law_came", "_law_went", "_law_moved", "_law_row", "_law_lot"]) (sc := defScope sLChanges) (by decide +kernel)) (fun _ _ _ _ _ => pg_name (i := 8) nd rfl (Or.inl rfl))
        (fun _ _ _ _ _ => pts_one (PW.pt (pw_and (pt_cmp (pc_din hu (pv 8) (pv 2))) (pw_and1 (pt_cmp (pc_neI (pe_dget hu (pv 2) (pv 8) (fun _ _ => rfl)) (pe_dget hu (pv 3) (pv 8) (fun _ _ => rfl))))))))
        (fun _ _ _ _ _ => pe_tup (pa_cons (pv 8) (pa_cons (pe_dget hu (pv 2) (pv 8) (fun _ _ => rfl)) (pa_cons (pe_dget hu (pv 3) (pv 8) (fun _ _ => rfl)) pa_nil)))))
      (pss_one (ps_ret (pe_tup (pa_cons (pv 4) (pa_cons (pv 5) (pa_cons (pv 6) pa_nil)))))))))), ?_⟩
    -- then = dict(ahead)
    refine ⟨_, rfl, a, ta, enc V.int A, rfl, SqL.of hA, paired_enc hTA, fun d1 hd1 => ?_⟩
    have m1 : mergeK [] (enc V.int A) = enc V.int A := (merge_enc A []).trans (congrArg (enc V.int) (KM.ofL_eq okA.nd))
    rw [m1]
    have s1 : Same H (upd H d1 (.dK (enc V.int A))) := Keep.same ((Keep.refl _ _).new hd1)
    -- now = dict(behind)
    refine ⟨_, rfl, b, tb, enc V.int B, rfl, SqL.of (s1 _ _ hB), paired_enc (paired_imp hTB fun t p _ e => s1 _ _ e), fun d2 hd2 => ?_⟩
    have m2 : mergeK [] (enc V.int B) = enc V.int B := (merge_enc B []).trans (congrArg (enc V.int) (KM.ofL_eq okB.nd))
    rw [m2]
    have n12 : d1 ≠ d2 := ne_of_none upd_same hd2
    generalize hH2 : upd (upd H d1 (.dK (enc V.int A))) d2 (.dK (enc V.int B)) = H2
    have s2 : Same H H2 := by
      rw [← hH2]
      exact s1.trans (Keep.same ((Keep.refl _ _).new hd2))
    have w1 : H2 d1 = some (.dK (enc V.int A)) := by
      rw [← hH2, upd_ne n12]
      exact upd_same
    have w2 : H2 d2 = some (.dK (enc V.int B)) := by
      rw [← hH2]
      exact upd_same
    have PA : PLs H2 a A := PLs.same ⟨ta, hA, hTA⟩ s2
    have PB : PLs H2 b B := PLs.same ⟨tb, hB, hTB⟩ s2
    -- came
    dsimp only [gName, tSeq, tAsg]
    refine comp_keep (s := [some (.ref a), some (.ref b), some (.ref d1), some (.ref d2), none, none, none, none, none]) (i1 := 1) (i2 := 2) (k := 7) PB (.inl w1) okB.len rfl rfl (by decide) (by show 7 < 9; decide) fun H3 l1 s3 _ P1 => ?_
    -- went
    try dsimp only [gName, tSeq, tAsg]
    refine comp_keep (s := [some (.ref a), some (.ref b), some (.ref d1), some (.ref d2), some (.ref l1), none, none, none, none]) (i1 := 0) (i2 := 3) (k := 7) (PA.same s3) (.inl (s3 _ _ w2)) okA.len rfl rfl (by decide) (by show 7 < 9; decide) fun H4 l2 s4 _ P2 => ?_
    -- moved
    try dsimp only [gName, tSeq, tAsg]
    refine comp_moved (s := [some (.ref a), some (.ref b), some (.ref d1), some (.ref d2), some (.ref l1), some (.ref l2), none, none, none]) (A := A) (B := B) (dA := d1) (dB := d2) (i1 := 3) (i2 := 2) (k := 8) (.inl (s4 _ _ (s3 _ _ w1))) (.inl (s4 _ _ (s3 _ _ w2))) upB okB.len rfl rfl (by decide) (by decide) (by show 8 < 9; decide) fun H5 l3 s5 _ P3 => ?_
    try dsimp only [gName, tRet]
    refine ⟨_, rfl, _, rfl, _, rfl, (by show 3 ≤ sizeLine; decide), fun t ht => ?_⟩
    have s6 : Same H5 (upd H5 t (.tup [.ref l1, .ref l2, .ref l3])) := Keep.same ((Keep.refl _ _).new ht)
    exact q _ t (((s2.trans s3).trans s4).trans (s5.trans s6)) (chg_dp upd_same ((P1.same s4).same (s5.trans s6)) ((P2.same s5).same s6) (P3.same s6))
/-! ### _law_closed -/
def spLClosed : Sp := fun vs H Q _ => ∃ (dl : Addr) (das : List Addr) (days : List (List Nat)) (x ls : Int), vs = [.int x, .ref dl, .int ls] ∧ H dl = some (.lst (das.map V.ref)) ∧ Paired (LotsAt H) das days ∧ (∀ b ∈ days.flatten, b < 4096) ∧ days.flatten.length ≤ 8192 ∧
  ∀ H' a L, Same H H' → H a = none → PLs H' a L → KM.IsCL days.flatten ls L → Q (.ref a) H'
theorem ok_lclosed {f fN : Addr} {fd fdN : FuncData} (F : Fun K "_law_closed" "_law_closed" sLClosed f fd) (FN : Fun K "_law_count" "_law_count" sLCount fN fdN) (bN : Binds K fdN ["_law_book", "_law_lot"] []) (gN : mg "_law_count" = some (.ref fN))
    (ml : mg "len" = none) (mli : mg "list" = none) (ms : mg "sorted" = none) : FnOk P w K mg base CX0 2 f fd ["_law_many", "_law_days", "_law_least"] spLClosed := by
  have GN : FnOk P w K mg base CX0 1 fN fdN ["_law_book", "_law_lot"] spLCount := ok_lcount FN ml
  refine F.ok scLClosed (fun vs H Q E h => ?_) (fun cdv A0 outer s H vs Q E hr h => ?_)
  · obtain ⟨dl, das, days, x, ls, rfl, _⟩ := h
    rfl
  · obtain ⟨dl, das, days, x, ls, rfl, hdl, hds, hlt, hlen, q⟩ := h
    have hu := hu_of hr
    have nd := scLClosed.nd
    refine ⟨_, pss_cons (ps_set (i := 3) nd rfl (Or.inr rfl) (pe_tup (pa_cons (pv 0) (pa_cons (pe_lst pa_nil) pa_nil))))
      (pss_cons (ps_for PassesOwn.never rfl (pi_list (pv 1)) (pg_name (i := 4) nd rfl (Or.inl rfl))
        (pss_one (ps_expr (pe_bm PySem.F.plainAttrs_list PySem.F.slot_list_extend PySem.F.type_list_extend mt_extend (pe_ix ix_tup (pv 3) pe_int (fun _ _ => rfl)) (pa_cons (pv 4) pa_nil)))))
      (pss_cons (ps_set (i := 5) nd rfl (Or.inl rfl) pe_dnewK)
      (pss_cons (ps_for PassesOwn.never rfl (pi_list (pe_ix ix_tup (pv 3) pe_int (fun _ _ => rfl))) (pg_name (i := 6) nd rfl (Or.inl rfl))
        (pss_one (ps_for PassesOwn.never rfl (pi_list (pe_op op_cat (pe_callTy (call_listKV rfl) (by rfl) mli (by decide +kernel) (pa_cons (pe_bm0 PySem.F.plainAttrs_dict PySem.F.slot_dict_keys PySem.F.type_dict_keys mt_keysV (pv 5)) pa_nil)) (pe_lst (pa_cons (pv 6) pa_nil)))) (pg_name (i := 7) nd rfl (Or.inl rfl))
          (pss_one (ps_dput hu (pv 5) (pe_op op_andN (pv 7) (pv 6)) pe_int rfl)))))
      (pss_cons (ps_setLc (i := 8) (own := [("_law_lot", 7)]) (g := gName 7) rfl nd rfl rfl (sw_true rfl rfl rfl (by decide +kernel))
        (pi_list (pe_callB (call_sortKV rfl) (by rfl) ms (by decide +kernel) (pa_cons (pe_bm0 PySem.F.plainAttrs_dict PySem.F.slot_dict_keys PySem.F.type_dict_keys mt_keysV (pv 5)) pa_nil)))
        (blkOk_by (N := ["_law_many", "_law_days", "_law_least", "_law_book", "_law_day", "_law_found", "_law_basket", "_law_lot", "_law_rows", "_law_row"]) (sc := defScope sLClosed) (by decide +kernel)) (fun _ _ _ _ _ => pg_name (i := 7) nd rfl (Or.inl rfl))
        (fun _ _ _ _ _ => pts_nil) (fun _ _ _ _ _ => pe_tup (pa_cons (pv 7) (pa_cons (pe_call GN hr (by rfl) gN FN.kp bN .nil pass0 (pa_cons (pv 3) (pa_cons (pv 7) pa_nil))) pa_nil))))
      (pss_one (ps_ret (pe_lc (own := [("_law_row", 9)]) (g := gName 9) (tt := tB (tGe (tOp (rIxT K) (tVar 9) (tC (.int 1))) (tVar 2))) rfl nd (pi_list (pv 8))
        (blkOk_by (N := ["_law_many", "_law_days", "_law_least", "_law_book", "_law_day", "_law_found", "_law_basket", "_law_lot", "_law_rows", "_law_row"]) (sc := defScope sLClosed) (by decide +kernel)) (fun _ _ _ _ _ => pg_name (i := 9) nd rfl (Or.inl rfl))
        (fun _ _ _ _ _ => pts_one (pt_cmp (pc_ge (pe_ix ix_tup (pv 9) pe_int (fun _ _ => rfl)) (pv 2)))) (fun _ _ _ _ _ => pv 9)))))))), ?_⟩
    -- book = (many, [])
    refine ⟨_, rfl, Nat.zero_le _, fun l hl => ⟨by show 2 ≤ sizeLine; decide, fun b hb => ?_⟩⟩
    have nlb : l ≠ b := ne_of_none upd_same hb
    rw [upd_ne nlb.symm] at hb
    generalize hB : HO.tup [V.int x, V.ref l] = tB0
    have bk : ∀ o, (upd (upd H l o) b tB0) b = some (.tup [.int x, .ref l]) := fun _ => by
      rw [hB]
      exact upd_same
    have sB : ∀ o, Same H (upd (upd H l o) b tB0) := fun o => Keep.same (((Keep.refl _ _).wn hl).wn hb)
    -- for day in days: book[1].extend(day)
    refine ⟨_, rfl, dl, rfl, ⟨_, SqL.of (sB _ _ _ hdl)⟩, for_list (K := K) (a := dl) (xs := das.map V.ref) (fun i σ H2 => ∃ v4, σ = [some (.int x), some (.ref dl), some (.int ls), some (.ref b), v4, none, none, none, none, none] ∧ H2 = upd (upd H l (.lst (lots (days.take i).flatten))) b tB0)
      ⟨none, rfl, rfl⟩ (fun i σ H2 _ h => by
        obtain ⟨_, _, e⟩ := h
        rw [e]
        exact SqL.of (sB _ _ _ hdl)) ?_ ?_⟩
    · rintro i y σ H2 hi ⟨v4, rfl, rfl⟩
      rw [List.getElem?_map] at hi
      cases e : das[i]? with
      | none => rw [e] at hi; cases hi
      | some a =>
        rw [e] at hi
        cases hi
        obtain ⟨d, e2, ha⟩ := paired_at hds e
        obtain ⟨ef, el⟩ := flat_take e2
        have hl2 : (upd (upd H l (.lst (lots (days.take i).flatten))) b tB0) l = some (.lst (lots (days.take i).flatten)) := by
          rw [upd_ne nlb, upd_same]
        refine ⟨_, rfl, b, _, 1, _, rfl, rfl, SqT.of (bk _), at_of (j := 1) rfl rfl, .inl ⟨rfl, _, SqL.of hl2⟩, _, rfl, l, a, _, _, rfl, rfl, hl2, sB _ _ _ ha, ?_, ?_⟩
        · rw [lots_len, lots_len]
          rw [List.length_append] at el
          exact Nat.le_of_lt (line4096 (by omega))
        · refine ⟨_, rfl, ?_⟩
          funext c
          rw [ef, lots_app]
          by_cases c1 : c = l
          · rw [c1, upd_same, upd_ne nlb, upd_same]
          · rw [upd_ne c1]
            by_cases c2 : c = b
            · rw [c2, upd_same, upd_same]
            · rw [upd_ne c2, upd_ne c2, upd_ne c1, upd_ne c1]
    · rintro σ H2 ⟨v4, rfl, rfl⟩
      have er : days.take (das.map V.ref).length = days := by
        rw [List.length_map, paired_len hds]
        exact List.take_length
      rw [er]
      have s2 := sB (.lst (lots days.flatten))
      have b2 : (upd (upd H l (.lst (lots days.flatten))) b tB0) b = some (.tup [.int x, .ref l]) := bk _
      have l2 : LotsAt (upd (upd H l (.lst (lots days.flatten))) b tB0) l days.flatten := by
        show upd _ _ _ l = _
        rw [upd_ne nlb, upd_same]
      generalize upd (upd H l (.lst (lots days.flatten))) b tB0 = H2 at s2 b2 l2
      -- found = {}
      intro f0 hf0
      have nlf : l ≠ f0 := ne_of_none l2 hf0
      have nbf : b ≠ f0 := ne_of_none b2 hf0
      have fn0 : H f0 = none := s2.free hf0
      -- for basket in book[1]
      refine ⟨_, rfl, b, _, 1, _, rfl, rfl, SqT.of (by rw [upd_ne nbf]; exact b2), at_of (j := 1) rfl rfl, l, rfl, ⟨_, SqL.of (by rw [upd_ne nlf]; exact l2)⟩, for_list (K := K) (a := l) (xs := lots days.flatten) (fun i σ H3 => ∃ v6 v7, σ = [some (.int x), some (.ref dl), some (.int ls), some (.ref b), v4, some (.ref f0), v6, v7, none, none] ∧
          H3 f0 = some (.dK (enc V.int (KM.lfound (days.flatten.take i)))) ∧ Keep [f0] H2 H3)
        ⟨none, none, rfl, upd_same, (Keep.refl _ _).wr (by simp)⟩ (fun i σ H3 _ h => by
          obtain ⟨_, _, _, _, g⟩ := h
          exact SqL.of (g _ _ l2 (by simp [nlf]))) ?_ ?_⟩
      · rintro i y σ H3 hi ⟨v6, v7, rfl, g1, g2⟩
        obtain ⟨bk1, e2, rfl⟩ := lots_at hi
        have hb1 : bk1 < 4096 := hlt bk1 (List.mem_of_getElem? e2)
        have okf : KM.Ok (KM.lfound (days.flatten.take i)) := KM.lfound_ok fun z hz => hlt z (List.mem_of_mem_take hz)
        -- list(found.keys()) + [basket]
        refine ⟨_, rfl, .inr (.inr (.inl ⟨rfl, .inl ⟨_, g1⟩⟩)), f0, _, rfl, rfl, .inl g1, fun vw hvw => ⟨vw, f0, _, rfl, upd_same, .inl (by rw [upd_ne (ne_of_none g1 hvw)]; exact g1), fun k1 hk1 => ?_⟩⟩
        have nvk : vw ≠ k1 := ne_of_none upd_same hk1
        rw [upd_ne nvk.symm] at hk1
        refine ⟨_, rfl, Nat.succ_le_of_lt (by decide), fun k2 hk2 => ?_⟩
        have nkk : k1 ≠ k2 := ne_of_none upd_same hk2
        rw [upd_ne nkk.symm] at hk2
        have nvk2 : vw ≠ k2 := ne_of_none upd_same hk2
        rw [upd_ne nvk2.symm] at hk2
        rw [enc_keys]
        refine ⟨k1, k2, _, _, rfl, rfl, by rw [upd_ne nkk, upd_same], upd_same, ?_, fun k3 hk3 => ?_⟩
        · rw [List.length_map, List.length_map]
          have z := okf.len
          exact Nat.le_of_lt (line4096 (by show _ + 1 ≤ _; omega))
        have nk23 : k2 ≠ k3 := ne_of_none upd_same hk3
        rw [upd_ne nk23.symm] at hk3
        have nk13 : k1 ≠ k3 := ne_of_none upd_same hk3
        rw [upd_ne nk13.symm] at hk3
        have nvk3 : vw ≠ k3 := ne_of_none upd_same hk3
        rw [upd_ne nvk3.symm] at hk3
        have nf3 : f0 ≠ k3 := ne_of_none g1 hk3
        have nfv : f0 ≠ vw := ne_of_none g1 hvw
        have nfk1 : f0 ≠ k1 := ne_of_none g1 hk1
        have nfk2 : f0 ≠ k2 := ne_of_none g1 hk2
        have old : ∀ {c : Addr}, H3 c = none → c ≠ f0 → H2 c = none := fun {c} z y => by
          cases u : H2 c with
          | none => rfl
          | some o =>
            have t := g2 _ _ u (by simp [y])
            rw [z] at t
            cases t
        have el : (((KM.keys (KM.lfound (days.flatten.take i))).map fun n : Nat => V.int (n : Int)) ++ [V.int (bk1 : Int)]) = lots (KM.keys (KM.lfound (days.flatten.take i)) ++ [bk1]) := (lots_snoc _ _).symm
        rw [el]
        have kp : Keep [f0] H2 (upd (upd (upd (upd H3 vw (keysO vw f0)) k1 (.lst ((KM.keys (KM.lfound (days.flatten.take i))).map fun n : Nat => V.int (n : Int)))) k2 (.lst [V.int (bk1 : Int)])) k3 (.lst (lots (KM.keys (KM.lfound (days.flatten.take i)) ++ [bk1])))) :=
          (((g2.wn (old hvw nfv.symm)).wn (old hk1 nfk1.symm)).wn (old hk2 nfk2.symm)).wn (old hk3 nf3.symm)
        refine ⟨k3, rfl, ⟨_, SqL.of upd_same⟩, for_list (K := K) (a := k3) (xs := lots (KM.keys (KM.lfound (days.flatten.take i)) ++ [bk1])) (fun j σ H4 => ∃ v7, σ = [some (.int x), some (.ref dl), some (.int ls), some (.ref b), v4, some (.ref f0), some (.int (bk1 : Int)), v7, none, none] ∧
            H4 f0 = some (.dK (enc V.int (((KM.keys (KM.lfound (days.flatten.take i)) ++ [bk1]).take j).foldl (KM.lput bk1) (KM.lfound (days.flatten.take i))))) ∧ LotsAt H4 k3 (KM.keys (KM.lfound (days.flatten.take i)) ++ [bk1]) ∧ Keep [f0] H2 H4)
          ⟨v7, rfl, by rw [upd_ne nf3, upd_ne nfk2, upd_ne nfk1, upd_ne nfv]; exact g1, upd_same, kp⟩ (fun j σ H4 _ h => SqL.of h.choose_spec.2.2.1) ?_ ?_⟩
        · rintro j y σ H4 hj ⟨v7, rfl, r1, r2, r3⟩
          obtain ⟨n, e3, rfl⟩ := lots_at hj
          have ok4 : KM.Ok (((KM.keys (KM.lfound (days.flatten.take i)) ++ [bk1]).take j).foldl (KM.lput bk1) (KM.lfound (days.flatten.take i))) := KM.fold_ok (f := KM.lput bk1) KM.Ok _ _ okf fun u z _ hu => KM.lput_ok hb1 hu z
          refine ⟨_, rfl, _, rfl, _, rfl, n, bk1, rfl, rfl, f0, _, rfl, dput r1 ok4.len (n &&& bk1) 0, ?_⟩
          refine ⟨_, rfl, ?_, ?_, r3.wr (by simp)⟩
          · rw [upd_same, KM.fold_take _ e3]
            rfl
          · show upd _ _ _ k3 = _
            rw [upd_ne nf3.symm]
            exact r2
        · rintro σ H4 ⟨v7, rfl, r1, r2, r3⟩
          rw [lots_len, List.take_length] at r1
          refine ⟨_, v7, rfl, ?_, r3⟩
          rw [r1]
          unfold KM.lfound
          rw [KM.fold_take _ e2]
          rfl
      · rintro σ H3 ⟨v6, v7, rfl, g1, g2⟩
        rw [lots_len, List.take_length] at g1
        have okf : KM.Ok (KM.lfound days.flatten) := KM.lfound_ok hlt
        have s3 : Same H H3 := Keep.same (((Keep.of s2 : Keep [f0] H H2).trans g2).sub fun c hc => by rw [List.mem_singleton.mp hc]; exact .inr fn0)
        have b3 : H3 b = some (.tup [.int x, .ref l]) := g2 _ _ b2 (by simp [nbf])
        have l3 : LotsAt H3 l days.flatten := g2 _ _ l2 (by simp [nlf])
        -- rows
        refine ⟨_, rfl, .inr (.inr (.inl ⟨rfl, .inl ⟨_, g1⟩⟩)), f0, _, rfl, rfl, .inl g1, fun vw hvw => ⟨vw, f0, _, (KM.keys (KM.lfound days.flatten)).map fun n : Nat => (n : Int), rfl, upd_same, .inl (by rw [upd_ne (ne_of_none g1 hvw)]; exact g1), (enc_keys V.int _).trans (lots_int _), fun ys k1 hp hs hk1 => ?_⟩⟩
        -- the keys in order, as lots
        have ely : ∃ ks : List Nat, ys.map V.int = lots ks ∧ ks.Perm (KM.keys (KM.lfound days.flatten)) ∧ ks.Pairwise (· ≤ ·) := by
          refine ⟨ys.map Int.toNat, ?_, ?_, ?_⟩
          · rw [lots_int]
            refine congrArg (List.map V.int) ?_
            rw [List.map_map]
            have z : ∀ y ∈ ys, ((Int.toNat y : Nat) : Int) = y := fun y hy => by
              obtain ⟨n, _, e⟩ := List.mem_map.mp (hp.mem_iff.mp hy)
              rw [← e]
              rfl
            exact (List.map_id ys).symm.trans (List.map_congr_left fun y hy => (z y hy).symm)
          · have z := hp.map Int.toNat
            rw [List.map_map] at z
            have e : (Int.toNat ∘ fun n : Nat => (n : Int)) = id := funext fun n => rfl
            rw [e, List.map_id] at z
            exact z
          · rw [List.pairwise_map]
            exact hs.imp fun {p q} z => by omega
        obtain ⟨ks, ely, pks, sks⟩ := ely
        rw [ely]
        have nvk : vw ≠ k1 := ne_of_none upd_same hk1
        rw [upd_ne nvk.symm] at hk1
        have s4 : Same H3 (upd (upd H3 vw (keysO vw f0)) k1 (.lst (lots ks))) := Keep.same (((Keep.refl _ _).wn hvw).wn hk1)
        have k4 : LotsAt (upd (upd H3 vw (keysO vw f0)) k1 (.lst (lots ks))) k1 ks := upd_same
        generalize upd (upd H3 vw (keysO vw f0)) k1 (.lst (lots ks)) = H4 at s4 k4
        refine ⟨k1, rfl, ⟨_, SqL.of k4⟩, fun D hD => ?_⟩
        have nkD : k1 ≠ D := ne_of_none k4 hD
        have b4 : H4 b = some (.tup [.int x, .ref l]) := s4 _ _ b3
        have l4 : LotsAt H4 l days.flatten := s4 _ _ l3
        have nbD : b ≠ D := ne_of_none b4 hD
        have nlD : l ≠ D := ne_of_none l4 hD
        have lks : ks.length ≤ 4096 := by
          rw [pks.length_eq, List.length_map]
          exact okf.len
        refine lc_list (K := K) (a := k1) (xs := lots ks) (fun i H5 => Same H4 H5 ∧ PLs H5 D (KM.rowsOf days.flatten (ks.take i)))
          ⟨Keep.same ((Keep.refl _ _).wn hD), [], upd_same, .nil⟩ (fun i H5 _ h => SqL.of (h.1 _ _ k4)) ?_ ?_
        · rintro i y H5 hi ⟨r1, ts, r2, r3⟩
          obtain ⟨n, e3, rfl⟩ := lots_at hi
          have et : ks.take (i + 1) = ks.take i ++ [n] := by
            rw [List.take_add_one, e3]
            rfl
          refine ⟨rfl, ?_⟩
          refine ⟨_, rfl, _, rfl, _, rfl, b, l, _, days.flatten, n, rfl, r1 _ _ b4, r1 _ _ l4, hlen, fun H6 t6 => ⟨by show 2 ≤ sizeLine; decide, fun t ht => ?_⟩⟩
          have nDt : D ≠ t := ne_of_none (t6 _ _ r2) ht
          have g6 : H6 D = some (.lst (ts.map V.ref)) := t6 _ _ r2
          have ntD : ∀ u p, H6 u = some (pr p) → u ≠ D := fun u p hu => ne_of hu g6 (by intro z; cases z)
          refine ⟨_, by rw [upd_ne nDt]; exact g6, ?_, Keep.same (((Keep.of (r1.trans t6)).new ht).wn hD), ts ++ [t], ?_, ?_⟩
          · rw [List.length_map, paired_len r3]
            unfold KM.rowsOf
            rw [List.length_map, List.length_take]
            exact line4096 (by omega)
          · rw [upd_same, List.map_append]
            rfl
          · rw [et, rows_snoc]
            refine paired_snoc (paired_imp r3 fun u r _ hur => ?_) ?_
            · have hur := t6 _ _ hur
              rw [upd_ne (ntD u r hur), upd_ne (ne_of_none hur ht)]
              exact hur
            · rw [upd_ne nDt.symm, upd_same]
        · rintro H5 ⟨r1, r2⟩
          rw [lots_len, List.take_length] at r2
          obtain ⟨ts, r2, r3⟩ := r2
          have lrw : (KM.rowsOf days.flatten ks).length ≤ 4096 := by
            unfold KM.rowsOf
            rw [List.length_map]
            exact lks
          -- [row for row in rows if row[1] >= least]
          refine ⟨_, rfl, D, rfl, ⟨_, SqL.of r2⟩, fun E2 hE => ?_⟩
          refine lc_list (K := K) (a := D) (xs := ts.map V.ref) (fun i H6 => Same H5 H6 ∧ PLs H6 E2 (((KM.rowsOf days.flatten ks).take i).filter fun p => decide (ls ≤ p.2)))
            ⟨Keep.same ((Keep.refl _ _).wn hE), [], upd_same, .nil⟩ (fun i H6 _ h => SqL.of (h.1 _ _ r2)) ?_ ?_
          · rintro i y H6 hi ⟨t1, us, t2, t3⟩
            rw [List.getElem?_map] at hi
            cases e : ts[i]? with
            | none => rw [e] at hi; cases hi
            | some t =>
              rw [e] at hi
              cases hi
              obtain ⟨⟨n, c⟩, e4, ht⟩ := paired_at r3 e
              have ht2 : H6 t = some (pr (n, c)) := t1 _ _ ht
              have et : (KM.rowsOf days.flatten ks).take (i + 1) = (KM.rowsOf days.flatten ks).take i ++ [(n, c)] := by
                rw [List.take_add_one, e4]
                rfl
              refine ⟨rfl, _, rfl, t, _, 1, _, rfl, rfl, SqT.of ht2, at_of (j := 1) rfl rfl, _, rfl, c, ls, rfl, rfl, _, rfl, ?_⟩
              refine ite2 (fun e => ?_) (fun e => ?_)
              · refine ⟨_, rfl, _, t2, ?_, Keep.same ((Keep.of t1).wn hE), us ++ [t], ?_, ?_⟩
                · rw [List.length_map, paired_len t3]
                  have z1 : (((KM.rowsOf days.flatten ks).take i).filter fun p => decide (ls ≤ p.2)).length ≤ ((KM.rowsOf days.flatten ks).take i).length := List.length_filter_le _ _
                  rw [List.length_take] at z1
                  exact line4096 (by omega)
                · rw [upd_same, List.map_append]
                  rfl
                · rw [et, List.filter_append, List.filter_cons_of_pos (p := fun p : Nat × Int => decide (ls ≤ p.2)) e]
                  have ntD : ∀ u p, H6 u = some (pr p) → u ≠ E2 := fun u p hu => ne_of hu t2 (by intro z; cases z)
                  refine paired_snoc (paired_imp t3 fun u r _ hur => ?_) ?_
                  · rw [upd_ne (ntD u r hur)]
                    exact hur
                  · rw [upd_ne (ntD t _ ht2)]
                    exact ht2
              · refine ⟨t1, us, t2, ?_⟩
                rw [et, List.filter_append, List.filter_cons_of_neg (p := fun p : Nat × Int => decide (ls ≤ p.2)) e, List.filter_nil, List.append_nil]
                exact t3
          · rintro H6 ⟨t1, t2⟩
            rw [List.length_map, paired_len r3, List.take_length] at t2
            exact q H6 E2 _ (((s3.trans s4).trans r1).trans t1) (((s3.trans s4).trans r1).free hE) t2 (KM.law_closed pks sks hlt)
end
end Kp

/-! The law. -/
namespace Kp
open PySem PySem.Spec PyProof.Rows L2
theorem flat_len {k : Nat} : ∀ {L : List (List Nat)}, (∀ d ∈ L, d.length ≤ k) → L.flatten.length ≤ k * L.length
  | [], _ => Nat.zero_le _
  | d :: L, h => by
    have a := h d List.mem_cons_self
    have b := flat_len (L := L) fun x hx => h x (List.mem_cons_of_mem _ hx)
    rw [List.flatten_cons, List.length_append, List.length_cons, Nat.mul_add]
    omega
theorem cut3 (xs : List V) : cutV xs (some (-3)) none = xs.drop (xs.length - 3) := by
  unfold cutV
  rw [HT.sIx_none]
  have e : HT.sIx xs.length 0 (some (-3)) = xs.length - 3 := by
    show (if (-3 : Int) < 0 then ((-3 : Int) + (xs.length : Int)).toNat else min (-3 : Int).toNat xs.length) = xs.length - 3
    rw [if_pos (by decide)]
    omega
  rw [e]
  exact List.take_of_length_le (by rw [List.length_drop]; exact Nat.le_refl _)
theorem cut8 (xs : List V) : cutV xs none (some 8) = xs.take 8 := by
  unfold cutV
  rw [HT.sIx_none, show HT.sIx xs.length xs.length (some 8) = min 8 xs.length from HT.sIx_nat _ _ 8, List.drop_zero, Nat.sub_zero]
  by_cases h : 8 ≤ xs.length
  · rw [Nat.min_eq_left h]
  · rw [Nat.min_eq_right (by omega), List.take_length, List.take_of_length_le (by omega)]
theorem nxt3 {days : List (List Nat)} {day : List Nat} (h : days.length ≤ 3) : nxt 3 days day = (days ++ [day]).drop ((days ++ [day]).length - 3) := by
  unfold nxt
  rw [List.length_append, List.length_singleton]
  by_cases e : days.length = 3
  · rw [e, if_pos (by decide)]
  · rw [if_neg (by omega), show days.length + 1 - 3 = 0 by omega, List.drop_zero]
theorem idx (k : Bool) : atI [V.int 7, V.int 31] (if k = true then 1 else 0) = some (V.int (if k = true then 31 else 7)) := by
  cases k <;> rfl
theorem idx_pos (k : Bool) : (0 : Int) < (if k = true then 31 else 7) := by
  cases k <;> decide
theorem many_at (c : Int) (k : Bool) : ∃ n : Nat, 10 + c % (if k = true then 31 else 7) = (n : Int) ∧ n ≤ 40 := by
  cases k
  · refine ⟨(10 + c % 7).toNat, ?_, ?_⟩
    · show 10 + c % 7 = _
      omega
    · omega
  · refine ⟨(10 + c % 31).toNat, ?_, ?_⟩
    · show 10 + c % 31 = _
      omega
    · omega
theorem paired_drop {A B : Type} {F : A → B → Prop} : ∀ {l : List A} {m : List B} (k : Nat), Paired F l m → Paired F (l.drop k) (m.drop k)
  | _, _, 0, h => h
  | _, _, _ + 1, .nil => .nil
  | _, _, k + 1, .cons _ t => paired_drop k t
/-- a def that stands at its name; a method of the class -/
structure FnH (P : Program) (w : World) (K : PySem.W.Frag) (mg : Str → Option Value) (base : Heap) (k : Nat) (x : Str) (ps : List Str) (sp : Sp) (f : Addr) (fd : FuncData) : Prop where
  ok : FnOk P w K mg base CX0 k f fd ps sp
  gl : mg x = some (.ref f)
  kp : PySem.W.keepIn K (.ref f) = true
  bd : Binds K fd ps []
structure MtH (P : Program) (w : World) (K : PySem.W.Frag) (mg : Str → Option Value) (base : Heap) (C : Addr) (k : Nat) (x : Str) (ps : List Str) (sp : Sp) (f : Addr) (fd : FuncData) : Prop where
  ok : FnOk P w K mg base CX0 k f fd ps sp
  mt : Meth K C x f
  bd : Binds K fd ps []
section
variable {P : Program} {w : World} {K : PySem.W.Frag} {mg : Str → Option Value} {base : Heap}
def spLaw (K : PySem.W.Frag) : Sp := fun vs H Q _ => ∃ (a : Addr) (ns : List Int), vs = [.ref a] ∧ SqL K H a (ns.map V.int) ∧ ns.length ≤ 63 ∧ ∀ H', Q (.bl true) H'
theorem iteNot {A B : Prop} {c : Bool} (h : c = true) (b : B) : if (!c) = true then A else B := by
  rw [h]
  exact b
theorem KpAt.same {C : Addr} {H H' : Hp} {p ld dk : Addr} {ls mo : Int} {days : List (List Nat)} {A : List (Nat × Int)} (h : KpAt C H p ld dk ls mo days A) (s : Same H H') : KpAt C H' p ld dk ls mo days A := by
  obtain ⟨⟨dx, la, mn, das, m, h1, h2, h3, h4, h5, h6, h7, h8⟩, sm⟩ := h
  exact ⟨⟨dx, la, mn, das, m, s _ _ h1, h2.same s, h3, s _ _ h4, h5, paired_imp h6 fun _ _ _ e => s _ _ e, s _ _ h7, h8⟩, sm⟩
/-- what holds between two days of the law -/
structure LawAt (C : Addr) (H0 H : Hp) (p ld dk dl la : Addr) (days : List (List Nat)) (A : List (Nat × Int)) : Prop where
  same : Same H0 H
  kpr : ∃ A0, KpAt C H p ld dk 2 3 days A0
  nw : H0 p = none ∧ H0 ld = none ∧ H0 dk = none
  dys : ∃ das : List Addr, H dl = some (.lst (das.map V.ref)) ∧ Paired (DayAt H) das days ∧ ld ∉ das
  nel : dl ≠ ld ∧ la ≠ ld
  ah : PLs H la A
  cl : KM.IsCL days.flatten 2 A
  len : days.length ≤ 3
  sz : ∀ d ∈ days, d.length ≤ 40
theorem ok_law {f C fI fA fD fO fS fU fH fE fG fN : Addr} {fd fdI fdA fdD fdO fdS fdU fdH fdE fdG fdN : FuncData} (F : Fun K "law" "law" sLaw f fd) (T : Txt K mg C) (M : Mk K C fI) (GI : FnOk P w K mg base CX0 1 fI fdI ["self", "many", "least", "most"] (spInit C)) (bI : Binds K fdI ["self", "many", "least", "most"] [])
    (XA : FnH P w K mg base 1 "_law_cell_at" ["_law_script", "_law_k"] (spCellAt K) fA fdA) (XD : FnH P w K mg base 2 "_law_great_day" ["_law_cell", "_law_many"] spDay fD fdD)
    (XO : MtH P w K mg base C 4 "come" ["self", "day"] (spCome C) fO fdO) (XS : MtH P w K mg base C 1 "closed" ["self"] (spClosed C) fS fdS) (XU : MtH P w K mg base C 2 "count" ["self", "lot"] (spCount C) fU fdU) (XH : MtH P w K mg base C 2 "changes" ["self"] (spChanges K C) fH fdH)
    (XE : FnH P w K mg base 2 "_law_closed" ["_law_many", "_law_days", "_law_least"] spLClosed fE fdE) (XG : FnH P w K mg base 1 "_law_changes" ["_law_ahead", "_law_behind"] (spLChanges K) fG fdG) (XN : FnH P w K mg base 1 "_law_count" ["_law_book", "_law_lot"] spLCount fN fdN) :
    FnOk P w K mg base CX0 5 f fd ["_law_script"] (spLaw K) := by
  refine F.ok scLaw (fun vs H Q E h => ?_) (fun cdv A0 outer s H vs Q E hr h => ?_)
  · obtain ⟨a, ns, rfl, _⟩ := h
    rfl
  · obtain ⟨a, ns, rfl, hS, hlen, q⟩ := h
    have nd := scLaw.nd
    have hr1 : Room 1 _ := hr.mono (by decide)
    have hr2 : Room 2 _ := hr.mono (by decide)
    have hu := hr.units
    refine ⟨_, pss_cons (ps_set (i := 1) nd rfl (Or.inl rfl) (pe_make M GI hr2 rfl T.mgC bI .nil pass0 (pa_cons pe_int (pa_cons pe_int (pa_cons pe_int pa_nil)))))
      (pss_cons (ps_set (i := 2) nd rfl (Or.inl rfl) (pe_lst pa_nil))
      (pss_cons (ps_set (i := 3) nd rfl (Or.inl rfl) (pe_lst pa_nil))
      (pss_cons (ps_for PassesOwn.never rfl (pi_range1 rfl T.range (pa_cons pe_int pa_nil)) (pg_name (i := 4) nd rfl (Or.inl rfl))
        (pss_cons (ps_set (i := 5) nd rfl (Or.inl rfl) (pe_call XA.ok hr1 (by rfl) XA.gl XA.kp XA.bd .nil pass0 (pa_cons (pv 0) (pa_cons (pv 4) pa_nil))))
        (pss_cons (ps_set (i := 6) nd rfl (Or.inl rfl) (pe_op op_add (pv 5) (pe_op op_mul pe_int (pv 4))))
        (pss_cons (ps_set (i := 7) nd rfl (Or.inl rfl) (pe_call XD.ok hr2 (by rfl) XD.gl XD.kp XD.bd .nil pass0 (pa_cons (pv 6) (pa_cons (pe_op op_add pe_int (pe_op op_mod (pv 5) (pe_ix ix_list (pe_lst (pa_cons pe_int (pa_cons pe_int pa_nil)))
          (pe_callTy call_int1 (by rfl) T.int (by decide +kernel) (pa_cons (pe_cmpR op_gt (pe_op op_mod (pe_op op_fdiv (pv 6) pe_int) pe_int) pe_int (nomark _)) pa_nil)) (fun _ _ => rfl)))) pa_nil))))
        (pss_cons (ps_expr (pe_meth (pv 1) T.cl XO.mt XO.ok hr XO.bd .nil pass0 (pa_cons (pv 7) pa_nil)))
        (pss_cons (ps_set (i := 2) nd rfl (Or.inl rfl) (pe_slice sl_list (pe_op op_cat (pv 2) (pe_lst (pa_cons (pv 7) pa_nil))) (po_some (pe_un un_neg pe_int)) po_none))
        (pss_cons (ps_set (i := 8) nd rfl (Or.inl rfl) (pe_call XE.ok hr2 (by rfl) XE.gl XE.kp XE.bd .nil pass0 (pa_cons pe_int (pa_cons (pv 2) (pa_cons pe_int pa_nil)))))
        (pss_cons (ps_if (PW.pt (pw_or (pt_cmpR (op_neD hu) (pe_meth0 (pv 1) T.cl XS.mt XS.ok hr1 XS.bd .nil pass0) (pv 8) (nomark _)) (pw_or1 (pt_cmpR (op_neD hu) (pe_meth0 (pv 1) T.cl XH.mt XH.ok hr2 XH.bd .nil pass0)
            (pe_call XG.ok hr1 (by rfl) XG.gl XG.kp XG.bd .nil pass0 (pa_cons (pv 3) (pa_cons (pv 8) pa_nil))) (nomark _))))) (pss_one (ps_ret pe_bl)) pss_nil)
        (pss_cons (ps_set (i := 9) nd rfl (Or.inl rfl) (pe_tup (pa_cons pe_int (pa_cons (pe_lst pa_nil) pa_nil))))
        (pss_cons (ps_for PassesOwn.never rfl (pi_list (pv 2)) (pg_name (i := 10) nd rfl (Or.inl rfl))
          (pss_one (ps_expr (pe_bm PySem.F.plainAttrs_list PySem.F.slot_list_extend PySem.F.type_list_extend mt_extend (pe_ix ix_tup (pv 9) pe_int (fun _ _ => rfl)) (pa_cons (pv 10) pa_nil)))))
        (pss_cons (ps_for PassesOwn.never rfl (pi_list (pe_slice sl_list (pv 7) po_none (po_some pe_int))) (pg_name (i := 11) nd rfl (Or.inl rfl))
          (pss_one (ps_if (pt_cmpR op_ne (pe_meth (pv 1) T.cl XU.mt XU.ok hr2 XU.bd .nil pass0 (pa_cons (pv 11) pa_nil)) (pe_call XN.ok hr1 (by rfl) XN.gl XN.kp XN.bd .nil pass0 (pa_cons (pv 9) (pa_cons (pv 11) pa_nil))) (nomark _)) (pss_one (ps_ret pe_bl)) pss_nil)))
        (pss_one (ps_set (i := 3) nd rfl (Or.inl rfl) (pv 8))))))))))))))
      (pss_one (ps_ret pe_bl))))), ?_⟩
    -- keeper = Keeper(12, 2, 3)
    intro p dx np ndx nex
    refine ⟨p, dx, 12, 2, 3, rfl, upd_same, fun ld dk l0 H1 nld ndk nl0 nal e1 e2 e3 e4 k1 => ⟨rfl, ?_⟩⟩
    have sM : Same H (upd (upd H dx (.own p)) p (.ins C dx [])) := fun b o e => by
      rw [upd_ne (ne_of_none e np), upd_ne (ne_of_none e ndx)]
      exact e
    have s1 : Same H H1 := Keep.same (((Keep.of sM).trans k1).sub fun b hb => by rw [List.mem_singleton.mp hb]; exact .inr np)
    have n0ld : H ld = none := sM.free nld
    have n0dk : H dk = none := sM.free ndk
    have K1 : KpAt C H1 p ld dk 2 3 [] [] := ⟨⟨dx, l0, 12, [], [], e1, ⟨[], e4, .nil⟩, nal, e2, List.not_mem_nil, .nil, e3, KM.KMap.nil⟩, fun b hb => absurd hb List.not_mem_nil⟩
    -- days = []; ahead = []
    refine ⟨Nat.zero_le _, fun dl hdl => ?_⟩
    refine ⟨Nat.zero_le _, fun la hla => ?_⟩
    have nda : dl ≠ la := ne_of_none upd_same hla
    rw [upd_ne nda.symm] at hla
    have s2 : Same H1 (upd (upd H1 dl (.lst [])) la (.lst [])) := Keep.same (((Keep.refl _ _).wn hdl).wn hla)
    have start : LawAt C H (upd (upd H1 dl (.lst [])) la (.lst [])) p ld dk dl la [] [] :=
      ⟨s1.trans s2, ⟨[], K1.same s2⟩, ⟨np, n0ld, n0dk⟩, ⟨[], by rw [upd_ne nda, upd_same]; rfl, .nil, List.not_mem_nil⟩, ⟨(ne_of_none e2 hdl).symm, (ne_of_none e2 hla).symm⟩, ⟨[], upd_same, .nil⟩, KM.IsCL.nil 2, Nat.zero_le _, fun d hd => absurd hd List.not_mem_nil⟩
    -- for k in range(4)
    refine ⟨4, rfl, by decide, by decide, for_range (lo := 0) (n := 4) (fun i σ H2 => ∃ dl la v4 v5 v6 v7 v8 v9 v10 v11 days A, σ = [some (.ref a), some (.ref p), some (.ref dl), some (.ref la), v4, v5, v6, v7, v8, v9, v10, v11] ∧ LawAt C H H2 p ld dk dl la days A)
      ⟨dl, la, none, none, none, none, none, none, none, none, [], [], rfl, start⟩ ?_ ?_⟩
    · clear start s2 nda hla hdl K1 s1
      rintro i σ H2 hi ⟨dl, la, v4, v5, v6, v7, v8, v9, v10, v11, days, A, rfl, ⟨s2, ⟨A1, K2⟩, nw, ⟨das, hdl, hds, nds⟩, ⟨ndl, nla⟩, ah, cl, len, sz⟩⟩
      -- cell, shift, day
      refine ⟨_, rfl, _, rfl, a, ns, 0 + i, rfl, s2.seq hS, fun cz => ?_⟩
      refine ⟨_, rfl, _, rfl, 31, _, rfl, rfl, .inl ⟨by decide, by decide⟩, cz, _, rfl, rfl, ?_⟩
      obtain ⟨nn, en, hn⟩ := many_at cz (decide (0 < (cz + 31 * (0 + (i : Int))) / 31 % 4))
      refine ⟨_, rfl, _, rfl, (by show 2 ≤ sizeLine; decide), fun z hz => ?_⟩
      refine ⟨_, rfl, _, 31, rfl, rfl, ⟨by decide, by decide⟩, _, 4, rfl, rfl, (by show (0 : Int) < 4; decide), _, 0, rfl, rfl, .inr ⟨_, rfl, z, _, _, _, rfl, rfl, SqL.of upd_same, idx _, _, _, rfl, rfl, idx_pos _, 10, _, rfl, rfl, _, nn, congrArg (fun y : Int => [V.int _, V.int y]) en, hn, fun H3 ad day s3 na hd ldy hday => ?_⟩⟩
      have sz2 : Same H2 (upd H2 z (.lst [V.int 7, V.int 31])) := Keep.same ((Keep.refl [] H2).new hz)
      have s23 : Same H2 H3 := sz2.trans s3
      obtain ⟨⟨dx2, lk2, mn2, das2, m2, x1, x2, x3, x4, x5, x6, x7, x8⟩, xsm⟩ := id K2
      have nad : ad ≠ ld := (ne_of_none (sz2 _ _ x4) na).symm
      have fl := flat_len sz
      have flb : days.flatten.length ≤ 120 := by
        have e : 40 * days.length ≤ 40 * 3 := Nat.mul_le_mul_left 40 len
        omega
      -- keeper.come(day)
      refine ⟨_, rfl, p, dx2, _, rfl, s23 _ _ x1, kf_come, _, rfl, p, ad, ld, dk, 2, 3, days, A1, day, rfl, K2.same s23, hd, nad, hday, by omega, by omega, fun H4 A4 CL4 K4 k4 => ?_⟩
      have eA : A4 = A := CL4.uniq cl
      subst eA
      have x1' := s23 _ _ x1
      have x4' := s23 _ _ x4
      have x7' := s23 _ _ x7
      have kd : ∀ {b : Addr} {xs : List V}, H3 b = some (.lst xs) → b ≠ ld → H4 b = some (.lst xs) := fun {b xs} e nb => k4 _ _ e (by
        have y1 : b ≠ p := ne_of e x1' (by intro z; cases z)
        have y2 : b ≠ dk := ne_of e x7' (by intro z; cases z)
        simp [y1, y2, nb])
      have kt : ∀ {b : Addr} {xs : List V}, H3 b = some (.tup xs) → H4 b = some (.tup xs) := fun {b xs} e => k4 _ _ e (by
        have y1 : b ≠ p := ne_of e x1' (by intro z; cases z)
        have y2 : b ≠ dk := ne_of e x7' (by intro z; cases z)
        have y3 : b ≠ ld := ne_of e x4' (by intro z; cases z)
        simp [y1, y2, y3])
      have hdl4 : H4 dl = some (.lst (das.map V.ref)) := kd (s23 _ _ hdl) ndl
      have hd4 : DayAt H4 ad day := kd hd nad
      have hds4 : Paired (DayAt H4) (das ++ [ad]) (days ++ [day]) := paired_snoc (paired_imp hds fun u x hu e => kd (s23 _ _ e) (fun y => nds (y ▸ hu))) hd4
      have nds4 : ld ∉ das ++ [ad] := fun y => by
        rcases List.mem_append.mp y with y | y
        · exact nds y
        · exact nad (List.mem_singleton.mp y).symm
      have ah4 : PLs H4 la A4 := by
        obtain ⟨ts, h1, h2⟩ := ah.same s23
        exact ⟨ts, kd h1 nla, paired_imp h2 fun t p _ e => kt e⟩
      have s4 : Same H H4 := fun b o e => k4 _ _ (s23 _ _ (s2 _ _ e)) (by
        have y1 : b ≠ p := ne_of_none e nw.1
        have y2 : b ≠ ld := ne_of_none e nw.2.1
        have y3 : b ≠ dk := ne_of_none e nw.2.2
        simp [y1, y2, y3])
      -- days = (days + [day])[-3:]
      refine ⟨_, rfl, _, rfl, (by show 1 ≤ sizeLine; decide), fun e he => ?_⟩
      have ne1 : dl ≠ e := ne_of_none hdl4 he
      refine ⟨dl, e, _, _, rfl, rfl, by rw [upd_ne ne1]; exact hdl4, upd_same, by rw [List.length_map, paired_len hds]; exact Nat.le_of_lt (line4096 (by show _ + 1 ≤ _; omega)), fun c hc => ?_⟩
      refine ⟨3, rfl, _, rfl, c, _, rfl, SqL.of upd_same, fun d2 hd2 => ?_⟩
      rw [cut3]
      have eday : (das.map V.ref ++ [V.ref ad]).drop ((das.map V.ref ++ [V.ref ad]).length - 3) = (((das ++ [ad]).drop ((das ++ [ad]).length - 3)).map V.ref) := by
        rw [List.map_drop, List.map_append, List.length_append, List.length_append, List.length_map]
        rfl
      rw [eday]
      have pld := paired_len hds4
      have edays : nxt 3 days day = (days ++ [day]).drop ((das ++ [ad]).length - 3) := by
        rw [pld]
        exact nxt3 len
      generalize hD5 : (das ++ [ad]).drop ((das ++ [ad]).length - 3) = das5
      have hds5 : Paired (DayAt H4) das5 (nxt 3 days day) := by
        rw [edays, ← hD5]
        exact paired_drop _ hds4
      have nds5 : ld ∉ das5 := fun y => nds4 (by
        rw [← hD5] at y
        exact List.mem_of_mem_drop y)
      have len5 : (nxt 3 days day).length ≤ 3 := by
        rw [nxt3 len, List.length_drop, List.length_append, List.length_singleton]
        omega
      have sz5 : ∀ x ∈ nxt 3 days day, x.length ≤ 40 := fun x hx => by
        rw [nxt3 len] at hx
        rcases List.mem_append.mp (List.mem_of_mem_drop hx) with y | y
        · exact sz x y
        · rw [List.mem_singleton.mp y]
          omega
      generalize nxt 3 days day = days5 at K4 edays hds5 len5 sz5
      have s5 : Same H4 (upd (upd (upd H4 e (.lst [V.ref ad])) c (.lst (das.map V.ref ++ [V.ref ad]))) d2 (.lst (das5.map V.ref))) := Keep.same ((((Keep.refl [] H4).new he).new hc).new hd2)
      have nd2 : d2 ≠ ld := by
        obtain ⟨⟨_, _, _, _, _, _, _, _, y4, _⟩, _⟩ := K4
        exact (ne_of_none ((Keep.same (((Keep.refl [] H4).new he).new hc)) _ _ y4) hd2).symm
      have hd5 : (upd (upd (upd H4 e (.lst [V.ref ad])) c (.lst (das.map V.ref ++ [V.ref ad]))) d2 (.lst (das5.map V.ref))) d2 = some (.lst (das5.map V.ref)) := upd_same
      generalize upd (upd (upd H4 e (.lst [V.ref ad])) c (.lst (das.map V.ref ++ [V.ref ad]))) d2 (.lst (das5.map V.ref)) = H5 at s5 hd5
      have fl5 := flat_len sz5
      have flb5 : days5.flatten.length ≤ 120 := by
        have e : 40 * days5.length ≤ 40 * 3 := Nat.mul_le_mul_left 40 len5
        omega
      have lt5 : ∀ b ∈ days5.flatten, b < 4096 := K4.sm
      -- now = _law_closed(12, days, 2)
      refine ⟨_, rfl, d2, das5, days5, 12, 2, rfl, hd5, paired_imp hds5 fun _ _ _ e => s5 _ _ e, lt5, by omega, fun H6 nl L s6 nnl PL6 CL6 => ?_⟩
      have K6 := (K4.same s5).same s6
      obtain ⟨⟨dx6, lk6, mn6, das6, m6, y1, y2, y3, y4, y5, y6, y7, y8⟩, ysm⟩ := id K6
      -- keeper.closed() != now
      refine ⟨_, rfl, p, dx6, _, rfl, y1, kf_closed, p, dx6, ld, dk, lk6, mn6, 2, 3, m6, rfl, y1, y7, y8.ok ysm, fun H7 cb B s7 nb PB pB sB => ?_⟩
      have eB : B = L := (y8.closed pB sB).uniq CL6
      subst eB
      refine ⟨_, rfl, _, _, PB.dp, (PL6.same s7).dp, shaped_pairs B, shaped_pairs B, _, rfl, ?_⟩
      refine iteNot (SeqAt.eqv_refl _ (can_pairs B)) ?_
      -- keeper.changes() != _law_changes(ahead, now)
      have okA4 : KM.Ok A4 := CL4.ok xsm
      refine ⟨_, rfl, p, dx6, _, rfl, s7 _ _ y1, kf_changes, p, dx6, ld, dk, lk6, mn6, 2, 3, m6, A4, rfl, s7 _ _ y1, s7 _ _ y7, y8.ok ysm, y2.same s7, okA4, CL4.up, fun H8 ct B' s8 pB' sB' D8 => ?_⟩
      have eB' : B' = B := (y8.closed pB' sB').uniq CL6
      subst eB'
      have s48 : Same H4 H8 := ((s5.trans s6).trans s7).trans s8
      refine ⟨_, rfl, _, rfl, la, nl, A4, B', rfl, ah4.same s48, (PL6.same s7).same s8, okA4, CL6.ok lt5, CL4.up, CL6.up, fun H9 lt s9 D9 => ?_⟩
      refine ⟨_, _, dp_same s9 _ D8, D9, shaped_chg A4 B', shaped_chg A4 B', _, rfl, ?_⟩
      refine iteNot (SeqAt.eqv_refl _ (SeqAt.canLay_of_shaped (shaped_chg A4 B'))) ?_
      have s49 : Same H4 H9 := s48.trans s9
      have s69 : Same H6 H9 := (s7.trans s8).trans s9
      -- book = (12, [])
      refine ⟨Nat.zero_le _, fun bl hbl => ⟨by show 2 ≤ sizeLine; decide, fun bb hbb => ?_⟩⟩
      have nlb : bl ≠ bb := ne_of_none upd_same hbb
      rw [upd_ne nlb.symm] at hbb
      generalize hB0 : HO.tup [V.int 12, V.ref bl] = tB0
      have bk : ∀ o, (upd (upd H9 bl o) bb tB0) bb = some (.tup [.int 12, .ref bl]) := fun _ => by
        rw [hB0]
        exact upd_same
      have sB : ∀ o, Same H9 (upd (upd H9 bl o) bb tB0) := fun o => Keep.same (((Keep.refl _ _).wn hbl).wn hbb)
      have hd9 : H9 d2 = some (.lst (das5.map V.ref)) := s69 _ _ (s6 _ _ hd5)
      have hds9 : Paired (DayAt H9) das5 days5 := paired_imp hds5 fun _ _ _ e => s49 _ _ e
      -- for one in days: book[1].extend(one)
      refine ⟨_, rfl, d2, rfl, ⟨_, SqL.of (sB _ _ _ hd9)⟩, for_list (K := K) (a := d2) (xs := das5.map V.ref) (fun j σ HJ => ∃ v10, σ = [some (.ref a), some (.ref p), some (.ref d2), some (.ref la), some (.int (0 + (i : Int))), some (.int cz), some (.int (cz + 31 * (0 + (i : Int)))), some (.ref ad), some (.ref nl), some (.ref bb), v10, v11] ∧
          HJ = upd (upd H9 bl (.lst (lots (days5.take j).flatten))) bb tB0)
        ⟨v10, rfl, rfl⟩ (fun j σ HJ _ h => by
          obtain ⟨_, _, e⟩ := h
          rw [e]
          exact SqL.of (sB _ _ _ hd9)) ?_ ?_⟩
      · rintro j y σ HJ hj ⟨v10, rfl, rfl⟩
        rw [List.getElem?_map] at hj
        cases e : das5[j]? with
        | none => rw [e] at hj; cases hj
        | some u =>
          rw [e] at hj
          cases hj
          obtain ⟨d, e2, hu⟩ := paired_at hds9 e
          obtain ⟨ef, el⟩ := flat_take e2
          have hl2 : (upd (upd H9 bl (.lst (lots (days5.take j).flatten))) bb tB0) bl = some (.lst (lots (days5.take j).flatten)) := by
            rw [upd_ne nlb, upd_same]
          refine ⟨_, rfl, bb, _, 1, _, rfl, rfl, SqT.of (bk _), at_of (j := 1) rfl rfl, .inl ⟨rfl, _, SqL.of hl2⟩, _, rfl, bl, u, _, _, rfl, rfl, hl2, sB _ _ _ hu, ?_, ?_⟩
          · rw [lots_len, lots_len]
            rw [List.length_append] at el
            exact Nat.le_of_lt (line4096 (by omega))
          · refine ⟨_, rfl, ?_⟩
            funext c
            rw [ef, lots_app]
            by_cases c1 : c = bl
            · rw [c1, upd_same, upd_ne nlb, upd_same]
            · rw [upd_ne c1]
              by_cases c2 : c = bb
              · rw [c2, upd_same, upd_same]
              · rw [upd_ne c2, upd_ne c2, upd_ne c1, upd_ne c1]
      · rintro σ HJ ⟨v10, rfl, rfl⟩
        have er : days5.take (das5.map V.ref).length = days5 := by
          rw [List.length_map, paired_len hds5]
          exact List.take_length
        rw [er]
        have sJ := sB (.lst (lots days5.flatten))
        have bJ : (upd (upd H9 bl (.lst (lots days5.flatten))) bb tB0) bb = some (.tup [.int 12, .ref bl]) := bk _
        have lJ : LotsAt (upd (upd H9 bl (.lst (lots days5.flatten))) bb tB0) bl days5.flatten := by
          show upd _ _ _ bl = _
          rw [upd_ne nlb, upd_same]
        generalize upd (upd H9 bl (.lst (lots days5.flatten))) bb tB0 = HJ at sJ bJ lJ
        have s4J : Same H4 HJ := s49.trans sJ
        -- for basket in day[:8]
        refine ⟨_, rfl, 8, rfl, ad, _, rfl, SqL.of (s4J _ _ hd4), fun d8 hd8 => ?_⟩
        have e8 : cutV (lots day) none (some 8) = lots (day.take 8) := by
          rw [cut8]
          exact List.map_take.symm
        rw [e8]
        have s8' : Same HJ (upd HJ d8 (.lst (lots (day.take 8)))) := Keep.same ((Keep.refl _ _).new hd8)
        have hd8' : (upd HJ d8 (.lst (lots (day.take 8)))) d8 = some (.lst (lots (day.take 8))) := upd_same
        generalize upd HJ d8 (.lst (lots (day.take 8))) = HK at s8' hd8'
        refine ⟨d8, rfl, ⟨_, SqL.of hd8'⟩, for_list (K := K) (a := d8) (xs := lots (day.take 8)) (fun j σ HL => ∃ v11, σ = [some (.ref a), some (.ref p), some (.ref d2), some (.ref la), some (.int (0 + (i : Int))), some (.int cz), some (.int (cz + 31 * (0 + (i : Int)))), some (.ref ad), some (.ref nl), some (.ref bb), v10, v11] ∧ Same HK HL)
          ⟨v11, rfl, Same.refl _⟩ (fun j σ HL _ h => SqL.of (h.choose_spec.2 _ _ hd8')) ?_ ?_⟩
        · rintro j y σ HL hj ⟨v11, rfl, sL⟩
          obtain ⟨n, e3, rfl⟩ := lots_at hj
          have s6L : Same H6 HL := ((s69.trans sJ).trans s8').trans sL
          refine ⟨_, rfl, p, dx6, _, rfl, s6L _ _ y1, kf_count, _, rfl, p, dx6, ld, dk, lk6, mn6, 2, 3, m6, days5.flatten, n, rfl, s6L _ _ y1, s6L _ _ y7, y8, (y8.ok ysm).len, fun HM sM => ?_⟩
          have sJM : Same HJ HM := (s8'.trans sL).trans sM
          refine ⟨_, rfl, _, rfl, bb, bl, _, days5.flatten, n, rfl, sJM _ _ bJ, sJM _ _ lJ, by omega, fun HN sN => ?_⟩
          refine ⟨rfl, _, rfl, ?_⟩
          refine iteNot (decide_eq_true rfl) ?_
          exact ⟨_, rfl, (sL.trans sM).trans sN⟩
        · rintro σ HL ⟨v11, rfl, sL⟩
          -- ahead = now
          have s4L : Same H4 HL := (s4J.trans s8').trans sL
          have s6L : Same H6 HL := ((s69.trans sJ).trans s8').trans sL
          have nnl' : nl ≠ ld := by
            obtain ⟨⟨_, _, _, _, _, _, _, _, z4, _⟩, _⟩ := K4
            exact (ne_of_none (s5 _ _ z4) nnl).symm
          exact ⟨_, rfl, d2, nl, _, _, _, _, _, _, _, _, days5, B', rfl, ⟨s4.trans s4L, ⟨_, K6.same s6L⟩, nw, ⟨das5, s6L _ _ (s6 _ _ hd5), paired_imp hds5 fun _ _ _ e => s4L _ _ e, nds5⟩, ⟨nd2, nnl'⟩, PL6.same s6L, CL6, len5, sz5⟩⟩
    · rintro σ H2 ⟨dl, la, v4, v5, v6, v7, v8, v9, v10, v11, days, A, rfl, _⟩
      exact q H2
end
end Kp

namespace Kp
open PySem PySem.Spec PyProof.Rows L2
/-! ### what the top has written, each a fact that k_is finds -/
theorem all_mk {l : PySem.W.OpenLaw} {w : World} {K : PySem.W.Frag} {h : Heap} {mg : Str → Option Value} {fa C f1 f2 f3 f4 f5 f6 f7 f8 f9 f10 f11 f12 f13 f14 f15 f16 f17 : Addr} (X : K.In h) (G : h.Ns mainGlobals mg) (hfa : mg "law" = some (.ref fa))
    {od1 od2 od3 od4 od5 od6 od7 od8 od9 od10 od11 od12 od13 od14 od15 od16 od17 an1 an2 an3 an4 an5 an6 an7 an8 an9 an10 an11 an12 an13 an14 an15 an16 an17 : Option Addr} {sl1 sl2 sl3 sl4 sl5 sl6 sl7 sl8 sl9 sl10 sl11 sl12 sl13 sl14 sl15 sl16 sl17 : Array (Option Value)}
    {oc1 oc2 oc3 oc4 oc5 oc6 oc7 oc8 oc9 oc10 oc11 oc12 oc13 oc14 oc15 oc16 oc17 kV1 kV2 kV3 kV4 kV5 kV6 kV7 kV8 kV9 kV10 kV11 kV12 kV13 kV14 kV15 kV16 kV17 dc1 dc2 dc3 dc4 dc5 dc6 dc7 dc8 dc9 dc10 dc11 dc12 dc13 dc14 dc15 dc16 dc17 pm1 pm2 pm3 pm4 pm5 pm6 pm7 pm8 pm9 pm10 pm11 pm12 pm13 pm14 pm15 pm16 pm17 cd1 cd2 cd3 cd4 cd5 cd6 cd7 cd8 cd9 cd10 cd11 cd12 cd13 cd14 cd15 cd16 cd17 ct1 ct2 ct3 ct4 ct5 ct6 ct7 ct8 ct9 ct10 ct11 ct12 ct13 ct14 ct15 ct16 ct17 : Value}
    (aC : PySem.W.nsIn K mainGlobals "Keeper" = some (some (.ref C)))
    (a1 : PySem.W.findIn K (.ref C) "__init__" = some (some (.ref f1))) (i1 : PySem.W.isFn K (.ref f1) = true)
    (l1 : K.lookup f1 = some ⟨oc1, od1, .func (PySem.W.fnOf "__init__" "Keeper.__init__" (defArgs sInit) (defBody sInit) (defScope sInit) .none kV1 dc1 pm1 an1 cd1 ct1), sl1⟩)
    (c1 : PySem.W.codeIn K cd1 "Keeper.__init__" = true) (k1 : PySem.W.keepIn K (.ref f1) = true)
    (a2 : PySem.W.findIn K (.ref C) "basket_comes" = some (some (.ref f2))) (i2 : PySem.W.isFn K (.ref f2) = true)
    (l2 : K.lookup f2 = some ⟨oc2, od2, .func (PySem.W.fnOf "basket_comes" "Keeper.basket_comes" (defArgs sComes) (defBody sComes) (defScope sComes) .none kV2 dc2 pm2 an2 cd2 ct2), sl2⟩)
    (c2 : PySem.W.codeIn K cd2 "Keeper.basket_comes" = true) (k2 : PySem.W.keepIn K (.ref f2) = true)
    (a3 : PySem.W.findIn K (.ref C) "basket_goes" = some (some (.ref f3))) (i3 : PySem.W.isFn K (.ref f3) = true)
    (l3 : K.lookup f3 = some ⟨oc3, od3, .func (PySem.W.fnOf "basket_goes" "Keeper.basket_goes" (defArgs sGoes) (defBody sGoes) (defScope sGoes) .none kV3 dc3 pm3 an3 cd3 ct3), sl3⟩)
    (c3 : PySem.W.codeIn K cd3 "Keeper.basket_goes" = true) (k3 : PySem.W.keepIn K (.ref f3) = true)
    (a4 : PySem.W.findIn K (.ref C) "is_gone" = some (some (.ref f4))) (i4 : PySem.W.isFn K (.ref f4) = true)
    (l4 : K.lookup f4 = some ⟨oc4, od4, .func (PySem.W.fnOf "is_gone" "Keeper.is_gone" (defArgs sGone) (defBody sGone) (defScope sGone) .none kV4 dc4 pm4 an4 cd4 ct4), sl4⟩)
    (c4 : PySem.W.codeIn K cd4 "Keeper.is_gone" = true) (k4 : PySem.W.keepIn K (.ref f4) = true)
    (a5 : PySem.W.findIn K (.ref C) "day_goes" = some (some (.ref f5))) (i5 : PySem.W.isFn K (.ref f5) = true)
    (l5 : K.lookup f5 = some ⟨oc5, od5, .func (PySem.W.fnOf "day_goes" "Keeper.day_goes" (defArgs sDayGoes) (defBody sDayGoes) (defScope sDayGoes) .none kV5 dc5 pm5 an5 cd5 ct5), sl5⟩)
    (c5 : PySem.W.codeIn K cd5 "Keeper.day_goes" = true) (k5 : PySem.W.keepIn K (.ref f5) = true)
    (a6 : PySem.W.findIn K (.ref C) "come" = some (some (.ref f6))) (i6 : PySem.W.isFn K (.ref f6) = true)
    (l6 : K.lookup f6 = some ⟨oc6, od6, .func (PySem.W.fnOf "come" "Keeper.come" (defArgs sCome) (defBody sCome) (defScope sCome) .none kV6 dc6 pm6 an6 cd6 ct6), sl6⟩)
    (c6 : PySem.W.codeIn K cd6 "Keeper.come" = true) (k6 : PySem.W.keepIn K (.ref f6) = true)
    (a7 : PySem.W.findIn K (.ref C) "closed" = some (some (.ref f7))) (i7 : PySem.W.isFn K (.ref f7) = true)
    (l7 : K.lookup f7 = some ⟨oc7, od7, .func (PySem.W.fnOf "closed" "Keeper.closed" (defArgs sClosed) (defBody sClosed) (defScope sClosed) .none kV7 dc7 pm7 an7 cd7 ct7), sl7⟩)
    (c7 : PySem.W.codeIn K cd7 "Keeper.closed" = true) (k7 : PySem.W.keepIn K (.ref f7) = true)
    (a8 : PySem.W.findIn K (.ref C) "count" = some (some (.ref f8))) (i8 : PySem.W.isFn K (.ref f8) = true)
    (l8 : K.lookup f8 = some ⟨oc8, od8, .func (PySem.W.fnOf "count" "Keeper.count" (defArgs sCount) (defBody sCount) (defScope sCount) .none kV8 dc8 pm8 an8 cd8 ct8), sl8⟩)
    (c8 : PySem.W.codeIn K cd8 "Keeper.count" = true) (k8 : PySem.W.keepIn K (.ref f8) = true)
    (a9 : PySem.W.findIn K (.ref C) "changes" = some (some (.ref f9))) (i9 : PySem.W.isFn K (.ref f9) = true)
    (l9 : K.lookup f9 = some ⟨oc9, od9, .func (PySem.W.fnOf "changes" "Keeper.changes" (defArgs sChanges) (defBody sChanges) (defScope sChanges) .none kV9 dc9 pm9 an9 cd9 ct9), sl9⟩)
    (c9 : PySem.W.codeIn K cd9 "Keeper.changes" = true) (k9 : PySem.W.keepIn K (.ref f9) = true)
    (a10 : PySem.W.nsIn K mainGlobals "is_within" = some (some (.ref f10)))
    (l10 : K.lookup f10 = some ⟨oc10, od10, .func (PySem.W.fnOf "is_within" "is_within" (defArgs sWithin) (defBody sWithin) (defScope sWithin) .none kV10 dc10 pm10 an10 cd10 ct10), sl10⟩)
    (c10 : PySem.W.codeIn K cd10 "is_within" = true) (k10 : PySem.W.keepIn K (.ref f10) = true)
    (a11 : PySem.W.nsIn K mainGlobals "_law_cell_at" = some (some (.ref f11)))
    (l11 : K.lookup f11 = some ⟨oc11, od11, .func (PySem.W.fnOf "_law_cell_at" "_law_cell_at" (defArgs sCellAt) (defBody sCellAt) (defScope sCellAt) .none kV11 dc11 pm11 an11 cd11 ct11), sl11⟩)
    (c11 : PySem.W.codeIn K cd11 "_law_cell_at" = true) (k11 : PySem.W.keepIn K (.ref f11) = true)
    (a12 : PySem.W.nsIn K mainGlobals "_law_draws" = some (some (.ref f12)))
    (l12 : K.lookup f12 = some ⟨oc12, od12, .func (PySem.W.fnOf "_law_draws" "_law_draws" (defArgs sDraws) (defBody sDraws) (defScope sDraws) .none kV12 dc12 pm12 an12 cd12 ct12), sl12⟩)
    (c12 : PySem.W.codeIn K cd12 "_law_draws" = true) (k12 : PySem.W.keepIn K (.ref f12) = true)
    (a13 : PySem.W.nsIn K mainGlobals "_law_count" = some (some (.ref f13)))
    (l13 : K.lookup f13 = some ⟨oc13, od13, .func (PySem.W.fnOf "_law_count" "_law_count" (defArgs sLCount) (defBody sLCount) (defScope sLCount) .none kV13 dc13 pm13 an13 cd13 ct13), sl13⟩)
    (c13 : PySem.W.codeIn K cd13 "_law_count" = true) (k13 : PySem.W.keepIn K (.ref f13) = true)
    (a14 : PySem.W.nsIn K mainGlobals "_law_closed" = some (some (.ref f14)))
    (l14 : K.lookup f14 = some ⟨oc14, od14, .func (PySem.W.fnOf "_law_closed" "_law_closed" (defArgs sLClosed) (defBody sLClosed) (defScope sLClosed) .none kV14 dc14 pm14 an14 cd14 ct14), sl14⟩)
    (c14 : PySem.W.codeIn K cd14 "_law_closed" = true) (k14 : PySem.W.keepIn K (.ref f14) = true)
    (a15 : PySem.W.nsIn K mainGlobals "_law_changes" = some (some (.ref f15)))
    (l15 : K.lookup f15 = some ⟨oc15, od15, .func (PySem.W.fnOf "_law_changes" "_law_changes" (defArgs sLChanges) (defBody sLChanges) (defScope sLChanges) .none kV15 dc15 pm15 an15 cd15 ct15), sl15⟩)
    (c15 : PySem.W.codeIn K cd15 "_law_changes" = true) (k15 : PySem.W.keepIn K (.ref f15) = true)
    (a16 : PySem.W.nsIn K mainGlobals "_law_great_day" = some (some (.ref f16)))
    (l16 : K.lookup f16 = some ⟨oc16, od16, .func (PySem.W.fnOf "_law_great_day" "_law_great_day" (defArgs sDay) (defBody sDay) (defScope sDay) .none kV16 dc16 pm16 an16 cd16 ct16), sl16⟩)
    (c16 : PySem.W.codeIn K cd16 "_law_great_day" = true) (k16 : PySem.W.keepIn K (.ref f16) = true)
    (a17 : PySem.W.nsIn K mainGlobals "law" = some (some (.ref f17)))
    (l17 : K.lookup f17 = some ⟨oc17, od17, .func (PySem.W.fnOf "law" "law" (defArgs sLaw) (defBody sLaw) (defScope sLaw) .none kV17 dc17 pm17 an17 cd17 ct17), sl17⟩)
    (c17 : PySem.W.codeIn K cd17 "law" = true) (k17 : PySem.W.keepIn K (.ref f17) = true)
    (pg : PySem.W.plainGet K C Str.empty = true) (hd : PySem.W.hasDictIn K C = true) (po : PySem.W.plainOver K C = true) (sa : PySem.W.findIn K (.ref C) "__setattr__" = some (some (.builtin "object.__setattr__"))) (mk : PySem.W.makesIn K C = true) (kc : PySem.W.keepIn K (.ref C) = true)
    (n1 : PySem.W.findIn K (.ref C) "many" = some none) (n2 : PySem.W.findIn K (.ref C) "least" = some none) (n3 : PySem.W.findIn K (.ref C) "most" = some none) (n4 : PySem.W.findIn K (.ref C) "kept_days" = some none) (n5 : PySem.W.findIn K (.ref C) "kept" = some none) (n6 : PySem.W.findIn K (.ref C) "ahead" = some none)
    (z1 : PySem.W.nsIn K mainGlobals "len" = some none) (z2 : PySem.W.nsIn K mainGlobals "max" = some none) (z3 : PySem.W.nsIn K mainGlobals "list" = some none) (z4 : PySem.W.nsIn K mainGlobals "sorted" = some none) (z5 : PySem.W.nsIn K mainGlobals "range" = some none) (z6 : PySem.W.nsIn K mainGlobals "abs" = some none) (z7 : PySem.W.nsIn K mainGlobals "int" = some none) (z8 : PySem.W.nsIn K mainGlobals "dict" = some none) :
    ∃ fd : FuncData, (∀ (s : Shared) (v : Value), BindsTo s fd ⟨[v], []⟩ [("_law_script", v)]) ∧ ∀ base : Heap, K.In base → base.Ns mainGlobals mg → FnOk l.prog w K mg base CX0 5 fa fd ["_law_script"] (spLaw K) := by
  have e := hfa.symm.trans (PySem.W.mg_of X G a17)
  cases e
  have T : Txt K mg C := ⟨⟨pg, hd, po, sa⟩, n1, n2, n3, n4, n5, n6, PySem.W.mg_of X G aC, PySem.W.mg_none_of X G z1, PySem.W.mg_none_of X G z2, PySem.W.mg_none_of X G z3, PySem.W.mg_none_of X G z4, PySem.W.mg_none_of X G z5, PySem.W.mg_none_of X G z6, PySem.W.mg_none_of X G z7, PySem.W.mg_none_of X G z8⟩
  have F1 := fun_mk (st := sInit) l1 c1 k1
  have b1 := F1.binds (ps := ["self", "many", "least", "most"]) fun _ _ _ _ _ _ us hl => match us, hl with | [_, _, _, _], _ => rfl
  have F2 := fun_mk (st := sComes) l2 c2 k2
  have b2 := F2.binds (ps := ["self", "basket"]) fun _ _ _ _ _ _ us hl => match us, hl with | [_, _], _ => rfl
  have F3 := fun_mk (st := sGoes) l3 c3 k3
  have b3 := F3.binds (ps := ["self", "basket"]) fun _ _ _ _ _ _ us hl => match us, hl with | [_, _], _ => rfl
  have F4 := fun_mk (st := sGone) l4 c4 k4
  have b4 := F4.binds (ps := ["self", "lot", "there"]) fun _ _ _ _ _ _ us hl => match us, hl with | [_, _, _], _ => rfl
  have F5 := fun_mk (st := sDayGoes) l5 c5 k5
  have b5 := F5.binds (ps := ["self"]) fun _ _ _ _ _ _ us hl => match us, hl with | [_], _ => rfl
  have F6 := fun_mk (st := sCome) l6 c6 k6
  have b6 := F6.binds (ps := ["self", "day"]) fun _ _ _ _ _ _ us hl => match us, hl with | [_, _], _ => rfl
  have F7 := fun_mk (st := sClosed) l7 c7 k7
  have b7 := F7.binds (ps := ["self"]) fun _ _ _ _ _ _ us hl => match us, hl with | [_], _ => rfl
  have F8 := fun_mk (st := sCount) l8 c8 k8
  have b8 := F8.binds (ps := ["self", "lot"]) fun _ _ _ _ _ _ us hl => match us, hl with | [_, _], _ => rfl
  have F9 := fun_mk (st := sChanges) l9 c9 k9
  have b9 := F9.binds (ps := ["self"]) fun _ _ _ _ _ _ us hl => match us, hl with | [_], _ => rfl
  have F10 := fun_mk (st := sWithin) l10 c10 k10
  have b10 := F10.binds (ps := ["one", "other"]) fun _ _ _ _ _ _ us hl => match us, hl with | [_, _], _ => rfl
  have F11 := fun_mk (st := sCellAt) l11 c11 k11
  have b11 := F11.binds (ps := ["_law_script", "_law_k"]) fun _ _ _ _ _ _ us hl => match us, hl with | [_, _], _ => rfl
  have F12 := fun_mk (st := sDraws) l12 c12 k12
  have b12 := F12.binds (ps := ["_law_cell", "_law_many", "_law_base"]) fun _ _ _ _ _ _ us hl => match us, hl with | [_, _, _], _ => rfl
  have F13 := fun_mk (st := sLCount) l13 c13 k13
  have b13 := F13.binds (ps := ["_law_book", "_law_lot"]) fun _ _ _ _ _ _ us hl => match us, hl with | [_, _], _ => rfl
  have F14 := fun_mk (st := sLClosed) l14 c14 k14
  have b14 := F14.binds (ps := ["_law_many", "_law_days", "_law_least"]) fun _ _ _ _ _ _ us hl => match us, hl with | [_, _, _], _ => rfl
  have F15 := fun_mk (st := sLChanges) l15 c15 k15
  have b15 := F15.binds (ps := ["_law_ahead", "_law_behind"]) fun _ _ _ _ _ _ us hl => match us, hl with | [_, _], _ => rfl
  have F16 := fun_mk (st := sDay) l16 c16 k16
  have b16 := F16.binds (ps := ["_law_cell", "_law_many"]) fun _ _ _ _ _ _ us hl => match us, hl with | [_, _], _ => rfl
  have F17 := fun_mk (st := sLaw) l17 c17 k17
  have g10 := PySem.W.mg_of X G a10
  have g11 := PySem.W.mg_of X G a11
  have g12 := PySem.W.mg_of X G a12
  have g13 := PySem.W.mg_of X G a13
  have g14 := PySem.W.mg_of X G a14
  have g15 := PySem.W.mg_of X G a15
  have g16 := PySem.W.mg_of X G a16
  have m2 : Meth K C "basket_comes" f2 := ⟨a2, i2, k2⟩
  have m3 : Meth K C "basket_goes" f3 := ⟨a3, i3, k3⟩
  have m4 : Meth K C "is_gone" f4 := ⟨a4, i4, k4⟩
  have m5 : Meth K C "day_goes" f5 := ⟨a5, i5, k5⟩
  have m6 : Meth K C "come" f6 := ⟨a6, i6, k6⟩
  have m7 : Meth K C "closed" f7 := ⟨a7, i7, k7⟩
  have m8 : Meth K C "count" f8 := ⟨a8, i8, k8⟩
  have m9 : Meth K C "changes" f9 := ⟨a9, i9, k9⟩
  refine ⟨PySem.W.fnOf "law" "law" (defArgs sLaw) (defBody sLaw) (defScope sLaw) .none kV17 dc17 pm17 an17 cd17 ct17, fun s v => .of_eq rfl, fun base _ _ => ?_⟩
  exact ok_law F17 T ⟨mk, a1, i1, kc⟩ (ok_init F1 T) b1
    ⟨ok_cellAt F11 T.len, g11, k11, b11⟩
    ⟨ok_day F16 F12 b12 g12 T.range T.abs T.len, g16, k16, b16⟩
    ⟨ok_come F6 T F10 b10 g10 F3 b3 m3 F4 b4 m4 F7 b7 m7 F2 b2 m2 F5 b5 m5, m6, b6⟩
    ⟨ok_closed F7 T, m7, b7⟩
    ⟨ok_count F8 T F10 b10 g10, m8, b8⟩
    ⟨ok_changes F9 T F7 b7 m7, m9, b9⟩
    ⟨ok_lclosed F14 F13 b13 g13 T.len T.list T.sorted, g14, k14, b14⟩
    ⟨ok_lchanges F15 T.dict T.sorted, g15, k15, b15⟩
    ⟨ok_lcount F13 T.len, g13, k13, b13⟩
theorem walk {l : PySem.W.OpenLaw} {q : Program} {loose : List Str} {XP : (Str → Option Value) → Heap → Prop} {YP : World → Heap → Prop} {d : DefRec} {K : Params → PySem.W.Frag} (hn : l.most = some 63) (hdf : d.params.defaults = [])
    (hY : ∀ (w : World) (h : Heap), YP w h → (K w.params).In h)
    (F : ∀ (w : World) (mg : Str → Option Value) (fa : Addr) (h : Heap), (K w.params).In h → h.Ns mainGlobals mg → mg d.name = some (.ref fa) →
      ∃ fd : FuncData, (∀ (s : Shared) (u : Value), BindsTo s fd ⟨[u], []⟩ [("_law_script", u)]) ∧ ∀ base : Heap, (K w.params).In base → base.Ns mainGlobals mg → FnOk l.prog w (K w.params) mg base CX0 5 fa fd ["_law_script"] (spLaw (K w.params))) :
    PySem.W.WalkO q loose XP YP l.row.toRowW d [] (fun f vs => PySem.call f vs) :=
  L2.walk_of (n := 63) (k := 5) (x := "_law_script") (CX := fun _ => CX0) (sp := fun w => spLaw (K w.params)) hn (by decide) hdf ⟨rfl, by decide, by decide⟩ hY F (fun _ _ a ns hl _ hS => ⟨a, ns, rfl, hS, hl, fun _ => rfl⟩) fun _ _ _ _ _ z => z
end Kp
open PySem PySem.W PyProof.Rows in
set_option maxRecDepth 100000 in
set_option maxHeartbeats 0 in
theorem PySem.Challenge.cw_oftenlots_k32_whole_days_that_come_and_g_holds : PySem.Challenge.rw_oftenlots_k32_whole_days_that_come_and_g.Holds := by
  w_on; o_law; k_head; (case hw => w_witness2)
  k_fill
  refine Kp.walk (l := PySem.Challenge.rw_oftenlots_k32_whole_days_that_come_and_g) rfl rfl (fun w h Y => PySem.W.kIn_of Y) ?F
  case F =>
    intro w mg fa h KX G hmg
    refine' Kp.all_mk KX G hmg ?aC ?a1 ?i1 ?l1 ?c1 ?k1 ?a2 ?i2 ?l2 ?c2 ?k2 ?a3 ?i3 ?l3 ?c3 ?k3 ?a4 ?i4 ?l4 ?c4 ?k4 ?a5 ?i5 ?l5 ?c5 ?k5 ?a6 ?i6 ?l6 ?c6 ?k6 ?a7 ?i7 ?l7 ?c7 ?k7 ?a8 ?i8 ?l8 ?c8 ?k8 ?a9 ?i9 ?l9 ?c9 ?k9 ?a10 ?l10 ?c10 ?k10 ?a11 ?l11 ?c11 ?k11 ?a12 ?l12 ?c12 ?k12 ?a13 ?l13 ?c13 ?k13 ?a14 ?l14 ?c14 ?k14 ?a15 ?l15 ?c15 ?k15 ?a16 ?l16 ?c16 ?k16 ?a17 ?l17 ?c17 ?k17 ?pg ?hd ?po ?sa ?mk ?kc ?n1 ?n2 ?n3 ?n4 ?n5 ?n6 ?z1 ?z2 ?z3 ?z4 ?z5 ?z6 ?z7 ?z8
    (case aC => k_is)
    (case a1 => k_is)
    (case i1 => k_is)
    (case l1 => k_is)
    (case c1 => k_is)
    (case k1 => k_is)
    (case a2 => k_is)
    (case i2 => k_is)
    (case l2 => k_is)
    (case c2 => k_is)
    (case k2 => k_is)
    (case a3 => k_is)
    (case i3 => k_is)
    (case l3 => k_is)
    (case c3 => k_is)
    (case k3 => k_is)
    (case a4 => k_is)
    (case i4 => k_is)
    (case l4 => k_is)
    (case c4 => k_is)
    (case k4 => k_is)
    (case a5 => k_is)
    (case i5 => k_is)
    (case l5 => k_is)
    (case c5 => k_is)
    (case k5 => k_is)
    (case a6 => k_is)
    (case i6 => k_is)
    (case l6 => k_is)
    (case c6 => k_is)
    (case k6 => k_is)
    (case a7 => k_is)
    (case i7 => k_is)
    (case l7 => k_is)
    (case c7 => k_is)
    (case k7 => k_is)
    (case a8 => k_is)
    (case i8 => k_is)
    (case l8 => k_is)
    (case c8 => k_is)
    (case k8 => k_is)
    (case a9 => k_is)
    (case i9 => k_is)
    (case l9 => k_is)
    (case c9 => k_is)
    (case k9 => k_is)
    (case a10 => k_is)
    (case l10 => k_is)
    (case c10 => k_is)
    (case k10 => k_is)
    (case a11 => k_is)
    (case l11 => k_is)
    (case c11 => k_is)
    (case k11 => k_is)
    (case a12 => k_is)
    (case l12 => k_is)
    (case c12 => k_is)
    (case k12 => k_is)
    (case a13 => k_is)
    (case l13 => k_is)
    (case c13 => k_is)
    (case k13 => k_is)
    (case a14 => k_is)
    (case l14 => k_is)
    (case c14 => k_is)
    (case k14 => k_is)
    (case a15 => k_is)
    (case l15 => k_is)
    (case c15 => k_is)
    (case k15 => k_is)
    (case a16 => k_is)
    (case l16 => k_is)
    (case c16 => k_is)
    (case k16 => k_is)
    (case a17 => k_is)
    (case l17 => k_is)
    (case c17 => k_is)
    (case k17 => k_is)
    (case pg => k_is)
    (case hd => k_is)
    (case po => k_is)
    (case sa => k_is)
    (case mk => k_is)
    (case kc => k_is)
    (case n1 => k_is)
    (case n2 => k_is)
    (case n3 => k_is)
    (case n4 => k_is)
    (case n5 => k_is)
    (case n6 => k_is)
    (case z1 => k_is)
    (case z2 => k_is)
    (case z3 => k_is)
    (case z4 => k_is)
    (case z5 => k_is)
    (case z6 => k_is)
    (case z7 => k_is)
    (case z8 => k_is)

