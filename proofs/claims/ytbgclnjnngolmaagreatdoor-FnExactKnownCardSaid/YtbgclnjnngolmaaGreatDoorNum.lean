/- Numbers as texts, words with something between them: the reference's numeral and strconv.Itoa's are one; loops that put words together. No condition but that numbers are ints. -/
import Derived.Test.YtbgclnjnngolmaaGreatDoorGen
import Derived.Test.YtbgclnjnngolmaaGreatDoorPspecl01Parts
import Derived.Test.YtbgclnjnngolmaaGreatDoorPstrconvItoa
import Derived.Test.YtbgclnjnngolmaaGreatDoorPstringsJoin
import Derived.Lib.ItoaLen
import Derived.Laws.Strings
namespace Go.Proofs.YtbgclnjnngolmaaGreatDoor.Pure
open Go.RowKit Go.Proofs.YtbgclnjnngolmaaGreatDoor.P Go.Proofs.YtbgclnjnngolmaaGreatDoor.Gen Go.Proofs.YtbgclnjnngolmaaGreatDoorW.PrintWords

/-- A string out of its bytes. -/
def mk (l : List UInt8) : ByteArray := ⟨l.toArray⟩
theorem mk_append (a b : List UInt8) : mk a ++ mk b = mk (a ++ b) := by
  apply ByteArray.ext
  rw [ByteArray.data_append]
  simp [mk]
theorem mk_size (l : List UInt8) : (mk l).size = l.length := by simp [mk, ByteArray.size]
theorem mk_list (l : List UInt8) : (mk l).data.toList = l := by simp [mk]
theorem list_mk (s : ByteArray) : mk s.data.toList = s := by cases s; simp [mk]
theorem mk_inj {a b : List UInt8} (h : mk a = mk b) : a = b := by
  have := congrArg (fun s : ByteArray => s.data.toList) h
  simpa [mk] using this

/-- The digits of a number, none for 0. -/
def digs (u : Nat) : List UInt8 := if u = 0 then [] else Go.Lib.decDigits u
theorem digs_step (u : Nat) (h : 0 < u) : digs u = digs (u / 10) ++ [UInt8.ofNat (48 + u % 10)] := by
  unfold digs
  rw [if_neg (by omega)]
  by_cases c : u < 10
  · rw [Go.Lib.decDigits, dif_pos c, if_pos (by omega), Nat.mod_eq_of_lt c]
    rfl
  · rw [Go.Lib.decDigits, dif_neg c, if_neg (by omega)]
theorem digs_len (d : Nat) : ∀ u, u < 10 ^ d → (digs u).length ≤ d := by
  induction d with
  | zero =>
    intro u h
    obtain rfl : u = 0 := by simpa using h
    simp [digs]
  | succ d ih =>
    intro u h
    by_cases c : u = 0
    · simp [digs, c]
    · rw [digs_step u (by omega), List.length_append]
      have := ih (u / 10) (by rw [Nat.pow_succ] at h; omega)
      simp only [List.length_cons, List.length_nil]
      omega

theorem tmod_neg (u : Nat) : Int.tmod (-(u : Int)) 10 = -((u % 10 : Nat) : Int) := by
  rw [Int.neg_tmod, Int.tmod_eq_emod_of_nonneg (by omega)]
  omega
theorem tdiv_neg (u : Nat) : Int.tdiv (-(u : Int)) 10 = -((u / 10 : Nat) : Int) := by
  rw [Int.neg_tdiv, Int.tdiv_eq_ediv_of_nonneg (by omega)]
  omega
theorem tmod_pos (u : Nat) : Int.tmod (u : Int) 10 = ((u % 10 : Nat) : Int) := by
  rw [Int.tmod_eq_emod_of_nonneg (by omega)]
  omega
theorem tdiv_pos (u : Nat) : Int.tdiv (u : Int) 10 = ((u / 10 : Nat) : Int) := by
  rw [Int.tdiv_eq_ediv_of_nonneg (by omega)]
  omega
theorem one_digit (x : Int) (m : Nat) (hm : m < 10) (hx : x = m) : strOfNums [(wrap64 (48 + x)) % 256] = mk [UInt8.ofNat (48 + m)] := by
  subst hx
  have e : (wrap64 (48 + (m : Int))) % 256 = ((48 + m : Nat) : Int) := by unfold wrap64; omega
  rw [e]
  unfold strOfNums mk
  rw [List.map_cons, List.map_nil, Int.toNat_natCast]

theorem num_l0 (neg : Bool) (d : Nat) : ∀ (u : Nat) (k : Nat) (x : Int) (s : List UInt8), u < 10 ^ d → d < k → x = (if neg = true then -(u : Int) else (u : Int)) → u ≤ 9223372036854775808 → s.length + d ≤ 1000 →
    spec_l01Num.l0 k x (mk s) neg = some (mk ((if neg = true then [45] else []) ++ digs u ++ s)) := by
  induction d with
  | zero =>
    intro u k x s hu hk hx _ hs
    obtain ⟨k, rfl⟩ : ∃ m, k = m + 1 := ⟨k - 1, by omega⟩
    obtain rfl : u = 0 := by simpa using hu
    have hx0 : x = 0 := by rw [hx]; split <;> rfl
    simp only [spec_l01Num.l0]
    rw [if_pos hx0]
    cases neg with
    | true =>
      rw [if_pos rfl, if_pos (by rw [mk_size]; omega)]
      exact congrArg some (mk_append [45] s)
    | false => rfl
  | succ d ih =>
    intro u k x s hu hk hx hu2 hs
    obtain ⟨k, rfl⟩ : ∃ m, k = m + 1 := ⟨k - 1, by omega⟩
    simp only [spec_l01Num.l0]
    by_cases c : u = 0
    · subst c
      have hx0 : x = 0 := by rw [hx]; split <;> rfl
      rw [if_pos hx0]
      cases neg with
      | true =>
        rw [if_pos rfl, if_pos (by rw [mk_size]; omega)]
        exact congrArg some (mk_append [45] s)
      | false => rfl
    · have hne : x ≠ 0 := by rw [hx]; split <;> omega
      rw [if_neg hne]
      have hm : u % 10 < 10 := Nat.mod_lt _ (by omega)
      have hq : u / 10 < 10 ^ d := by rw [Nat.pow_succ] at hu; omega
      have hd : Int.tdiv x 10 = (if neg = true then -((u / 10 : Nat) : Int) else ((u / 10 : Nat) : Int)) := by
        rw [hx]
        cases neg with
        | true => simp only [if_true]; exact tdiv_neg u
        | false => exact tdiv_pos u
      have hw : wrap64 (Int.tdiv x 10) = (if neg = true then -((u / 10 : Nat) : Int) else ((u / 10 : Nat) : Int)) := by
        rw [hd]
        unfold wrap64
        split <;> omega
      have fin : ∀ y : ByteArray, y = mk [UInt8.ofNat (48 + u % 10)] → (if y.size + (mk s).size ≤ 9223372036854775807 then (spec_l01Num.l0 k (wrap64 (Int.tdiv x 10)) (y ++ (mk s)) neg) else (none)) = some (mk ((if neg = true then [45] else []) ++ digs u ++ s)) := by
        intro y hy
        rw [hy, if_pos (by rw [mk_size, mk_size, List.length_cons, List.length_nil]; omega), mk_append, ih (u / 10) k _ ([UInt8.ofNat (48 + u % 10)] ++ s) hq (by omega) hw (by omega) (by simp only [List.length_append, List.length_cons, List.length_nil]; omega), digs_step u (by omega)]
        simp [List.append_assoc]
      have hmod : Int.tmod x 10 = (if neg = true then -((u % 10 : Nat) : Int) else ((u % 10 : Nat) : Int)) := by
        rw [hx]
        cases neg with
        | true => simp only [if_true]; exact tmod_neg u
        | false => exact tmod_pos u
      by_cases c2 : Int.tmod x 10 < 0
      · rw [if_pos c2, Option.bind_some]
        have hn : neg = true := by
          cases neg with
          | true => rfl
          | false => simp only [Bool.false_eq_true, if_false] at hmod; omega
        refine fin _ (one_digit _ (u % 10) hm ?_)
        rw [hmod, if_pos hn]
        unfold wrap64
        omega
      · rw [if_neg c2, Option.bind_some]
        refine fin _ (one_digit _ (u % 10) hm ?_)
        rw [hmod] at c2 ⊢
        split
        · next hn => rw [if_pos hn] at c2; omega
        · rfl

theorem l01Num (x : Int) (h0 : -9223372036854775808 ≤ x) (h1 : x ≤ 9223372036854775807) (k : Nat) (hk : 20 ≤ k) : spec_l01Num.f k x = some (mk (Go.Lib.itoa x)) := by
  unfold spec_l01Num.f
  by_cases c : x = 0
  · rw [if_pos c, c]
    refine congrArg some ?_
    unfold Go.Lib.itoa
    rw [if_neg (by omega), Go.Lib.decDigits, dif_pos (by decide)]
    rfl
  · rw [if_neg c]
    have h := num_l0 (decide (x < 0)) 19 x.natAbs k x [] (by omega) (by omega) (by by_cases d : x < 0 <;> simp [d] <;> omega) (by omega) (by simp)
    have e0 : mk [] = (⟨#[]⟩ : ByteArray) := rfl
    rw [e0] at h
    rw [h]
    have e1 : digs x.natAbs = Go.Lib.decDigits x.natAbs := if_neg (by omega)
    rw [e1]
    refine congrArg some ?_
    unfold Go.Lib.itoa
    by_cases d : x < 0
    · rw [if_pos d]
      simp [d]
    · rw [if_neg d]
      have : x.natAbs = x.toNat := by omega
      simp [d, this]

theorem itoaF (x : Int) (h0 : -9223372036854775808 ≤ x) (h1 : x ≤ 9223372036854775807) : strconv_Itoa.f x = some (mk (Go.Lib.itoa x)) := by
  unfold strconv_Itoa.f
  rw [if_pos h0, if_pos h1]
  rfl
theorem itoa_len (x : Int) (h0 : -9223372036854775808 ≤ x) (h1 : x ≤ 9223372036854775807) : (Go.Lib.itoa x).length ≤ 21 := Go.Lib.itoa_length_le x h0 h1

/-- A whole number that an int holds. -/
def I64 (x : Int) : Prop := -9223372036854775808 ≤ x ∧ x ≤ 9223372036854775807
theorem itoa_ne (x : Int) : Go.Lib.itoa x ≠ [] := by
  unfold Go.Lib.itoa
  split
  · simp
  · intro h
    have h1 := Go.Lib.decDigits_length x.toNat
    have h2 := Go.Lib.nDigits_pos x.toNat
    rw [h, List.length_nil] at h1
    omega
theorem mk_toList (l : List UInt8) : (mk l).toList = l := by rw [ByteArray.toList_eq, mk_list]
theorem mk_empty : (⟨#[]⟩ : ByteArray) = mk [] := rfl
/-- Words with sep between them, one word more. -/
theorem join_snoc (sep : List UInt8) (xs : List (List UInt8)) (x : List UInt8) : Go.Lib.join (xs ++ [x]) sep = (if xs = [] then x else Go.Lib.join xs sep ++ sep ++ x) := by
  cases xs with
  | nil => simp [Go.Lib.join_one]
  | cons y r =>
    rw [if_neg (by simp), List.cons_append, Go.Lib.join_cons, Go.Lib.join_cons]
    simp [Go.Lib.joinTail, List.append_assoc]
theorem join_len (sep : List UInt8) (M : Nat) (xs : List (List UInt8)) (h : ∀ x ∈ xs, x.length + sep.length ≤ M) : (Go.Lib.join xs sep).length ≤ xs.length * M := by
  cases xs with
  | nil => simp [Go.Lib.join_nil]
  | cons y r =>
    rw [Go.Lib.join_cons, List.length_append]
    have key : ∀ l : List (List UInt8), (∀ x ∈ l, x.length + sep.length ≤ M) → (Go.Lib.joinTail sep l).length ≤ l.length * M := by
      intro l
      induction l with
      | nil => intro _; simp [Go.Lib.joinTail]
      | cons z t ih =>
        intro hz
        have h1 := ih (fun x hx => hz x (List.mem_cons_of_mem _ hx))
        have h2 := hz z (by simp)
        have e : Go.Lib.joinTail sep (z :: t) = (sep ++ z) ++ Go.Lib.joinTail sep t := by simp [Go.Lib.joinTail]
        rw [e, List.length_append, List.length_append, List.length_cons, Nat.succ_mul]
        omega
    have h1 := key r (fun x hx => h x (List.mem_cons_of_mem _ hx))
    have h2 := h y (by simp)
    rw [List.length_cons, Nat.succ_mul]
    omega

theorem join_ne (sep : List UInt8) (x : List UInt8) (r : List (List UInt8)) (h : x ≠ []) : Go.Lib.join (x :: r) sep ≠ [] := by
  rw [Go.Lib.join_cons]
  intro e
  exact h (List.append_eq_nil_iff.1 e).1
/-- strings.Join of words. -/
theorem joinF (ws : List (List UInt8)) (sep : List UInt8) (h0 : ws.length ≤ 1099511627776) (h1 : (Go.Lib.join ws sep).length ≤ 140737488355328) : strings_Join.f (ws.map mk) (mk sep) = some (mk (Go.Lib.join ws sep)) := by
  unfold strings_Join.f
  have e : (ws.map mk).map (·.data.toList) = ws := by
    rw [List.map_map]
    have : (fun s : ByteArray => s.data.toList) ∘ mk = id := by funext l; exact mk_list l
    rw [this, List.map_id]
  rw [if_pos (by rw [List.length_map]; exact h0), e, mk_list, if_pos h1]
  rfl

/-- A loop that collects a word of each element. -/
theorem words_loop {α γ : Type} (l : List α) (w : α → List UInt8) (K : Nat) (F : Nat → List ByteArray → Int → Option γ)
    (hs : ∀ k b (j : Nat) (h : j < l.length), K ≤ k → b.length = j → F (k + 1) b (j : Int) = F k (b ++ [mk (w l[j])]) ((j + 1 : Nat) : Int)) :
    ∀ k, K ≤ k → F (k + l.length) [] 0 = F k ((l.map w).map mk) (l.length : Int) := by
  intro k hK
  have key : ∀ d (j : Nat), j ≤ l.length → l.length - j = d → F (k + d) (((l.take j).map w).map mk) (j : Int) = F k ((l.map w).map mk) (l.length : Int) := by
    intro d
    induction d with
    | zero =>
      intro j hj hd
      obtain rfl : j = l.length := by omega
      rw [List.take_length]
      rfl
    | succ d ih =>
      intro j hj hd
      have hlt : j < l.length := by omega
      have e : ((l.take (j + 1)).map w).map mk = ((l.take j).map w).map mk ++ [mk (w l[j])] := by
        rw [List.take_add_one, List.getElem?_eq_getElem hlt, Option.toList_some, List.map_append, List.map_append]
        rfl
      rw [← Nat.add_assoc, hs (k + d) _ j hlt (by omega) (by rw [List.length_map, List.length_map, List.length_take]; omega), ← ih (j + 1) (by omega) (by omega), e]
  have := key l.length 0 (Nat.zero_le _) (by omega)
  simpa using this

/-- A loop that puts the words of the elements together, sep between them. -/
theorem line_loop {α : Type} (l : List α) (w : α → List UInt8) (sep : List UInt8) (M K : Nat) (hM : ∀ x ∈ l, (w x).length + sep.length ≤ M) (hL : l.length * M ≤ 4611686018427387904) (F : Nat → ByteArray → Int → Option ByteArray)
    (h0 : ∀ k s (h : 0 < l.length), K ≤ k → s = [] → F (k + 1) (mk s) 0 = F k (mk (s ++ w l[0])) 1)
    (hs : ∀ k (s : List UInt8) (j : Nat) (h : j < l.length), K ≤ k → 0 < j → s.length ≤ 4611686018427387904 → F (k + 1) (mk s) (j : Int) = F k (mk (s ++ sep ++ w l[j])) ((j + 1 : Nat) : Int))
    (he : ∀ k s, K ≤ k → F (k + 1) (mk s) (l.length : Int) = some (mk s)) (k : Nat) (hk : K + l.length < k) : F k (mk []) 0 = some (mk (Go.Lib.join (l.map w) sep)) := by
  have key : ∀ d (j : Nat), j ≤ l.length → l.length - j = d → ∀ k, K + d < k → F k (mk (Go.Lib.join ((l.take j).map w) sep)) (j : Int) = some (mk (Go.Lib.join (l.map w) sep)) := by
    intro d
    induction d with
    | zero =>
      intro j hj hd k hk
      obtain ⟨k, rfl⟩ : ∃ m, k = m + 1 := ⟨k - 1, by omega⟩
      obtain rfl : j = l.length := by omega
      rw [List.take_length, he k _ (by omega)]
    | succ d ih =>
      intro j hj hd k hk
      obtain ⟨k, rfl⟩ : ∃ m, k = m + 1 := ⟨k - 1, by omega⟩
      have hlt : j < l.length := by omega
      have e : (l.take (j + 1)).map w = (l.take j).map w ++ [w l[j]] := by rw [List.take_add_one, List.getElem?_eq_getElem hlt, Option.toList_some, List.map_append]; rfl
      rw [← ih (j + 1) (by omega) (by omega) k (by omega), e, join_snoc]
      rcases Nat.eq_zero_or_pos j with rfl | hj0
      · rw [if_pos (by simp)]
        have := h0 k [] hlt (by omega) rfl
        simpa [Go.Lib.join_nil] using this
      · have hb : (Go.Lib.join ((l.take j).map w) sep).length ≤ 4611686018427387904 := by
          refine Nat.le_trans (join_len sep M _ ?_) (Nat.le_trans ?_ hL)
          · intro x hx
            obtain ⟨y, hy, rfl⟩ := List.mem_map.1 hx
            exact hM y (List.mem_of_mem_take hy)
          · rw [List.length_map, List.length_take]
            exact Nat.mul_le_mul_right _ (by omega)
        have hn : (l.take j).map w ≠ [] := fun h => by
          have := congrArg List.length h
          rw [List.length_map, List.length_take, List.length_nil] at this
          omega
        rw [if_neg hn, hs k _ j hlt (by omega) hj0 hb]
  have := key l.length 0 (Nat.zero_le _) (by omega) k hk
  simpa [Go.Lib.join_nil] using this
/-- A loop that puts the words of the elements together as long as they are right, and gives up at the first that isn't. -/
theorem line_loop_ok {α : Type} (l : List α) (w : α → List UInt8) (ok : α → Bool) (sep : List UInt8) (M K c : Nat) (hM : ∀ x ∈ l, (w x).length + sep.length ≤ M) (hL : l.length * M ≤ 4611686018427387904) (F : Nat → ByteArray → Int → Option (ByteArray × Bool))
    (hb : ∀ k s (j : Nat) (h : j < l.length), K ≤ k → ok l[j] = false → F (k + c + 1) (mk s) (j : Int) = some (mk [], false))
    (h0 : ∀ k (h : 0 < l.length), K ≤ k → ok l[0] = true → F (k + c + 1) (mk []) 0 = F k (mk (w l[0])) 1)
    (hs : ∀ k (s : List UInt8) (j : Nat) (h : j < l.length), K ≤ k → 0 < j → s.length ≤ 4611686018427387904 → ok l[j] = true → F (k + c + 1) (mk s) (j : Int) = F k (mk (s ++ sep ++ w l[j])) ((j + 1 : Nat) : Int))
    (he : ∀ k s, K ≤ k → F (k + 1) (mk s) (l.length : Int) = some (mk s, true)) (k : Nat) (hk : K + (c + 1) * (l.length + 1) < k) :
    F k (mk []) 0 = some (if l.all ok = true then (mk (Go.Lib.join (l.map w) sep), true) else (mk [], false)) := by
  have key : ∀ d (j : Nat), j ≤ l.length → l.length - j = d → ∀ k, K + (c + 1) * (d + 1) < k → F k (mk (Go.Lib.join ((l.take j).map w) sep)) (j : Int) = some (if (l.drop j).all ok = true then (mk (Go.Lib.join (l.map w) sep), true) else (mk [], false)) := by
    intro d
    induction d with
    | zero =>
      intro j hj hd k hk
      obtain ⟨k, rfl⟩ : ∃ m, k = m + 1 := ⟨k - 1, by omega⟩
      obtain rfl : j = l.length := by omega
      rw [List.take_length, he k _ (by omega), List.drop_length]
      rfl
    | succ d ih =>
      intro j hj hd k hk
      have e2 : (c + 1) * (d + 1 + 1) = (c + 1) * (d + 1) + (c + 1) := Nat.mul_succ _ _
      obtain ⟨k, rfl⟩ : ∃ m, k = m + c + 1 := ⟨k - c - 1, by omega⟩
      have hlt : j < l.length := by omega
      have e : (l.take (j + 1)).map w = (l.take j).map w ++ [w l[j]] := by rw [List.take_add_one, List.getElem?_eq_getElem hlt, Option.toList_some, List.map_append]; rfl
      rw [List.drop_eq_getElem_cons hlt, List.all_cons]
      cases hok : ok l[j] with
      | false => rw [hb k _ j hlt (by omega) hok]; rfl
      | true =>
        rw [Bool.true_and, ← ih (j + 1) (by omega) (by omega) k (by omega), e, join_snoc]
        rcases Nat.eq_zero_or_pos j with rfl | hj0
        · rw [if_pos (by simp)]
          have := h0 k hlt (by omega) hok
          simpa [Go.Lib.join_nil] using this
        · have hbd : (Go.Lib.join ((l.take j).map w) sep).length ≤ 4611686018427387904 := by
            refine Nat.le_trans (join_len sep M _ ?_) (Nat.le_trans ?_ hL)
            · intro x hx
              obtain ⟨y, hy, rfl⟩ := List.mem_map.1 hx
              exact hM y (List.mem_of_mem_take hy)
            · rw [List.length_map, List.length_take]
              exact Nat.mul_le_mul_right _ (by omega)
          have hn : (l.take j).map w ≠ [] := fun h => by
            have := congrArg List.length h
            rw [List.length_map, List.length_take, List.length_nil] at this
            omega
          rw [if_neg hn, hs k _ j hlt (by omega) hj0 hbd hok]
  have := key l.length 0 (Nat.zero_le _) (by omega) k hk
  simpa [Go.Lib.join_nil] using this

end Go.Proofs.YtbgclnjnngolmaaGreatDoor.Pure
