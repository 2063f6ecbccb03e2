import PyProof.Rows.All
import Wide.All
import OpenK.AllK
import Wide.FinOn
import Open.SpecLaws
import KE.OsGo
import HandS.ForSpec
import HandS.TryMany
import HandS.Iter
import HandS.Wide
import PySem.Challenge.RW_unwantedmail_s04_order
set_option Elab.async false
set_option linter.all false
set_option maxRecDepth 100000
set_option maxHeartbeats 2000000
namespace Um
/-! ## The words of a row, as pairs -/
def pairs : List Int → List (Int × Int)
  | a :: b :: r => (a, b) :: pairs r
  | _ => []
theorem pairs_len : ∀ ns : List Int, (pairs ns).length = ns.length / 2
  | [] => rfl
  | [x] => by
    show 0 = (0 + 1) / 2
    omega
  | a :: b :: r => by
    show (pairs r).length + 1 = (r.length + 1 + 1) / 2
    rw [pairs_len r]
    omega
theorem pairs_get : ∀ (ns : List Int) (i : Nat), 2 * i + 1 < ns.length → ∃ a b, ns[2 * i]? = some a ∧ ns[2 * i + 1]? = some b ∧ (pairs ns)[i]? = some (a, b)
  | [], i, h => absurd h (Nat.not_lt_zero _)
  | [x], i, h => by
    have h' : 2 * i + 1 < 1 := h
    omega
  | a :: b :: r, 0, _ => ⟨a, b, rfl, rfl, rfl⟩
  | a :: b :: r, i + 1, h => by
    have h' : 2 * (i + 1) + 1 < r.length + 1 + 1 := h
    obtain ⟨x, y, h1, h2, h3⟩ := pairs_get r i (by omega)
    have e1 : 2 * (i + 1) = 2 * i + 1 + 1 := by omega
    refine ⟨x, y, ?_, ?_, h3⟩
    · rw [e1]
      exact h1
    · rw [e1]
      exact h2
theorem pairs_mem : ∀ (ns : List Int) (w : Int × Int), w ∈ pairs ns → w.1 ∈ ns ∧ w.2 ∈ ns
  | [], w, h => by cases h
  | [_], w, h => by cases h
  | a :: b :: r, w, h => by
    have h' : w ∈ (a, b) :: pairs r := h
    rcases List.mem_cons.mp h' with e | m
    · rw [e]
      exact ⟨List.mem_cons_self .., List.mem_cons_of_mem _ (List.mem_cons_self ..)⟩
    · have q := pairs_mem r w m
      exact ⟨List.mem_cons_of_mem _ (List.mem_cons_of_mem _ q.1), List.mem_cons_of_mem _ (List.mem_cons_of_mem _ q.2)⟩
def seenW (w : Int × Int) : Kys2.Seen := ⟨w.1.toNat, w.2.toNat⟩
theorem seen_pairs : ∀ ns : List Int, Kys2.seen (Kys2Neutral.natsOf ns) = (pairs ns).map seenW
  | [] => rfl
  | [_] => rfl
  | a :: b :: r => by
    show (⟨a.toNat, b.toNat⟩ : Kys2.Seen) :: Kys2.seen (Kys2Neutral.natsOf r) = seenW (a, b) :: (pairs r).map seenW
    rw [seen_pairs r]
    rfl
/-! ## What may be asked -/
def LetterOk (n m : Int) (ns : List Int) : Prop := ns.length % 2 = 0 ∧ ns.length / 2 ≤ 40 ∧ n ≤ 10000 ∧ m ≤ 10000 ∧ ∀ w ∈ pairs ns, w.1 ≤ n ∧ w.2 ≤ m
theorem good_iff {n m : Int} {ns : List Int} (hn : 0 ≤ n) (hm : 0 ≤ m) (h : ∀ x ∈ ns, 0 ≤ x) : Kys2.good n.toNat m.toNat (Kys2Neutral.natsOf ns) = true ↔ LetterOk n m ns := by
  have hl : (Kys2Neutral.natsOf ns).length = ns.length := List.length_map ..
  have hs := seen_pairs ns
  unfold Kys2.good Kys2.ok LetterOk
  rw [hs, hl, List.length_map, pairs_len, List.all_map]
  simp only [Bool.and_eq_true, decide_eq_true_eq, List.all_eq_true, Function.comp]
  constructor
  · rintro ⟨h1, ⟨⟨h2, h3⟩, h4⟩, h5⟩
    refine ⟨h1, h4, by omega, by omega, fun w hw => ?_⟩
    have q := h5 w hw
    have q1 : w.1.toNat ≤ n.toNat := q.1
    have q2 : w.2.toNat ≤ m.toNat := q.2
    have p := pairs_mem ns w hw
    have p1 := h _ p.1
    have p2 := h _ p.2
    omega
  · rintro ⟨h1, h4, h2, h3, h5⟩
    refine ⟨h1, ⟨⟨by omega, by omega⟩, h4⟩, fun w hw => ?_⟩
    have q := h5 w hw
    show w.1.toNat ≤ n.toNat ∧ w.2.toNat ≤ m.toNat
    omega
theorem good_false {n m : Int} {ns : List Int} (hn : 0 ≤ n) (hm : 0 ≤ m) (h : ∀ x ∈ ns, 0 ≤ x) (k : ¬ LetterOk n m ns) : Kys2.good n.toNat m.toNat (Kys2Neutral.natsOf ns) = false := by
  cases e : Kys2.good n.toNat m.toNat (Kys2Neutral.natsOf ns) with
  | false => rfl
  | true => exact absurd ((good_iff hn hm h).mp e) k
theorem good_true {n m : Int} {ns : List Int} (hn : 0 ≤ n) (hm : 0 ≤ m) (h : ∀ x ∈ ns, 0 ≤ x) (k : LetterOk n m ns) : ¬ Kys2.good n.toNat m.toNat (Kys2Neutral.natsOf ns) = false := by
  rw [(good_iff hn hm h).mpr k]
  exact Bool.noConfusion
/-! ## The two weights -/
def wW (n m : Int) (ws : List (Int × Int)) : Int := ws.foldl (fun acc w => acc * (w.1 + 1) * (m + 2)) (n + 1)
def wU (n m : Int) (ws : List (Int × Int)) : Int := ws.foldl (fun acc w => acc * (w.2 + 1) * (n + 2)) (m + 1)
theorem prod_from : ∀ (l : List Nat) (c : Nat), l.foldl (· * ·) c = c * Kys2.prod l
  | [], c => by
    show c = c * 1
    omega
  | x :: r, c => by
    show r.foldl (· * ·) (c * x) = c * r.foldl (· * ·) (1 * x)
    rw [prod_from r (c * x), prod_from r (1 * x), Nat.one_mul, Nat.mul_assoc]
theorem prod_cons (x : Nat) (l : List Nat) : Kys2.prod (x :: l) = x * Kys2.prod l := by
  show l.foldl (· * ·) (1 * x) = _
  rw [prod_from, Nat.one_mul]
theorem fold_is (f : Int × Int → Int) (g : Kys2.Seen → Nat) (k : Nat) : ∀ (ws : List (Int × Int)) (c : Nat), (∀ w ∈ ws, f w + 1 = ((g (seenW w) + 1 : Nat) : Int)) →
    ws.foldl (fun acc w => acc * (f w + 1) * ((k : Int) + 2)) (c : Int) = ((c * Kys2.prod ((ws.map seenW).map fun x => (g x + 1) * (k + 2)) : Nat) : Int)
  | [], c, _ => by
    show (c : Int) = ((c * 1 : Nat) : Int)
    rw [Nat.mul_one]
  | w :: r, c, h => by
    have e : (c : Int) * (f w + 1) * ((k : Int) + 2) = ((c * ((g (seenW w) + 1) * (k + 2)) : Nat) : Int) := by
      rw [h w (List.mem_cons_self ..), Int.mul_assoc]
      push_cast
      rfl
    show r.foldl (fun acc w => acc * (f w + 1) * ((k : Int) + 2)) ((c : Int) * (f w + 1) * ((k : Int) + 2)) = _
    rw [e, fold_is f g k r _ fun x hx => h x (List.mem_cons_of_mem _ hx)]
    show _ = ((c * Kys2.prod (((g (seenW w) + 1) * (k + 2)) :: (r.map seenW).map fun x => (g x + 1) * (k + 2)) : Nat) : Int)
    rw [prod_cons, Nat.mul_assoc]
theorem wW_is {n m : Int} {ws : List (Int × Int)} (hn : 0 ≤ n) (hm : 0 ≤ m) (h : ∀ w ∈ ws, 0 ≤ w.1 ∧ 0 ≤ w.2) : wW n m ws = (Kys2.wanted n.toNat m.toNat (ws.map seenW) : Nat) := by
  have q := fold_is (fun w => w.1) (fun x => x.a) m.toNat ws (n.toNat + 1) fun w hw => by
    have z := (h w hw).1
    show w.1 + 1 = ((w.1.toNat + 1 : Nat) : Int)
    omega
  have e1 : ((n.toNat + 1 : Nat) : Int) = n + 1 := by omega
  have e2 : ((m.toNat : Nat) : Int) = m := by omega
  rw [e1, e2] at q
  exact q
theorem wU_is {n m : Int} {ws : List (Int × Int)} (hn : 0 ≤ n) (hm : 0 ≤ m) (h : ∀ w ∈ ws, 0 ≤ w.1 ∧ 0 ≤ w.2) : wU n m ws = (Kys2.unwanted n.toNat m.toNat (ws.map seenW) : Nat) := by
  have q := fold_is (fun w => w.2) (fun x => x.b) n.toNat ws (m.toNat + 1) fun w hw => by
    have z := (h w hw).2
    show w.2 + 1 = ((w.2.toNat + 1 : Nat) : Int)
    omega
  have e1 : ((m.toNat + 1 : Nat) : Int) = m + 1 := by omega
  have e2 : ((n.toNat : Nat) : Int) = n := by omega
  rw [e1, e2] at q
  exact q
theorem prod_pos : ∀ l : List Nat, (∀ x ∈ l, 0 < x) → 0 < Kys2.prod l
  | [], _ => Nat.one_pos
  | x :: r, h => by
    rw [prod_cons]
    exact Nat.mul_pos (h x (List.mem_cons_self ..)) (prod_pos r fun y hy => h y (List.mem_cons_of_mem _ hy))
theorem prod_lt : ∀ l : List Nat, (∀ x ∈ l, x < 2 ^ 27) → Kys2.prod l ≤ 2 ^ (27 * l.length)
  | [], _ => Nat.le_refl _
  | x :: r, h => by
    rw [prod_cons, List.length_cons, Nat.mul_add, Nat.mul_one, Nat.add_comm, Nat.pow_add]
    exact Nat.mul_le_mul (Nat.le_of_lt (h x (List.mem_cons_self ..))) (prod_lt r fun y hy => h y (List.mem_cons_of_mem _ hy))
theorem wanted_pos (n m : Nat) (l : List Kys2.Seen) : 0 < Kys2.wanted n m l := Nat.mul_pos (Nat.succ_pos _) (prod_pos _ fun x hx => by
  obtain ⟨y, _, rfl⟩ := List.mem_map.mp hx
  exact Nat.mul_pos (Nat.succ_pos _) (Nat.succ_pos _))
theorem unwanted_pos (n m : Nat) (l : List Kys2.Seen) : 0 < Kys2.unwanted n m l := Nat.mul_pos (Nat.succ_pos _) (prod_pos _ fun x hx => by
  obtain ⟨y, _, rfl⟩ := List.mem_map.mp hx
  exact Nat.mul_pos (Nat.succ_pos _) (Nat.succ_pos _))
theorem pw {k : Nat} (h : k ≤ 40) : 2 ^ (27 * k) ≤ 2 ^ 1080 := Nat.pow_le_pow_right (by decide) (by omega)
theorem fac_lt {a b : Nat} (h1 : a ≤ 10000) (h2 : b ≤ 10000) : (a + 1) * (b + 2) < 2 ^ 27 :=
  Nat.lt_of_le_of_lt (Nat.mul_le_mul (show a + 1 ≤ 10001 by omega) (show b + 2 ≤ 10002 by omega)) (by decide)
theorem weight_lt {c p : Nat} (h1 : c ≤ 10000) (h2 : p ≤ 2 ^ 1080) : (c + 1) * p < 2 ^ 1094 := by
  have e : (2 : Nat) ^ 1094 = 2 ^ 14 * 2 ^ 1080 := by rw [← Nat.pow_add]
  rw [e]
  have h3 : (c + 1) * p ≤ 10001 * 2 ^ 1080 := Nat.mul_le_mul (by omega) h2
  have h4 : 10001 * 2 ^ 1080 < 2 ^ 14 * 2 ^ 1080 := Nat.mul_lt_mul_of_pos_right (by decide) (Nat.pow_pos (by decide))
  exact Nat.lt_of_le_of_lt h3 h4
theorem wanted_lt {n m : Nat} {l : List Kys2.Seen} (hn : n ≤ 10000) (hm : m ≤ 10000) (hl : l.length ≤ 40) (h : ∀ x ∈ l, x.a ≤ 10000) : Kys2.wanted n m l < 2 ^ 1094 := by
  refine weight_lt hn (Nat.le_trans (prod_lt _ fun x hx => ?_) ?_)
  · obtain ⟨y, hy, rfl⟩ := List.mem_map.mp hx
    exact fac_lt (h y hy) hm
  · rw [List.length_map]
    exact pw hl
theorem unwanted_lt {n m : Nat} {l : List Kys2.Seen} (hn : n ≤ 10000) (hm : m ≤ 10000) (hl : l.length ≤ 40) (h : ∀ x ∈ l, x.b ≤ 10000) : Kys2.unwanted n m l < 2 ^ 1094 := by
  refine weight_lt hm (Nat.le_trans (prod_lt _ fun x hx => ?_) ?_)
  · obtain ⟨y, hy, rfl⟩ := List.mem_map.mp hx
    exact fac_lt (h y hy) hn
  · rw [List.length_map]
    exact pw hl
/-- what a letter's words are, once it may be asked of -/
structure Lt (n m : Int) (ws : List (Int × Int)) : Prop where
  n0 : 0 ≤ n
  m0 : 0 ≤ m
  n1 : n ≤ 10000
  m1 : m ≤ 10000
  len : ws.length ≤ 40
  mem : ∀ w ∈ ws, 0 ≤ w.1 ∧ 0 ≤ w.2 ∧ w.1 ≤ n ∧ w.2 ≤ m
theorem lt_of {n m : Int} {ns : List Int} (hn : 0 ≤ n) (hm : 0 ≤ m) (h : ∀ x ∈ ns, 0 ≤ x) (k : LetterOk n m ns) : Lt n m (pairs ns) := by
  obtain ⟨_, h2, h3, h4, h5⟩ := k
  refine ⟨hn, hm, h3, h4, by rw [pairs_len]; exact h2, fun w hw => ?_⟩
  have p := pairs_mem ns w hw
  exact ⟨h _ p.1, h _ p.2, (h5 w hw).1, (h5 w hw).2⟩
theorem both_pos {n m : Int} {ws : List (Int × Int)} (L : Lt n m ws) : 0 < wW n m ws + wU n m ws := by
  have h : ∀ w ∈ ws, 0 ≤ w.1 ∧ 0 ≤ w.2 := fun w hw => ⟨(L.mem w hw).1, (L.mem w hw).2.1⟩
  rw [wW_is L.n0 L.m0 h, wU_is L.n0 L.m0 h]
  have p1 := wanted_pos n.toNat m.toNat (ws.map seenW)
  have p2 := unwanted_pos n.toNat m.toNat (ws.map seenW)
  omega
theorem both_lt {n m : Int} {ws : List (Int × Int)} (L : Lt n m ws) : (wW n m ws + wU n m ws).natAbs < 2 ^ 1095 := by
  have h : ∀ w ∈ ws, 0 ≤ w.1 ∧ 0 ≤ w.2 := fun w hw => ⟨(L.mem w hw).1, (L.mem w hw).2.1⟩
  have n1 := L.n1
  have m1 := L.m1
  have p1 : Kys2.wanted n.toNat m.toNat (ws.map seenW) < 2 ^ 1094 := wanted_lt (by omega) (by omega) (by rw [List.length_map]; exact L.len) fun x hx => by
    obtain ⟨y, hy, rfl⟩ := List.mem_map.mp hx
    have q := L.mem y hy
    show y.1.toNat ≤ 10000
    omega
  have p2 : Kys2.unwanted n.toNat m.toNat (ws.map seenW) < 2 ^ 1094 := unwanted_lt (by omega) (by omega) (by rw [List.length_map]; exact L.len) fun x hx => by
    obtain ⟨y, hy, rfl⟩ := List.mem_map.mp hx
    have q := L.mem y hy
    show y.2.toNat ≤ 10000
    omega
  rw [wW_is L.n0 L.m0 h, wU_is L.n0 L.m0 h]
  have e : (2 : Nat) ^ 1095 = 2 ^ 1094 + 2 ^ 1094 := by rw [show (1095 : Nat) = 1094 + 1 from rfl, Nat.pow_succ, Nat.mul_two]
  rw [e]
  generalize (2 : Nat) ^ 1094 = z at *
  omega
end Um
namespace Um
/-! ## Louder words first -/
def loudW (x y : Int × Int) : Bool := decide ((y.2 + 1) * (x.1 + 1) < (x.2 + 1) * (y.1 + 1))
def wAt (ws : List (Int × Int)) (i : Nat) : Int × Int := ws.getD i (0, 0)
/-- the place for a word: the first less loud one's, else the end -/
def placeFrom (ws : List (Int × Int)) (at_ : Nat) : List Nat → Nat
  | [] => 0
  | o :: r => if loudW (wAt ws at_) (wAt ws o) = true then 0 else placeFrom ws at_ r + 1
def putIn (ws : List (Int × Int)) (ord : List Nat) (at_ : Nat) : List Nat := ord.take (placeFrom ws at_ ord) ++ [at_] ++ ord.drop (placeFrom ws at_ ord)
def orderTo (ws : List (Int × Int)) : Nat → List Nat
  | 0 => []
  | k + 1 => putIn ws (orderTo ws k) k
theorem placeFrom_le (ws : List (Int × Int)) (a : Nat) : ∀ ord, placeFrom ws a ord ≤ ord.length
  | [] => Nat.le_refl _
  | o :: r => by
    unfold placeFrom
    split
    · exact Nat.zero_le _
    · exact Nat.succ_le_succ (placeFrom_le ws a r)
/-- where the walk stands at place i, none louder so far: the place is i more, from what is left -/
theorem placeFrom_hit (ws : List (Int × Int)) (a : Nat) : ∀ (ord : List Nat) (i o : Nat), ord[i]? = some o → (∀ j p, j < i → ord[j]? = some p → loudW (wAt ws a) (wAt ws p) = false) → loudW (wAt ws a) (wAt ws o) = true → placeFrom ws a ord = i
  | [], i, o, h, _, _ => by simp at h
  | x :: r, 0, o, h, _, hl => by
    have e : x = o := Option.some.inj h
    subst e
    unfold placeFrom
    rw [if_pos hl]
  | x :: r, i + 1, o, h, hb, hl => by
    have hx := hb 0 x (Nat.succ_pos _) rfl
    unfold placeFrom
    rw [if_neg (by rw [hx]; exact Bool.noConfusion), placeFrom_hit ws a r i o h (fun j p hj hp => hb (j + 1) p (Nat.succ_lt_succ hj) hp) hl]
theorem placeFrom_end (ws : List (Int × Int)) (a : Nat) : ∀ (ord : List Nat), (∀ (j p : Nat), ord[j]? = some p → loudW (wAt ws a) (wAt ws p) = false) → placeFrom ws a ord = ord.length
  | [], _ => rfl
  | x :: r, hb => by
    have hx := hb 0 x rfl
    unfold placeFrom
    rw [if_neg (by rw [hx]; exact Bool.noConfusion), placeFrom_end ws a r (fun j p hp => hb (j + 1) p hp)]
    rfl
theorem orderTo_len (ws : List (Int × Int)) : ∀ k, (orderTo ws k).length = k
  | 0 => rfl
  | k + 1 => by
    show ((orderTo ws k).take _ ++ [k] ++ (orderTo ws k).drop _).length = k + 1
    rw [List.length_append, List.length_append, List.length_take, List.length_drop, List.length_singleton, orderTo_len ws k]
    have := placeFrom_le ws k (orderTo ws k)
    rw [orderTo_len ws k] at this
    omega
theorem orderTo_lt (ws : List (Int × Int)) : ∀ k, ∀ o ∈ orderTo ws k, o < k
  | 0, o, h => by cases h
  | k + 1, o, h => by
    have h' : o ∈ (orderTo ws k).take (placeFrom ws k (orderTo ws k)) ++ [k] ++ (orderTo ws k).drop (placeFrom ws k (orderTo ws k)) := h
    rcases List.mem_append.mp h' with q | q
    · rcases List.mem_append.mp q with q | q
      · exact Nat.lt_succ_of_lt (orderTo_lt ws k o (List.mem_of_mem_take q))
      · rw [List.mem_singleton.mp q]
        exact Nat.lt_succ_self _
    · exact Nat.lt_succ_of_lt (orderTo_lt ws k o (List.mem_of_mem_drop q))
/-! ### the specification's order, in order of rank -/
section
open Kys2 (Seen louder ahead)
theorem louder_iff (x y : Seen) : louder x y = true ↔ (y.b + 1) * (x.a + 1) < (x.b + 1) * (y.a + 1) := decide_eq_true_iff
theorem louder_not (x y : Seen) : louder x y = false ↔ (x.b + 1) * (y.a + 1) ≤ (y.b + 1) * (x.a + 1) := by
  unfold louder
  rw [decide_eq_false_iff_not, Nat.not_lt]
theorem louder_asym {x y : Seen} (h : louder x y = true) : louder y x = false := by
  rw [louder_iff] at h
  rw [louder_not]
  exact Nat.le_of_lt h
/-- a < b, b ≤ c -/
theorem louder_lt_le {x y z : Seen} (h1 : louder x y = true) (h2 : louder z y = false) : louder x z = true := by
  rw [louder_iff] at h1 ⊢
  rw [louder_not] at h2
  obtain ⟨xa, xb⟩ := x
  obtain ⟨ya, yb⟩ := y
  obtain ⟨za, zb⟩ := z
  dsimp only at *
  have p : 0 < xa + 1 := Nat.succ_pos _
  have q : 0 < za + 1 := Nat.succ_pos _
  generalize xa + 1 = xa at *
  generalize xb + 1 = xb at *
  generalize ya + 1 = ya at *
  generalize yb + 1 = yb at *
  generalize za + 1 = za at *
  generalize zb + 1 = zb at *
  have e1 : zb * ya * xa ≤ yb * za * xa := Nat.mul_le_mul_right _ h2
  have e2 : yb * xa * za < xb * ya * za := Nat.mul_lt_mul_of_pos_right h1 q
  have e3 : (zb * xa) * ya < (xb * za) * ya := by
    rw [Nat.mul_right_comm zb xa ya, Nat.mul_right_comm xb za ya]
    rw [Nat.mul_right_comm yb za xa] at e1
    exact Nat.lt_of_le_of_lt e1 e2
  exact Nat.lt_of_mul_lt_mul_right e3
/-- a ≤ b, b < c -/
theorem louder_le_lt {x y z : Seen} (h1 : louder y x = false) (h2 : louder y z = true) : louder x z = true := by
  rw [louder_iff] at h2 ⊢
  rw [louder_not] at h1
  obtain ⟨xa, xb⟩ := x
  obtain ⟨ya, yb⟩ := y
  obtain ⟨za, zb⟩ := z
  dsimp only at *
  have p : 0 < xa + 1 := Nat.succ_pos _
  generalize xa + 1 = xa at *
  generalize xb + 1 = xb at *
  generalize ya + 1 = ya at *
  generalize yb + 1 = yb at *
  generalize za + 1 = za at *
  generalize zb + 1 = zb at *
  have e1 : yb * xa * za ≤ xb * ya * za := Nat.mul_le_mul_right _ h1
  have e2 : zb * ya * xa < yb * za * xa := Nat.mul_lt_mul_of_pos_right h2 p
  have e3 : (zb * xa) * ya < (xb * za) * ya := by
    rw [Nat.mul_right_comm zb xa ya, Nat.mul_right_comm xb za ya]
    rw [Nat.mul_right_comm yb za xa] at e2
    exact Nat.lt_of_lt_of_le e2 e1
  exact Nat.lt_of_mul_lt_mul_right e3
theorem ahead_iff (l : List Seen) (i j : Nat) : ahead l i j = true ↔ louder (l.getD i ⟨0, 0⟩) (l.getD j ⟨0, 0⟩) = true ∨ (louder (l.getD j ⟨0, 0⟩) (l.getD i ⟨0, 0⟩) = false ∧ i < j) := by
  unfold ahead
  simp only [Bool.or_eq_true, Bool.and_eq_true, Bool.not_eq_true', decide_eq_true_eq]
theorem ahead_irr (l : List Seen) (i : Nat) : ahead l i i = false := by
  cases e : ahead l i i with
  | false => rfl
  | true =>
    rcases (ahead_iff l i i).mp e with h | h
    · have := louder_asym h
      rw [h] at this
      cases this
    · exact absurd h.2 (Nat.lt_irrefl _)
theorem ahead_asym {l : List Seen} {i j : Nat} (h : ahead l i j = true) : ahead l j i = false := by
  cases e : ahead l j i with
  | false => rfl
  | true =>
    rcases (ahead_iff l i j).mp h with h | h <;> rcases (ahead_iff l j i).mp e with q | q
    · rw [louder_asym h] at q
      cases q
    · rw [h] at q
      cases q.1
    · rw [q] at h
      cases h.1
    · have h1 := h.2
      have h2 := q.2
      omega
/-- louder than one that is ahead -/
theorem louder_ahead {l : List Seen} {a i j : Nat} (h : louder (l.getD a ⟨0, 0⟩) (l.getD i ⟨0, 0⟩) = true) (q : ahead l i j = true) : ahead l a j = true := by
  rw [ahead_iff]
  rcases (ahead_iff l i j).mp q with q | q
  · exact .inl (louder_lt_le h (louder_asym q))
  · exact .inl (louder_lt_le h q.1)
/-- each stands ahead of those behind it, and each place is there: so it is the order by rank -/
theorem rank_at {l : List Seen} {n : Nat} {L : List Nat} (hp : L.Perm (List.range n)) (hs : L.Pairwise fun i j => ahead l i j = true) (k : Nat) (i : Nat) (hk : L[k]? = some i) :
    ((List.range n).filter fun j => ahead l j i).length = k := by
  rw [← (hp.filter (fun j => ahead l j i)).length_eq]
  have hlt : k < L.length := by
    have := List.getElem?_eq_some_iff.mp hk
    exact this.1
  have ei : L[k] = i := by
    have := List.getElem?_eq_some_iff.mp hk
    exact this.2
  have e : L = L.take k ++ i :: L.drop (k + 1) := by
    rw [← ei, ← List.drop_eq_getElem_cons hlt, List.take_append_drop]
  have hs' := hs
  rw [e, List.pairwise_append] at hs'
  obtain ⟨_, h2, h3⟩ := hs'
  rw [List.pairwise_cons] at h2
  rw [e, List.filter_append, List.length_append]
  have f1 : (L.take k).filter (fun j => ahead l j i) = L.take k := List.filter_eq_self.mpr fun j hj => h3 j hj i (List.mem_cons_self ..)
  have f2 : (i :: L.drop (k + 1)).filter (fun j => ahead l j i) = [] := by
    rw [List.filter_eq_nil_iff]
    intro j hj
    rcases List.mem_cons.mp hj with q | q
    · rw [q, ahead_irr]
      exact Bool.noConfusion
    · rw [ahead_asym (h2.1 j q)]
      exact Bool.noConfusion
  rw [f1, f2, List.length_take, List.length_nil]
  omega
theorem filter_one {p : Nat → Bool} : ∀ {l : List Nat} {i : Nat}, l.Nodup → i ∈ l → p i = true → (∀ j ∈ l, p j = true → j = i) → l.filter p = [i]
  | [], i, _, h, _, _ => by cases h
  | x :: r, i, hd, hm, hp, hu => by
    rw [List.nodup_cons] at hd
    rcases List.mem_cons.mp hm with e | m
    · subst e
      rw [List.filter_cons_of_pos hp]
      congr 1
      rw [List.filter_eq_nil_iff]
      intro j hj q
      have := hu j (List.mem_cons_of_mem _ hj) q
      subst this
      exact hd.1 hj
    · have hx : ¬ p x = true := fun q => by
        have := hu x (List.mem_cons_self ..) q
        subst this
        exact hd.1 m
      rw [List.filter_cons_of_neg hx]
      exact filter_one hd.2 m hp fun j hj => hu j (List.mem_cons_of_mem _ hj)
theorem flatMap_get {L : List Nat} {f : Nat → List Nat} : ∀ (n s : Nat), (∀ k, k < n → ∃ i, L[s + k]? = some i ∧ f (s + k) = [i]) → s + n = L.length → (List.range' s n).flatMap f = L.drop s
  | 0, s, _, e => by
    show [] = L.drop s
    rw [List.drop_of_length_le (by omega)]
  | n + 1, s, h, e => by
    obtain ⟨i, h1, h2⟩ := h 0 (Nat.succ_pos _)
    rw [Nat.add_zero] at h1 h2
    rw [List.range'_succ, List.flatMap_cons, h2, flatMap_get n (s + 1) (L := L) (fun k hk => ?_) (by omega)]
    · have q := List.getElem?_eq_some_iff.mp h1
      obtain ⟨hl, ei⟩ := q
      rw [List.drop_eq_getElem_cons hl, ei]
      rfl
    · obtain ⟨j, j1, j2⟩ := h (k + 1) (by omega)
      have e2 : s + 1 + k = s + (k + 1) := by omega
      rw [e2]
      exact ⟨j, j1, j2⟩
theorem order_of {l : List Seen} {L : List Nat} (hp : L.Perm (List.range l.length)) (hs : L.Pairwise fun i j => ahead l i j = true) : Kys2.order l = L := by
  have hlen : L.length = l.length := by rw [hp.length_eq, List.length_range]
  have hnd : (List.range l.length).Nodup := List.nodup_range
  show (List.range l.length).flatMap (fun k => (List.range l.length).filter fun i => ((List.range l.length).filter fun j => ahead l j i).length == k) = L
  rw [List.range_eq_range']
  rw [flatMap_get (L := L) l.length 0 (fun k hk => ?_) (by omega), List.drop_zero]
  rw [Nat.zero_add, ← List.range_eq_range']
  have hk' : k < L.length := by omega
  refine ⟨L[k], List.getElem?_eq_getElem hk', filter_one hnd ?_ ?_ ?_⟩
  · exact hp.mem_iff.mp (List.getElem_mem hk')
  · rw [beq_iff_eq]
    exact rank_at hp hs k _ (List.getElem?_eq_getElem hk')
  · intro j hj q
    rw [beq_iff_eq] at q
    obtain ⟨p, hpl, ep⟩ := List.getElem_of_mem (hp.mem_iff.mpr hj)
    have r := rank_at hp hs p _ (List.getElem?_eq_getElem hpl)
    rw [ep] at r
    rw [q] at r
    subst r
    exact ep.symm
end
end Um
namespace Um
open Kys2 (Seen louder ahead)
theorem getD_seen (ws : List (Int × Int)) (i : Nat) : (ws.map seenW).getD i ⟨0, 0⟩ = seenW (wAt ws i) := by
  unfold wAt
  rw [List.getD_eq_getElem?_getD, List.getD_eq_getElem?_getD, List.getElem?_map]
  cases ws[i]? with
  | none => rfl
  | some w => rfl
theorem wAt_nn {ws : List (Int × Int)} (h : ∀ w ∈ ws, 0 ≤ w.1 ∧ 0 ≤ w.2) (i : Nat) : 0 ≤ (wAt ws i).1 ∧ 0 ≤ (wAt ws i).2 := by
  unfold wAt
  rw [List.getD_eq_getElem?_getD]
  cases e : ws[i]? with
  | none => exact ⟨Int.le_refl _, Int.le_refl _⟩
  | some w => exact h w (List.mem_of_getElem? e)
theorem loud_seen {x y : Int × Int} (hx : 0 ≤ x.1 ∧ 0 ≤ x.2) (hy : 0 ≤ y.1 ∧ 0 ≤ y.2) : loudW x y = louder (seenW x) (seenW y) := by
  obtain ⟨xa, xb⟩ := x
  obtain ⟨ya, yb⟩ := y
  obtain ⟨h1, h2⟩ := hx
  obtain ⟨h3, h4⟩ := hy
  dsimp only at h1 h2 h3 h4
  obtain ⟨a, rfl⟩ := Int.eq_ofNat_of_zero_le h1
  obtain ⟨b, rfl⟩ := Int.eq_ofNat_of_zero_le h2
  obtain ⟨c, rfl⟩ := Int.eq_ofNat_of_zero_le h3
  obtain ⟨d, rfl⟩ := Int.eq_ofNat_of_zero_le h4
  unfold loudW louder
  rw [decide_eq_decide]
  show ((d : Int) + 1) * ((a : Int) + 1) < ((b : Int) + 1) * ((c : Int) + 1) ↔ (d + 1) * (a + 1) < (b + 1) * (c + 1)
  constructor
  · intro q
    exact_mod_cast q
  · intro q
    exact_mod_cast q
/-- putting a place in: those ahead of it are none less loud; the one at it is less loud, and ahead of the rest -/
theorem place_before (ws : List (Int × Int)) (a : Nat) : ∀ (ord : List Nat), ∀ o ∈ ord.take (placeFrom ws a ord), loudW (wAt ws a) (wAt ws o) = false
  | [], o, h => by simp at h
  | x :: r, o, h => by
    unfold placeFrom at h
    by_cases c : loudW (wAt ws a) (wAt ws x) = true
    · rw [if_pos c] at h
      simp at h
    · rw [if_neg c, List.take_succ_cons] at h
      rcases List.mem_cons.mp h with e | m
      · rw [e]
        cases q : loudW (wAt ws a) (wAt ws x) with
        | false => rfl
        | true => exact absurd q c
      · exact place_before ws a r o m
theorem place_behind (ws : List (Int × Int)) (a : Nat) : ∀ (ord : List Nat), ord.drop (placeFrom ws a ord) = [] ∨ ∃ o r, ord.drop (placeFrom ws a ord) = o :: r ∧ loudW (wAt ws a) (wAt ws o) = true
  | [] => .inl rfl
  | x :: r => by
    unfold placeFrom
    by_cases c : loudW (wAt ws a) (wAt ws x) = true
    · rw [if_pos c]
      exact .inr ⟨x, r, rfl, c⟩
    · rw [if_neg c, List.drop_succ_cons]
      exact place_behind ws a r
theorem orderTo_perm (ws : List (Int × Int)) : ∀ k, (orderTo ws k).Perm (List.range k)
  | 0 => .refl _
  | k + 1 => by
    have ih := orderTo_perm ws k
    show ((orderTo ws k).take (placeFrom ws k (orderTo ws k)) ++ [k] ++ (orderTo ws k).drop (placeFrom ws k (orderTo ws k))).Perm (List.range (k + 1))
    rw [List.range_succ]
    have e : (orderTo ws k).take (placeFrom ws k (orderTo ws k)) ++ (orderTo ws k).drop (placeFrom ws k (orderTo ws k)) = orderTo ws k := List.take_append_drop ..
    rw [List.append_assoc, List.singleton_append]
    refine (List.perm_middle).trans ?_
    rw [e]
    refine (List.Perm.cons k ih).trans ?_
    exact (List.perm_append_singleton k (List.range k)).symm
theorem orderTo_pw {ws : List (Int × Int)} (h : ∀ w ∈ ws, 0 ≤ w.1 ∧ 0 ≤ w.2) : ∀ k, (orderTo ws k).Pairwise fun i j => ahead (ws.map seenW) i j = true
  | 0 => .nil
  | k + 1 => by
    have ih := orderTo_pw h k
    have lo : ∀ i j, loudW (wAt ws i) (wAt ws j) = louder ((ws.map seenW).getD i ⟨0, 0⟩) ((ws.map seenW).getD j ⟨0, 0⟩) := fun i j => by
      rw [getD_seen, getD_seen]
      exact loud_seen (wAt_nn h i) (wAt_nn h j)
    have bf : ∀ o ∈ (orderTo ws k).take (placeFrom ws k (orderTo ws k)), ahead (ws.map seenW) o k = true := fun o ho => by
      have q := place_before ws k (orderTo ws k) o ho
      rw [lo] at q
      exact (ahead_iff _ _ _).mpr (.inr ⟨q, orderTo_lt ws k o (List.mem_of_mem_take ho)⟩)
    have e : (orderTo ws k).take (placeFrom ws k (orderTo ws k)) ++ (orderTo ws k).drop (placeFrom ws k (orderTo ws k)) = orderTo ws k := List.take_append_drop ..
    have ih2 := ih
    rw [← e, List.pairwise_append] at ih2
    obtain ⟨p1, p2, p3⟩ := ih2
    have bh : ∀ o ∈ (orderTo ws k).drop (placeFrom ws k (orderTo ws k)), ahead (ws.map seenW) k o = true := by
      rcases place_behind ws k (orderTo ws k) with z | ⟨o, r, z, q⟩
      · rw [z]
        intro o ho
        cases ho
      · rw [z] at p2 ⊢
        rw [List.pairwise_cons] at p2
        rw [lo] at q
        intro j hj
        rcases List.mem_cons.mp hj with e2 | m
        · rw [e2]
          exact (ahead_iff _ _ _).mpr (.inl q)
        · exact louder_ahead q (p2.1 j m)
    show ((orderTo ws k).take (placeFrom ws k (orderTo ws k)) ++ [k] ++ (orderTo ws k).drop (placeFrom ws k (orderTo ws k))).Pairwise _
    rw [List.append_assoc, List.pairwise_append]
    refine ⟨p1, List.pairwise_cons.mpr ⟨bh, p2⟩, fun i hi j hj => ?_⟩
    rcases List.mem_cons.mp hj with e2 | m
    · rw [e2]
      exact bf i hi
    · exact p3 i hi j m
theorem order_is {ws : List (Int × Int)} (h : ∀ w ∈ ws, 0 ≤ w.1 ∧ 0 ≤ w.2) : Kys2.order (ws.map seenW) = orderTo ws ws.length := by
  refine order_of ?_ (orderTo_pw h _)
  rw [List.length_map]
  exact orderTo_perm ws _
def orderOf (ws : List (Int × Int)) : List Int := (ws.length : Int) :: (orderTo ws ws.length).map fun (k : Nat) => (k : Int)
theorem order_bad {ns : List Int} (h : ∀ x ∈ ns, 0 ≤ x) (k : ¬ LetterOk 10000 10000 ns) : PyKys2.order ns = [-22] := by
  have g : Kys2.good 10000 10000 (Kys2Neutral.natsOf ns) = false := good_false (n := 10000) (m := 10000) (by decide) (by decide) h k
  have e : Kys2.answer (.order (Kys2Neutral.natsOf ns)) = Kys1.say (-22) := if_pos g
  show (Kys2.answer (.order (Kys2Neutral.natsOf ns))).value :: Kys2Neutral.ints (Kys2.answer (.order (Kys2Neutral.natsOf ns))).nums = [-22]
  rw [e]
  rfl
theorem order_good {ns : List Int} (h : ∀ x ∈ ns, 0 ≤ x) (k : LetterOk 10000 10000 ns) : PyKys2.order ns = orderOf (pairs ns) := by
  have g : ¬ Kys2.good 10000 10000 (Kys2Neutral.natsOf ns) = false := good_true (n := 10000) (m := 10000) (by decide) (by decide) h k
  have e : Kys2.answer (.order (Kys2Neutral.natsOf ns)) = ⟨((Kys2.order (Kys2.seen (Kys2Neutral.natsOf ns))).length : Nat), Kys2.order (Kys2.seen (Kys2Neutral.natsOf ns))⟩ := if_neg g
  show (Kys2.answer (.order (Kys2Neutral.natsOf ns))).value :: Kys2Neutral.ints (Kys2.answer (.order (Kys2Neutral.natsOf ns))).nums = orderOf (pairs ns)
  have nn : ∀ w ∈ pairs ns, 0 ≤ w.1 ∧ 0 ≤ w.2 := fun w hw => ⟨h _ (pairs_mem ns w hw).1, h _ (pairs_mem ns w hw).2⟩
  rw [e, seen_pairs, order_is nn]
  show (((orderTo (pairs ns) (pairs ns).length).length : Nat) : Int) :: Kys2Neutral.ints (orderTo (pairs ns) (pairs ns).length) = orderOf (pairs ns)
  rw [orderTo_len]
  rfl
end Um
namespace Um
open PySem PySem.Spec PyProof.Rows L2
open PySem.W (Codec)
/-! ## What the layer lacks: an own error made with no argument -/
theorem made_bare {X : Cx} {C : Addr} {tl : List Value} {B mk ini : String} {x : Str} {p p' : Pos} (F : ExcBaseFacts B mk ini tl) (q : PySem.W.excIn X.K C tl mk = true) (gC : X.mg x = some (.ref C))
    (kC : PySem.W.keepIn X.K (.ref C) = true) (r : Raises X (.ref C)) (hg : Gl X x) (hdb : (x == ("__debug__" : Str)) = false := by decide) :
    PMk X (.Call (.Name x p) [] [] p') (fun _ H Q => Q (.ref C) none H) := by
  intro pins s σ H Q I h
  refine wpAny_Call_Name_kw (ld_glob I hg gC ?_ hdb)
  obtain ⟨bm, N, nm, qn, bs, hdct, sn, sub, ab, col, dd, k0, k1, k2, k3, k5, mN, hC, hN, hni, T⟩ := exc_obj I.kIn q
  refine PySem.W.callWith_K0 I.kIn kC ?_
  exact wpAny_call_exc_subT F T hC hN hni (fun h' e hm => mk_of I hm r h (I.hok.gone hm.new)) (Nat.zero_le _)
/-! ## Heaps -/
theorem same_new {H : Hp} {p : Addr} {o : HO} (h : H p = none) : Same H (upd H p o) := fun b x e => by
  rw [upd_ne (ne_of_none e h)]
  exact e
/-- the pairs ws stand, as tuples, at the places rs -/
structure WordsAt (H : Hp) (rs : List Addr) (ws : List (Int × Int)) : Prop where
  len : rs.length = ws.length
  get : ∀ (i : Nat) (w : Int × Int), ws[i]? = some w → ∃ r, rs[i]? = some r ∧ H r = some (.tup [.int w.1, .int w.2])
theorem WordsAt.same {H H' : Hp} {rs : List Addr} {ws : List (Int × Int)} (h : WordsAt H rs ws) (s : Same H H') : WordsAt H' rs ws :=
  ⟨h.len, fun i w e => by
    obtain ⟨r, h1, h2⟩ := h.get i w e
    exact ⟨r, h1, s _ _ h2⟩⟩
/-- what is behind the i-th place -/
theorem WordsAt.at {H : Hp} {rs : List Addr} {ws : List (Int × Int)} (h : WordsAt H rs ws) {i : Nat} {v : V} (e : (rs.map V.ref)[i]? = some v) : ∃ r w, v = V.ref r ∧ ws[i]? = some w ∧ H r = some (.tup [.int w.1, .int w.2]) := by
  rw [List.getElem?_map] at e
  cases q : rs[i]? with
  | none =>
    rw [q] at e
    cases e
  | some r =>
    rw [q] at e
    have hi : i < ws.length := by
      have z := (List.getElem?_eq_some_iff.mp q).1
      rw [h.len] at z
      exact z
    obtain ⟨r', h1, h2⟩ := h.get i ws[i] (List.getElem?_eq_getElem hi)
    rw [q] at h1
    cases h1
    exact ⟨r, ws[i], (Option.some.inj e).symm, List.getElem?_eq_getElem hi, h2⟩
theorem WordsAt.more {H : Hp} {rs : List Addr} {ws : List (Int × Int)} (h : WordsAt H rs ws) {r : Addr} {w : Int × Int} (e : H r = some (.tup [.int w.1, .int w.2])) : WordsAt H (rs ++ [r]) (ws ++ [w]) := by
  refine ⟨by rw [List.length_append, List.length_append, h.len]; rfl, fun i x q => ?_⟩
  by_cases hi : i < ws.length
  · rw [List.getElem?_append_left hi] at q
    obtain ⟨r', h1, h2⟩ := h.get i x q
    exact ⟨r', by rw [List.getElem?_append_left (by rw [h.len]; exact hi)]; exact h1, h2⟩
  · rw [List.getElem?_append_right (Nat.le_of_not_lt hi)] at q
    have hz : i - ws.length = 0 := by
      have := (List.getElem?_eq_some_iff.mp q).1
      simp only [List.length_singleton] at this
      omega
    rw [hz] at q
    cases q
    refine ⟨r, ?_, e⟩
    rw [List.getElem?_append_right (by rw [h.len]; exact Nat.le_of_not_lt hi), h.len, hz]
    rfl
/-- a list beside them is changed -/
theorem WordsAt.put {H : Hp} {rs : List Addr} {ws : List (Int × Int)} (h : WordsAt H rs ws) {o : Addr} {xs ys : List V} (ho : H o = some (.lst xs)) : WordsAt (upd H o (.lst ys)) rs ws :=
  ⟨h.len, fun i w e => by
    obtain ⟨r, h1, h2⟩ := h.get i w e
    refine ⟨r, h1, ?_⟩
    rw [upd_ne fun z => ?_]
    · exact h2
    · rw [z, ho] at h2
      cases h2⟩
theorem at0 {a b : V} : atI [a, b] 0 = some a := atI_nat (j := 0) rfl
theorem at1 {a b : V} : atI [a, b] 1 = some b := atI_nat (j := 1) rfl
theorem ints_at {ns : List Int} {j : Nat} {z : Int} (h : ns[j]? = some z) : (ns.map V.int)[j]? = some (V.int z) := by
  rw [List.getElem?_map, h]
  rfl
theorem take_up {α : Type} {l : List α} {i : Nat} {x : α} (h : l[i]? = some x) : l.take (i + 1) = l.take i ++ [x] := by
  rw [List.take_add_one, h]
  rfl
theorem line84 {n : Nat} (h : n ≤ 84) : n < sizeLine := small1000 (by omega)
/-- a def of the text that is called: it keeps its promise, its name stands for it, its arguments bind -/
structure Got (P : Program) (w : World) (K : PySem.W.Frag) (mg : Str → Option Value) (base : Heap) (cx : CXT) (k : Nat) (x : Str) (ps : List Str) (sp : Sp) (f : Addr) (fd : FuncData) : Prop where
  ok : FnOk P w K mg base cx k f fd ps sp
  g : mg x = some (.ref f)
  kp : PySem.W.keepIn K (.ref f) = true
  b : Binds K fd ps []
/-- what the top has written of the error's class and of the constants -/
structure Txt (K : PySem.W.Frag) (mg : Str → Option Value) (CF : Addr) : Prop where
  gF : mg "Refused" = some (.ref CF)
  xF : PySem.W.excIn K CF [.type "ValueError", .type "Exception", .type "BaseException", .type "object"] "ValueError.__new__" = true
  kF : PySem.W.keepIn K (.ref CF) = true
  bF : PySem.W.subIn K (.ref CF) (.type "BaseException") = some true
  tF : PySem.W.typeIn K (.ref CF) = some (.type "type")
  eF : PySem.W.exmOne K (.ref CF) (.ref CF) = some true
  zl : mg "len" = none
  zr : mg "range" = none
  cT : ∃ t, mg "MOST_TAUGHT" = some (.int 10000 t)
  cW : ∃ t, mg "MOST_WORDS" = some (.int 40 t)
  cR : ∃ t, mg "REFUSED" = some (.int (-22) t)
/-! ## The promises -/
/-- must: where it isn't so, the error, over the same heap -/
def spMust (CF : Addr) : Sp := fun vs H Q E => ∃ b : Bool, vs = [.bl b] ∧ (b = false → E (.ref CF) none H) ∧ (b = true → Q .non H)
def spWordsIn (K : PySem.W.Frag) : Sp := fun vs H Q _ => ∃ (a : Addr) (ns : List Int), vs = [.ref a] ∧ SqL K H a (ns.map V.int) ∧ ns.length ≤ 84 ∧
  ∀ (H' : Hp) (p : Addr) (rs : List Addr), Same H H' → H' p = some (.lst (rs.map V.ref)) → WordsAt H' rs (pairs ns) → Q (.ref p) H'
def spEven : Sp := fun vs H Q _ => ∃ i : Int, vs = [.int i] ∧ ∀ b : Bool, (b = true ↔ i / 2 * 2 = i) → Q (.bl b) H
def spMany (K : PySem.W.Frag) (CF : Addr) : Sp := fun vs H Q E => ∃ (a : Addr) (ns : List Int), vs = [.ref a] ∧ SqL K H a (ns.map V.int) ∧
  (¬ (ns.length % 2 = 0 ∧ ns.length / 2 ≤ 40) → E (.ref CF) none H) ∧ (ns.length % 2 = 0 ∧ ns.length / 2 ≤ 40 → Q .non H)
def spTaught (CF : Addr) : Sp := fun vs H Q E => ∃ n m : Int, vs = [.int n, .int m] ∧ (¬ (n ≤ 10000 ∧ m ≤ 10000) → E (.ref CF) none H) ∧ (n ≤ 10000 ∧ m ≤ 10000 → Q .non H)
def spWord (CF : Addr) : Sp := fun vs H Q E => ∃ (n m : Int) (r : Addr) (w : Int × Int), vs = [.int n, .int m, .ref r] ∧ H r = some (.tup [.int w.1, .int w.2]) ∧ (¬ (w.1 ≤ n ∧ w.2 ≤ m) → E (.ref CF) none H) ∧ (w.1 ≤ n ∧ w.2 ≤ m → Q .non H)
def spLetter (K : PySem.W.Frag) (CF : Addr) : Sp := fun vs H Q E => ∃ (n m : Int) (a : Addr) (ns : List Int), vs = [.int n, .int m, .ref a] ∧ SqL K H a (ns.map V.int) ∧ ns.length ≤ 84 ∧
  (¬ LetterOk n m ns → ∀ H' : Hp, Same H H' → E (.ref CF) none H') ∧
  (LetterOk n m ns → ∀ (H' : Hp) (p : Addr) (rs : List Addr), Same H H' → H' p = some (.lst (rs.map V.ref)) → WordsAt H' rs (pairs ns) → Q (.ref p) H')
/-! ## The text -/
def top (i : Nat) : Stmt := PySem.Challenge.pw_unwantedmail_s04_order.main.body.getD i (.Pass ⟨0, 0, 0, 0⟩)
abbrev sMust : Stmt := top 5
abbrev sWordsIn : Stmt := top 6
abbrev sEven : Stmt := top 7
abbrev sMany : Stmt := top 8
abbrev sSome : Stmt := top 9
abbrev sLouder : Stmt := top 11
abbrev sPlace : Stmt := top 12
abbrev sLoudest : Stmt := top 13
abbrev sMain : Stmt := top 15
theorem scMust : FnScope ["so"] ["so"] (defScope sMust) := ⟨rfl, rfl, rfl, by decide +kernel, rfl, by decide +kernel, by decide +kernel⟩
theorem scWordsIn : FnScope ["row", "found", "at"] ["row"] (defScope sWordsIn) := ⟨rfl, rfl, rfl, by decide +kernel, rfl, by decide +kernel, by decide +kernel⟩
theorem scEven : FnScope ["number"] ["number"] (defScope sEven) := ⟨rfl, rfl, rfl, by decide +kernel, rfl, by decide +kernel, by decide +kernel⟩
theorem scMany : FnScope ["row"] ["row"] (defScope sMany) := ⟨rfl, rfl, rfl, by decide +kernel, rfl, by decide +kernel, by decide +kernel⟩
section
variable {P : Program} {w : World} {K : PySem.W.Frag} {mg : Str → Option Value} {base : Heap} {CF : Addr}
theorem ok_must {f : Addr} {fd : FuncData} (F : Fun K "must" "must" sMust f fd) (T : Txt K mg CF) : FnOk P w K mg base (L2.CX P w) 1 f fd ["so"] (spMust CF) := by
  refine F.okX scMust (fun vs H Q E h => ?_) (fun cdv A outer s H vs Q E hr h => ?_)
  · obtain ⟨b, rfl, _⟩ := h
    rfl
  · obtain ⟨b, rfl, k0, k1⟩ := h
    refine ⟨_, pss_one (ps_if (pt_not (pt_val (pv 0)))
      (pss_one (ps_raise rfl (takes_of rfl rfl rfl rfl) (made_bare PySem.F.excBase_ValueError T.xF T.gF T.kF (raises_own T.bF T.tF) (by exact rfl)))) pss_nil), ?_⟩
    refine ⟨_, rfl, b, rfl, ?_⟩
    cases b with
    | false => exact iteT (k0 rfl)
    | true => exact iteF (k1 rfl)
theorem ok_even {f : Addr} {fd : FuncData} (F : Fun K "is_even" "is_even" sEven f fd) : FnOk P w K mg base CX0 1 f fd ["number"] spEven := by
  refine F.ok scEven (fun vs H Q E h => ?_) (fun cdv A outer s H vs Q E hr h => ?_)
  · obtain ⟨i, rfl, _⟩ := h
    rfl
  · obtain ⟨i, rfl, q⟩ := h
    refine ⟨_, pss_one (ps_ret (pe_cmpR op_eq (pe_op op_mul (pe_op op_fdiv (pv 0) pe_int) pe_int) (pv 0) (nomark _))), ?_⟩
    refine ⟨_, rfl, _, _, rfl, rfl, ⟨by decide, by decide⟩, _, _, rfl, rfl, .inr ⟨by decide, by decide⟩, _, rfl, rfl, ?_⟩
    refine q _ ?_
    rw [decide_eq_true_iff, V.int.injEq]
theorem ok_many {f fM fE : Addr} {fd fdM fdE : FuncData} (F : Fun K "look_at_many" "look_at_many" sMany f fd) (T : Txt K mg CF) (GM : Got P w K mg base (L2.CX P w) 1 "must" ["so"] (spMust CF) fM fdM) (GE : Got P w K mg base CX0 1 "is_even" ["number"] spEven fE fdE) :
    FnOk P w K mg base (L2.CX P w) 2 f fd ["row"] (spMany K CF) := by
  refine F.okX scMany (fun vs H Q E h => ?_) (fun cdv A outer s H vs Q E hr h => ?_)
  · obtain ⟨a, ns, rfl, _⟩ := h
    rfl
  · obtain ⟨a, ns, rfl, hS, k0, k1⟩ := h
    obtain ⟨tW, cW⟩ := T.cW
    refine ⟨_, pss_cons (ps_expr (pe_call (E := E) GM.ok hr rfl GM.g GM.kp GM.b .nil (passes_call (takes_of rfl rfl rfl rfl) fun _ _ _ _ h => h) (pa_cons (pe_call GE.ok hr rfl GE.g GE.kp GE.b .nil pass0
        (pa_cons (pe_callB call_len_seq (by rfl) T.zl PySem.boot_len (pa_cons (pv 0) pa_nil)) pa_nil)) pa_nil)))
      (pss_one (ps_expr (pe_call (E := E) GM.ok hr rfl GM.g GM.kp GM.b .nil (passes_call (takes_of rfl rfl rfl rfl) fun _ _ _ _ h => h) (pa_cons (pe_cmpR op_le (pe_op op_fdiv
        (pe_callB call_len_seq (by rfl) T.zl PySem.boot_len (pa_cons (pv 0) pa_nil)) pe_int) (pe_glob (v := .int 40) rfl cW ⟨_, rfl⟩) (nomark _)) pa_nil)))), ?_⟩
    refine ⟨_, rfl, a, _, rfl, .inl hS, _, rfl, fun b hb => ⟨b, rfl, fun e => ?_, fun e => ?_⟩⟩
    · refine k0 fun z => ?_
      have q : b = true := hb.mpr (by rw [List.length_map]; omega)
      rw [e] at q
      cases q
    · have ev : ns.length % 2 = 0 := by
        have q := hb.mp e
        rw [List.length_map] at q
        omega
      refine ⟨_, rfl, a, _, rfl, .inl hS, _, _, rfl, rfl, ⟨by decide, by decide⟩, _, _, rfl, rfl, _, rfl, fun e => k0 fun z => ?_, fun e => k1 ⟨ev, ?_⟩⟩
      · have q := of_decide_eq_false e
        rw [List.length_map] at q
        omega
      · have q := of_decide_eq_true e
        rw [List.length_map] at q
        omega
theorem rg2 (L : Nat) (h : L ≤ 84) : RgC 0 ((L : Int) - 1) 2 (L / 2) := by
  have e : Builtin.Range.rangeSize 0 ((L : Int) - 1) 2 = ((L / 2 : Nat) : Int) := by
    unfold Builtin.Range.rangeSize
    rw [if_pos (by decide)]
    split <;> omega
  refine ⟨by decide, by decide, ?_, e⟩
  unfold Builtin.Range.small
  rw [e]
  rw [if_pos (show (2 : Int) > 0 by decide)]
  simp only [Builtin.Range.rangeFitsLong, Bool.and_eq_true, Bool.or_eq_true, decide_eq_true_eq, beq_iff_eq]
  omega
theorem ok_wordsIn {f : Addr} {fd : FuncData} (F : Fun K "words_in" "words_in" sWordsIn f fd) (T : Txt K mg CF) : FnOk P w K mg base CX0 1 f fd ["row"] (spWordsIn K) := by
  refine F.ok scWordsIn (fun vs H Q E h => ?_) (fun cdv A outer s H vs Q E hr h => ?_)
  · obtain ⟨a, ns, rfl, _⟩ := h
    rfl
  · obtain ⟨a, ns, rfl, hS, hlen, q⟩ := h
    refine ⟨_, pss_cons (ps_set (i := 1) scWordsIn.nd rfl (.inl rfl) (pe_lst pa_nil))
      (pss_cons (ps_for PassesOwn.never rfl (pi_range3 rfl T.zr (pa_cons pe_int (pa_cons (pe_op op_sub (pe_callB call_len_seq (by rfl) T.zl PySem.boot_len (pa_cons (pv 0) pa_nil)) pe_int) (pa_cons pe_int pa_nil))))
        (pg_name (i := 2) scWordsIn.nd rfl (.inl rfl))
        (pss_one (ps_expr (pe_bm PySem.F.plainAttrs_list PySem.F.slot_list_append PySem.F.type_list_append mt_append (pv 1) (pa_cons (pe_tup (pa_cons (pe_ix ix_list (pv 0) (pv 2) (fun _ _ => rfl))
          (pa_cons (pe_ix ix_list (pv 0) (pe_op op_add (pv 2) pe_int) (fun _ _ => rfl)) pa_nil))) pa_nil)))))
      (pss_one (ps_ret (pv 1)))), ?_⟩
    refine ⟨Nat.zero_le _, fun o no => ?_⟩
    have s1 : Same H (upd H o (.lst [])) := same_new no
    refine ⟨_, rfl, a, _, rfl, .inl (s1.seq hS), _, _, rfl, rfl, 0, _, 2, ns.length / 2, rfl, ?_, for_rangeC (fun i σ H' => ∃ (v : Option V) (rs : List Addr), σ = [some (.ref a), some (.ref o), v] ∧ Same H H' ∧ H' o = some (.lst (rs.map V.ref)) ∧ WordsAt H' rs ((pairs ns).take i))
      ⟨none, [], rfl, s1, upd_same, ⟨rfl, fun i w e => by simp at e⟩⟩ ?_ ?_⟩
    · rw [List.length_map]
      exact rg2 _ hlen
    · rintro i σ H' hi ⟨v, rs, rfl, s5, ho, hw⟩
      obtain ⟨x, y, hx, hy, hp⟩ := pairs_get ns i (by omega)
      have hA := s5.seq hS
      have e1 : atI (ns.map V.int) (0 + (i : Int) * 2) = some (V.int x) := by
        rw [show (0 + (i : Int) * 2) = ((2 * i : Nat) : Int) by omega]
        exact atI_nat (ints_at hx)
      have e2 : atI (ns.map V.int) (0 + (i : Int) * 2 + 1) = some (V.int y) := by
        rw [show (0 + (i : Int) * 2 + 1) = ((2 * i + 1 : Nat) : Int) by omega]
        exact atI_nat (ints_at hy)
      refine ⟨.ref o, rfl, .inl ⟨rfl, _, SqL.of ho⟩, .ref a, rfl, _, rfl, a, _, _, _, rfl, rfl, hA, e1, .ref a, rfl, _, rfl, _, _, rfl, rfl, a, _, _, _, rfl, rfl, hA, e2, (by show 2 ≤ sizeLine; decide), fun t nt => ?_⟩
      have st : Same H' (upd H' t (.tup [.int x, .int y])) := same_new nt
      have ho2 := st _ _ ho
      refine ⟨o, _, _, rfl, rfl, ho2, ?_, ?_⟩
      · rw [List.length_map, hw.len, List.length_take, pairs_len]
        exact line84 (by omega)
      · refine ⟨_, rs ++ [t], rfl, fun b z e => ?_, ?_, ?_⟩
        · rw [upd_ne (ne_of_none e no)]
          exact st _ _ (s5 _ _ e)
        · rw [upd_same, List.map_append]
          rfl
        · rw [take_up hp]
          exact ((hw.same st).more (w := (x, y)) upd_same).put ho2
    · rintro σ H' ⟨v, rs, rfl, s5, ho, hw⟩
      rw [List.take_of_length_le (by rw [pairs_len]; exact Nat.le_refl _)] at hw
      exact ⟨.ref o, rfl, q H' o rs s5 ho hw⟩
end
end Um
/-! ## Louder words first -/
namespace Um
open PySem PySem.Spec PyProof.Rows L2
open PySem.W (Codec)
def Lws (K : PySem.W.Frag) (H : Hp) (p : Addr) (ws : List (Int × Int)) : Prop := ∃ rs : List Addr, H p = some (.lst (rs.map V.ref)) ∧ WordsAt H rs ws
/-- places, as the program's values -/
def vN (l : List Nat) : List V := l.map fun (k : Nat) => V.int (k : Int)
theorem vN_len (l : List Nat) : (vN l).length = l.length := List.length_map ..
theorem vN_get {l : List Nat} {i k : Nat} (h : l[i]? = some k) : (vN l)[i]? = some (V.int (k : Int)) := by
  unfold vN
  rw [List.getElem?_map, h]
  rfl
theorem cut_to (l : List Nat) (k : Nat) : cutV (vN l) none (some (k : Int)) = vN (l.take k) := by
  unfold cutV
  rw [HT.sIx_nat, HT.sIx_none, List.drop_zero, Nat.sub_zero, vN_len]
  unfold vN
  rw [← List.map_take]
  congr 1
  rw [List.take_eq_take_iff]
  omega
theorem cut_from (l : List Nat) (k : Nat) (h : k ≤ l.length) : cutV (vN l) (some (k : Int)) none = vN (l.drop k) := by
  unfold cutV
  rw [HT.sIx_nat, HT.sIx_none, vN_len, Nat.min_eq_left h]
  unfold vN
  rw [← List.map_drop, List.take_of_length_le]
  rw [List.length_map, List.length_drop]
  exact Nat.le_refl _
theorem wAt_get {ws : List (Int × Int)} {i : Nat} {x : Int × Int} (h : ws[i]? = some x) : wAt ws i = x := by
  unfold wAt
  rw [List.getD_eq_getElem?_getD, h]
  rfl
def spSome (K : PySem.W.Frag) (CF : Addr) : Sp := fun vs H Q E => ∃ (a : Addr) (ns : List Int), vs = [.ref a] ∧ SqL K H a (ns.map V.int) ∧ ns.length ≤ 84 ∧
  (¬ LetterOk 10000 10000 ns → ∀ H' : Hp, Same H H' → E (.ref CF) none H') ∧
  (LetterOk 10000 10000 ns → ∀ (H' : Hp) (p : Addr) (rs : List Addr), Same H H' → H' p = some (.lst (rs.map V.ref)) → WordsAt H' rs (pairs ns) → Q (.ref p) H')
def spLouder : Sp := fun vs H Q _ => ∃ (r s : Addr) (x y : Int × Int), vs = [.ref r, .ref s] ∧ H r = some (.tup [.int x.1, .int x.2]) ∧ H s = some (.tup [.int y.1, .int y.2]) ∧
  (0 ≤ x.1 ∧ 0 ≤ x.2 ∧ x.1 ≤ 10000 ∧ x.2 ≤ 10000) ∧ (0 ≤ y.1 ∧ 0 ≤ y.2 ∧ y.1 ≤ 10000 ∧ y.2 ≤ 10000) ∧ Q (.bl (loudW x y)) H
def spPlace (K : PySem.W.Frag) : Sp := fun vs H Q _ => ∃ (p o : Addr) (ws : List (Int × Int)) (ord : List Nat) (at_ : Nat), vs = [.ref p, .ref o, .int (at_ : Int)] ∧ Lws K H p ws ∧ Lt 10000 10000 ws ∧ H o = some (.lst (vN ord)) ∧
  at_ < ws.length ∧ (∀ k ∈ ord, k < ws.length) ∧ ord.length ≤ 40 ∧ Q (.int ((placeFrom ws at_ ord : Nat) : Int)) H
def spLoudest (K : PySem.W.Frag) : Sp := fun vs H Q _ => ∃ (p : Addr) (ws : List (Int × Int)), vs = [.ref p] ∧ Lws K H p ws ∧ Lt 10000 10000 ws ∧
  ∀ (H' : Hp) (o : Addr), Same H H' → H' o = some (.lst (vN (orderTo ws ws.length))) → Q (.ref o) H'
def spMain (K : PySem.W.Frag) : Sp := fun vs H Q _ => ∃ (a : Addr) (ns : List Int), vs = [.ref a] ∧ SqL K H a (ns.map V.int) ∧ (ns.length ≤ 84 ∧ ∀ x ∈ ns, 0 ≤ x) ∧
  ∀ (H' : Hp) (p : Addr), H' p = some (.lst ((PyKys2.order ns).map V.int)) → Q (.ref p) H'
theorem scSome : FnScope ["row", "found", "word"] ["row"] (defScope sSome) := ⟨rfl, rfl, rfl, by decide +kernel, rfl, by decide +kernel, by decide +kernel⟩
theorem scLouder : FnScope ["word", "other"] ["word", "other"] (defScope sLouder) := ⟨rfl, rfl, rfl, by decide +kernel, rfl, by decide +kernel, by decide +kernel⟩
theorem scPlace : FnScope ["words", "order", "at", "k"] ["words", "order", "at"] (defScope sPlace) := ⟨rfl, rfl, rfl, by decide +kernel, rfl, by decide +kernel, by decide +kernel⟩
theorem scLoudest : FnScope ["words", "order", "at", "k"] ["words"] (defScope sLoudest) := ⟨rfl, rfl, rfl, by decide +kernel, rfl, by decide +kernel, by decide +kernel⟩
theorem scMain : FnScope ["l", "words"] ["l"] (defScope sMain) := ⟨rfl, rfl, rfl, by decide +kernel, rfl, by decide +kernel, by decide +kernel⟩
section
variable {P : Program} {w : World} {K : PySem.W.Frag} {mg : Str → Option Value} {base : Heap} {CF : Addr}
theorem ok_some {f fM fA fC : Addr} {fd fdM fdA fdC : FuncData} (F : Fun K "some_words_in" "some_words_in" sSome f fd) (T : Txt K mg CF) (GM : Got P w K mg base (L2.CX P w) 1 "must" ["so"] (spMust CF) fM fdM)
    (GA : Got P w K mg base (L2.CX P w) 2 "look_at_many" ["row"] (spMany K CF) fA fdA) (GC : Got P w K mg base CX0 1 "words_in" ["row"] (spWordsIn K) fC fdC) :
    FnOk P w K mg base (L2.CX P w) 3 f fd ["row"] (spSome K CF) := by
  refine F.okX scSome (fun vs H Q E h => ?_) (fun cdv A outer s H vs Q E hr h => ?_)
  · obtain ⟨a, ns, rfl, _⟩ := h
    rfl
  · obtain ⟨a, ns, rfl, hS, hlen, k0, k1⟩ := h
    obtain ⟨tT, cT⟩ := T.cT
    have hr1 : Room 1 _ := hr.mono (by decide)
    refine ⟨_, pss_cons (ps_expr (pe_call (E := E) GA.ok hr rfl GA.g GA.kp GA.b .nil (passes_call (takes_of rfl rfl rfl rfl) fun _ _ _ _ h => h) (pa_cons (pv 0) pa_nil)))
      (pss_cons (ps_set (i := 1) scSome.nd rfl (.inl rfl) (pe_call GC.ok hr1 rfl GC.g GC.kp GC.b .nil pass0 (pa_cons (pv 0) pa_nil)))
      (pss_cons (ps_for (passes_of rfl) rfl (pi_list (pv 1)) (pg_name (i := 2) scSome.nd rfl (.inl rfl))
        (pss_cons (ps_expr (pe_call (E := E) GM.ok hr1 rfl GM.g GM.kp GM.b .nil (passes_call (takes_of rfl rfl rfl rfl) fun _ _ _ _ h => h) (pa_cons (pe_cmpR op_le (pe_ix ix_tup (pv 2) pe_int (fun _ _ => rfl)) (pe_glob (v := .int 10000) rfl cT ⟨_, rfl⟩) (nomark _)) pa_nil)))
        (pss_one (ps_expr (pe_call (E := E) GM.ok hr1 rfl GM.g GM.kp GM.b .nil (passes_call (takes_of rfl rfl rfl rfl) fun _ _ _ _ h => h) (pa_cons (pe_cmpR op_le (pe_ix ix_tup (pv 2) pe_int (fun _ _ => rfl)) (pe_glob (v := .int 10000) rfl cT ⟨_, rfl⟩) (nomark _)) pa_nil))))))
      (pss_one (ps_ret (pv 1))))), ?_⟩
    refine ⟨_, rfl, a, ns, rfl, hS, fun bad => k0 (fun z => bad ⟨z.1, z.2.1⟩) H (Same.refl H), fun ok1 => ?_⟩
    refine ⟨_, rfl, a, ns, rfl, hS, hlen, fun H1 p rs s1 hp hw => ?_⟩
    refine ⟨_, rfl, p, rfl, ⟨_, SqL.of hp⟩, for_list (K := K) (a := p) (xs := rs.map V.ref) (fun i σ H' => ∃ v : Option V, σ = [some (.ref a), some (.ref p), v] ∧ H' = H1 ∧ ∀ w ∈ (pairs ns).take i, w.1 ≤ 10000 ∧ w.2 ≤ 10000)
      ⟨none, rfl, rfl, fun w hw => by simp at hw⟩ (fun i σ H' _ ⟨_, _, e, _⟩ => by rw [e]; exact SqL.of hp) ?_ ?_⟩
    · rintro i y σ H' hi ⟨v, rfl, rfl, hall⟩
      obtain ⟨r, x, rfl, hx, hrr⟩ := hw.at hi
      refine ⟨_, rfl, r, _, _, _, rfl, rfl, SqT.of hrr, at0, _, _, rfl, rfl, _, rfl, fun e => k0 (fun z => absurd (z.2.2.2.2 x (List.mem_of_getElem? hx)).1 (of_decide_eq_false e)) _ s1, fun e => ?_⟩
      refine ⟨_, rfl, r, _, _, _, rfl, rfl, SqT.of hrr, at1, _, _, rfl, rfl, _, rfl, fun e2 => k0 (fun z => absurd (z.2.2.2.2 x (List.mem_of_getElem? hx)).2 (of_decide_eq_false e2)) _ s1, fun e2 => ⟨_, rfl, rfl, fun w hw => ?_⟩⟩
      rw [take_up hx] at hw
      rcases List.mem_append.mp hw with q | q
      · exact hall w q
      · rw [List.mem_singleton.mp q]
        exact ⟨of_decide_eq_true e, of_decide_eq_true e2⟩
    · rintro σ H' ⟨v, rfl, rfl, hall⟩
      rw [List.length_map, hw.len, List.take_length] at hall
      exact ⟨.ref p, rfl, k1 ⟨ok1.1, ok1.2, by decide, by decide, hall⟩ _ p rs s1 hp hw⟩
theorem ok_louder {f : Addr} {fd : FuncData} (F : Fun K "is_louder" "is_louder" sLouder f fd) : FnOk P w K mg base CX0 1 f fd ["word", "other"] spLouder := by
  refine F.ok scLouder (fun vs H Q E h => ?_) (fun cdv A outer s H vs Q E hr h => ?_)
  · obtain ⟨r, s, x, y, rfl, _⟩ := h
    rfl
  · obtain ⟨r, s, x, y, rfl, hx, hy, bx, bY, q⟩ := h
    refine ⟨_, pss_one (ps_ret (pe_cmpR op_gt
      (pe_op op_mul (pe_op op_add (pe_ix ix_tup (pv 0) pe_int (fun _ _ => rfl)) pe_int) (pe_op op_add (pe_ix ix_tup (pv 1) pe_int (fun _ _ => rfl)) pe_int))
      (pe_op op_mul (pe_op op_add (pe_ix ix_tup (pv 1) pe_int (fun _ _ => rfl)) pe_int) (pe_op op_add (pe_ix ix_tup (pv 0) pe_int (fun _ _ => rfl)) pe_int)) (nomark _))), ?_⟩
    refine ⟨_, rfl, r, _, _, _, rfl, rfl, SqT.of hx, at1, _, _, rfl, rfl, _, rfl, s, _, _, _, rfl, rfl, SqT.of hy, at0, _, _, rfl, rfl, _, _, rfl, rfl, .inl ⟨by omega, by omega⟩, ?_⟩
    exact ⟨_, rfl, s, _, _, _, rfl, rfl, SqT.of hy, at1, _, _, rfl, rfl, _, rfl, r, _, _, _, rfl, rfl, SqT.of hx, at0, _, _, rfl, rfl, _, _, rfl, rfl, .inl ⟨by omega, by omega⟩, _, _, rfl, rfl, q⟩
theorem ok_place {f fQ : Addr} {fd fdQ : FuncData} (F : Fun K "place_for" "place_for" sPlace f fd) (T : Txt K mg CF) (GQ : Got P w K mg base CX0 1 "is_louder" ["word", "other"] spLouder fQ fdQ) :
    FnOk P w K mg base CX0 2 f fd ["words", "order", "at"] (spPlace K) := by
  refine F.ok scPlace (fun vs H Q E h => ?_) (fun cdv A outer s H vs Q E hr h => ?_)
  · obtain ⟨p, o, ws, ord, a, rfl, _⟩ := h
    rfl
  · obtain ⟨p, o, ws, ord, a, rfl, ⟨rs, hp, hw⟩, L, ho, ha, hord, hlen, q⟩ := h
    refine ⟨_, pss_cons (ps_for PassesOwn.never rfl (pi_range1 rfl T.zr (pa_cons (pe_callB call_len_seq (by rfl) T.zl PySem.boot_len (pa_cons (pv 1) pa_nil)) pa_nil)) (pg_name (i := 3) scPlace.nd rfl (.inl rfl))
        (pss_one (ps_if (pt_val (pe_call GQ.ok hr rfl GQ.g GQ.kp GQ.b .nil pass0 (pa_cons (pe_ix ix_list (pv 0) (pv 2) (fun _ _ => rfl)) (pa_cons (pe_ix ix_list (pv 0) (pe_ix ix_list (pv 1) (pv 3) (fun _ _ => rfl)) (fun _ _ => rfl)) pa_nil))))
          (pss_one (ps_ret (pv 3))) pss_nil)))
      (pss_one (ps_ret (pe_callB call_len_seq (by rfl) T.zl PySem.boot_len (pa_cons (pv 1) pa_nil)))), ?_⟩
    have en : (((vN ord).length : Nat) : Int).toNat = ord.length := by rw [vN_len]; omega
    refine ⟨_, rfl, o, _, rfl, .inl (SqL.of ho), _, rfl, (by rw [vN_len]; omega), (by rw [vN_len]; omega),
      for_range (n := (((vN ord).length : Nat) : Int).toNat) (fun i σ H' => ∃ v : Option V, σ = [some (.ref p), some (.ref o), some (.int (a : Int)), v] ∧ H' = H ∧ ∀ (j k : Nat), j < i → ord[j]? = some k → loudW (wAt ws a) (wAt ws k) = false)
      ⟨none, rfl, rfl, fun j k hj => absurd hj (Nat.not_lt_zero _)⟩ ?_ ?_⟩
    · rintro i σ H' hi ⟨v, rfl, rfl, hall⟩
      rw [en] at hi
      have hk : ord[i]? = some ord[i] := List.getElem?_eq_getElem hi
      have hkl : ord[i] < ws.length := hord _ (List.getElem_mem hi)
      obtain ⟨r1, g1, t1⟩ := hw.get a ws[a] (List.getElem?_eq_getElem ha)
      obtain ⟨r2, g2, t2⟩ := hw.get ord[i] ws[ord[i]] (List.getElem?_eq_getElem hkl)
      have v1 : atI (rs.map V.ref) (a : Int) = some (V.ref r1) := atI_nat (by rw [List.getElem?_map, g1]; rfl)
      have v2 : atI (rs.map V.ref) ((ord[i] : Nat) : Int) = some (V.ref r2) := atI_nat (by rw [List.getElem?_map, g2]; rfl)
      have v3 : atI (vN ord) (0 + (i : Int)) = some (V.int ((ord[i] : Nat) : Int)) := by
        rw [Int.zero_add]
        exact atI_nat (vN_get hk)
      have b1 := L.mem ws[a] (List.getElem_mem ha)
      have b2 := L.mem ws[ord[i]] (List.getElem_mem hkl)
      refine ⟨_, rfl, _, rfl, p, _, _, _, rfl, rfl, SqL.of hp, v1, _, rfl, _, rfl, _, rfl, o, _, _, _, rfl, rfl, SqL.of ho, v3, p, _, _, _, rfl, rfl, SqL.of hp, v2, r1, r2, ws[a], ws[ord[i]], rfl, t1, t2, b1, b2, _, rfl, ite2 (fun c => ?_) (fun c => ?_)⟩
      · have c' : loudW (wAt ws a) (wAt ws ord[i]) = true := by
          rw [wAt_get (List.getElem?_eq_getElem ha), wAt_get (List.getElem?_eq_getElem hkl)]
          exact c
        have e := placeFrom_hit ws a ord i ord[i] hk hall c'
        rw [e] at q
        refine ⟨_, rfl, ?_⟩
        rw [Int.zero_add]
        exact q
      · refine ⟨_, rfl, rfl, fun j k hj hjk => ?_⟩
        by_cases hji : j < i
        · exact hall j k hji hjk
        · have : j = i := by omega
          subst this
          rw [hk] at hjk
          cases hjk
          rw [wAt_get (List.getElem?_eq_getElem ha), wAt_get (List.getElem?_eq_getElem hkl)]
          exact Bool.not_eq_true _ ▸ c
    · rintro σ H' ⟨v, rfl, rfl, hall⟩
      rw [en] at hall
      have e := placeFrom_end ws a ord fun j k hjk => hall j k (List.getElem?_eq_some_iff.mp hjk).1 hjk
      rw [e] at q
      refine ⟨_, rfl, o, _, rfl, .inl (SqL.of ho), ?_⟩
      rw [vN_len]
      exact q
theorem ok_loudest {f fQ : Addr} {fd fdQ : FuncData} (F : Fun K "loudest_first" "loudest_first" sLoudest f fd) (T : Txt K mg CF) (GQ : Got P w K mg base CX0 2 "place_for" ["words", "order", "at"] (spPlace K) fQ fdQ) :
    FnOk P w K mg base CX0 3 f fd ["words"] (spLoudest K) := by
  refine F.ok scLoudest (fun vs H Q E h => ?_) (fun cdv A outer s H vs Q E hr h => ?_)
  · obtain ⟨p, ws, rfl, _⟩ := h
    rfl
  · obtain ⟨p, ws, rfl, ⟨rs, hp, hw⟩, L, q⟩ := h
    refine ⟨_, pss_cons (ps_set (i := 1) scLoudest.nd rfl (.inl rfl) (pe_lst pa_nil))
      (pss_cons (ps_for PassesOwn.never rfl (pi_range1 rfl T.zr (pa_cons (pe_callB call_len_seq (by rfl) T.zl PySem.boot_len (pa_cons (pv 0) pa_nil)) pa_nil)) (pg_name (i := 2) scLoudest.nd rfl (.inl rfl))
        (pss_cons (ps_set (i := 3) scLoudest.nd rfl (.inl rfl) (pe_call GQ.ok hr rfl GQ.g GQ.kp GQ.b .nil pass0 (pa_cons (pv 0) (pa_cons (pv 1) (pa_cons (pv 2) pa_nil)))))
        (pss_one (ps_set (i := 1) scLoudest.nd rfl (.inl rfl) (pe_op op_cat (pe_op op_cat (pe_slice sl_list (pv 1) po_none (po_some (pv 3))) (pe_lst (pa_cons (pv 2) pa_nil))) (pe_slice sl_list (pv 1) (po_some (pv 3)) po_none))))))
      (pss_one (ps_ret (pv 1)))), ?_⟩
    refine ⟨Nat.zero_le _, fun o no => ?_⟩
    have s1 : Same H (upd H o (.lst [])) := same_new no
    have en : (((rs.map V.ref).length : Nat) : Int).toNat = ws.length := by rw [List.length_map, hw.len]; omega
    have l40 := L.len
    refine ⟨_, rfl, p, _, rfl, .inl (SqL.of (s1 _ _ hp)), _, rfl, (by rw [List.length_map, hw.len]; omega), (by rw [List.length_map, hw.len]; omega),
      for_range (n := (((rs.map V.ref).length : Nat) : Int).toNat) (fun i σ H' => ∃ (o : Addr) (v2 v3 : Option V), σ = [some (.ref p), some (.ref o), v2, v3] ∧ Same H H' ∧ H' o = some (.lst (vN (orderTo ws i))))
      ⟨o, none, none, rfl, s1, upd_same⟩ ?_ ?_⟩
    · rintro i σ H' hi ⟨o, v2, v3, rfl, s5, ho⟩
      rw [en] at hi
      have ol := orderTo_len ws i
      have pl := placeFrom_le ws i (orderTo ws i)
      have ea : (0 + (i : Int)) = (i : Int) := Int.zero_add _
      refine ⟨_, rfl, _, rfl, _, rfl, p, o, ws, orderTo ws i, i, by rw [ea]; rfl, ⟨rs, s5 _ _ hp, hw.same s5⟩, L, ho, hi, fun k hk => Nat.lt_trans (orderTo_lt ws i k hk) hi, by omega, ?_⟩
      refine ⟨_, rfl, _, rfl, _, rfl, o, _, rfl, SqL.of ho, fun c1 n1 => ?_⟩
      rw [cut_to]
      have x1 : Same H' (upd H' c1 (.lst (vN ((orderTo ws i).take (placeFrom ws i (orderTo ws i)))))) := same_new n1
      generalize hH1 : upd H' c1 (.lst (vN ((orderTo ws i).take (placeFrom ws i (orderTo ws i))))) = H1 at x1 ⊢
      have g1 : H1 c1 = some (.lst (vN ((orderTo ws i).take (placeFrom ws i (orderTo ws i))))) := by rw [← hH1]; exact upd_same
      refine ⟨_, rfl, (by show 1 ≤ sizeLine; decide), fun c2 n2 => ?_⟩
      have x2 : Same H1 (upd H1 c2 (.lst [.int (0 + (i : Int))])) := same_new n2
      generalize hH2 : upd H1 c2 (.lst [.int (0 + (i : Int))]) = H2 at x2 ⊢
      have g2 : H2 c2 = some (.lst [.int (0 + (i : Int))]) := by rw [← hH2]; exact upd_same
      refine ⟨c1, c2, _, _, rfl, rfl, x2 _ _ g1, g2, ?_, fun c3 n3 => ?_⟩
      · rw [vN_len, List.length_take]
        exact Nat.le_of_lt (line84 (by simp only [List.length_singleton]; omega))
      generalize hA : vN ((orderTo ws i).take (placeFrom ws i (orderTo ws i))) ++ [.int (0 + (i : Int))] = lA
      have x3 : Same H2 (upd H2 c3 (.lst lA)) := same_new n3
      generalize hH3 : upd H2 c3 (.lst lA) = H3 at x3 ⊢
      have g3 : H3 c3 = some (.lst lA) := by rw [← hH3]; exact upd_same
      refine ⟨_, rfl, _, rfl, _, rfl, o, _, rfl, SqL.of (x3 _ _ (x2 _ _ (x1 _ _ ho))), fun c4 n4 => ?_⟩
      rw [cut_from _ _ pl]
      have x4 : Same H3 (upd H3 c4 (.lst (vN ((orderTo ws i).drop (placeFrom ws i (orderTo ws i)))))) := same_new n4
      generalize hH4 : upd H3 c4 (.lst (vN ((orderTo ws i).drop (placeFrom ws i (orderTo ws i))))) = H4 at x4 ⊢
      have g4 : H4 c4 = some (.lst (vN ((orderTo ws i).drop (placeFrom ws i (orderTo ws i))))) := by rw [← hH4]; exact upd_same
      refine ⟨c3, c4, _, _, rfl, rfl, x4 _ _ g3, g4, ?_, fun c5 n5 => ?_⟩
      · rw [← hA, List.length_append, vN_len, vN_len, List.length_take, List.length_drop]
        exact Nat.le_of_lt (line84 (by simp only [List.length_singleton]; omega))
      refine ⟨c5, _, _, rfl, ?_, ?_⟩
      · exact s5.trans (x1.trans (x2.trans (x3.trans (x4.trans (same_new n5)))))
      · rw [upd_same, ← hA]
        show _ = some (HO.lst (vN ((orderTo ws i).take (placeFrom ws i (orderTo ws i)) ++ [i] ++ (orderTo ws i).drop (placeFrom ws i (orderTo ws i)))))
        unfold vN
        rw [List.map_append, List.map_append, ea]
        rfl
    · rintro σ H' ⟨o, v2, v3, rfl, s5, ho⟩
      rw [en] at ho
      exact ⟨.ref o, rfl, q H' o s5 ho⟩
theorem ok_main {f fL fS : Addr} {fd fdL fdS : FuncData} (F : Fun K "order" "order" sMain f fd) (T : Txt K mg CF) (GL : Got P w K mg base (L2.CX P w) 3 "some_words_in" ["row"] (spSome K CF) fL fdL)
    (GS : Got P w K mg base CX0 3 "loudest_first" ["words"] (spLoudest K) fS fdS) : FnOk P w K mg base CX0 4 f fd ["l"] (spMain K) := by
  refine F.ok scMain (fun vs H Q E h => ?_) (fun cdv A outer s H vs Q E hr h => ?_)
  · obtain ⟨a, ns, rfl, _⟩ := h
    rfl
  · obtain ⟨a, ns, rfl, hS, ⟨hl, hz⟩, k⟩ := h
    obtain ⟨tR, cR⟩ := T.cR
    refine ⟨_, pss_cons (ps_try_only (tb := fun W => tAsg (tCallS (spSome K CF) (WE W) (tCons (tVar 0) tNil)) (gName 1)) (ts := fun _ _ _ => tRet (tLst (tCons (tC (.int (-22))) tNil)))
        (Wout := fun _ _ _ _ => False) rfl rfl ⟨rfl, by decide, Or.inl T.gF⟩ takes0
        (fun W pn xe tk _ => pss_one (ps_set (i := 1) scMain.nd rfl (Or.inl rfl) (by exact (pe_callS GL.ok hr rfl GL.g GL.kp GL.b (fun σ => passAt tk σ) (by exact (pa_cons (pv 0) pa_nil))))))
        (fun _ _ _ _ _ _ _ => pss_one (ps_ret (pe_lst (pa_cons (pe_glob (v := .int (-22)) rfl cR ⟨_, rfl⟩) pa_nil)))))
      (pss_one (ps_ret (pe_op op_cat (pe_lst (pa_cons (pe_callB call_len_seq (by rfl) T.zl PySem.boot_len (pa_cons (pv 1) pa_nil)) pa_nil)) (pe_call GS.ok hr rfl GS.g GS.kp GS.b .nil pass0 (pa_cons (pv 1) pa_nil))))), ?_⟩
    refine ⟨_, rfl, a, ns, rfl, hS, hl, fun bad H' s' => ?_, fun ok H' p rs s' hp hw => ?_⟩
    · refine ⟨true, T.eF, fun _ a0 _ => ?_, fun q => Bool.noConfusion q⟩
      refine ⟨(by show 1 ≤ sizeLine; decide), fun p hp => k _ p ?_⟩
      rw [order_bad hz bad]
      exact upd_same
    · have L : Lt 10000 10000 (pairs ns) := lt_of (by decide) (by decide) hz ok
      refine ⟨_, rfl, p, _, rfl, .inl (SqL.of hp), (by show 1 ≤ sizeLine; decide), fun c nc => ?_⟩
      have x1 : Same H' (upd H' c (.lst [.int (((rs.map V.ref).length : Nat) : Int)])) := same_new nc
      refine ⟨_, rfl, p, pairs ns, rfl, ⟨rs, x1 _ _ hp, hw.same x1⟩, L, fun H2 o s2 ho => ?_⟩
      have l40 := L.len
      refine ⟨c, o, _, _, rfl, rfl, s2 _ _ upd_same, ho, ?_, fun p2 hp2 => k _ p2 ?_⟩
      · rw [vN_len, orderTo_len]
        exact Nat.le_of_lt (line84 (by simp only [List.length_singleton]; omega))
      · rw [order_good hz ok, upd_same, List.length_map, hw.len]
        unfold orderOf vN
        rw [List.map_cons, List.map_map]
        rfl
end
/-! ## The end: what the top has written -/
theorem exm_own {K : PySem.W.Frag} {S : Addr} (h1 : PySem.W.subIn K (.ref S) (.type "BaseException") = some true) (h2 : PySem.W.isClsIn K S = true) (h3 : PySem.W.typeIn K (.ref S) = some (.type "type")) (h4 : PySem.W.subIn K (.ref S) (.ref S) = some true) : PySem.W.exmOne K (.ref S) (.ref S) = some true := by
  have e1 : (PySem.W.subIn K (.ref S) (.type "BaseException") == some true) = true := by rw [h1] <;> rfl
  have e2 : ((PySem.W.clsIn K S).isSome && PySem.W.typeIn K (.ref S) == some (.type "type")) = true := by
    have h2' : (PySem.W.clsIn K S).isSome = true := h2
    rw [h2', h3] <;> rfl
  show (if (PySem.W.subIn K (.ref S) (.type "BaseException") == some true) = true then (if ((PySem.W.clsIn K S).isSome && PySem.W.typeIn K (.ref S) == some (.type "type")) = true then PySem.W.subIn K (.ref S) (.ref S) else none) else none) = some true
  rw [if_pos e1, if_pos e2]
  exact h4
theorem all_mk {P : Program} {w : World} {K : PySem.W.Frag} {h : Heap} {mg : Str → Option Value} {fa CF f1 f2 f3 f4 f5 f6 f7 f8 f9 : Addr} (X : K.In h) (G : h.Ns mainGlobals mg) (hfa : mg "order" = some (.ref fa))
    {od1 an1 od2 an2 od3 an3 od4 an4 od5 an5 od6 an6 od7 an7 od8 an8 od9 an9 : Option Addr} {sl1 sl2 sl3 sl4 sl5 sl6 sl7 sl8 sl9 : Array (Option Value)} {oc1 kV1 dc1 pm1 cd1 ct1 oc2 kV2 dc2 pm2 cd2 ct2 oc3 kV3 dc3 pm3 cd3 ct3 oc4 kV4 dc4 pm4 cd4 ct4 oc5 kV5 dc5 pm5 cd5 ct5 oc6 kV6 dc6 pm6 cd6 ct6 oc7 kV7 dc7 pm7 cd7 ct7 oc8 kV8 dc8 pm8 cd8 ct8 oc9 kV9 dc9 pm9 cd9 ct9 : Value} {tMOST_TAUGHT tMOST_WORDS tREFUSED : Tok}
    (a1 : PySem.W.nsIn K mainGlobals "must" = some (some (.ref f1))) (l1 : K.lookup f1 = some ⟨oc1, od1, .func (PySem.W.fnOf "must" "must" (defArgs sMust) (defBody sMust) (defScope sMust) .none kV1 dc1 pm1 an1 cd1 ct1), sl1⟩) (c1 : PySem.W.codeIn K cd1 "must" = true) (k1 : PySem.W.keepIn K (.ref f1) = true)
    (a2 : PySem.W.nsIn K mainGlobals "words_in" = some (some (.ref f2))) (l2 : K.lookup f2 = some ⟨oc2, od2, .func (PySem.W.fnOf "words_in" "words_in" (defArgs sWordsIn) (defBody sWordsIn) (defScope sWordsIn) .none kV2 dc2 pm2 an2 cd2 ct2), sl2⟩) (c2 : PySem.W.codeIn K cd2 "words_in" = true) (k2 : PySem.W.keepIn K (.ref f2) = true)
    (a3 : PySem.W.nsIn K mainGlobals "is_even" = some (some (.ref f3))) (l3 : K.lookup f3 = some ⟨oc3, od3, .func (PySem.W.fnOf "is_even" "is_even" (defArgs sEven) (defBody sEven) (defScope sEven) .none kV3 dc3 pm3 an3 cd3 ct3), sl3⟩) (c3 : PySem.W.codeIn K cd3 "is_even" = true) (k3 : PySem.W.keepIn K (.ref f3) = true)
    (a4 : PySem.W.nsIn K mainGlobals "look_at_many" = some (some (.ref f4))) (l4 : K.lookup f4 = some ⟨oc4, od4, .func (PySem.W.fnOf "look_at_many" "look_at_many" (defArgs sMany) (defBody sMany) (defScope sMany) .none kV4 dc4 pm4 an4 cd4 ct4), sl4⟩) (c4 : PySem.W.codeIn K cd4 "look_at_many" = true) (k4 : PySem.W.keepIn K (.ref f4) = true)
    (a5 : PySem.W.nsIn K mainGlobals "some_words_in" = some (some (.ref f5))) (l5 : K.lookup f5 = some ⟨oc5, od5, .func (PySem.W.fnOf "some_words_in" "some_words_in" (defArgs sSome) (defBody sSome) (defScope sSome) .none kV5 dc5 pm5 an5 cd5 ct5), sl5⟩) (c5 : PySem.W.codeIn K cd5 "some_words_in" = true) (k5 : PySem.W.keepIn K (.ref f5) = true)
    (a6 : PySem.W.nsIn K mainGlobals "is_louder" = some (some (.ref f6))) (l6 : K.lookup f6 = some ⟨oc6, od6, .func (PySem.W.fnOf "is_louder" "is_louder" (defArgs sLouder) (defBody sLouder) (defScope sLouder) .none kV6 dc6 pm6 an6 cd6 ct6), sl6⟩) (c6 : PySem.W.codeIn K cd6 "is_louder" = true) (k6 : PySem.W.keepIn K (.ref f6) = true)
    (a7 : PySem.W.nsIn K mainGlobals "place_for" = some (some (.ref f7))) (l7 : K.lookup f7 = some ⟨oc7, od7, .func (PySem.W.fnOf "place_for" "place_for" (defArgs sPlace) (defBody sPlace) (defScope sPlace) .none kV7 dc7 pm7 an7 cd7 ct7), sl7⟩) (c7 : PySem.W.codeIn K cd7 "place_for" = true) (k7 : PySem.W.keepIn K (.ref f7) = true)
    (a8 : PySem.W.nsIn K mainGlobals "loudest_first" = some (some (.ref f8))) (l8 : K.lookup f8 = some ⟨oc8, od8, .func (PySem.W.fnOf "loudest_first" "loudest_first" (defArgs sLoudest) (defBody sLoudest) (defScope sLoudest) .none kV8 dc8 pm8 an8 cd8 ct8), sl8⟩) (c8 : PySem.W.codeIn K cd8 "loudest_first" = true) (k8 : PySem.W.keepIn K (.ref f8) = true)
    (a9 : PySem.W.nsIn K mainGlobals "order" = some (some (.ref f9))) (l9 : K.lookup f9 = some ⟨oc9, od9, .func (PySem.W.fnOf "order" "order" (defArgs sMain) (defBody sMain) (defScope sMain) .none kV9 dc9 pm9 an9 cd9 ct9), sl9⟩) (c9 : PySem.W.codeIn K cd9 "order" = true) (k9 : PySem.W.keepIn K (.ref f9) = true)
    (nMOST_TAUGHT : PySem.W.nsIn K mainGlobals "MOST_TAUGHT" = some (some (.int 10000 tMOST_TAUGHT)))
    (nMOST_WORDS : PySem.W.nsIn K mainGlobals "MOST_WORDS" = some (some (.int 40 tMOST_WORDS)))
    (nREFUSED : PySem.W.nsIn K mainGlobals "REFUSED" = some (some (.int (-22) tREFUSED)))
    (zl : PySem.W.nsIn K mainGlobals "len" = some none) (zr : PySem.W.nsIn K mainGlobals "range" = some none) (aF : PySem.W.nsIn K mainGlobals "Refused" = some (some (.ref CF)))
    (xF : PySem.W.excIn K CF [.type "ValueError", .type "Exception", .type "BaseException", .type "object"] "ValueError.__new__" = true) (kF : PySem.W.keepIn K (.ref CF) = true) (bF : PySem.W.subIn K (.ref CF) (.type "BaseException") = some true)
    (tF : PySem.W.typeIn K (.ref CF) = some (.type "type")) (iF : PySem.W.isClsIn K CF = true) (sF : PySem.W.subIn K (.ref CF) (.ref CF) = some true) :
    ∃ fd : FuncData, (∀ (s : Shared) (us : List Value), us.length = (["l"] : List Str).length → BindsTo s fd ⟨us, []⟩ ((["l"] : List Str).zip us)) ∧ ∀ base : Heap, K.In base → base.Ns mainGlobals mg → FnOk P w K mg base CX0 4 fa fd ["l"] (spMain K) := by
  have e := hfa.symm.trans (PySem.W.mg_of X G a9)
  cases e
  have T : Txt K mg CF := ⟨PySem.W.mg_of X G aF, xF, kF, bF, tF, exm_own bF iF tF sF, PySem.W.mg_none_of X G zl, PySem.W.mg_none_of X G zr, ⟨_, PySem.W.mg_of X G nMOST_TAUGHT⟩, ⟨_, PySem.W.mg_of X G nMOST_WORDS⟩, ⟨_, PySem.W.mg_of X G nREFUSED⟩⟩
  have F1 := fun_mk (st := sMust) l1 c1 k1
  have F2 := fun_mk (st := sWordsIn) l2 c2 k2
  have F3 := fun_mk (st := sEven) l3 c3 k3
  have F4 := fun_mk (st := sMany) l4 c4 k4
  have F5 := fun_mk (st := sSome) l5 c5 k5
  have F6 := fun_mk (st := sLouder) l6 c6 k6
  have F7 := fun_mk (st := sPlace) l7 c7 k7
  have F8 := fun_mk (st := sLoudest) l8 c8 k8
  have F9 := fun_mk (st := sMain) l9 c9 k9
  have b1 := F1.binds (ps := ["so"]) fun _ _ _ _ _ _ us hl => match us, hl with | [_], _ => rfl
  have b2 := F2.binds (ps := ["row"]) fun _ _ _ _ _ _ us hl => match us, hl with | [_], _ => rfl
  have b3 := F3.binds (ps := ["number"]) fun _ _ _ _ _ _ us hl => match us, hl with | [_], _ => rfl
  have b4 := F4.binds (ps := ["row"]) fun _ _ _ _ _ _ us hl => match us, hl with | [_], _ => rfl
  have b5 := F5.binds (ps := ["row"]) fun _ _ _ _ _ _ us hl => match us, hl with | [_], _ => rfl
  have b6 := F6.binds (ps := ["word", "other"]) fun _ _ _ _ _ _ us hl => match us, hl with | [_, _], _ => rfl
  have b7 := F7.binds (ps := ["words", "order", "at"]) fun _ _ _ _ _ _ us hl => match us, hl with | [_, _, _], _ => rfl
  have b8 := F8.binds (ps := ["words"]) fun _ _ _ _ _ _ us hl => match us, hl with | [_], _ => rfl
  refine ⟨PySem.W.fnOf "order" "order" (defArgs sMain) (defBody sMain) (defScope sMain) .none kV9 dc9 pm9 an9 cd9 ct9, fun s us hu => match us, hu with | [_], _ => .of_eq rfl, fun base _ _ => ?_⟩
  have Gmust : Got P w K mg base (L2.CX P w) 1 "must" ["so"] (spMust CF) f1 _ := ⟨ok_must F1 T, PySem.W.mg_of X G a1, k1, b1⟩
  have Gis_even : Got P w K mg base CX0 1 "is_even" ["number"] spEven f3 _ := ⟨ok_even F3, PySem.W.mg_of X G a3, k3, b3⟩
  have Gwords_in : Got P w K mg base CX0 1 "words_in" ["row"] (spWordsIn K) f2 _ := ⟨ok_wordsIn F2 T, PySem.W.mg_of X G a2, k2, b2⟩
  have Glook_at_many : Got P w K mg base (L2.CX P w) 2 "look_at_many" ["row"] (spMany K CF) f4 _ := ⟨ok_many F4 T Gmust Gis_even, PySem.W.mg_of X G a4, k4, b4⟩
  have Gsome_words_in : Got P w K mg base (L2.CX P w) 3 "some_words_in" ["row"] (spSome K CF) f5 _ := ⟨ok_some F5 T Gmust Glook_at_many Gwords_in, PySem.W.mg_of X G a5, k5, b5⟩
  have Gis_louder : Got P w K mg base CX0 1 "is_louder" ["word", "other"] spLouder f6 _ := ⟨ok_louder F6, PySem.W.mg_of X G a6, k6, b6⟩
  have Gplace_for : Got P w K mg base CX0 2 "place_for" ["words", "order", "at"] (spPlace K) f7 _ := ⟨ok_place F7 T Gis_louder, PySem.W.mg_of X G a7, k7, b7⟩
  have Gloudest_first : Got P w K mg base CX0 3 "loudest_first" ["words"] (spLoudest K) f8 _ := ⟨ok_loudest F8 T Gplace_for, PySem.W.mg_of X G a8, k8, b8⟩
  exact ok_main F9 T Gsome_words_in Gloudest_first
end Um
open PySem PySem.W PyProof.Rows
set_option maxRecDepth 100000 in
set_option maxHeartbeats 8000000 in
theorem PySem.Challenge.cw_unwantedmail_s04_order_holds : PySem.Challenge.rw_unwantedmail_s04_order.Holds := by
  w_on; k_headS; (case hw => exact ⟨[.list []], by decide +kernel, by decide +kernel⟩)
  k_fillS
  refine L2.walk_specK (r := PySem.Challenge.rw_unwantedmail_s04_order) (k := 4) (CX := L2.CX0) (ps := ["l"]) (sp := Um.spMain) (by decide +kernel) rfl rfl ⟨rfl, by decide, by decide⟩ (fun w h Y => PySem.W.kIn_of Y) ?F ?S (fun _ _ _ _ z => z)
  case F =>
    intro w mg fa h Y KX G hmg
    refine' Um.all_mk KX G hmg ?a1 ?l1 ?c1 ?k1 ?a2 ?l2 ?c2 ?k2 ?a3 ?l3 ?c3 ?k3 ?a4 ?l4 ?c4 ?k4 ?a5 ?l5 ?c5 ?k5 ?a6 ?l6 ?c6 ?k6 ?a7 ?l7 ?c7 ?k7 ?a8 ?l8 ?c8 ?k8 ?a9 ?l9 ?c9 ?k9 ?nMOST_TAUGHT ?nMOST_WORDS ?nREFUSED ?zl ?zr ?aF ?xF ?kF ?bF ?tF ?iF ?sF
    (case a1 => k_is)
    (case l1 => k_is)
    (case c1 => k_is)
    (case k1 => k_is)
    (case a2 => k_is)
    (case l2 => k_is)
    (case c2 => k_is)
    (case k2 => k_is)
    (case a3 => k_is)
    (case l3 => k_is)
    (case c3 => k_is)
    (case k3 => k_is)
    (case a4 => k_is)
    (case l4 => k_is)
    (case c4 => k_is)
    (case k4 => k_is)
    (case a5 => k_is)
    (case l5 => k_is)
    (case c5 => k_is)
    (case k5 => k_is)
    (case a6 => k_is)
    (case l6 => k_is)
    (case c6 => k_is)
    (case k6 => k_is)
    (case a7 => k_is)
    (case l7 => k_is)
    (case c7 => k_is)
    (case k7 => k_is)
    (case a8 => k_is)
    (case l8 => k_is)
    (case c8 => k_is)
    (case k8 => k_is)
    (case a9 => k_is)
    (case l9 => k_is)
    (case c9 => k_is)
    (case k9 => k_is)
    (case nMOST_TAUGHT => k_is)
    (case nMOST_WORDS => k_is)
    (case nREFUSED => k_is)
    (case zl => k_is)
    (case zr => k_is)
    (case aF => k_is)
    (case xF => k_exc)
    (case kF => k_is)
    (case bF => k_is)
    (case tF => k_is)
    (case iF => k_is)
    (case sF => first | rfl | k_is)
  case S =>
    intro K H xs a hO hwi hask hx
    obtain ⟨ns, u⟩ := a
    cases hx with
    | cons h3 hx =>
      cases hx
      cases h3 with
      | lst hs ha =>
        have e := L2.ints_dw ns _ ha
        subst e
        have q : ((Codec.inLen 0 84 ns && ns.all (Codec.inInt 0 4294967295)) && true) = true := hwi
        simp only [Bool.and_eq_true, Codec.inInt_iff, List.all_eq_true] at q
        exact ⟨_, ns, rfl, hs, ⟨(Codec.inNat_iff.mp q.1.1).2, fun x hx => (q.1.2 x hx).1⟩, fun H' p hp => .lst (L2.SqL.of hp) (L2.dw_ints _)⟩
#print axioms PySem.Challenge.cw_unwantedmail_s04_order_holds
