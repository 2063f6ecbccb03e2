import PyProof.Rows.All
import Wide.All
import OpenK.AllK
import Wide.FinOn
import Open.SpecLaws
import KE.OsGo
import HandS.ForSpec
import HandS.TryMany
import HandS.Iter
import HandS.Wide
import PySem.Challenge.RW_unwantedmail_s02_told
set_option Elab.async false
set_option linter.all false
set_option maxRecDepth 100000
set_option maxHeartbeats 2000000
namespace Um
/-! ## The words of a row, as pairs -/
def pairs : List Int → List (Int × Int)
  | a :: b :: r => (a, b) :: pairs r
  | _ => []
theorem pairs_len : ∀ ns : List Int, (pairs ns).length = ns.length / 2
  | [] => rfl
  | [x] => by
    show 0 = (0 + 1) / 2
    omega
  | a :: b :: r => by
    show (pairs r).length + 1 = (r.length + 1 + 1) / 2
    rw [pairs_len r]
    omega
theorem pairs_get : ∀ (ns : List Int) (i : Nat), 2 * i + 1 < ns.length → ∃ a b, ns[2 * i]? = some a ∧ ns[2 * i + 1]? = some b ∧ (pairs ns)[i]? = some (a, b)
  | [], i, h => absurd h (Nat.not_lt_zero _)
  | [x], i, h => by
    have h' : 2 * i + 1 < 1 := h
    omega
  | a :: b :: r, 0, _ => ⟨a, b, rfl, rfl, rfl⟩
  | a :: b :: r, i + 1, h => by
    have h' : 2 * (i + 1) + 1 < r.length + 1 + 1 := h
    obtain ⟨x, y, h1, h2, h3⟩ := pairs_get r i (by omega)
    have e1 : 2 * (i + 1) = 2 * i + 1 + 1 := by omega
    refine ⟨x, y, ?_, ?_, h3⟩
    · rw [e1]
      exact h1
    · rw [e1]
      exact h2
theorem pairs_mem : ∀ (ns : List Int) (w : Int × Int), w ∈ pairs ns → w.1 ∈ ns ∧ w.2 ∈ ns
  | [], w, h => by cases h
  | [_], w, h => by cases h
  | a :: b :: r, w, h => by
    have h' : w ∈ (a, b) :: pairs r := h
    rcases List.mem_cons.mp h' with e | m
    · rw [e]
      exact ⟨List.mem_cons_self .., List.mem_cons_of_mem _ (List.mem_cons_self ..)⟩
    · have q := pairs_mem r w m
      exact ⟨List.mem_cons_of_mem _ (List.mem_cons_of_mem _ q.1), List.mem_cons_of_mem _ (List.mem_cons_of_mem _ q.2)⟩
def seenW (w : Int × Int) : Kys2.Seen := ⟨w.1.toNat, w.2.toNat⟩
theorem seen_pairs : ∀ ns : List Int, Kys2.seen (Kys2Neutral.natsOf ns) = (pairs ns).map seenW
  | [] => rfl
  | [_] => rfl
  | a :: b :: r => by
    show (⟨a.toNat, b.toNat⟩ : Kys2.Seen) :: Kys2.seen (Kys2Neutral.natsOf r) = seenW (a, b) :: (pairs r).map seenW
    rw [seen_pairs r]
    rfl
/-! ## What may be asked -/
def LetterOk (n m : Int) (ns : List Int) : Prop := ns.length % 2 = 0 ∧ ns.length / 2 ≤ 40 ∧ n ≤ 10000 ∧ m ≤ 10000 ∧ ∀ w ∈ pairs ns, w.1 ≤ n ∧ w.2 ≤ m
theorem good_iff {n m : Int} {ns : List Int} (hn : 0 ≤ n) (hm : 0 ≤ m) (h : ∀ x ∈ ns, 0 ≤ x) : Kys2.good n.toNat m.toNat (Kys2Neutral.natsOf ns) = true ↔ LetterOk n m ns := by
  have hl : (Kys2Neutral.natsOf ns).length = ns.length := List.length_map ..
  have hs := seen_pairs ns
  unfold Kys2.good Kys2.ok LetterOk
  rw [hs, hl, List.length_map, pairs_len, List.all_map]
  simp only [Bool.and_eq_true, decide_eq_true_eq, List.all_eq_true, Function.comp]
  constructor
  · rintro ⟨h1, ⟨⟨h2, h3⟩, h4⟩, h5⟩
    refine ⟨h1, h4, by omega, by omega, fun w hw => ?_⟩
    have q := h5 w hw
    have q1 : w.1.toNat ≤ n.toNat := q.1
    have q2 : w.2.toNat ≤ m.toNat := q.2
    have p := pairs_mem ns w hw
    have p1 := h _ p.1
    have p2 := h _ p.2
    omega
  · rintro ⟨h1, h4, h2, h3, h5⟩
    refine ⟨h1, ⟨⟨by omega, by omega⟩, h4⟩, fun w hw => ?_⟩
    have q := h5 w hw
    show w.1.toNat ≤ n.toNat ∧ w.2.toNat ≤ m.toNat
    omega
theorem good_false {n m : Int} {ns : List Int} (hn : 0 ≤ n) (hm : 0 ≤ m) (h : ∀ x ∈ ns, 0 ≤ x) (k : ¬ LetterOk n m ns) : Kys2.good n.toNat m.toNat (Kys2Neutral.natsOf ns) = false := by
  cases e : Kys2.good n.toNat m.toNat (Kys2Neutral.natsOf ns) with
  | false => rfl
  | true => exact absurd ((good_iff hn hm h).mp e) k
theorem good_true {n m : Int} {ns : List Int} (hn : 0 ≤ n) (hm : 0 ≤ m) (h : ∀ x ∈ ns, 0 ≤ x) (k : LetterOk n m ns) : ¬ Kys2.good n.toNat m.toNat (Kys2Neutral.natsOf ns) = false := by
  rw [(good_iff hn hm h).mpr k]
  exact Bool.noConfusion
/-! ## The two weights -/
def wW (n m : Int) (ws : List (Int × Int)) : Int := ws.foldl (fun acc w => acc * (w.1 + 1) * (m + 2)) (n + 1)
def wU (n m : Int) (ws : List (Int × Int)) : Int := ws.foldl (fun acc w => acc * (w.2 + 1) * (n + 2)) (m + 1)
theorem prod_from : ∀ (l : List Nat) (c : Nat), l.foldl (· * ·) c = c * Kys2.prod l
  | [], c => by
    show c = c * 1
    omega
  | x :: r, c => by
    show r.foldl (· * ·) (c * x) = c * r.foldl (· * ·) (1 * x)
    rw [prod_from r (c * x), prod_from r (1 * x), Nat.one_mul, Nat.mul_assoc]
theorem prod_cons (x : Nat) (l : List Nat) : Kys2.prod (x :: l) = x * Kys2.prod l := by
  show l.foldl (· * ·) (1 * x) = _
  rw [prod_from, Nat.one_mul]
theorem fold_is (f : Int × Int → Int) (g : Kys2.Seen → Nat) (k : Nat) : ∀ (ws : List (Int × Int)) (c : Nat), (∀ w ∈ ws, f w + 1 = ((g (seenW w) + 1 : Nat) : Int)) →
    ws.foldl (fun acc w => acc * (f w + 1) * ((k : Int) + 2)) (c : Int) = ((c * Kys2.prod ((ws.map seenW).map fun x => (g x + 1) * (k + 2)) : Nat) : Int)
  | [], c, _ => by
    show (c : Int) = ((c * 1 : Nat) : Int)
    rw [Nat.mul_one]
  | w :: r, c, h => by
    have e : (c : Int) * (f w + 1) * ((k : Int) + 2) = ((c * ((g (seenW w) + 1) * (k + 2)) : Nat) : Int) := by
      rw [h w (List.mem_cons_self ..), Int.mul_assoc]
      push_cast
      rfl
    show r.foldl (fun acc w => acc * (f w + 1) * ((k : Int) + 2)) ((c : Int) * (f w + 1) * ((k : Int) + 2)) = _
    rw [e, fold_is f g k r _ fun x hx => h x (List.mem_cons_of_mem _ hx)]
    show _ = ((c * Kys2.prod (((g (seenW w) + 1) * (k + 2)) :: (r.map seenW).map fun x => (g x + 1) * (k + 2)) : Nat) : Int)
    rw [prod_cons, Nat.mul_assoc]
theorem wW_is {n m : Int} {ws : List (Int × Int)} (hn : 0 ≤ n) (hm : 0 ≤ m) (h : ∀ w ∈ ws, 0 ≤ w.1 ∧ 0 ≤ w.2) : wW n m ws = (Kys2.wanted n.toNat m.toNat (ws.map seenW) : Nat) := by
  have q := fold_is (fun w => w.1) (fun x => x.a) m.toNat ws (n.toNat + 1) fun w hw => by
    have z := (h w hw).1
    show w.1 + 1 = ((w.1.toNat + 1 : Nat) : Int)
    omega
  have e1 : ((n.toNat + 1 : Nat) : Int) = n + 1 := by omega
  have e2 : ((m.toNat : Nat) : Int) = m := by omega
  rw [e1, e2] at q
  exact q
theorem wU_is {n m : Int} {ws : List (Int × Int)} (hn : 0 ≤ n) (hm : 0 ≤ m) (h : ∀ w ∈ ws, 0 ≤ w.1 ∧ 0 ≤ w.2) : wU n m ws = (Kys2.unwanted n.toNat m.toNat (ws.map seenW) : Nat) := by
  have q := fold_is (fun w => w.2) (fun x => x.b) n.toNat ws (m.toNat + 1) fun w hw => by
    have z := (h w hw).2
    show w.2 + 1 = ((w.2.toNat + 1 : Nat) : Int)
    omega
  have e1 : ((m.toNat + 1 : Nat) : Int) = m + 1 := by omega
  have e2 : ((n.toNat : Nat) : Int) = n := by omega
  rw [e1, e2] at q
  exact q
theorem prod_pos : ∀ l : List Nat, (∀ x ∈ l, 0 < x) → 0 < Kys2.prod l
  | [], _ => Nat.one_pos
  | x :: r, h => by
    rw [prod_cons]
    exact Nat.mul_pos (h x (List.mem_cons_self ..)) (prod_pos r fun y hy => h y (List.mem_cons_of_mem _ hy))
theorem prod_lt : ∀ l : List Nat, (∀ x ∈ l, x < 2 ^ 27) → Kys2.prod l ≤ 2 ^ (27 * l.length)
  | [], _ => Nat.le_refl _
  | x :: r, h => by
    rw [prod_cons, List.length_cons, Nat.mul_add, Nat.mul_one, Nat.add_comm, Nat.pow_add]
    exact Nat.mul_le_mul (Nat.le_of_lt (h x (List.mem_cons_self ..))) (prod_lt r fun y hy => h y (List.mem_cons_of_mem _ hy))
theorem wanted_pos (n m : Nat) (l : List Kys2.Seen) : 0 < Kys2.wanted n m l := Nat.mul_pos (Nat.succ_pos _) (prod_pos _ fun x hx => by
  obtain ⟨y, _, rfl⟩ := List.mem_map.mp hx
  exact Nat.mul_pos (Nat.succ_pos _) (Nat.succ_pos _))
theorem unwanted_pos (n m : Nat) (l : List Kys2.Seen) : 0 < Kys2.unwanted n m l := Nat.mul_pos (Nat.succ_pos _) (prod_pos _ fun x hx => by
  obtain ⟨y, _, rfl⟩ := List.mem_map.mp hx
  exact Nat.mul_pos (Nat.succ_pos _) (Nat.succ_pos _))
theorem pw {k : Nat} (h : k ≤ 40) : 2 ^ (27 * k) ≤ 2 ^ 1080 := Nat.pow_le_pow_right (by decide) (by omega)
theorem fac_lt {a b : Nat} (h1 : a ≤ 10000) (h2 : b ≤ 10000) : (a + 1) * (b + 2) < 2 ^ 27 :=
  Nat.lt_of_le_of_lt (Nat.mul_le_mul (show a + 1 ≤ 10001 by omega) (show b + 2 ≤ 10002 by omega)) (by decide)
theorem weight_lt {c p : Nat} (h1 : c ≤ 10000) (h2 : p ≤ 2 ^ 1080) : (c + 1) * p < 2 ^ 1094 := by
  have e : (2 : Nat) ^ 1094 = 2 ^ 14 * 2 ^ 1080 := by rw [← Nat.pow_add]
  rw [e]
  have h3 : (c + 1) * p ≤ 10001 * 2 ^ 1080 := Nat.mul_le_mul (by omega) h2
  have h4 : 10001 * 2 ^ 1080 < 2 ^ 14 * 2 ^ 1080 := Nat.mul_lt_mul_of_pos_right (by decide) (Nat.pow_pos (by decide))
  exact Nat.lt_of_le_of_lt h3 h4
theorem wanted_lt {n m : Nat} {l : List Kys2.Seen} (hn : n ≤ 10000) (hm : m ≤ 10000) (hl : l.length ≤ 40) (h : ∀ x ∈ l, x.a ≤ 10000) : Kys2.wanted n m l < 2 ^ 1094 := by
  refine weight_lt hn (Nat.le_trans (prod_lt _ fun x hx => ?_) ?_)
  · obtain ⟨y, hy, rfl⟩ := List.mem_map.mp hx
    exact fac_lt (h y hy) hm
  · rw [List.length_map]
    exact pw hl
theorem unwanted_lt {n m : Nat} {l : List Kys2.Seen} (hn : n ≤ 10000) (hm : m ≤ 10000) (hl : l.length ≤ 40) (h : ∀ x ∈ l, x.b ≤ 10000) : Kys2.unwanted n m l < 2 ^ 1094 := by
  refine weight_lt hm (Nat.le_trans (prod_lt _ fun x hx => ?_) ?_)
  · obtain ⟨y, hy, rfl⟩ := List.mem_map.mp hx
    exact fac_lt (h y hy) hn
  · rw [List.length_map]
    exact pw hl
/-- what a letter's words are, once it may be asked of -/
structure Lt (n m : Int) (ws : List (Int × Int)) : Prop where
  n0 : 0 ≤ n
  m0 : 0 ≤ m
  n1 : n ≤ 10000
  m1 : m ≤ 10000
  len : ws.length ≤ 40
  mem : ∀ w ∈ ws, 0 ≤ w.1 ∧ 0 ≤ w.2 ∧ w.1 ≤ n ∧ w.2 ≤ m
theorem lt_of {n m : Int} {ns : List Int} (hn : 0 ≤ n) (hm : 0 ≤ m) (h : ∀ x ∈ ns, 0 ≤ x) (k : LetterOk n m ns) : Lt n m (pairs ns) := by
  obtain ⟨_, h2, h3, h4, h5⟩ := k
  refine ⟨hn, hm, h3, h4, by rw [pairs_len]; exact h2, fun w hw => ?_⟩
  have p := pairs_mem ns w hw
  exact ⟨h _ p.1, h _ p.2, (h5 w hw).1, (h5 w hw).2⟩
theorem both_pos {n m : Int} {ws : List (Int × Int)} (L : Lt n m ws) : 0 < wW n m ws + wU n m ws := by
  have h : ∀ w ∈ ws, 0 ≤ w.1 ∧ 0 ≤ w.2 := fun w hw => ⟨(L.mem w hw).1, (L.mem w hw).2.1⟩
  rw [wW_is L.n0 L.m0 h, wU_is L.n0 L.m0 h]
  have p1 := wanted_pos n.toNat m.toNat (ws.map seenW)
  have p2 := unwanted_pos n.toNat m.toNat (ws.map seenW)
  omega
theorem both_lt {n m : Int} {ws : List (Int × Int)} (L : Lt n m ws) : (wW n m ws + wU n m ws).natAbs < 2 ^ 1095 := by
  have h : ∀ w ∈ ws, 0 ≤ w.1 ∧ 0 ≤ w.2 := fun w hw => ⟨(L.mem w hw).1, (L.mem w hw).2.1⟩
  have n1 := L.n1
  have m1 := L.m1
  have p1 : Kys2.wanted n.toNat m.toNat (ws.map seenW) < 2 ^ 1094 := wanted_lt (by omega) (by omega) (by rw [List.length_map]; exact L.len) fun x hx => by
    obtain ⟨y, hy, rfl⟩ := List.mem_map.mp hx
    have q := L.mem y hy
    show y.1.toNat ≤ 10000
    omega
  have p2 : Kys2.unwanted n.toNat m.toNat (ws.map seenW) < 2 ^ 1094 := unwanted_lt (by omega) (by omega) (by rw [List.length_map]; exact L.len) fun x hx => by
    obtain ⟨y, hy, rfl⟩ := List.mem_map.mp hx
    have q := L.mem y hy
    show y.2.toNat ≤ 10000
    omega
  rw [wW_is L.n0 L.m0 h, wU_is L.n0 L.m0 h]
  have e : (2 : Nat) ^ 1095 = 2 ^ 1094 + 2 ^ 1094 := by rw [show (1095 : Nat) = 1094 + 1 from rfl, Nat.pow_succ, Nat.mul_two]
  rw [e]
  generalize (2 : Nat) ^ 1094 = z at *
  omega
end Um
namespace Um
/-! ## The answers -/
def chanceOf (n m : Int) (ws : List (Int × Int)) : Int := wU n m ws * 1000 / (wW n m ws + wU n m ws)
def toldOf (t n m : Int) (ws : List (Int × Int)) : Int := if t * wW n m ws ≤ wU n m ws then 2 else if wW n m ws < wU n m ws then 1 else 0
def saysOf (n m : Int) (w : Int × Int) : Int := if (w.1 + 1) * (m + 2) < (w.2 + 1) * (n + 2) then 2 else if (w.2 + 1) * (n + 2) < (w.1 + 1) * (m + 2) then 1 else 0
theorem nn_of {n m : Int} {ws : List (Int × Int)} (L : Lt n m ws) : ∀ w ∈ ws, 0 ≤ w.1 ∧ 0 ≤ w.2 := fun w hw => ⟨(L.mem w hw).1, (L.mem w hw).2.1⟩
theorem chance_bad {n m : Int} {ns : List Int} (hn : 0 ≤ n) (hm : 0 ≤ m) (h : ∀ x ∈ ns, 0 ≤ x) (k : ¬ LetterOk n m ns) : PyKys2.chance n m ns = [-22] := by
  have g := good_false hn hm h k
  have e : Kys2.answer (.chance n.toNat m.toNat (Kys2Neutral.natsOf ns)) = Kys1.say (-22) := if_pos g
  show (Kys2.answer (.chance n.toNat m.toNat (Kys2Neutral.natsOf ns))).value :: Kys2Neutral.ints (Kys2.answer (.chance n.toNat m.toNat (Kys2Neutral.natsOf ns))).nums = [-22]
  rw [e]
  rfl
theorem chance_good {n m : Int} {ns : List Int} (hn : 0 ≤ n) (hm : 0 ≤ m) (h : ∀ x ∈ ns, 0 ≤ x) (k : LetterOk n m ns) : PyKys2.chance n m ns = [chanceOf n m (pairs ns)] := by
  have g := good_true hn hm h k
  have L := lt_of hn hm h k
  have e : Kys2.answer (.chance n.toNat m.toNat (Kys2Neutral.natsOf ns)) = Kys1.say ((Kys2.chance n.toNat m.toNat (Kys2.seen (Kys2Neutral.natsOf ns)) : Nat) : Int) := if_neg g
  show (Kys2.answer (.chance n.toNat m.toNat (Kys2Neutral.natsOf ns))).value :: Kys2Neutral.ints (Kys2.answer (.chance n.toNat m.toNat (Kys2Neutral.natsOf ns))).nums = [chanceOf n m (pairs ns)]
  rw [e, seen_pairs]
  show [((Kys2.chance n.toNat m.toNat ((pairs ns).map seenW) : Nat) : Int)] = [chanceOf n m (pairs ns)]
  unfold chanceOf Kys2.chance
  rw [wW_is hn hm (nn_of L), wU_is hn hm (nn_of L), Nat.mul_comm]
  rfl
theorem told_bad {t n m : Int} {ns : List Int} (ht : 0 ≤ t) (hn : 0 ≤ n) (hm : 0 ≤ m) (h : ∀ x ∈ ns, 0 ≤ x) (k : ¬ (1 ≤ t ∧ t ≤ 1000 ∧ LetterOk n m ns)) : PyKys2.told t n m ns = [-22] := by
  have g : t.toNat < 1 ∨ 1000 < t.toNat ∨ Kys2.good n.toNat m.toNat (Kys2Neutral.natsOf ns) = false := by
    by_cases h1 : 1 ≤ t
    · by_cases h2 : t ≤ 1000
      · exact .inr (.inr (good_false hn hm h fun z => k ⟨h1, h2, z⟩))
      · exact .inr (.inl (by omega))
    · exact .inl (by omega)
  have e : Kys2.answer (.told t.toNat n.toNat m.toNat (Kys2Neutral.natsOf ns)) = Kys1.say (-22) := if_pos g
  show (Kys2.answer (.told t.toNat n.toNat m.toNat (Kys2Neutral.natsOf ns))).value :: Kys2Neutral.ints (Kys2.answer (.told t.toNat n.toNat m.toNat (Kys2Neutral.natsOf ns))).nums = [-22]
  rw [e]
  rfl
theorem told_good {t n m : Int} {ns : List Int} (h1 : 1 ≤ t) (h2 : t ≤ 1000) (hn : 0 ≤ n) (hm : 0 ≤ m) (h : ∀ x ∈ ns, 0 ≤ x) (k : LetterOk n m ns) : PyKys2.told t n m ns = [toldOf t n m (pairs ns)] := by
  have g := good_true hn hm h k
  have L := lt_of hn hm h k
  have g' : ¬ (t.toNat < 1 ∨ 1000 < t.toNat ∨ Kys2.good n.toNat m.toNat (Kys2Neutral.natsOf ns) = false) := by
    rintro (q | q | q)
    · omega
    · omega
    · exact g q
  have e : Kys2.answer (.told t.toNat n.toNat m.toNat (Kys2Neutral.natsOf ns)) = Kys1.say ((Kys2.told t.toNat n.toNat m.toNat (Kys2.seen (Kys2Neutral.natsOf ns)) : Nat) : Int) := if_neg g'
  show (Kys2.answer (.told t.toNat n.toNat m.toNat (Kys2Neutral.natsOf ns))).value :: Kys2Neutral.ints (Kys2.answer (.told t.toNat n.toNat m.toNat (Kys2Neutral.natsOf ns))).nums = [toldOf t n m (pairs ns)]
  rw [e, seen_pairs]
  show [((Kys2.told t.toNat n.toNat m.toNat ((pairs ns).map seenW) : Nat) : Int)] = [toldOf t n m (pairs ns)]
  unfold toldOf Kys2.told
  rw [wW_is hn hm (nn_of L), wU_is hn hm (nn_of L)]
  have et : t = ((t.toNat : Nat) : Int) := by omega
  have c1 : (t * ((Kys2.wanted n.toNat m.toNat ((pairs ns).map seenW) : Nat) : Int) ≤ ((Kys2.unwanted n.toNat m.toNat ((pairs ns).map seenW) : Nat) : Int)) ↔
      t.toNat * Kys2.wanted n.toNat m.toNat ((pairs ns).map seenW) ≤ Kys2.unwanted n.toNat m.toNat ((pairs ns).map seenW) := by
    rw [et]
    constructor
    · intro q
      exact_mod_cast q
    · intro q
      exact_mod_cast q
  have c2 : (((Kys2.wanted n.toNat m.toNat ((pairs ns).map seenW) : Nat) : Int) < ((Kys2.unwanted n.toNat m.toNat ((pairs ns).map seenW) : Nat) : Int)) ↔
      Kys2.wanted n.toNat m.toNat ((pairs ns).map seenW) < Kys2.unwanted n.toNat m.toNat ((pairs ns).map seenW) := by omega
  simp only [c1, c2]
  split
  · rfl
  · split <;> rfl
theorem says_bad {n m a b : Int} (hn : 0 ≤ n) (hm : 0 ≤ m) (ha : 0 ≤ a) (hb : 0 ≤ b) (k : ¬ LetterOk n m [a, b]) : PyKys2.says n m a b = [-22] := by
  have h : ∀ x ∈ [a, b], 0 ≤ x := by
    intro x hx
    simp only [List.mem_cons, List.not_mem_nil, or_false] at hx
    omega
  have g : Kys2.good n.toNat m.toNat [a.toNat, b.toNat] = false := good_false (ns := [a, b]) hn hm h k
  have e : Kys2.answer (.says n.toNat m.toNat a.toNat b.toNat) = Kys1.say (-22) := if_pos g
  show (Kys2.answer (.says n.toNat m.toNat a.toNat b.toNat)).value :: Kys2Neutral.ints (Kys2.answer (.says n.toNat m.toNat a.toNat b.toNat)).nums = [-22]
  rw [e]
  rfl
theorem says_good {n m a b : Int} (hn : 0 ≤ n) (hm : 0 ≤ m) (ha : 0 ≤ a) (hb : 0 ≤ b) (k : LetterOk n m [a, b]) : PyKys2.says n m a b = [saysOf n m (a, b)] := by
  have h : ∀ x ∈ [a, b], 0 ≤ x := by
    intro x hx
    simp only [List.mem_cons, List.not_mem_nil, or_false] at hx
    omega
  have g : ¬ Kys2.good n.toNat m.toNat [a.toNat, b.toNat] = false := good_true (ns := [a, b]) hn hm h k
  have e : Kys2.answer (.says n.toNat m.toNat a.toNat b.toNat) = Kys1.say ((Kys2.says n.toNat m.toNat ⟨a.toNat, b.toNat⟩ : Nat) : Int) := if_neg g
  show (Kys2.answer (.says n.toNat m.toNat a.toNat b.toNat)).value :: Kys2Neutral.ints (Kys2.answer (.says n.toNat m.toNat a.toNat b.toNat)).nums = [saysOf n m (a, b)]
  rw [e]
  show [((Kys2.says n.toNat m.toNat ⟨a.toNat, b.toNat⟩ : Nat) : Int)] = [saysOf n m (a, b)]
  unfold saysOf Kys2.says
  have e1 : (a + 1) * (m + 2) = ((Kys2.forA m.toNat ⟨a.toNat, b.toNat⟩ : Nat) : Int) := by
    unfold Kys2.forA
    rw [Int.natCast_mul]
    rw [show ((((⟨a.toNat, b.toNat⟩ : Kys2.Seen).a + 1 : Nat)) : Int) = a + 1 by show ((a.toNat + 1 : Nat) : Int) = a + 1; omega, show ((m.toNat + 2 : Nat) : Int) = m + 2 by omega]
  have e2 : (b + 1) * (n + 2) = ((Kys2.forB n.toNat ⟨a.toNat, b.toNat⟩ : Nat) : Int) := by
    unfold Kys2.forB
    rw [Int.natCast_mul]
    rw [show ((((⟨a.toNat, b.toNat⟩ : Kys2.Seen).b + 1 : Nat)) : Int) = b + 1 by show ((b.toNat + 1 : Nat) : Int) = b + 1; omega, show ((n.toNat + 2 : Nat) : Int) = n + 2 by omega]
  show _ = [if (a + 1) * (m + 2) < (b + 1) * (n + 2) then (2 : Int) else if (b + 1) * (n + 2) < (a + 1) * (m + 2) then 1 else 0]
  rw [e1, e2]
  generalize Kys2.forA m.toNat ⟨a.toNat, b.toNat⟩ = x
  generalize Kys2.forB n.toNat ⟨a.toNat, b.toNat⟩ = y
  have c1 : ((x : Int) < (y : Int)) ↔ x < y := by omega
  have c2 : ((y : Int) < (x : Int)) ↔ y < x := by omega
  simp only [c1, c2]
  split
  · rfl
  · split <;> rfl
end Um
namespace Um
open PySem PySem.Spec PyProof.Rows L2
open PySem.W (Codec)
/-! ## What the layer lacks: an own error made with no argument -/
theorem made_bare {X : Cx} {C : Addr} {tl : List Value} {B mk ini : String} {x : Str} {p p' : Pos} (F : ExcBaseFacts B mk ini tl) (q : PySem.W.excIn X.K C tl mk = true) (gC : X.mg x = some (.ref C))
    (kC : PySem.W.keepIn X.K (.ref C) = true) (r : Raises X (.ref C)) (hg : Gl X x) (hdb : (x == ("__debug__" : Str)) = false := by decide) :
    PMk X (.Call (.Name x p) [] [] p') (fun _ H Q => Q (.ref C) none H) := by
  intro pins s σ H Q I h
  refine wpAny_Call_Name_kw (ld_glob I hg gC ?_ hdb)
  obtain ⟨bm, N, nm, qn, bs, hdct, sn, sub, ab, col, dd, k0, k1, k2, k3, k5, mN, hC, hN, hni, T⟩ := exc_obj I.kIn q
  refine PySem.W.callWith_K0 I.kIn kC ?_
  exact wpAny_call_exc_subT F T hC hN hni (fun h' e hm => mk_of I hm r h (I.hok.gone hm.new)) (Nat.zero_le _)
/-! ## Heaps -/
theorem same_new {H : Hp} {p : Addr} {o : HO} (h : H p = none) : Same H (upd H p o) := fun b x e => by
  rw [upd_ne (ne_of_none e h)]
  exact e
/-- the pairs ws stand, as tuples, at the places rs -/
structure WordsAt (H : Hp) (rs : List Addr) (ws : List (Int × Int)) : Prop where
  len : rs.length = ws.length
  get : ∀ (i : Nat) (w : Int × Int), ws[i]? = some w → ∃ r, rs[i]? = some r ∧ H r = some (.tup [.int w.1, .int w.2])
theorem WordsAt.same {H H' : Hp} {rs : List Addr} {ws : List (Int × Int)} (h : WordsAt H rs ws) (s : Same H H') : WordsAt H' rs ws :=
  ⟨h.len, fun i w e => by
    obtain ⟨r, h1, h2⟩ := h.get i w e
    exact ⟨r, h1, s _ _ h2⟩⟩
/-- what is behind the i-th place -/
theorem WordsAt.at {H : Hp} {rs : List Addr} {ws : List (Int × Int)} (h : WordsAt H rs ws) {i : Nat} {v : V} (e : (rs.map V.ref)[i]? = some v) : ∃ r w, v = V.ref r ∧ ws[i]? = some w ∧ H r = some (.tup [.int w.1, .int w.2]) := by
  rw [List.getElem?_map] at e
  cases q : rs[i]? with
  | none =>
    rw [q] at e
    cases e
  | some r =>
    rw [q] at e
    have hi : i < ws.length := by
      have z := (List.getElem?_eq_some_iff.mp q).1
      rw [h.len] at z
      exact z
    obtain ⟨r', h1, h2⟩ := h.get i ws[i] (List.getElem?_eq_getElem hi)
    rw [q] at h1
    cases h1
    exact ⟨r, ws[i], (Option.some.inj e).symm, List.getElem?_eq_getElem hi, h2⟩
theorem WordsAt.more {H : Hp} {rs : List Addr} {ws : List (Int × Int)} (h : WordsAt H rs ws) {r : Addr} {w : Int × Int} (e : H r = some (.tup [.int w.1, .int w.2])) : WordsAt H (rs ++ [r]) (ws ++ [w]) := by
  refine ⟨by rw [List.length_append, List.length_append, h.len]; rfl, fun i x q => ?_⟩
  by_cases hi : i < ws.length
  · rw [List.getElem?_append_left hi] at q
    obtain ⟨r', h1, h2⟩ := h.get i x q
    exact ⟨r', by rw [List.getElem?_append_left (by rw [h.len]; exact hi)]; exact h1, h2⟩
  · rw [List.getElem?_append_right (Nat.le_of_not_lt hi)] at q
    have hz : i - ws.length = 0 := by
      have := (List.getElem?_eq_some_iff.mp q).1
      simp only [List.length_singleton] at this
      omega
    rw [hz] at q
    cases q
    refine ⟨r, ?_, e⟩
    rw [List.getElem?_append_right (by rw [h.len]; exact Nat.le_of_not_lt hi), h.len, hz]
    rfl
/-- a list beside them is changed -/
theorem WordsAt.put {H : Hp} {rs : List Addr} {ws : List (Int × Int)} (h : WordsAt H rs ws) {o : Addr} {xs ys : List V} (ho : H o = some (.lst xs)) : WordsAt (upd H o (.lst ys)) rs ws :=
  ⟨h.len, fun i w e => by
    obtain ⟨r, h1, h2⟩ := h.get i w e
    refine ⟨r, h1, ?_⟩
    rw [upd_ne fun z => ?_]
    · exact h2
    · rw [z, ho] at h2
      cases h2⟩
theorem at0 {a b : V} : atI [a, b] 0 = some a := atI_nat (j := 0) rfl
theorem at1 {a b : V} : atI [a, b] 1 = some b := atI_nat (j := 1) rfl
theorem ints_at {ns : List Int} {j : Nat} {z : Int} (h : ns[j]? = some z) : (ns.map V.int)[j]? = some (V.int z) := by
  rw [List.getElem?_map, h]
  rfl
theorem take_up {α : Type} {l : List α} {i : Nat} {x : α} (h : l[i]? = some x) : l.take (i + 1) = l.take i ++ [x] := by
  rw [List.take_add_one, h]
  rfl
theorem line84 {n : Nat} (h : n ≤ 84) : n < sizeLine := small1000 (by omega)
/-- a def of the text that is called: it keeps its promise, its name stands for it, its arguments bind -/
structure Got (P : Program) (w : World) (K : PySem.W.Frag) (mg : Str → Option Value) (base : Heap) (cx : CXT) (k : Nat) (x : Str) (ps : List Str) (sp : Sp) (f : Addr) (fd : FuncData) : Prop where
  ok : FnOk P w K mg base cx k f fd ps sp
  g : mg x = some (.ref f)
  kp : PySem.W.keepIn K (.ref f) = true
  b : Binds K fd ps []
/-- what the top has written of the error's class and of the constants -/
structure Txt (K : PySem.W.Frag) (mg : Str → Option Value) (CF : Addr) : Prop where
  gF : mg "Refused" = some (.ref CF)
  xF : PySem.W.excIn K CF [.type "ValueError", .type "Exception", .type "BaseException", .type "object"] "ValueError.__new__" = true
  kF : PySem.W.keepIn K (.ref CF) = true
  bF : PySem.W.subIn K (.ref CF) (.type "BaseException") = some true
  tF : PySem.W.typeIn K (.ref CF) = some (.type "type")
  eF : PySem.W.exmOne K (.ref CF) (.ref CF) = some true
  zl : mg "len" = none
  zr : mg "range" = none
  cT : ∃ t, mg "MOST_TAUGHT" = some (.int 10000 t)
  cW : ∃ t, mg "MOST_WORDS" = some (.int 40 t)
  cR : ∃ t, mg "REFUSED" = some (.int (-22) t)
/-! ## The promises -/
/-- must: where it isn't so, the error, over the same heap -/
def spMust (CF : Addr) : Sp := fun vs H Q E => ∃ b : Bool, vs = [.bl b] ∧ (b = false → E (.ref CF) none H) ∧ (b = true → Q .non H)
def spWordsIn (K : PySem.W.Frag) : Sp := fun vs H Q _ => ∃ (a : Addr) (ns : List Int), vs = [.ref a] ∧ SqL K H a (ns.map V.int) ∧ ns.length ≤ 84 ∧
  ∀ (H' : Hp) (p : Addr) (rs : List Addr), Same H H' → H' p = some (.lst (rs.map V.ref)) → WordsAt H' rs (pairs ns) → Q (.ref p) H'
def spEven : Sp := fun vs H Q _ => ∃ i : Int, vs = [.int i] ∧ ∀ b : Bool, (b = true ↔ i / 2 * 2 = i) → Q (.bl b) H
def spMany (K : PySem.W.Frag) (CF : Addr) : Sp := fun vs H Q E => ∃ (a : Addr) (ns : List Int), vs = [.ref a] ∧ SqL K H a (ns.map V.int) ∧
  (¬ (ns.length % 2 = 0 ∧ ns.length / 2 ≤ 40) → E (.ref CF) none H) ∧ (ns.length % 2 = 0 ∧ ns.length / 2 ≤ 40 → Q .non H)
def spTaught (CF : Addr) : Sp := fun vs H Q E => ∃ n m : Int, vs = [.int n, .int m] ∧ (¬ (n ≤ 10000 ∧ m ≤ 10000) → E (.ref CF) none H) ∧ (n ≤ 10000 ∧ m ≤ 10000 → Q .non H)
def spWord (CF : Addr) : Sp := fun vs H Q E => ∃ (n m : Int) (r : Addr) (w : Int × Int), vs = [.int n, .int m, .ref r] ∧ H r = some (.tup [.int w.1, .int w.2]) ∧ (¬ (w.1 ≤ n ∧ w.2 ≤ m) → E (.ref CF) none H) ∧ (w.1 ≤ n ∧ w.2 ≤ m → Q .non H)
def spLetter (K : PySem.W.Frag) (CF : Addr) : Sp := fun vs H Q E => ∃ (n m : Int) (a : Addr) (ns : List Int), vs = [.int n, .int m, .ref a] ∧ SqL K H a (ns.map V.int) ∧ ns.length ≤ 84 ∧
  (¬ LetterOk n m ns → ∀ H' : Hp, Same H H' → E (.ref CF) none H') ∧
  (LetterOk n m ns → ∀ (H' : Hp) (p : Addr) (rs : List Addr), Same H H' → H' p = some (.lst (rs.map V.ref)) → WordsAt H' rs (pairs ns) → Q (.ref p) H')
/-! ## The text -/
def top (i : Nat) : Stmt := PySem.Challenge.pw_unwantedmail_s02_told.main.body.getD i (.Pass ⟨0, 0, 0, 0⟩)
abbrev sMust : Stmt := top 6
abbrev sWordsIn : Stmt := top 7
abbrev sEven : Stmt := top 8
abbrev sMany : Stmt := top 9
abbrev sTaught : Stmt := top 10
abbrev sWord : Stmt := top 11
abbrev sLetter : Stmt := top 12
abbrev sTimes : Stmt := top 13
abbrev sWW : Stmt := top 18
abbrev sWU : Stmt := top 19
abbrev sToldOf : Stmt := top 20
abbrev sMain : Stmt := top 22
theorem scMust : FnScope ["so"] ["so"] (defScope sMust) := ⟨rfl, rfl, rfl, by decide +kernel, rfl, by decide +kernel, by decide +kernel⟩
theorem scWordsIn : FnScope ["row", "found", "at"] ["row"] (defScope sWordsIn) := ⟨rfl, rfl, rfl, by decide +kernel, rfl, by decide +kernel, by decide +kernel⟩
theorem scEven : FnScope ["number"] ["number"] (defScope sEven) := ⟨rfl, rfl, rfl, by decide +kernel, rfl, by decide +kernel, by decide +kernel⟩
theorem scMany : FnScope ["row"] ["row"] (defScope sMany) := ⟨rfl, rfl, rfl, by decide +kernel, rfl, by decide +kernel, by decide +kernel⟩
section
variable {P : Program} {w : World} {K : PySem.W.Frag} {mg : Str → Option Value} {base : Heap} {CF : Addr}
theorem ok_must {f : Addr} {fd : FuncData} (F : Fun K "must" "must" sMust f fd) (T : Txt K mg CF) : FnOk P w K mg base (L2.CX P w) 1 f fd ["so"] (spMust CF) := by
  refine F.okX scMust (fun vs H Q E h => ?_) (fun cdv A outer s H vs Q E hr h => ?_)
  · obtain ⟨b, rfl, _⟩ := h
    rfl
  · obtain ⟨b, rfl, k0, k1⟩ := h
    refine ⟨_, pss_one (ps_if (pt_not (pt_val (pv 0)))
      (pss_one (ps_raise rfl (takes_of rfl rfl rfl rfl) (made_bare PySem.F.excBase_ValueError T.xF T.gF T.kF (raises_own T.bF T.tF) (by exact rfl)))) pss_nil), ?_⟩
    refine ⟨_, rfl, b, rfl, ?_⟩
    cases b with
    | false => exact iteT (k0 rfl)
    | true => exact iteF (k1 rfl)
theorem ok_even {f : Addr} {fd : FuncData} (F : Fun K "is_even" "is_even" sEven f fd) : FnOk P w K mg base CX0 1 f fd ["number"] spEven := by
  refine F.ok scEven (fun vs H Q E h => ?_) (fun cdv A outer s H vs Q E hr h => ?_)
  · obtain ⟨i, rfl, _⟩ := h
    rfl
  · obtain ⟨i, rfl, q⟩ := h
    refine ⟨_, pss_one (ps_ret (pe_cmpR op_eq (pe_op op_mul (pe_op op_fdiv (pv 0) pe_int) pe_int) (pv 0) (nomark _))), ?_⟩
    refine ⟨_, rfl, _, _, rfl, rfl, ⟨by decide, by decide⟩, _, _, rfl, rfl, .inr ⟨by decide, by decide⟩, _, rfl, rfl, ?_⟩
    refine q _ ?_
    rw [decide_eq_true_iff, V.int.injEq]
theorem ok_many {f fM fE : Addr} {fd fdM fdE : FuncData} (F : Fun K "look_at_many" "look_at_many" sMany f fd) (T : Txt K mg CF) (GM : Got P w K mg base (L2.CX P w) 1 "must" ["so"] (spMust CF) fM fdM) (GE : Got P w K mg base CX0 1 "is_even" ["number"] spEven fE fdE) :
    FnOk P w K mg base (L2.CX P w) 2 f fd ["row"] (spMany K CF) := by
  refine F.okX scMany (fun vs H Q E h => ?_) (fun cdv A outer s H vs Q E hr h => ?_)
  · obtain ⟨a, ns, rfl, _⟩ := h
    rfl
  · obtain ⟨a, ns, rfl, hS, k0, k1⟩ := h
    obtain ⟨tW, cW⟩ := T.cW
    refine ⟨_, pss_cons (ps_expr (pe_call (E := E) GM.ok hr rfl GM.g GM.kp GM.b .nil (passes_call (takes_of rfl rfl rfl rfl) fun _ _ _ _ h => h) (pa_cons (pe_call GE.ok hr rfl GE.g GE.kp GE.b .nil pass0
        (pa_cons (pe_callB call_len_seq (by rfl) T.zl PySem.boot_len (pa_cons (pv 0) pa_nil)) pa_nil)) pa_nil)))
      (pss_one (ps_expr (pe_call (E := E) GM.ok hr rfl GM.g GM.kp GM.b .nil (passes_call (takes_of rfl rfl rfl rfl) fun _ _ _ _ h => h) (pa_cons (pe_cmpR op_le (pe_op op_fdiv
        (pe_callB call_len_seq (by rfl) T.zl PySem.boot_len (pa_cons (pv 0) pa_nil)) pe_int) (pe_glob (v := .int 40) rfl cW ⟨_, rfl⟩) (nomark _)) pa_nil)))), ?_⟩
    refine ⟨_, rfl, a, _, rfl, .inl hS, _, rfl, fun b hb => ⟨b, rfl, fun e => ?_, fun e => ?_⟩⟩
    · refine k0 fun z => ?_
      have q : b = true := hb.mpr (by rw [List.length_map]; omega)
      rw [e] at q
      cases q
    · have ev : ns.length % 2 = 0 := by
        have q := hb.mp e
        rw [List.length_map] at q
        omega
      refine ⟨_, rfl, a, _, rfl, .inl hS, _, _, rfl, rfl, ⟨by decide, by decide⟩, _, _, rfl, rfl, _, rfl, fun e => k0 fun z => ?_, fun e => k1 ⟨ev, ?_⟩⟩
      · have q := of_decide_eq_false e
        rw [List.length_map] at q
        omega
      · have q := of_decide_eq_true e
        rw [List.length_map] at q
        omega
theorem rg2 (L : Nat) (h : L ≤ 84) : RgC 0 ((L : Int) - 1) 2 (L / 2) := by
  have e : Builtin.Range.rangeSize 0 ((L : Int) - 1) 2 = ((L / 2 : Nat) : Int) := by
    unfold Builtin.Range.rangeSize
    rw [if_pos (by decide)]
    split <;> omega
  refine ⟨by decide, by decide, ?_, e⟩
  unfold Builtin.Range.small
  rw [e]
  rw [if_pos (show (2 : Int) > 0 by decide)]
  simp only [Builtin.Range.rangeFitsLong, Bool.and_eq_true, Bool.or_eq_true, decide_eq_true_eq, beq_iff_eq]
  omega
theorem ok_wordsIn {f : Addr} {fd : FuncData} (F : Fun K "words_in" "words_in" sWordsIn f fd) (T : Txt K mg CF) : FnOk P w K mg base CX0 1 f fd ["row"] (spWordsIn K) := by
  refine F.ok scWordsIn (fun vs H Q E h => ?_) (fun cdv A outer s H vs Q E hr h => ?_)
  · obtain ⟨a, ns, rfl, _⟩ := h
    rfl
  · obtain ⟨a, ns, rfl, hS, hlen, q⟩ := h
    refine ⟨_, pss_cons (ps_set (i := 1) scWordsIn.nd rfl (.inl rfl) (pe_lst pa_nil))
      (pss_cons (ps_for PassesOwn.never rfl (pi_range3 rfl T.zr (pa_cons pe_int (pa_cons (pe_op op_sub (pe_callB call_len_seq (by rfl) T.zl PySem.boot_len (pa_cons (pv 0) pa_nil)) pe_int) (pa_cons pe_int pa_nil))))
        (pg_name (i := 2) scWordsIn.nd rfl (.inl rfl))
        (pss_one (ps_expr (pe_bm PySem.F.plainAttrs_list PySem.F.slot_list_append PySem.F.type_list_append mt_append (pv 1) (pa_cons (pe_tup (pa_cons (pe_ix ix_list (pv 0) (pv 2) (fun _ _ => rfl))
          (pa_cons (pe_ix ix_list (pv 0) (pe_op op_add (pv 2) pe_int) (fun _ _ => rfl)) pa_nil))) pa_nil)))))
      (pss_one (ps_ret (pv 1)))), ?_⟩
    refine ⟨Nat.zero_le _, fun o no => ?_⟩
    have s1 : Same H (upd H o (.lst [])) := same_new no
    refine ⟨_, rfl, a, _, rfl, .inl (s1.seq hS), _, _, rfl, rfl, 0, _, 2, ns.length / 2, rfl, ?_, for_rangeC (fun i σ H' => ∃ (v : Option V) (rs : List Addr), σ = [some (.ref a), some (.ref o), v] ∧ Same H H' ∧ H' o = some (.lst (rs.map V.ref)) ∧ WordsAt H' rs ((pairs ns).take i))
      ⟨none, [], rfl, s1, upd_same, ⟨rfl, fun i w e => by simp at e⟩⟩ ?_ ?_⟩
    · rw [List.length_map]
      exact rg2 _ hlen
    · rintro i σ H' hi ⟨v, rs, rfl, s5, ho, hw⟩
      obtain ⟨x, y, hx, hy, hp⟩ := pairs_get ns i (by omega)
      have hA := s5.seq hS
      have e1 : atI (ns.map V.int) (0 + (i : Int) * 2) = some (V.int x) := by
        rw [show (0 + (i : Int) * 2) = ((2 * i : Nat) : Int) by omega]
        exact atI_nat (ints_at hx)
      have e2 : atI (ns.map V.int) (0 + (i : Int) * 2 + 1) = some (V.int y) := by
        rw [show (0 + (i : Int) * 2 + 1) = ((2 * i + 1 : Nat) : Int) by omega]
        exact atI_nat (ints_at hy)
      refine ⟨.ref o, rfl, .inl ⟨rfl, _, SqL.of ho⟩, .ref a, rfl, _, rfl, a, _, _, _, rfl, rfl, hA, e1, .ref a, rfl, _, rfl, _, _, rfl, rfl, a, _, _, _, rfl, rfl, hA, e2, (by show 2 ≤ sizeLine; decide), fun t nt => ?_⟩
      have st : Same H' (upd H' t (.tup [.int x, .int y])) := same_new nt
      have ho2 := st _ _ ho
      refine ⟨o, _, _, rfl, rfl, ho2, ?_, ?_⟩
      · rw [List.length_map, hw.len, List.length_take, pairs_len]
        exact line84 (by omega)
      · refine ⟨_, rs ++ [t], rfl, fun b z e => ?_, ?_, ?_⟩
        · rw [upd_ne (ne_of_none e no)]
          exact st _ _ (s5 _ _ e)
        · rw [upd_same, List.map_append]
          rfl
        · rw [take_up hp]
          exact ((hw.same st).more (w := (x, y)) upd_same).put ho2
    · rintro σ H' ⟨v, rs, rfl, s5, ho, hw⟩
      rw [List.take_of_length_le (by rw [pairs_len]; exact Nat.le_refl _)] at hw
      exact ⟨.ref o, rfl, q H' o rs s5 ho hw⟩
theorem scTaught : FnScope ["wanted", "unwanted"] ["wanted", "unwanted"] (defScope sTaught) := ⟨rfl, rfl, rfl, by decide +kernel, rfl, by decide +kernel, by decide +kernel⟩
theorem scWord : FnScope ["wanted", "unwanted", "word"] ["wanted", "unwanted", "word"] (defScope sWord) := ⟨rfl, rfl, rfl, by decide +kernel, rfl, by decide +kernel, by decide +kernel⟩
theorem scLetter : FnScope ["wanted", "unwanted", "row", "found", "word"] ["wanted", "unwanted", "row"] (defScope sLetter) := ⟨rfl, rfl, rfl, by decide +kernel, rfl, by decide +kernel, by decide +kernel⟩
theorem ok_taught {f fM : Addr} {fd fdM : FuncData} (F : Fun K "look_at_taught" "look_at_taught" sTaught f fd) (T : Txt K mg CF) (GM : Got P w K mg base (L2.CX P w) 1 "must" ["so"] (spMust CF) fM fdM) :
    FnOk P w K mg base (L2.CX P w) 2 f fd ["wanted", "unwanted"] (spTaught CF) := by
  refine F.okX scTaught (fun vs H Q E h => ?_) (fun cdv A outer s H vs Q E hr h => ?_)
  · obtain ⟨n, m, rfl, _⟩ := h
    rfl
  · obtain ⟨n, m, rfl, k0, k1⟩ := h
    obtain ⟨tT, cT⟩ := T.cT
    refine ⟨_, pss_cons (ps_expr (pe_call (E := E) GM.ok hr rfl GM.g GM.kp GM.b .nil (passes_call (takes_of rfl rfl rfl rfl) fun _ _ _ _ h => h) (pa_cons (pe_cmpR op_le (pv 0) (pe_glob (v := .int 10000) rfl cT ⟨_, rfl⟩) (nomark _)) pa_nil)))
      (pss_one (ps_expr (pe_call (E := E) GM.ok hr rfl GM.g GM.kp GM.b .nil (passes_call (takes_of rfl rfl rfl rfl) fun _ _ _ _ h => h) (pa_cons (pe_cmpR op_le (pv 1) (pe_glob (v := .int 10000) rfl cT ⟨_, rfl⟩) (nomark _)) pa_nil)))), ?_⟩
    refine ⟨_, rfl, _, _, rfl, rfl, _, rfl, fun e => k0 fun z => absurd z.1 (of_decide_eq_false e), fun e => ?_⟩
    exact ⟨_, rfl, _, _, rfl, rfl, _, rfl, fun e2 => k0 fun z => absurd z.2 (of_decide_eq_false e2), fun e2 => k1 ⟨of_decide_eq_true e, of_decide_eq_true e2⟩⟩
theorem ok_word {f fM : Addr} {fd fdM : FuncData} (F : Fun K "look_at_word" "look_at_word" sWord f fd) (GM : Got P w K mg base (L2.CX P w) 1 "must" ["so"] (spMust CF) fM fdM) :
    FnOk P w K mg base (L2.CX P w) 2 f fd ["wanted", "unwanted", "word"] (spWord CF) := by
  refine F.okX scWord (fun vs H Q E h => ?_) (fun cdv A outer s H vs Q E hr h => ?_)
  · obtain ⟨n, m, r, x, rfl, _⟩ := h
    rfl
  · obtain ⟨n, m, r, x, rfl, hx, k0, k1⟩ := h
    refine ⟨_, pss_cons (ps_expr (pe_call (E := E) GM.ok hr rfl GM.g GM.kp GM.b .nil (passes_call (takes_of rfl rfl rfl rfl) fun _ _ _ _ h => h) (pa_cons (pe_cmpR op_le (pe_ix ix_tup (pv 2) pe_int (fun _ _ => rfl)) (pv 0) (nomark _)) pa_nil)))
      (pss_one (ps_expr (pe_call (E := E) GM.ok hr rfl GM.g GM.kp GM.b .nil (passes_call (takes_of rfl rfl rfl rfl) fun _ _ _ _ h => h) (pa_cons (pe_cmpR op_le (pe_ix ix_tup (pv 2) pe_int (fun _ _ => rfl)) (pv 1) (nomark _)) pa_nil)))), ?_⟩
    refine ⟨_, rfl, r, _, _, _, rfl, rfl, SqT.of hx, at0, _, rfl, _, _, rfl, rfl, _, rfl, fun e => k0 fun z => absurd z.1 (of_decide_eq_false e), fun e => ?_⟩
    exact ⟨_, rfl, r, _, _, _, rfl, rfl, SqT.of hx, at1, _, rfl, _, _, rfl, rfl, _, rfl, fun e2 => k0 fun z => absurd z.2 (of_decide_eq_false e2), fun e2 => k1 ⟨of_decide_eq_true e, of_decide_eq_true e2⟩⟩
theorem ok_letter {f fA fB fC fD : Addr} {fd fdA fdB fdC fdD : FuncData} (F : Fun K "letter_in" "letter_in" sLetter f fd) (GA : Got P w K mg base (L2.CX P w) 2 "look_at_many" ["row"] (spMany K CF) fA fdA)
    (GB : Got P w K mg base (L2.CX P w) 2 "look_at_taught" ["wanted", "unwanted"] (spTaught CF) fB fdB) (GC : Got P w K mg base CX0 1 "words_in" ["row"] (spWordsIn K) fC fdC)
    (GD : Got P w K mg base (L2.CX P w) 2 "look_at_word" ["wanted", "unwanted", "word"] (spWord CF) fD fdD) :
    FnOk P w K mg base (L2.CX P w) 3 f fd ["wanted", "unwanted", "row"] (spLetter K CF) := by
  refine F.okX scLetter (fun vs H Q E h => ?_) (fun cdv A outer s H vs Q E hr h => ?_)
  · obtain ⟨n, m, a, ns, rfl, _⟩ := h
    rfl
  · obtain ⟨n, m, a, ns, rfl, hS, hlen, k0, k1⟩ := h
    have hr1 : Room 1 _ := hr.mono (by decide)
    refine ⟨_, pss_cons (ps_expr (pe_call (E := E) GA.ok hr rfl GA.g GA.kp GA.b .nil (passes_call (takes_of rfl rfl rfl rfl) fun _ _ _ _ h => h) (pa_cons (pv 2) pa_nil)))
      (pss_cons (ps_expr (pe_call (E := E) GB.ok hr rfl GB.g GB.kp GB.b .nil (passes_call (takes_of rfl rfl rfl rfl) fun _ _ _ _ h => h) (pa_cons (pv 0) (pa_cons (pv 1) pa_nil))))
      (pss_cons (ps_set (i := 3) scLetter.nd rfl (.inl rfl) (pe_call GC.ok hr1 rfl GC.g GC.kp GC.b .nil pass0 (pa_cons (pv 2) pa_nil)))
      (pss_cons (ps_for (passes_of rfl) rfl (pi_list (pv 3)) (pg_name (i := 4) scLetter.nd rfl (.inl rfl))
        (pss_one (ps_expr (pe_call (E := E) GD.ok hr rfl GD.g GD.kp GD.b .nil (passes_call (takes_of rfl rfl rfl rfl) fun _ _ _ _ h => h) (pa_cons (pv 0) (pa_cons (pv 1) (pa_cons (pv 4) pa_nil)))))))
      (pss_one (ps_ret (pv 3)))))), ?_⟩
    refine ⟨_, rfl, a, ns, rfl, hS, fun bad => k0 (fun z => bad ⟨z.1, z.2.1⟩) H (Same.refl H), fun ok1 => ?_⟩
    refine ⟨_, rfl, _, rfl, n, m, rfl, fun bad => k0 (fun z => bad ⟨z.2.2.1, z.2.2.2.1⟩) H (Same.refl H), fun ok2 => ?_⟩
    refine ⟨_, rfl, a, ns, rfl, hS, hlen, fun H1 p rs s1 hp hw => ?_⟩
    refine ⟨_, rfl, p, rfl, ⟨_, SqL.of hp⟩, for_list (K := K) (a := p) (xs := rs.map V.ref) (fun i σ H' => ∃ v : Option V, σ = [some (.int n), some (.int m), some (.ref a), some (.ref p), v] ∧ H' = H1 ∧ ∀ w ∈ (pairs ns).take i, w.1 ≤ n ∧ w.2 ≤ m)
      ⟨none, rfl, rfl, fun w hw => by simp at hw⟩ (fun i σ H' _ ⟨_, _, e, _⟩ => by rw [e]; exact SqL.of hp) ?_ ?_⟩
    · rintro i y σ H' hi ⟨v, rfl, rfl, hall⟩
      obtain ⟨r, x, rfl, hx, hrr⟩ := hw.at hi
      refine ⟨_, rfl, _, rfl, _, rfl, n, m, r, x, rfl, hrr, fun bad => k0 (fun z => bad (z.2.2.2.2 x (List.mem_of_getElem? hx))) _ s1, fun ok => ⟨_, rfl, rfl, fun w hw => ?_⟩⟩
      rw [take_up hx] at hw
      rcases List.mem_append.mp hw with q | q
      · exact hall w q
      · rw [List.mem_singleton.mp q]
        exact ok
    · rintro σ H' ⟨v, rfl, rfl, hall⟩
      rw [List.length_map, hw.len, List.take_length] at hall
      exact ⟨.ref p, rfl, k1 ⟨ok1.1, ok1.2, ok2.1, ok2.2, hall⟩ _ p rs s1 hp hw⟩
end
end Um
/-! ## The two weights -/
namespace Um
open PySem PySem.Spec PyProof.Rows L2
open PySem.W (Codec)
/-- the words ws stand at p, as a list of tuples -/
def Lws (K : PySem.W.Frag) (H : Hp) (p : Addr) (ws : List (Int × Int)) : Prop := ∃ rs : List Addr, H p = some (.lst (rs.map V.ref)) ∧ WordsAt H rs ws
def spWW (K : PySem.W.Frag) : Sp := fun vs H Q _ => ∃ (n m : Int) (p : Addr) (ws : List (Int × Int)), vs = [.int n, .int m, .ref p] ∧ Lws K H p ws ∧ Lt n m ws ∧ Q (.int (wW n m ws)) H
def spWU (K : PySem.W.Frag) : Sp := fun vs H Q _ => ∃ (n m : Int) (p : Addr) (ws : List (Int × Int)), vs = [.int n, .int m, .ref p] ∧ Lws K H p ws ∧ Lt n m ws ∧ Q (.int (wU n m ws)) H
theorem wW_more {n m : Int} {ws : List (Int × Int)} {x : Int × Int} : wW n m (ws ++ [x]) = wW n m ws * (x.1 + 1) * (m + 2) := by
  unfold wW
  rw [List.foldl_append]
  rfl
theorem wU_more {n m : Int} {ws : List (Int × Int)} {x : Int × Int} : wU n m (ws ++ [x]) = wU n m ws * (x.2 + 1) * (n + 2) := by
  unfold wU
  rw [List.foldl_append]
  rfl
theorem scWW : FnScope ["wanted", "unwanted", "words", "found", "word"] ["wanted", "unwanted", "words"] (defScope sWW) := ⟨rfl, rfl, rfl, by decide +kernel, rfl, by decide +kernel, by decide +kernel⟩
theorem scWU : FnScope ["wanted", "unwanted", "words", "found", "word"] ["wanted", "unwanted", "words"] (defScope sWU) := ⟨rfl, rfl, rfl, by decide +kernel, rfl, by decide +kernel, by decide +kernel⟩
section
variable {P : Program} {w : World} {K : PySem.W.Frag} {mg : Str → Option Value} {base : Heap} {CF : Addr}
theorem ok_ww {f : Addr} {fd : FuncData} (F : Fun K "weight_for_wanted" "weight_for_wanted" sWW f fd) : FnOk P w K mg base CX0 1 f fd ["wanted", "unwanted", "words"] (spWW K) := by
  refine F.ok scWW (fun vs H Q E h => ?_) (fun cdv A outer s H vs Q E hr h => ?_)
  · obtain ⟨n, m, p, ws, rfl, _⟩ := h
    rfl
  · obtain ⟨n, m, p, ws, rfl, ⟨rs, hp, hw⟩, L, q⟩ := h
    have m0 := L.m0
    have m1 := L.m1
    have n1 := L.n1
    refine ⟨_, pss_cons (ps_set (i := 3) scWW.nd rfl (.inl rfl) (pe_op op_add (pv 0) pe_int))
      (pss_cons (ps_for PassesOwn.never rfl (pi_list (pv 2)) (pg_name (i := 4) scWW.nd rfl (.inl rfl))
        (pss_one (ps_set (i := 3) scWW.nd rfl (.inl rfl) (pe_op op_mul (pe_op op_mul (pv 3) (pe_op op_add (pe_ix ix_tup (pv 4) pe_int (fun _ _ => rfl)) pe_int)) (pe_op op_add (pv 1) pe_int)))))
      (pss_one (ps_ret (pv 3)))), ?_⟩
    refine ⟨_, rfl, _, _, rfl, rfl, ?_⟩
    refine ⟨_, rfl, p, rfl, ⟨_, SqL.of hp⟩, for_list (K := K) (a := p) (xs := rs.map V.ref) (fun i σ H' => ∃ v : Option V, σ = [some (.int n), some (.int m), some (.ref p), some (.int (wW n m (ws.take i))), v] ∧ H' = H)
      ⟨none, rfl, rfl⟩ (fun i σ H' _ ⟨_, _, e⟩ => by rw [e]; exact SqL.of hp) ?_ ?_⟩
    · rintro i y σ H' hi ⟨v, rfl, rfl⟩
      obtain ⟨r, x, rfl, hx, hrr⟩ := hw.at hi
      have lx := L.mem x (List.mem_of_getElem? hx)
      refine ⟨_, rfl, _, rfl, r, _, _, _, rfl, rfl, SqT.of hrr, at0, _, _, rfl, rfl, _, _, rfl, rfl, .inr ⟨by omega, by omega⟩, _, rfl, _, _, rfl, rfl, _, _, rfl, rfl, .inr ⟨by omega, by omega⟩, some (.ref r), ?_, rfl⟩
      rw [take_up hx, wW_more]
      rfl
    · rintro σ H' ⟨v, rfl, rfl⟩
      rw [List.length_map, hw.len, List.take_length]
      exact ⟨_, rfl, q⟩
theorem ok_wu {f : Addr} {fd : FuncData} (F : Fun K "weight_for_unwanted" "weight_for_unwanted" sWU f fd) : FnOk P w K mg base CX0 1 f fd ["wanted", "unwanted", "words"] (spWU K) := by
  refine F.ok scWU (fun vs H Q E h => ?_) (fun cdv A outer s H vs Q E hr h => ?_)
  · obtain ⟨n, m, p, ws, rfl, _⟩ := h
    rfl
  · obtain ⟨n, m, p, ws, rfl, ⟨rs, hp, hw⟩, L, q⟩ := h
    have n0 := L.n0
    have n1 := L.n1
    have m1 := L.m1
    refine ⟨_, pss_cons (ps_set (i := 3) scWU.nd rfl (.inl rfl) (pe_op op_add (pv 1) pe_int))
      (pss_cons (ps_for PassesOwn.never rfl (pi_list (pv 2)) (pg_name (i := 4) scWU.nd rfl (.inl rfl))
        (pss_one (ps_set (i := 3) scWU.nd rfl (.inl rfl) (pe_op op_mul (pe_op op_mul (pv 3) (pe_op op_add (pe_ix ix_tup (pv 4) pe_int (fun _ _ => rfl)) pe_int)) (pe_op op_add (pv 0) pe_int)))))
      (pss_one (ps_ret (pv 3)))), ?_⟩
    refine ⟨_, rfl, _, _, rfl, rfl, ?_⟩
    refine ⟨_, rfl, p, rfl, ⟨_, SqL.of hp⟩, for_list (K := K) (a := p) (xs := rs.map V.ref) (fun i σ H' => ∃ v : Option V, σ = [some (.int n), some (.int m), some (.ref p), some (.int (wU n m (ws.take i))), v] ∧ H' = H)
      ⟨none, rfl, rfl⟩ (fun i σ H' _ ⟨_, _, e⟩ => by rw [e]; exact SqL.of hp) ?_ ?_⟩
    · rintro i y σ H' hi ⟨v, rfl, rfl⟩
      obtain ⟨r, x, rfl, hx, hrr⟩ := hw.at hi
      have lx := L.mem x (List.mem_of_getElem? hx)
      refine ⟨_, rfl, _, rfl, r, _, _, _, rfl, rfl, SqT.of hrr, at1, _, _, rfl, rfl, _, _, rfl, rfl, .inr ⟨by omega, by omega⟩, _, rfl, _, _, rfl, rfl, _, _, rfl, rfl, .inr ⟨by omega, by omega⟩, some (.ref r), ?_, rfl⟩
      rw [take_up hx, wU_more]
      rfl
    · rintro σ H' ⟨v, rfl, rfl⟩
      rw [List.length_map, hw.len, List.take_length]
      exact ⟨_, rfl, q⟩
end
end Um
/-! ## What a letter is told to be -/
namespace Um
open PySem PySem.Spec PyProof.Rows L2
open PySem.W (Codec)
structure TxtM (mg : Str → Option Value) : Prop where
  cM : ∃ t, mg "MOST_TIMES" = some (.int 1000 t)
  c2 : ∃ t, mg "UNWANTED" = some (.int 2 t)
  c1 : ∃ t, mg "IN_DOUBT" = some (.int 1 t)
  c0 : ∃ t, mg "WANTED" = some (.int 0 t)
def spTimes (CF : Addr) : Sp := fun vs H Q E => ∃ t : Int, vs = [.int t] ∧ (¬ (1 ≤ t ∧ t ≤ 1000) → E (.ref CF) none H) ∧ (1 ≤ t ∧ t ≤ 1000 → Q .non H)
def spToldOf (K : PySem.W.Frag) : Sp := fun vs H Q _ => ∃ (t n m : Int) (p : Addr) (ws : List (Int × Int)), vs = [.int t, .int n, .int m, .ref p] ∧ (1 ≤ t ∧ t ≤ 1000) ∧ Lws K H p ws ∧ Lt n m ws ∧ Q (.int (toldOf t n m ws)) H
def spMain (K : PySem.W.Frag) : Sp := fun vs H Q _ => ∃ (t n m : Int) (a : Addr) (ns : List Int), vs = [.int t, .int n, .int m, .ref a] ∧ SqL K H a (ns.map V.int) ∧ (0 ≤ t ∧ 0 ≤ n ∧ 0 ≤ m ∧ ns.length ≤ 84 ∧ ∀ x ∈ ns, 0 ≤ x) ∧
  ∀ (H' : Hp) (p : Addr), H' p = some (.lst ((PyKys2.told t n m ns).map V.int)) → Q (.ref p) H'
theorem scTimes : FnScope ["times"] ["times"] (defScope sTimes) := ⟨rfl, rfl, rfl, by decide +kernel, rfl, by decide +kernel, by decide +kernel⟩
theorem scToldOf : FnScope ["times", "wanted", "unwanted", "words", "against", "weight"] ["times", "wanted", "unwanted", "words"] (defScope sToldOf) := ⟨rfl, rfl, rfl, by decide +kernel, rfl, by decide +kernel, by decide +kernel⟩
theorem scMain : FnScope ["t", "n", "m", "l", "words"] ["t", "n", "m", "l"] (defScope sMain) := ⟨rfl, rfl, rfl, by decide +kernel, rfl, by decide +kernel, by decide +kernel⟩
section
variable {P : Program} {w : World} {K : PySem.W.Frag} {mg : Str → Option Value} {base : Heap} {CF : Addr}
theorem ok_times {f fM : Addr} {fd fdM : FuncData} (F : Fun K "look_at_times" "look_at_times" sTimes f fd) (M : TxtM mg) (GM : Got P w K mg base (L2.CX P w) 1 "must" ["so"] (spMust CF) fM fdM) :
    FnOk P w K mg base (L2.CX P w) 2 f fd ["times"] (spTimes CF) := by
  refine F.okX scTimes (fun vs H Q E h => ?_) (fun cdv A outer s H vs Q E hr h => ?_)
  · obtain ⟨t, rfl, _⟩ := h
    rfl
  · obtain ⟨t, rfl, k0, k1⟩ := h
    obtain ⟨tM, cM⟩ := M.cM
    refine ⟨_, pss_cons (ps_expr (pe_call (E := E) GM.ok hr rfl GM.g GM.kp GM.b .nil (passes_call (takes_of rfl rfl rfl rfl) fun _ _ _ _ h => h) (pa_cons (pe_cmpR op_le pe_int (pv 0) (nomark _)) pa_nil)))
      (pss_one (ps_expr (pe_call (E := E) GM.ok hr rfl GM.g GM.kp GM.b .nil (passes_call (takes_of rfl rfl rfl rfl) fun _ _ _ _ h => h) (pa_cons (pe_cmpR op_le (pv 0) (pe_glob (v := .int 1000) rfl cM ⟨_, rfl⟩) (nomark _)) pa_nil)))), ?_⟩
    refine ⟨_, rfl, _, _, rfl, rfl, _, rfl, fun e => k0 fun z => absurd z.1 (of_decide_eq_false e), fun e => ?_⟩
    exact ⟨_, rfl, _, _, rfl, rfl, _, rfl, fun e2 => k0 fun z => absurd z.2 (of_decide_eq_false e2), fun e2 => k1 ⟨of_decide_eq_true e, of_decide_eq_true e2⟩⟩
theorem ok_toldOf {f fA fB : Addr} {fd fdA fdB : FuncData} (F : Fun K "told_of" "told_of" sToldOf f fd) (M : TxtM mg) (GA : Got P w K mg base CX0 1 "weight_for_wanted" ["wanted", "unwanted", "words"] (spWW K) fA fdA)
    (GB : Got P w K mg base CX0 1 "weight_for_unwanted" ["wanted", "unwanted", "words"] (spWU K) fB fdB) : FnOk P w K mg base CX0 2 f fd ["times", "wanted", "unwanted", "words"] (spToldOf K) := by
  refine F.ok scToldOf (fun vs H Q E h => ?_) (fun cdv A outer s H vs Q E hr h => ?_)
  · obtain ⟨t, n, m, p, ws, rfl, _⟩ := h
    rfl
  · obtain ⟨t, n, m, p, ws, rfl, ⟨ht1, ht2⟩, hp, L, q⟩ := h
    obtain ⟨t2, c2⟩ := M.c2
    obtain ⟨t1, c1⟩ := M.c1
    obtain ⟨t0, c0⟩ := M.c0
    refine ⟨_, pss_cons (ps_set (i := 4) scToldOf.nd rfl (.inl rfl) (pe_call GB.ok hr rfl GB.g GB.kp GB.b .nil pass0 (pa_cons (pv 1) (pa_cons (pv 2) (pa_cons (pv 3) pa_nil)))))
      (pss_cons (ps_set (i := 5) scToldOf.nd rfl (.inl rfl) (pe_call GA.ok hr rfl GA.g GA.kp GA.b .nil pass0 (pa_cons (pv 1) (pa_cons (pv 2) (pa_cons (pv 3) pa_nil)))))
      (pss_cons (ps_if (pt_cmpR op_ge (pv 4) (pe_op op_mul (pv 0) (pv 5)) (nomark _)) (pss_one (ps_ret (pe_glob (v := .int 2) rfl c2 ⟨_, rfl⟩))) pss_nil)
      (pss_cons (ps_if (pt_cmpR op_gt (pv 4) (pv 5) (nomark _)) (pss_one (ps_ret (pe_glob (v := .int 1) rfl c1 ⟨_, rfl⟩))) pss_nil)
      (pss_one (ps_ret (pe_glob (v := .int 0) rfl c0 ⟨_, rfl⟩)))))), ?_⟩
    refine ⟨_, rfl, _, rfl, _, rfl, n, m, p, ws, rfl, hp, L, ?_⟩
    refine ⟨_, rfl, _, rfl, _, rfl, n, m, p, ws, rfl, hp, L, ?_⟩
    refine ⟨_, rfl, _, rfl, _, rfl, _, _, rfl, rfl, .inl ⟨by omega, by omega⟩, _, _, rfl, rfl, _, rfl, ite2 (fun c => ?_) (fun c => ?_)⟩
    · have e : toldOf t n m ws = 2 := if_pos (of_decide_eq_true c)
      rw [e] at q
      exact q
    · have c' := fun z => c (decide_eq_true z)
      refine ⟨_, rfl, _, rfl, _, _, rfl, rfl, _, rfl, ite2 (fun d => ?_) (fun d => ?_)⟩
      · have e : toldOf t n m ws = 1 := (if_neg c').trans (if_pos (of_decide_eq_true d))
        rw [e] at q
        exact q
      · have e : toldOf t n m ws = 0 := (if_neg c').trans (if_neg fun z => d (decide_eq_true z))
        rw [e] at q
        exact q
theorem ok_main {f fT fL fS : Addr} {fd fdT fdL fdS : FuncData} (F : Fun K "told" "told" sMain f fd) (T : Txt K mg CF) (GT : Got P w K mg base (L2.CX P w) 2 "look_at_times" ["times"] (spTimes CF) fT fdT)
    (GL : Got P w K mg base (L2.CX P w) 3 "letter_in" ["wanted", "unwanted", "row"] (spLetter K CF) fL fdL) (GS : Got P w K mg base CX0 2 "told_of" ["times", "wanted", "unwanted", "words"] (spToldOf K) fS fdS) :
    FnOk P w K mg base CX0 4 f fd ["t", "n", "m", "l"] (spMain K) := by
  refine F.ok scMain (fun vs H Q E h => ?_) (fun cdv A outer s H vs Q E hr h => ?_)
  · obtain ⟨t, n, m, a, ns, rfl, _⟩ := h
    rfl
  · obtain ⟨t, n, m, a, ns, rfl, hS, ⟨ht, hn, hm, hl, hz⟩, k⟩ := h
    obtain ⟨tR, cR⟩ := T.cR
    have hr1 : Room 2 _ := hr.mono (by decide)
    refine ⟨_, pss_cons (ps_try_only (tb := fun W => tSeq (tDrop (tCallS (spTimes CF) (WE W) (tCons (tVar 0) tNil))) (tAsg (tCallS (spLetter K CF) (WE W) (tCons (tVar 1) (tCons (tVar 2) (tCons (tVar 3) tNil)))) (gName 4)))
        (ts := fun _ _ _ => tRet (tLst (tCons (tC (.int (-22))) tNil))) (Wout := fun _ _ _ _ => False) rfl rfl ⟨rfl, by decide, Or.inl T.gF⟩ takes0
        (fun W pn xe tk _ => pss_cons (ps_expr (by exact (pe_callS GT.ok hr1 rfl GT.g GT.kp GT.b (fun σ => passAt tk σ) (by exact (pa_cons (pv 0) pa_nil)))))
          (pss_one (ps_set (i := 4) scMain.nd rfl (Or.inl rfl) (by exact (pe_callS GL.ok hr rfl GL.g GL.kp GL.b (fun σ => passAt tk σ) (by exact (pa_cons (pv 1) (pa_cons (pv 2) (pa_cons (pv 3) pa_nil)))))))))
        (fun _ _ _ _ _ _ _ => pss_one (ps_ret (pe_lst (pa_cons (pe_glob (v := .int (-22)) rfl cR ⟨_, rfl⟩) pa_nil)))))
      (pss_one (ps_ret (pe_lst (pa_cons (pe_call GS.ok hr1 rfl GS.g GS.kp GS.b .nil pass0 (pa_cons (pv 0) (pa_cons (pv 1) (pa_cons (pv 2) (pa_cons (pv 4) pa_nil))))) pa_nil)))), ?_⟩
    refine ⟨_, rfl, t, rfl, fun bad => ?_, fun okT => ?_⟩
    · refine ⟨true, T.eF, fun _ a0 _ => ?_, fun q => Bool.noConfusion q⟩
      refine ⟨(by show 1 ≤ sizeLine; decide), fun p hp => k _ p ?_⟩
      rw [told_bad ht hn hm hz fun z => bad ⟨z.1, z.2.1⟩]
      exact upd_same
    refine ⟨_, rfl, _, rfl, _, rfl, n, m, a, ns, rfl, hS, hl, fun bad H' s' => ?_, fun ok H' p rs s' hp hw => ?_⟩
    · refine ⟨true, T.eF, fun _ a0 _ => ?_, fun q => Bool.noConfusion q⟩
      refine ⟨(by show 1 ≤ sizeLine; decide), fun p hp => k _ p ?_⟩
      rw [told_bad ht hn hm hz fun z => bad z.2.2]
      exact upd_same
    · refine ⟨_, rfl, _, rfl, _, rfl, _, rfl, t, n, m, p, pairs ns, rfl, okT, ⟨rs, hp, hw⟩, lt_of hn hm hz ok, (by show 1 ≤ sizeLine; decide), fun p2 hp2 => k _ p2 ?_⟩
      rw [told_good okT.1 okT.2 hn hm hz ok]
      exact upd_same
end
/-! ## The end: what the top has written -/
theorem exm_own {K : PySem.W.Frag} {S : Addr} (h1 : PySem.W.subIn K (.ref S) (.type "BaseException") = some true) (h2 : PySem.W.isClsIn K S = true) (h3 : PySem.W.typeIn K (.ref S) = some (.type "type")) (h4 : PySem.W.subIn K (.ref S) (.ref S) = some true) : PySem.W.exmOne K (.ref S) (.ref S) = some true := by
  have e1 : (PySem.W.subIn K (.ref S) (.type "BaseException") == some true) = true := by rw [h1] <;> rfl
  have e2 : ((PySem.W.clsIn K S).isSome && PySem.W.typeIn K (.ref S) == some (.type "type")) = true := by
    have h2' : (PySem.W.clsIn K S).isSome = true := h2
    rw [h2', h3] <;> rfl
  show (if (PySem.W.subIn K (.ref S) (.type "BaseException") == some true) = true then (if ((PySem.W.clsIn K S).isSome && PySem.W.typeIn K (.ref S) == some (.type "type")) = true then PySem.W.subIn K (.ref S) (.ref S) else none) else none) = some true
  rw [if_pos e1, if_pos e2]
  exact h4
theorem all_mk {P : Program} {w : World} {K : PySem.W.Frag} {h : Heap} {mg : Str → Option Value} {fa CF f1 f2 f3 f4 f5 f6 f7 f8 f9 f10 f11 f12 : Addr} (X : K.In h) (G : h.Ns mainGlobals mg) (hfa : mg "told" = some (.ref fa))
    {od1 an1 od2 an2 od3 an3 od4 an4 od5 an5 od6 an6 od7 an7 od8 an8 od9 an9 od10 an10 od11 an11 od12 an12 : Option Addr} {sl1 sl2 sl3 sl4 sl5 sl6 sl7 sl8 sl9 sl10 sl11 sl12 : Array (Option Value)} {oc1 kV1 dc1 pm1 cd1 ct1 oc2 kV2 dc2 pm2 cd2 ct2 oc3 kV3 dc3 pm3 cd3 ct3 oc4 kV4 dc4 pm4 cd4 ct4 oc5 kV5 dc5 pm5 cd5 ct5 oc6 kV6 dc6 pm6 cd6 ct6 oc7 kV7 dc7 pm7 cd7 ct7 oc8 kV8 dc8 pm8 cd8 ct8 oc9 kV9 dc9 pm9 cd9 ct9 oc10 kV10 dc10 pm10 cd10 ct10 oc11 kV11 dc11 pm11 cd11 ct11 oc12 kV12 dc12 pm12 cd12 ct12 : Value} {tMOST_TAUGHT tMOST_WORDS tREFUSED tMOST_TIMES tUNWANTED tIN_DOUBT tWANTED : Tok}
    (a1 : PySem.W.nsIn K mainGlobals "must" = some (some (.ref f1))) (l1 : K.lookup f1 = some ⟨oc1, od1, .func (PySem.W.fnOf "must" "must" (defArgs sMust) (defBody sMust) (defScope sMust) .none kV1 dc1 pm1 an1 cd1 ct1), sl1⟩) (c1 : PySem.W.codeIn K cd1 "must" = true) (k1 : PySem.W.keepIn K (.ref f1) = true)
    (a2 : PySem.W.nsIn K mainGlobals "words_in" = some (some (.ref f2))) (l2 : K.lookup f2 = some ⟨oc2, od2, .func (PySem.W.fnOf "words_in" "words_in" (defArgs sWordsIn) (defBody sWordsIn) (defScope sWordsIn) .none kV2 dc2 pm2 an2 cd2 ct2), sl2⟩) (c2 : PySem.W.codeIn K cd2 "words_in" = true) (k2 : PySem.W.keepIn K (.ref f2) = true)
    (a3 : PySem.W.nsIn K mainGlobals "is_even" = some (some (.ref f3))) (l3 : K.lookup f3 = some ⟨oc3, od3, .func (PySem.W.fnOf "is_even" "is_even" (defArgs sEven) (defBody sEven) (defScope sEven) .none kV3 dc3 pm3 an3 cd3 ct3), sl3⟩) (c3 : PySem.W.codeIn K cd3 "is_even" = true) (k3 : PySem.W.keepIn K (.ref f3) = true)
    (a4 : PySem.W.nsIn K mainGlobals "look_at_many" = some (some (.ref f4))) (l4 : K.lookup f4 = some ⟨oc4, od4, .func (PySem.W.fnOf "look_at_many" "look_at_many" (defArgs sMany) (defBody sMany) (defScope sMany) .none kV4 dc4 pm4 an4 cd4 ct4), sl4⟩) (c4 : PySem.W.codeIn K cd4 "look_at_many" = true) (k4 : PySem.W.keepIn K (.ref f4) = true)
    (a5 : PySem.W.nsIn K mainGlobals "look_at_taught" = some (some (.ref f5))) (l5 : K.lookup f5 = some ⟨oc5, od5, .func (PySem.W.fnOf "look_at_taught" "look_at_taught" (defArgs sTaught) (defBody sTaught) (defScope sTaught) .none kV5 dc5 pm5 an5 cd5 ct5), sl5⟩) (c5 : PySem.W.codeIn K cd5 "look_at_taught" = true) (k5 : PySem.W.keepIn K (.ref f5) = true)
    (a6 : PySem.W.nsIn K mainGlobals "look_at_word" = some (some (.ref f6))) (l6 : K.lookup f6 = some ⟨oc6, od6, .func (PySem.W.fnOf "look_at_word" "look_at_word" (defArgs sWord) (defBody sWord) (defScope sWord) .none kV6 dc6 pm6 an6 cd6 ct6), sl6⟩) (c6 : PySem.W.codeIn K cd6 "look_at_word" = true) (k6 : PySem.W.keepIn K (.ref f6) = true)
    (a7 : PySem.W.nsIn K mainGlobals "letter_in" = some (some (.ref f7))) (l7 : K.lookup f7 = some ⟨oc7, od7, .func (PySem.W.fnOf "letter_in" "letter_in" (defArgs sLetter) (defBody sLetter) (defScope sLetter) .none kV7 dc7 pm7 an7 cd7 ct7), sl7⟩) (c7 : PySem.W.codeIn K cd7 "letter_in" = true) (k7 : PySem.W.keepIn K (.ref f7) = true)
    (a8 : PySem.W.nsIn K mainGlobals "look_at_times" = some (some (.ref f8))) (l8 : K.lookup f8 = some ⟨oc8, od8, .func (PySem.W.fnOf "look_at_times" "look_at_times" (defArgs sTimes) (defBody sTimes) (defScope sTimes) .none kV8 dc8 pm8 an8 cd8 ct8), sl8⟩) (c8 : PySem.W.codeIn K cd8 "look_at_times" = true) (k8 : PySem.W.keepIn K (.ref f8) = true)
    (a9 : PySem.W.nsIn K mainGlobals "weight_for_wanted" = some (some (.ref f9))) (l9 : K.lookup f9 = some ⟨oc9, od9, .func (PySem.W.fnOf "weight_for_wanted" "weight_for_wanted" (defArgs sWW) (defBody sWW) (defScope sWW) .none kV9 dc9 pm9 an9 cd9 ct9), sl9⟩) (c9 : PySem.W.codeIn K cd9 "weight_for_wanted" = true) (k9 : PySem.W.keepIn K (.ref f9) = true)
    (a10 : PySem.W.nsIn K mainGlobals "weight_for_unwanted" = some (some (.ref f10))) (l10 : K.lookup f10 = some ⟨oc10, od10, .func (PySem.W.fnOf "weight_for_unwanted" "weight_for_unwanted" (defArgs sWU) (defBody sWU) (defScope sWU) .none kV10 dc10 pm10 an10 cd10 ct10), sl10⟩) (c10 : PySem.W.codeIn K cd10 "weight_for_unwanted" = true) (k10 : PySem.W.keepIn K (.ref f10) = true)
    (a11 : PySem.W.nsIn K mainGlobals "told_of" = some (some (.ref f11))) (l11 : K.lookup f11 = some ⟨oc11, od11, .func (PySem.W.fnOf "told_of" "told_of" (defArgs sToldOf) (defBody sToldOf) (defScope sToldOf) .none kV11 dc11 pm11 an11 cd11 ct11), sl11⟩) (c11 : PySem.W.codeIn K cd11 "told_of" = true) (k11 : PySem.W.keepIn K (.ref f11) = true)
    (a12 : PySem.W.nsIn K mainGlobals "told" = some (some (.ref f12))) (l12 : K.lookup f12 = some ⟨oc12, od12, .func (PySem.W.fnOf "told" "told" (defArgs sMain) (defBody sMain) (defScope sMain) .none kV12 dc12 pm12 an12 cd12 ct12), sl12⟩) (c12 : PySem.W.codeIn K cd12 "told" = true) (k12 : PySem.W.keepIn K (.ref f12) = true)
    (nMOST_TAUGHT : PySem.W.nsIn K mainGlobals "MOST_TAUGHT" = some (some (.int 10000 tMOST_TAUGHT)))
    (nMOST_WORDS : PySem.W.nsIn K mainGlobals "MOST_WORDS" = some (some (.int 40 tMOST_WORDS)))
    (nREFUSED : PySem.W.nsIn K mainGlobals "REFUSED" = some (some (.int (-22) tREFUSED)))
    (nMOST_TIMES : PySem.W.nsIn K mainGlobals "MOST_TIMES" = some (some (.int 1000 tMOST_TIMES)))
    (nUNWANTED : PySem.W.nsIn K mainGlobals "UNWANTED" = some (some (.int 2 tUNWANTED)))
    (nIN_DOUBT : PySem.W.nsIn K mainGlobals "IN_DOUBT" = some (some (.int 1 tIN_DOUBT)))
    (nWANTED : PySem.W.nsIn K mainGlobals "WANTED" = some (some (.int 0 tWANTED)))
    (zl : PySem.W.nsIn K mainGlobals "len" = some none) (zr : PySem.W.nsIn K mainGlobals "range" = some none) (aF : PySem.W.nsIn K mainGlobals "Refused" = some (some (.ref CF)))
    (xF : PySem.W.excIn K CF [.type "ValueError", .type "Exception", .type "BaseException", .type "object"] "ValueError.__new__" = true) (kF : PySem.W.keepIn K (.ref CF) = true) (bF : PySem.W.subIn K (.ref CF) (.type "BaseException") = some true)
    (tF : PySem.W.typeIn K (.ref CF) = some (.type "type")) (iF : PySem.W.isClsIn K CF = true) (sF : PySem.W.subIn K (.ref CF) (.ref CF) = some true) :
    ∃ fd : FuncData, (∀ (s : Shared) (us : List Value), us.length = (["t", "n", "m", "l"] : List Str).length → BindsTo s fd ⟨us, []⟩ ((["t", "n", "m", "l"] : List Str).zip us)) ∧ ∀ base : Heap, K.In base → base.Ns mainGlobals mg → FnOk P w K mg base CX0 4 fa fd ["t", "n", "m", "l"] (spMain K) := by
  have e := hfa.symm.trans (PySem.W.mg_of X G a12)
  cases e
  have T : Txt K mg CF := ⟨PySem.W.mg_of X G aF, xF, kF, bF, tF, exm_own bF iF tF sF, PySem.W.mg_none_of X G zl, PySem.W.mg_none_of X G zr, ⟨_, PySem.W.mg_of X G nMOST_TAUGHT⟩, ⟨_, PySem.W.mg_of X G nMOST_WORDS⟩, ⟨_, PySem.W.mg_of X G nREFUSED⟩⟩
  have M : TxtM mg := ⟨⟨_, PySem.W.mg_of X G nMOST_TIMES⟩, ⟨_, PySem.W.mg_of X G nUNWANTED⟩, ⟨_, PySem.W.mg_of X G nIN_DOUBT⟩, ⟨_, PySem.W.mg_of X G nWANTED⟩⟩
  have F1 := fun_mk (st := sMust) l1 c1 k1
  have F2 := fun_mk (st := sWordsIn) l2 c2 k2
  have F3 := fun_mk (st := sEven) l3 c3 k3
  have F4 := fun_mk (st := sMany) l4 c4 k4
  have F5 := fun_mk (st := sTaught) l5 c5 k5
  have F6 := fun_mk (st := sWord) l6 c6 k6
  have F7 := fun_mk (st := sLetter) l7 c7 k7
  have F8 := fun_mk (st := sTimes) l8 c8 k8
  have F9 := fun_mk (st := sWW) l9 c9 k9
  have F10 := fun_mk (st := sWU) l10 c10 k10
  have F11 := fun_mk (st := sToldOf) l11 c11 k11
  have F12 := fun_mk (st := sMain) l12 c12 k12
  have b1 := F1.binds (ps := ["so"]) fun _ _ _ _ _ _ us hl => match us, hl with | [_], _ => rfl
  have b2 := F2.binds (ps := ["row"]) fun _ _ _ _ _ _ us hl => match us, hl with | [_], _ => rfl
  have b3 := F3.binds (ps := ["number"]) fun _ _ _ _ _ _ us hl => match us, hl with | [_], _ => rfl
  have b4 := F4.binds (ps := ["row"]) fun _ _ _ _ _ _ us hl => match us, hl with | [_], _ => rfl
  have b5 := F5.binds (ps := ["wanted", "unwanted"]) fun _ _ _ _ _ _ us hl => match us, hl with | [_, _], _ => rfl
  have b6 := F6.binds (ps := ["wanted", "unwanted", "word"]) fun _ _ _ _ _ _ us hl => match us, hl with | [_, _, _], _ => rfl
  have b7 := F7.binds (ps := ["wanted", "unwanted", "row"]) fun _ _ _ _ _ _ us hl => match us, hl with | [_, _, _], _ => rfl
  have b8 := F8.binds (ps := ["times"]) fun _ _ _ _ _ _ us hl => match us, hl with | [_], _ => rfl
  have b9 := F9.binds (ps := ["wanted", "unwanted", "words"]) fun _ _ _ _ _ _ us hl => match us, hl with | [_, _, _], _ => rfl
  have b10 := F10.binds (ps := ["wanted", "unwanted", "words"]) fun _ _ _ _ _ _ us hl => match us, hl with | [_, _, _], _ => rfl
  have b11 := F11.binds (ps := ["times", "wanted", "unwanted", "words"]) fun _ _ _ _ _ _ us hl => match us, hl with | [_, _, _, _], _ => rfl
  refine ⟨PySem.W.fnOf "told" "told" (defArgs sMain) (defBody sMain) (defScope sMain) .none kV12 dc12 pm12 an12 cd12 ct12, fun s us hu => match us, hu with | [_, _, _, _], _ => .of_eq rfl, fun base _ _ => ?_⟩
  have Gmust : Got P w K mg base (L2.CX P w) 1 "must" ["so"] (spMust CF) f1 _ := ⟨ok_must F1 T, PySem.W.mg_of X G a1, k1, b1⟩
  have Gis_even : Got P w K mg base CX0 1 "is_even" ["number"] spEven f3 _ := ⟨ok_even F3, PySem.W.mg_of X G a3, k3, b3⟩
  have Gwords_in : Got P w K mg base CX0 1 "words_in" ["row"] (spWordsIn K) f2 _ := ⟨ok_wordsIn F2 T, PySem.W.mg_of X G a2, k2, b2⟩
  have Glook_at_many : Got P w K mg base (L2.CX P w) 2 "look_at_many" ["row"] (spMany K CF) f4 _ := ⟨ok_many F4 T Gmust Gis_even, PySem.W.mg_of X G a4, k4, b4⟩
  have Glook_at_taught : Got P w K mg base (L2.CX P w) 2 "look_at_taught" ["wanted", "unwanted"] (spTaught CF) f5 _ := ⟨ok_taught F5 T Gmust, PySem.W.mg_of X G a5, k5, b5⟩
  have Glook_at_word : Got P w K mg base (L2.CX P w) 2 "look_at_word" ["wanted", "unwanted", "word"] (spWord CF) f6 _ := ⟨ok_word F6 Gmust, PySem.W.mg_of X G a6, k6, b6⟩
  have Gletter_in : Got P w K mg base (L2.CX P w) 3 "letter_in" ["wanted", "unwanted", "row"] (spLetter K CF) f7 _ := ⟨ok_letter F7 Glook_at_many Glook_at_taught Gwords_in Glook_at_word, PySem.W.mg_of X G a7, k7, b7⟩
  have Glook_at_times : Got P w K mg base (L2.CX P w) 2 "look_at_times" ["times"] (spTimes CF) f8 _ := ⟨ok_times F8 M Gmust, PySem.W.mg_of X G a8, k8, b8⟩
  have Gweight_for_wanted : Got P w K mg base CX0 1 "weight_for_wanted" ["wanted", "unwanted", "words"] (spWW K) f9 _ := ⟨ok_ww F9, PySem.W.mg_of X G a9, k9, b9⟩
  have Gweight_for_unwanted : Got P w K mg base CX0 1 "weight_for_unwanted" ["wanted", "unwanted", "words"] (spWU K) f10 _ := ⟨ok_wu F10, PySem.W.mg_of X G a10, k10, b10⟩
  have Gtold_of : Got P w K mg base CX0 2 "told_of" ["times", "wanted", "unwanted", "words"] (spToldOf K) f11 _ := ⟨ok_toldOf F11 M Gweight_for_wanted Gweight_for_unwanted, PySem.W.mg_of X G a11, k11, b11⟩
  exact ok_main F12 T Glook_at_times Gletter_in Gtold_of
end Um
open PySem PySem.W PyProof.Rows
set_option maxRecDepth 100000 in
set_option maxHeartbeats 8000000 in
theorem PySem.Challenge.cw_unwantedmail_s02_told_holds : PySem.Challenge.rw_unwantedmail_s02_told.Holds := by
  w_on; k_headS; (case hw => exact ⟨[.int 0, .int 0, .int 0, .list []], by decide +kernel, by decide +kernel⟩)
  k_fillS
  refine L2.walk_specK (r := PySem.Challenge.rw_unwantedmail_s02_told) (k := 4) (CX := L2.CX0) (ps := ["t", "n", "m", "l"]) (sp := Um.spMain) (by decide +kernel) rfl rfl ⟨rfl, by decide, by decide⟩ (fun w h Y => PySem.W.kIn_of Y) ?F ?S (fun _ _ _ _ z => z)
  case F =>
    intro w mg fa h Y KX G hmg
    refine' Um.all_mk KX G hmg ?a1 ?l1 ?c1 ?k1 ?a2 ?l2 ?c2 ?k2 ?a3 ?l3 ?c3 ?k3 ?a4 ?l4 ?c4 ?k4 ?a5 ?l5 ?c5 ?k5 ?a6 ?l6 ?c6 ?k6 ?a7 ?l7 ?c7 ?k7 ?a8 ?l8 ?c8 ?k8 ?a9 ?l9 ?c9 ?k9 ?a10 ?l10 ?c10 ?k10 ?a11 ?l11 ?c11 ?k11 ?a12 ?l12 ?c12 ?k12 ?nMOST_TAUGHT ?nMOST_WORDS ?nREFUSED ?nMOST_TIMES ?nUNWANTED ?nIN_DOUBT ?nWANTED ?zl ?zr ?aF ?xF ?kF ?bF ?tF ?iF ?sF
    (case a1 => k_is)
    (case l1 => k_is)
    (case c1 => k_is)
    (case k1 => k_is)
    (case a2 => k_is)
    (case l2 => k_is)
    (case c2 => k_is)
    (case k2 => k_is)
    (case a3 => k_is)
    (case l3 => k_is)
    (case c3 => k_is)
    (case k3 => k_is)
    (case a4 => k_is)
    (case l4 => k_is)
    (case c4 => k_is)
    (case k4 => k_is)
    (case a5 => k_is)
    (case l5 => k_is)
    (case c5 => k_is)
    (case k5 => k_is)
    (case a6 => k_is)
    (case l6 => k_is)
    (case c6 => k_is)
    (case k6 => k_is)
    (case a7 => k_is)
    (case l7 => k_is)
    (case c7 => k_is)
    (case k7 => k_is)
    (case a8 => k_is)
    (case l8 => k_is)
    (case c8 => k_is)
    (case k8 => k_is)
    (case a9 => k_is)
    (case l9 => k_is)
    (case c9 => k_is)
    (case k9 => k_is)
    (case a10 => k_is)
    (case l10 => k_is)
    (case c10 => k_is)
    (case k10 => k_is)
    (case a11 => k_is)
    (case l11 => k_is)
    (case c11 => k_is)
    (case k11 => k_is)
    (case a12 => k_is)
    (case l12 => k_is)
    (case c12 => k_is)
    (case k12 => k_is)
    (case nMOST_TAUGHT => k_is)
    (case nMOST_WORDS => k_is)
    (case nREFUSED => k_is)
    (case nMOST_TIMES => k_is)
    (case nUNWANTED => k_is)
    (case nIN_DOUBT => k_is)
    (case nWANTED => k_is)
    (case zl => k_is)
    (case zr => k_is)
    (case aF => k_is)
    (case xF => k_exc)
    (case kF => k_is)
    (case bF => k_is)
    (case tF => k_is)
    (case iF => k_is)
    (case sF => first | rfl | k_is)
  case S =>
    intro K H xs a hO hwi hask hx
    obtain ⟨t, n, m, ns, u⟩ := a
    cases hx with
    | cons h0 hx =>
      cases hx with
      | cons h1 hx =>
        cases hx with
        | cons h2 hx =>
          cases hx with
          | cons h3 hx =>
            cases hx
            cases h0
            cases h1
            cases h2
            cases h3 with
            | lst hs ha =>
              have e := L2.ints_dw ns _ ha
              subst e
              have q : (Codec.inInt 0 4294967295 t && (Codec.inInt 0 4294967295 n && (Codec.inInt 0 4294967295 m && ((Codec.inLen 0 84 ns && ns.all (Codec.inInt 0 4294967295)) && true)))) = true := hwi
              simp only [Bool.and_eq_true, Codec.inInt_iff, List.all_eq_true] at q
              exact ⟨t, n, m, _, ns, rfl, hs, ⟨q.1.1, q.2.1.1, q.2.2.1.1, (Codec.inNat_iff.mp q.2.2.2.1.1).2, fun x hx => (q.2.2.2.1.2 x hx).1⟩, fun H' p hp => .lst (L2.SqL.of hp) (L2.dw_ints _)⟩
#print axioms PySem.Challenge.cw_unwantedmail_s02_told_holds
