import PyProof.Rows.All
import Wide.All
import OpenK.AllK
import Wide.FinOn
import Open.SpecLaws
import KE.OsGo
import HandS.ForSpec
import HandS.Comp
import HandS.Dict
import HandS.Iter
import HandS.Conv
import HandS.WordsDict
import HandS.Walk
import PySem.Challenge.RW_planerepeats_s05_count
set_option Elab.async false
set_option maxRecDepth 100000
set_option maxHeartbeats 4000000
/-! ### the text by places -/
namespace Pl
open PySem PySem.Spec PyProof.Rows L2
def top (i : Nat) : Stmt := PySem.Challenge.pw_planerepeats_s05_count.main.body.getD i (.Pass ⟨0, 0, 0, 0⟩)
abbrev sTurned : Stmt := top 4
abbrev sMoved : Stmt := top 5
abbrev sNum : Stmt := top 6
abbrev sImage : Stmt := top 7
abbrev sMvs : Stmt := top 8
abbrev sWaysOf : Stmt := top 9
abbrev sRounds : Stmt := top 11
abbrev sPower : Stmt := top 12
abbrev sCountPat : Stmt := top 13
abbrev sCount : Stmt := top 20
end Pl
namespace Pl
open Sa48 Sa48Neutral
/-! ### places by their numbers -/
/-- the number of a place of the square, for any place -/
def num (n : Nat) (x y : Int) : Nat := (y % (n : Int)).toNat * n + (x % (n : Int)).toNat
/-- the number of the place to which a movement takes the place numbered k -/
def pl (n a : Nat) (u v : Int) (k : Nat) : Nat := num n ((turned a ((k % n : Nat) : Int) ((k / n : Nat) : Int)).1 + u) ((turned a ((k % n : Nat) : Int) ((k / n : Nat) : Int)).2 + v)
theorem place_pl (p : Pat) (a : Nat) (u v : Int) (k : Nat) : place p a u v k = pl p.n a u v k := rfl
theorem at_num (p : Pat) (x y : Int) : p.at_ x y = p.c.getD (num p.n x y) 0 := rfl
theorem num_lt {n : Nat} (hn : 0 < n) (x y : Int) : num n x y < n * n := by
  have h1 := Int.emod_nonneg x (show (n : Int) ≠ 0 by omega)
  have h2 := Int.emod_lt_of_pos x (show (0 : Int) < n by omega)
  have h3 := Int.emod_nonneg y (show (n : Int) ≠ 0 by omega)
  have h4 := Int.emod_lt_of_pos y (show (0 : Int) < n by omega)
  have hx : (x % (n : Int)).toNat < n := by omega
  have hy : (y % (n : Int)).toNat + 1 ≤ n := by omega
  have hm := Nat.mul_le_mul_right n hy
  rw [Nat.add_mul, Nat.one_mul] at hm
  unfold num
  omega
theorem pl_lt {n : Nat} (hn : 0 < n) (a : Nat) (u v : Int) (k : Nat) : pl n a u v k < n * n := num_lt hn _ _
theorem num_nat {n x y : Nat} (hx : x < n) (hy : y < n) : num n (x : Int) (y : Int) = y * n + x := by
  unfold num
  rw [Int.emod_eq_of_lt (by omega) (by omega), Int.emod_eq_of_lt (by omega) (by omega)]
  rfl
theorem num_self {n k : Nat} (hk : k < n * n) : num n ((k % n : Nat) : Int) ((k / n : Nat) : Int) = k := by
  have hn : 0 < n := by
    rcases Nat.eq_zero_or_pos n with h | h
    · subst h; simp at hk
    · exact h
  rw [num_nat (Nat.mod_lt _ hn) (Nat.div_lt_of_lt_mul hk), Nat.mul_comm]
  exact Nat.div_add_mod k n
theorem num_mod (n : Nat) (x y x' y' : Int) (h1 : x % (n : Int) = x' % (n : Int)) (h2 : y % (n : Int) = y' % (n : Int)) : num n x y = num n x' y' := by
  unfold num
  rw [h1, h2]
theorem pl_congr (n a : Nat) (u v u' v' : Int) (k : Nat) (h1 : u % (n : Int) = u' % (n : Int)) (h2 : v % (n : Int) = v' % (n : Int)) : pl n a u v k = pl n a u' v' k := by
  unfold pl
  refine num_mod n _ _ _ _ ?_ ?_
  · rw [Int.add_emod, h1, ← Int.add_emod]
  · rw [Int.add_emod, h2, ← Int.add_emod]
theorem pl_mod (n a : Nat) (u v : Int) (k : Nat) : pl n a (u % (n : Int)) (v % (n : Int)) k = pl n a u v k :=
  pl_congr n a _ _ _ _ k (Int.emod_emod_of_dvd _ (Int.dvd_refl _)) (Int.emod_emod_of_dvd _ (Int.dvd_refl _))
/-! ### symmetries by numbers -/
theorem mem_rg {n : Nat} {z : Int} : z ∈ rg n ↔ ∃ i : Nat, i < n ∧ z = (i : Int) := by
  unfold rg
  rw [List.mem_map]
  constructor
  · rintro ⟨i, h, rfl⟩
    exact ⟨i, List.mem_range.mp h, rfl⟩
  · rintro ⟨i, h, rfl⟩
    exact ⟨i, List.mem_range.mpr h, rfl⟩
/-- each place and where it's taken have one colour, by numbers -/
def symL (c : List Nat) (n a : Nat) (u v : Int) : Bool := (List.range (n * n)).all fun k => c.getD (pl n a u v k) 0 == c.getD k 0
theorem symL_iff {c : List Nat} {n a : Nat} {u v : Int} : symL c n a u v = true ↔ ∀ k, k < n * n → c.getD (pl n a u v k) 0 = c.getD k 0 := by
  unfold symL
  rw [List.all_eq_true]
  constructor
  · intro h k hk
    exact eq_of_beq (h k (List.mem_range.mpr hk))
  · intro h k hk
    exact beq_iff_eq.mpr (h k (List.mem_range.mp hk))
theorem sym_iff {p : Pat} {a : Nat} {u v : Int} : sym p a u v = true ↔ ∀ x y : Nat, x < p.n → y < p.n → p.at_ ((turned a x y).1 + u) ((turned a x y).2 + v) = p.at_ x y := by
  unfold sym
  rw [List.all_eq_true]
  constructor
  · intro h x y hx hy
    have q := List.all_eq_true.mp (h x (mem_rg.mpr ⟨x, hx, rfl⟩)) y (mem_rg.mpr ⟨y, hy, rfl⟩)
    exact eq_of_beq q
  · intro h x hx
    obtain ⟨i, hi, rfl⟩ := mem_rg.mp hx
    refine List.all_eq_true.mpr fun y hy => ?_
    obtain ⟨j, hj, rfl⟩ := mem_rg.mp hy
    exact beq_iff_eq.mpr (h i j hi hj)
theorem sym_symL (p : Pat) (a : Nat) (u v : Int) : sym p a u v = symL p.c p.n a u v := by
  rw [Bool.eq_iff_iff, sym_iff, symL_iff]
  constructor
  · intro h k hk
    have hn : 0 < p.n := by
      rcases Nat.eq_zero_or_pos p.n with h | h
      · rw [h] at hk; simp at hk
      · exact h
    have q := h (k % p.n) (k / p.n) (Nat.mod_lt _ hn) (Nat.div_lt_of_lt_mul hk)
    rw [at_num, at_num, num_self hk] at q
    exact q
  · intro h x y hx hy
    have hk : y * p.n + x < p.n * p.n := by
      have hm := Nat.mul_le_mul_right p.n (show y + 1 ≤ p.n from hy)
      rw [Nat.add_mul, Nat.one_mul] at hm
      omega
    have q := h _ hk
    have e1 : (y * p.n + x) % p.n = x := by
      rw [Nat.add_comm, Nat.add_mul_mod_self_right]
      exact Nat.mod_eq_of_lt hx
    have e2 : (y * p.n + x) / p.n = y := by
      rw [Nat.add_comm, Nat.add_mul_div_right _ _ (by omega), Nat.div_eq_of_lt hx, Nat.zero_add]
    unfold pl at q
    rw [e1, e2] at q
    rw [at_num, at_num, num_nat hx hy]
    exact q
theorem symL_congr {c : List Nat} {n a : Nat} {u v u' v' : Int} (h1 : u % (n : Int) = u' % (n : Int)) (h2 : v % (n : Int) = v' % (n : Int)) : symL c n a u v = symL c n a u' v' := by
  unfold symL
  have e : (fun k => c.getD (pl n a u v k) 0 == c.getD k 0) = fun k => c.getD (pl n a u' v' k) 0 == c.getD k 0 := by
    funext k
    rw [pl_congr n a u v u' v' k h1 h2]
  rw [e]
theorem symL_mod (c : List Nat) (n a : Nat) (u v : Int) : symL c n a (u % (n : Int)) (v % (n : Int)) = symL c n a u v :=
  symL_congr (Int.emod_emod_of_dvd _ (Int.dvd_refl _)) (Int.emod_emod_of_dvd _ (Int.dvd_refl _))
end Pl
/-! ### heaps, short words -/
namespace Pl
open PySem PySem.Spec PyProof.Rows L2
theorem Same.upd {H H' : Hp} {p : Addr} {o : HO} (s : Same H H') (h : H p = none) : Same H (L2.upd H' p o) := fun b ob e => by
  rw [upd_ne (ne_of_none e h)]
  exact s b ob e
theorem Same.new {H : Hp} {p : Addr} {o : HO} (h : H p = none) : Same H (L2.upd H p o) := Same.upd (Same.refl H) h
theorem tup_same {K : PySem.W.Frag} {H H' : Hp} {a : Addr} {xs : List V} (e : Same H H') (h : SqT K H a xs) : SqT K H' a xs := by
  rcases h with (h | ⟨o, h⟩) | h
  · exact .inl (.inl (e _ _ h))
  · exact .inl (.inr ⟨o, e _ _ h⟩)
  · exact .inr h
/-- a part of a way, one more -/
theorem take_more {α : Type} : ∀ {l : List α} {i : Nat} {x : α}, l[i]? = some x → l.take (i + 1) = l.take i ++ [x]
  | [], i, x, h => by simp at h
  | a :: l, 0, x, h => by
    have e : a = x := Option.some.inj h
    subst e
    rfl
  | a :: l, i + 1, x, h => by
    have ih := take_more (l := l) (i := i) (x := x) h
    show a :: l.take (i + 1) = a :: l.take i ++ [x]
    rw [ih]
    rfl
theorem map_at {α β : Type} {f : α → β} {l : List α} {i : Nat} {y : β} (h : (l.map f)[i]? = some y) : ∃ z, l[i]? = some z ∧ y = f z := by
  rw [List.getElem?_map] at h
  cases e : l[i]? with
  | none =>
    rw [e] at h
    cases h
  | some z =>
    rw [e] at h
    exact ⟨z, rfl, (Option.some.inj h).symm⟩
/-! ### what the eight ways are -/
def wayC (a : Nat) : Int × Int × Int × Int := ([(1, 0, 0, 1), (0, -1, 1, 0), (-1, 0, 0, -1), (0, 1, -1, 0), (-1, 0, 0, 1), (1, 0, 0, -1), (0, 1, 1, 0), (0, -1, -1, 0)] : List (Int × Int × Int × Int)).getD a (0, 0, 0, 0)
def wayV (a : Nat) : List V := [.int (wayC a).1, .int (wayC a).2.1, .int (wayC a).2.2.1, .int (wayC a).2.2.2]
theorem way_small : ∀ a, a < 8 → ((-1 ≤ (wayC a).1 ∧ (wayC a).1 ≤ 1) ∧ (-1 ≤ (wayC a).2.1 ∧ (wayC a).2.1 ≤ 1) ∧ (-1 ≤ (wayC a).2.2.1 ∧ (wayC a).2.2.1 ≤ 1) ∧ (-1 ≤ (wayC a).2.2.2 ∧ (wayC a).2.2.2 ≤ 1)) := by decide
theorem way_turned {a : Nat} (h : a < 8) (x y : Int) : Sa48.turned a x y = ((wayC a).1 * x + (wayC a).2.1 * y, (wayC a).2.2.1 * x + (wayC a).2.2.2 * y) := by
  have q : a = 0 ∨ a = 1 ∨ a = 2 ∨ a = 3 ∨ a = 4 ∨ a = 5 ∨ a = 6 ∨ a = 7 := by omega
  rcases q with rfl | rfl | rfl | rfl | rfl | rfl | rfl | rfl <;> simp [Sa48.turned, wayC]
/-- what the top has written: the ways, the names of the first module -/
structure TxW (K : PySem.W.Frag) (mg : Str → Option Value) (W : Addr) (ws : Nat → Addr) : Prop where
  mgW : mg "WAYS" = some (.ref W)
  tW : ∀ H, SqT K H W ((List.range 8).map fun i => V.ref (ws i))
  tw : ∀ H i, i < 8 → SqT K H (ws i) (wayV i)
  range : mg "range" = none
/-! ### the promises -/
def spTurned : Sp := fun vs H Q _ => ∃ (a : Nat) (x y : Int), vs = [.int (a : Int), .int x, .int y] ∧ a < 8 ∧
  ∀ H' p, Same H H' → H p = none → H' p = some (.tup [.int (Sa48.turned a x y).1, .int (Sa48.turned a x y).2]) → Q (.ref p) H'
def spMoved (K : PySem.W.Frag) : Sp := fun vs H Q _ => ∃ (m : Addr) (a : Nat) (u v x y : Int), vs = [.ref m, .int x, .int y] ∧ SqT K H m [.int (a : Int), .int u, .int v] ∧ a < 8 ∧
  ∀ H' p, Same H H' → H p = none → H' p = some (.tup [.int ((Sa48.turned a x y).1 + u), .int ((Sa48.turned a x y).2 + v)]) → Q (.ref p) H'
def spNum : Sp := fun vs H Q _ => ∃ (n : Nat) (x y : Int), vs = [.int (n : Int), .int x, .int y] ∧ 0 < n ∧ n ≤ 64 ∧ Q (.int ((num n x y : Nat) : Int)) H
def spImage (K : PySem.W.Frag) : Sp := fun vs H Q _ => ∃ (m : Addr) (n a : Nat) (u v : Int), vs = [.int (n : Int), .ref m] ∧ SqT K H m [.int (a : Int), .int u, .int v] ∧ a < 8 ∧ 0 < n ∧ n ≤ 64 ∧
  ∀ H' p, Same H H' → H p = none → H' p = some (.lst ((List.range (n * n)).map fun k => V.int ((pl n a u v k : Nat) : Int))) → Q (.ref p) H'
section
variable {P : Program} {w : World} {K : PySem.W.Frag} {mg : Str → Option Value} {base : Heap} {W : Addr} {ws : Nat → Addr}
theorem scTurned : FnScope ["way", "x", "y", "a", "b", "c", "d"] ["way", "x", "y"] (defScope sTurned) := ⟨rfl, rfl, rfl, by decide +kernel, rfl, by decide +kernel, by decide +kernel⟩
theorem ok_turned {f : Addr} {fd : FuncData} (F : Fun K "turned" "turned" sTurned f fd) (T : TxW K mg W ws) : FnOk P w K mg base CX0 1 f fd ["way", "x", "y"] spTurned := by
  refine F.ok scTurned (fun vs H Q E h => ?_) (fun cdv A outer s H vs Q E hr h => ?_)
  · obtain ⟨a, x, y, rfl, _⟩ := h
    rfl
  · obtain ⟨a, x, y, rfl, ha, k⟩ := h
    have nd := scTurned.nd
    refine ⟨_, pss_cons (ps_asg (pe_ix ix_tup (pe_glob (v := .ref W) rfl T.mgW rfl) (pv 0) (fun _ _ => rfl)) (pg_tup rfl (pgs_cons (pg_name (i := 3) nd rfl (Or.inl rfl)) (pgs_cons (pg_name (i := 4) nd rfl (Or.inl rfl)) (pgs_cons (pg_name (i := 5) nd rfl (Or.inl rfl)) (pgs_cons (pg_name (i := 6) nd rfl (Or.inl rfl)) pgs_nil))))))
      (pss_one (ps_ret (pe_tup (pa_cons (pe_op op_add (pe_op op_mul (pv 3) (pv 1)) (pe_op op_mul (pv 4) (pv 2))) (pa_cons (pe_op op_add (pe_op op_mul (pv 5) (pv 1)) (pe_op op_mul (pv 6) (pv 2))) pa_nil))))), ?_⟩
    obtain ⟨⟨b1, b2⟩, ⟨b3, b4⟩, ⟨b5, b6⟩, b7, b8⟩ := way_small a ha
    have hw : ((List.range 8).map fun i => V.ref (ws i))[a]? = some (V.ref (ws a)) := by
      rw [List.getElem?_map, List.getElem?_range ha]
      rfl
    refine ⟨_, rfl, W, _, _, _, rfl, rfl, T.tW _, atI_nat hw, ws a, wayV a, rfl, T.tw _ a ha, rfl, _, _, rfl, _, _, rfl, _, _, rfl, _, _, rfl, rfl, ?_⟩
    refine ⟨_, rfl, _, rfl, _, _, rfl, rfl, .inl ⟨by omega, by omega⟩, _, rfl, _, rfl, _, _, rfl, rfl, .inl ⟨by omega, by omega⟩, _, _, rfl, rfl, ?_⟩
    refine ⟨_, rfl, _, rfl, _, _, rfl, rfl, .inl ⟨by omega, by omega⟩, _, rfl, _, rfl, _, _, rfl, rfl, .inl ⟨by omega, by omega⟩, _, _, rfl, rfl, (by show 2 ≤ sizeLine; decide), fun p hp => ?_⟩
    refine k _ p (Same.new hp) hp ?_
    rw [upd_same, way_turned ha]
theorem scMoved : FnScope ["movement", "x", "y", "way", "a", "b", "u", "v"] ["movement", "x", "y"] (defScope sMoved) := ⟨rfl, rfl, rfl, by decide +kernel, rfl, by decide +kernel, by decide +kernel⟩
theorem ok_moved {f f1 : Addr} {fd fd1 : FuncData} (F : Fun K "moved" "moved" sMoved f fd) (G : FnOk P w K mg base CX0 1 f1 fd1 ["way", "x", "y"] spTurned) (m1 : mg "turned" = some (.ref f1)) (k1 : PySem.W.keepIn K (.ref f1) = true) (b1 : Binds K fd1 ["way", "x", "y"] []) :
    FnOk P w K mg base CX0 2 f fd ["movement", "x", "y"] (spMoved K) := by
  refine F.ok scMoved (fun vs H Q E h => ?_) (fun cdv A outer s H vs Q E hr h => ?_)
  · obtain ⟨m, a, u, v, x, y, rfl, _⟩ := h
    rfl
  · obtain ⟨m, a, u, v, x, y, rfl, hm, ha, k⟩ := h
    have nd := scMoved.nd
    refine ⟨_, pss_cons (ps_asg (pv 0) (pg_tup rfl (pgs_cons (pg_name (i := 3) nd rfl (Or.inl rfl)) (pgs_cons (pg_name (i := 4) nd rfl (Or.inl rfl)) (pgs_cons (pg_name (i := 5) nd rfl (Or.inl rfl)) pgs_nil)))))
      (pss_cons (ps_asg (pe_call G hr rfl m1 k1 b1 .nil pass0 (pa_cons (pv 3) (pa_cons (pv 1) (pa_cons (pv 2) pa_nil)))) (pg_tup rfl (pgs_cons (pg_name (i := 6) nd rfl (Or.inl rfl)) (pgs_cons (pg_name (i := 7) nd rfl (Or.inl rfl)) pgs_nil))))
      (pss_one (ps_ret (pe_tup (pa_cons (pe_op op_add (pv 6) (pv 4)) (pa_cons (pe_op op_add (pv 7) (pv 5)) pa_nil)))))), ?_⟩
    refine ⟨_, rfl, m, _, rfl, hm, rfl, _, _, rfl, _, _, rfl, _, _, rfl, rfl, ?_⟩
    refine ⟨_, rfl, _, rfl, _, rfl, a, x, y, rfl, ha, fun H1 p1 s1 n1 e1 => ?_⟩
    refine ⟨p1, _, rfl, SqT.of e1, rfl, _, _, rfl, _, _, rfl, rfl, ?_⟩
    refine ⟨_, rfl, _, rfl, _, _, rfl, rfl, _, rfl, _, rfl, _, _, rfl, rfl, (by show 2 ≤ sizeLine; decide), fun p hp => ?_⟩
    exact k _ p (Same.upd s1 (s1.free hp)) (s1.free hp) upd_same
theorem scNum : FnScope ["n", "x", "y"] ["n", "x", "y"] (defScope sNum) := ⟨rfl, rfl, rfl, by decide +kernel, rfl, by decide +kernel, by decide +kernel⟩
theorem ok_num {f : Addr} {fd : FuncData} (F : Fun K "number_in" "number_in" sNum f fd) : FnOk P w K mg base CX0 1 f fd ["n", "x", "y"] spNum := by
  refine F.ok scNum (fun vs H Q E h => ?_) (fun cdv A outer s H vs Q E hr h => ?_)
  · obtain ⟨n, x, y, rfl, _⟩ := h
    rfl
  · obtain ⟨n, x, y, rfl, h0, h1, k⟩ := h
    refine ⟨_, pss_one (ps_ret (pe_op op_add (pe_op op_mul (pe_op op_mod (pv 2) (pv 0)) (pv 0)) (pe_op op_mod (pv 1) (pv 0)))), ?_⟩
    refine ⟨_, rfl, _, rfl, _, _, rfl, rfl, (by show (0 : Int) < (n : Int); omega), _, rfl, _, _, rfl, rfl, .inr ⟨by omega, by omega⟩, _, rfl, _, rfl, _, _, rfl, rfl, (by show (0 : Int) < (n : Int); omega), _, _, rfl, rfl, ?_⟩
    have e : y % (n : Int) * (n : Int) + x % (n : Int) = ((num n x y : Nat) : Int) := by
      have h1 := Int.emod_nonneg x (show (n : Int) ≠ 0 by omega)
      have h3 := Int.emod_nonneg y (show (n : Int) ≠ 0 by omega)
      unfold num
      rw [Int.natCast_add, Int.natCast_mul, Int.toNat_of_nonneg h1, Int.toNat_of_nonneg h3]
    show Q (.int (y % (n : Int) * (n : Int) + x % (n : Int))) H
    rw [e]
    exact k
theorem scImage : FnScope ["n", "movement", "found", "y", "x", "u", "v"] ["n", "movement"] (defScope sImage) := ⟨rfl, rfl, rfl, by decide +kernel, rfl, by decide +kernel, by decide +kernel⟩
theorem range_more {α : Type} (f : Nat → α) (k : Nat) : (List.range (k + 1)).map f = (List.range k).map f ++ [f k] := by
  rw [List.range_succ, List.map_append]
  rfl
theorem ok_image {f f1 f2 : Addr} {fd fd1 fd2 : FuncData} (F : Fun K "image" "image" sImage f fd) (T : TxW K mg W ws) (G1 : FnOk P w K mg base CX0 2 f1 fd1 ["movement", "x", "y"] (spMoved K)) (m1 : mg "moved" = some (.ref f1)) (k1 : PySem.W.keepIn K (.ref f1) = true) (b1 : Binds K fd1 ["movement", "x", "y"] [])
    (G2 : FnOk P w K mg base CX0 1 f2 fd2 ["n", "x", "y"] spNum) (m2 : mg "number_in" = some (.ref f2)) (k2 : PySem.W.keepIn K (.ref f2) = true) (b2 : Binds K fd2 ["n", "x", "y"] []) :
    FnOk P w K mg base CX0 3 f fd ["n", "movement"] (spImage K) := by
  refine F.ok scImage (fun vs H Q E h => ?_) (fun cdv A outer s H vs Q E hr h => ?_)
  · obtain ⟨m, n, a, u, v, rfl, _⟩ := h
    rfl
  · obtain ⟨m, n, a, u, v, rfl, hm, ha, h0, h64, k⟩ := h
    have nd := scImage.nd
    have hr1 : Room 1 _ := hr.mono (by decide)
    refine ⟨_, pss_cons (ps_set (i := 2) nd rfl (Or.inl rfl) (pe_lst pa_nil))
      (pss_cons (ps_for PassesOwn.never rfl (pi_range1 rfl T.range (pa_cons (pv 0) pa_nil)) (pg_name (i := 3) nd rfl (Or.inl rfl))
        (pss_one (ps_for PassesOwn.never rfl (pi_range1 rfl T.range (pa_cons (pv 0) pa_nil)) (pg_name (i := 4) nd rfl (Or.inl rfl))
          (pss_cons (ps_asg (pe_call G1 hr rfl m1 k1 b1 .nil pass0 (pa_cons (pv 1) (pa_cons (pv 4) (pa_cons (pv 3) pa_nil)))) (pg_tup rfl (pgs_cons (pg_name (i := 5) nd rfl (Or.inl rfl)) (pgs_cons (pg_name (i := 6) nd rfl (Or.inl rfl)) pgs_nil))))
          (pss_one (ps_expr (pe_bm PySem.F.plainAttrs_list PySem.F.slot_list_append PySem.F.type_list_append mt_append (pv 2) (pa_cons (pe_call G2 hr1 rfl m2 k2 b2 .nil pass0 (pa_cons (pv 0) (pa_cons (pv 5) (pa_cons (pv 6) pa_nil)))) pa_nil))))))))
      (pss_one (ps_ret (pv 2)))), ?_⟩
    have hsz : n * n ≤ 4096 := Nat.mul_le_mul h64 h64
    refine ⟨Nat.zero_le _, fun l hl => ?_⟩
    refine ⟨_, rfl, (n : Int), rfl, by omega, by omega, for_range (lo := 0) (n := n) (fun i σ H' => ∃ vy vx vu vv : Option V, σ = [some (.int (n : Int)), some (.ref m), some (.ref l), vy, vx, vu, vv] ∧ Same H H' ∧ H' l = some (.lst ((List.range (i * n)).map fun k => V.int ((pl n a u v k : Nat) : Int))))
      ⟨none, none, none, none, rfl, Same.new hl, by rw [upd_same, Nat.zero_mul]; rfl⟩ ?_ ?_⟩
    · rintro i σ H' hi ⟨vy, vx, vu, vv, rfl, s1, e1⟩
      refine ⟨_, rfl, (n : Int), rfl, by omega, by omega, for_range (lo := 0) (n := n) (fun j σ H' => ∃ vx vu vv : Option V, σ = [some (.int (n : Int)), some (.ref m), some (.ref l), some (.int (i : Int)), vx, vu, vv] ∧ Same H H' ∧ H' l = some (.lst ((List.range (i * n + j)).map fun k => V.int ((pl n a u v k : Nat) : Int))))
        ⟨vx, vu, vv, by rw [Int.zero_add]; rfl, s1, e1⟩ ?_ ?_⟩
      · rintro j σ H2 hj ⟨vx, vu, vv, rfl, s2, e2⟩
        have hk : i * n + j < n * n := by
          have hm := Nat.mul_le_mul_right n (show i + 1 ≤ n from hi)
          rw [Nat.add_mul, Nat.one_mul] at hm
          omega
        refine ⟨_, rfl, _, rfl, _, rfl, m, a, u, v, _, _, rfl, tup_same s2 hm, ha, fun H3 p s3 n3 e3 => ?_⟩
        refine ⟨p, _, rfl, SqT.of e3, rfl, _, _, rfl, _, _, rfl, rfl, ?_⟩
        have e2' := s3 _ _ e2
        refine ⟨_, rfl, .inl ⟨rfl, _, SqL.of e2'⟩, _, rfl, _, rfl, _, rfl, n, _, _, rfl, h0, h64, ?_⟩
        refine ⟨l, _, _, rfl, rfl, e2', (by rw [List.length_map, List.length_range]; exact Nat.lt_of_lt_of_le (Nat.lt_of_lt_of_le hk hsz) (by decide)), ?_⟩
        refine ⟨_, _, _, rfl, Same.upd (s2.trans s3) hl, ?_⟩
        rw [upd_same, ← Nat.add_assoc (i * n) j 1, range_more]
        have e1 : (i * n + j) % n = j := by
          rw [Nat.add_comm, Nat.add_mul_mod_self_right]
          exact Nat.mod_eq_of_lt hj
        have e2 : (i * n + j) / n = i := by
          rw [Nat.add_comm, Nat.add_mul_div_right _ _ (by omega), Nat.div_eq_of_lt hj, Nat.zero_add]
        unfold pl
        rw [e1, e2, Int.zero_add]
      · rintro σ H2 ⟨vx, vu, vv, rfl, s2, e2⟩
        refine ⟨_, vx, vu, vv, rfl, s2, ?_⟩
        rw [e2, Nat.add_mul, Nat.one_mul]
    · rintro σ H' ⟨vy, vx, vu, vv, rfl, s1, e1⟩
      exact ⟨_, rfl, k _ l s1 hl e1⟩
end
end Pl
/-! ### movements: tuples of a way and a shift -/
namespace Pl
open PySem PySem.Spec PyProof.Rows L2
abbrev Mv : Type := Nat × Int × Int
def mv (m : Mv) : List V := [.int (m.1 : Int), .int m.2.1, .int m.2.2]
def mk (m : Mv) : List Key := [.inl (m.1 : Int), .inl m.2.1, .inl m.2.2]
theorem mk_mv (m : Mv) : (mk m).map kV = mv m := rfl
theorem mk_inj {m m' : Mv} (h : mk m = mk m') : m = m' := by
  obtain ⟨a, u, v⟩ := m
  obtain ⟨a', u', v'⟩ := m'
  have h : ([.inl (a : Int), .inl u, .inl v] : List Key) = [.inl (a' : Int), .inl u', .inl v'] := h
  injection h with h1 h
  injection h with h2 h
  injection h with h3 _
  have h1 := Sum.inl.inj h1
  have h2 := Sum.inl.inj h2
  have h3 := Sum.inl.inj h3
  have h1 : a = a' := by omega
  rw [h1, h2, h3]
/-- at each of these addresses stands the tuple of its movement -/
def Ts (H : Hp) (L : List (Addr × Mv)) : Prop := ∀ q ∈ L, H q.1 = some (.tup (mv q.2))
def refs (L : List (Addr × Mv)) : List V := L.map fun q => V.ref q.1
theorem Ts.same {H H' : Hp} {L : List (Addr × Mv)} (t : Ts H L) (s : Same H H') : Ts H' L := fun q hq => s _ _ (t q hq)
theorem Ts.app {H : Hp} {L M : List (Addr × Mv)} (t : Ts H L) (u : Ts H M) : Ts H (L ++ M) := fun q hq => by
  rcases List.mem_append.mp hq with h | h
  · exact t q h
  · exact u q h
theorem refs_app (L M : List (Addr × Mv)) : refs (L ++ M) = refs L ++ refs M := List.map_append
theorem refs_len (L : List (Addr × Mv)) : (refs L).length = (L.map (·.2)).length := by
  unfold refs
  rw [List.length_map, List.length_map]
theorem Ts.keep {H H' : Hp} {L : List (Addr × Mv)} (t : Ts H L) {p : Addr} {o : HO} (np : ∀ xs, H p ≠ some (.tup xs)) (e : H' = upd H p o) : Ts H' L := fun q hq => by
  rw [e, upd_ne]
  · exact t q hq
  · intro z
    exact np _ (z ▸ t q hq)
/-- the movements of one way with one first part -/
def mvRow (n : Nat) (a : Nat) (u : Int) : List Mv := (Sa48Neutral.rg n).map fun v => (a, u, v)
def mvWay (n : Nat) (a : Nat) : List Mv := (Sa48Neutral.rg n).flatMap fun u => mvRow n a u
theorem moves_more (n : Nat) (l : List Nat) (a : Nat) : Sa48Neutral.moves n (l ++ [a]) = Sa48Neutral.moves n l ++ mvWay n a := by
  unfold Sa48Neutral.moves
  rw [List.flatMap_append, List.flatMap_cons, List.flatMap_nil, List.append_nil]
  rfl
theorem rg_more (n : Nat) : Sa48Neutral.rg (n + 1) = Sa48Neutral.rg n ++ [(n : Int)] := by
  unfold Sa48Neutral.rg
  rw [List.range_succ, List.map_append]
  rfl
theorem rg_len (n : Nat) : (Sa48Neutral.rg n).length = n := by
  unfold Sa48Neutral.rg
  rw [List.length_map, List.length_range]
theorem flat_len {α β : Type} {f : α → List β} {k : Nat} : ∀ l : List α, (∀ x ∈ l, (f x).length = k) → (l.flatMap f).length = l.length * k
  | [], _ => by simp
  | x :: r, h => by
    rw [List.flatMap_cons, List.length_append, h x (List.mem_cons_self ..), flat_len r fun y hy => h y (List.mem_cons_of_mem _ hy), List.length_cons, Nat.add_mul, Nat.one_mul, Nat.add_comm]
theorem mvRow_len (n a : Nat) (u : Int) : (mvRow n a u).length = n := by
  unfold mvRow
  rw [List.length_map, rg_len]
theorem mvWay_len (n a : Nat) : (mvWay n a).length = n * n := by
  unfold mvWay
  rw [flat_len _ fun x _ => mvRow_len n a x, rg_len]
theorem moves_len (n : Nat) (l : List Nat) : (Sa48Neutral.moves n l).length = l.length * (n * n) := by
  unfold Sa48Neutral.moves
  exact flat_len _ fun x _ => mvWay_len n x
/-! ### the promise of movements -/
def spMvs (K : PySem.W.Frag) : Sp := fun vs H Q _ => ∃ (n : Nat) (l : Addr) (ways : List Nat), vs = [.int (n : Int), .ref l] ∧ SqL K H l (ways.map fun a => V.int ((a : Nat) : Int)) ∧ n ≤ 8 ∧ ways.length ≤ 8 ∧
  ∀ (H' : Hp) (p : Addr) (L : List (Addr × Mv)), Same H H' → H p = none → L.map (·.2) = Sa48Neutral.moves n ways → H' p = some (.lst (refs L)) → Ts H' L → Q (.ref p) H'
section
variable {P : Program} {w : World} {K : PySem.W.Frag} {mg : Str → Option Value} {base : Heap} {W : Addr} {ws : Nat → Addr}
theorem scMvs : FnScope ["n", "ways", "found", "way", "a", "b"] ["n", "ways"] (defScope sMvs) := ⟨rfl, rfl, rfl, by decide +kernel, rfl, by decide +kernel, by decide +kernel⟩
theorem ok_mvs {f : Addr} {fd : FuncData} (F : Fun K "movements" "movements" sMvs f fd) (T : TxW K mg W ws) : FnOk P w K mg base CX0 1 f fd ["n", "ways"] (spMvs K) := by
  refine F.ok scMvs (fun vs H Q E h => ?_) (fun cdv A outer s H vs Q E hr h => ?_)
  · obtain ⟨n, l, ways, rfl, _⟩ := h
    rfl
  · obtain ⟨n, l, ways, rfl, hl, hn, hw, k⟩ := h
    have nd := scMvs.nd
    refine ⟨_, pss_cons (ps_set (i := 2) nd rfl (Or.inl rfl) (pe_lst pa_nil))
      (pss_cons (ps_for PassesOwn.never rfl (pi_list (pv 1)) (pg_name (i := 3) nd rfl (Or.inr rfl))
        (pss_one (ps_for PassesOwn.never rfl (pi_range1 rfl T.range (pa_cons (pv 0) pa_nil)) (pg_name (i := 4) nd rfl (Or.inr rfl))
          (pss_one (ps_expr (pe_bm PySem.F.plainAttrs_list PySem.F.slot_list_extend PySem.F.type_list_extend mt_extend (pv 2) (pa_cons (pe_lc (own := [("b", 5)]) (g := gName 5) (tt := tYes) rfl nd (pi_range1 rfl T.range (pa_cons (pv 0) pa_nil))
            (blkOk_by (own := [("b", 5)]) (N := ["n", "ways", "found", "way", "a", "b"]) (sc := defScope sMvs) (by decide +kernel)) (fun _ _ _ _ _ => pg_name (i := 5) nd rfl (Or.inl rfl)) (fun _ _ _ _ _ => pts_nil)
            (fun _ _ _ _ _ => pe_tup (pa_cons (pv 3) (pa_cons (pv 4) (pa_cons (pv 5) pa_nil))))) pa_nil)))))))
      (pss_one (ps_ret (pv 2)))), ?_⟩
    refine ⟨Nat.zero_le _, fun r hr0 => ?_⟩
    refine ⟨_, rfl, l, rfl, ⟨_, (Same.new hr0).seq hl⟩, for_list (K := K) (a := l) (xs := ways.map fun a => V.int ((a : Nat) : Int)) (fun i σ H' => ∃ (vw va vb : Option V) (L : List (Addr × Mv)), σ = [some (.int (n : Int)), some (.ref l), some (.ref r), vw, va, vb] ∧ Same H H' ∧
        H' r = some (.lst (refs L)) ∧ L.map (·.2) = Sa48Neutral.moves n (ways.take i) ∧ Ts H' L)
      ⟨none, none, none, [], rfl, Same.new hr0, upd_same, rfl, fun q hq => nomatch hq⟩ (fun i σ H' _ ⟨_, _, _, _, _, s1, _⟩ => s1.seq hl) ?_ ?_⟩
    · rintro i y σ H' hi ⟨vw, va, vb, L, rfl, s1, e1, em, t1⟩
      obtain ⟨a, ha, rfl⟩ := map_at hi
      have hi8 : i < ways.length := (List.getElem?_eq_some_iff.mp ha).1
      have hil : (ways.take i).length = i := by
        rw [List.length_take]
        omega
      refine ⟨_, rfl, (n : Int), rfl, by omega, by omega, for_range (lo := 0) (n := n) (fun j σ H' => ∃ (va vb : Option V) (L : List (Addr × Mv)), σ = [some (.int (n : Int)), some (.ref l), some (.ref r), some (.int (a : Int)), va, vb] ∧ Same H H' ∧
          H' r = some (.lst (refs L)) ∧ L.map (·.2) = Sa48Neutral.moves n (ways.take i) ++ (Sa48Neutral.rg j).flatMap (fun u => mvRow n a u) ∧ Ts H' L)
        ⟨va, vb, L, rfl, s1, e1, by rw [em]; exact (List.append_nil _).symm, t1⟩ ?_ ?_⟩
      · rintro j σ H2 hj ⟨va, vb, L, rfl, s2, e2, em, t2⟩
        have hL : L.length = i * (n * n) + j * n := by
          have q := congrArg List.length em
          rw [List.length_map, List.length_append, moves_len, hil, flat_len _ fun x _ => mvRow_len n a x, rg_len] at q
          exact q
        have hsz : L.length + n ≤ 1000 := by
          have q1 : i * (n * n) ≤ 7 * (8 * 8) := Nat.mul_le_mul (by omega) (Nat.mul_le_mul hn hn)
          have q2 : j * n ≤ 8 * 8 := Nat.mul_le_mul (by omega) hn
          omega
        refine ⟨_, rfl, .inl ⟨rfl, _, SqL.of e2⟩, _, rfl, (n : Int), rfl, by omega, by omega, fun D hD => ?_⟩
        have nrD : r ≠ D := ne_of_none e2 hD
        refine lc_range (lo := 0) (n := n) (fun m H3 => ∃ M : List (Addr × Mv), Same H2 H3 ∧ H3 D = some (.lst (refs M)) ∧ M.map (·.2) = (Sa48Neutral.rg m).map (fun v => ((a, (j : Int), v) : Mv)) ∧ Ts H3 M)
          ⟨[], Same.new hD, upd_same, rfl, fun q hq => nomatch hq⟩ ?_ ?_
        · rintro m H3 hm ⟨M, s3, e3, em3, t3⟩
          refine ⟨rfl, iteT (B := True) ?_⟩
          refine ⟨_, rfl, _, rfl, _, rfl, (by show 3 ≤ sizeLine; decide), fun p hp => ?_⟩
          have npD : D ≠ p := ne_of_none e3 hp
          refine ⟨_, (upd_ne npD).trans e3, ?_, M ++ [(p, ((a, (j : Int), (m : Int)) : Mv))], ?_, ?_, ?_, ?_⟩
          · have q := congrArg List.length em3
            rw [List.length_map, List.length_map, rg_len] at q
            unfold refs
            rw [List.length_map, q]
            exact Nat.lt_of_lt_of_le (Nat.lt_of_lt_of_le hm hn) (by decide)
          · exact Same.upd (Same.upd s3 (s3.free hp)) hD
          · rw [upd_same, refs_app]
            rfl
          · rw [List.map_append, em3, rg_more, List.map_append]
            rfl
          · refine Ts.app ?_ ?_
            · intro q hq
              have h1 := t3 q hq
              rw [upd_ne (ne_of h1 e3 (by intro z; cases z)), upd_ne (ne_of_none h1 hp)]
              exact h1
            · intro q hq
              obtain rfl := List.mem_singleton.mp hq
              rw [upd_ne (Ne.symm npD), upd_same, Int.zero_add, Int.zero_add]
              rfl
        · rintro H3 ⟨M, s3, e3, em3, t3⟩
          have e2' := s3 _ _ e2
          have hM : M.length = n := by
            have q := congrArg List.length em3
            rw [List.length_map, List.length_map, rg_len] at q
            exact q
          refine ⟨r, D, _, _, rfl, rfl, e2', e3, ?_, ?_⟩
          · unfold refs
            rw [List.length_map, List.length_map, hM]
            exact Nat.le_trans hsz (by decide)
          · refine ⟨_, vb, L ++ M, rfl, Same.upd (s2.trans s3) hr0, ?_, ?_, ?_⟩
            · rw [upd_same, refs_app]
            · rw [List.map_append, em, em3, rg_more, List.flatMap_append, List.append_assoc, List.flatMap_cons, List.flatMap_nil, List.append_nil]
              rfl
            · refine Ts.keep (H := H3) ((t2.same s3).app t3) (fun xs z => ?_) rfl
              rw [e2'] at z
              cases z
      · rintro σ H2 ⟨va, vb, L, rfl, s2, e2, em, t2⟩
        refine ⟨_, _, _, L, rfl, s2, e2, ?_, t2⟩
        rw [em, take_more ha, moves_more]
        rfl
    · rintro σ H' ⟨vw, va, vb, L, rfl, s1, e1, em, t1⟩
      rw [List.length_map, List.take_length] at em
      exact ⟨_, rfl, k _ r L s1 hr0 em e1 t1⟩
end
end Pl
namespace Pl
open Sa48 Sa48Neutral
/-! ### rings -/
def it (f : Nat → Nat) : Nat → Nat → Nat
  | 0, k => k
  | t + 1, k => f (it f t k)
theorem it_add (f : Nat → Nat) (s k : Nat) : ∀ t, it f (s + t) k = it f t (it f s k)
  | 0 => rfl
  | t + 1 => congrArg f (it_add f s k t)
theorem it_front (f : Nat → Nat) (k : Nat) : ∀ t, it f t (f k) = it f (t + 1) k
  | 0 => rfl
  | t + 1 => congrArg f (it_front f k t)
/-- f goes from the numbers below N to them, no two to one -/
structure Ring (N : Nat) (f : Nat → Nat) : Prop where
  lt : ∀ k, k < N → f k < N
  inj : ∀ k j, k < N → j < N → f k = f j → k = j
theorem it_lt {N : Nat} {f : Nat → Nat} (R : Ring N f) {k : Nat} (hk : k < N) : ∀ t, it f t k < N
  | 0 => hk
  | t + 1 => R.lt _ (it_lt R hk t)
theorem it_cancel {N : Nat} {f : Nat → Nat} (R : Ring N f) {k j : Nat} (hk : k < N) (hj : j < N) : ∀ t, it f t k = it f t j → k = j
  | 0, h => h
  | t + 1, h => it_cancel R hk hj t (R.inj _ _ (it_lt R hk t) (it_lt R hj t) h)
theorem nodup_on {α β : Type} {f : α → β} : ∀ {l : List α}, (∀ a ∈ l, ∀ b ∈ l, f a = f b → a = b) → l.Nodup → (l.map f).Nodup
  | [], _, _ => List.nodup_nil
  | a :: r, hf, h => by
    obtain ⟨na, nr⟩ := List.nodup_cons.mp h
    rw [List.map_cons]
    refine List.nodup_cons.mpr ⟨fun z => ?_, nodup_on (fun a ha b hb => hf a (List.mem_cons_of_mem _ ha) b (List.mem_cons_of_mem _ hb)) nr⟩
    obtain ⟨b, hb, e⟩ := List.mem_map.mp z
    exact na (hf a (List.mem_cons_self ..) b (List.mem_cons_of_mem _ hb) e.symm ▸ hb)
theorem nodup_lt {N : Nat} {l : List Nat} (h : l.Nodup) (hl : ∀ x ∈ l, x < N) : l.length ≤ N := by
  have q := List.Nodup.length_le_of_subset h (l₂ := List.range N) fun x hx => List.mem_range.mpr (hl x hx)
  rw [List.length_range] at q
  exact q
theorem period {N : Nat} {f : Nat → Nat} (R : Ring N f) {k : Nat} (hk : k < N) : ∃ r, 0 < r ∧ r ≤ N ∧ it f r k = k := by
  apply Classical.byContradiction
  intro no
  have key : ∀ i j, i < j → j ≤ N → it f i k = it f j k → False := fun i j h1 h2 e => by
    refine no ⟨j - i, by omega, by omega, ?_⟩
    rw [show j = (j - i) + i by omega, it_add] at e
    exact (it_cancel R hk (it_lt R hk _) i e).symm
  have nd : ((List.range (N + 1)).map fun i => it f i k).Nodup := nodup_on (fun i hi j hj e => by
    have h1 := List.mem_range.mp hi
    have h2 := List.mem_range.mp hj
    rcases Nat.lt_trichotomy i j with h | h | h
    · exact (key i j h (by omega) e).elim
    · exact h
    · exact (key j i h (by omega) e.symm).elim) List.nodup_range
  have q := nodup_lt (N := N) nd fun x hx => by
    obtain ⟨i, _, rfl⟩ := List.mem_map.mp hx
    exact it_lt R hk i
  rw [List.length_map, List.length_range] at q
  omega
theorem it_mul {f : Nat → Nat} {k r : Nat} (h : it f r k = k) : ∀ t, it f (t * r) k = k
  | 0 => by rw [Nat.zero_mul]; rfl
  | t + 1 => by
    rw [Nat.add_mul, Nat.one_mul, it_add, it_mul h t]
    exact h
/-- from each place of a ring one comes back -/
theorem it_back {N : Nat} {f : Nat → Nat} (R : Ring N f) {k : Nat} (hk : k < N) (t : Nat) : ∃ s, it f s (it f t k) = k := by
  obtain ⟨r, h0, _, h⟩ := period R hk
  refine ⟨t * r - t, ?_⟩
  have : t ≤ t * r := Nat.le_mul_of_pos_right t h0
  rw [← it_add, show t + (t * r - t) = t * r by omega]
  exact it_mul h t
/-- .. and N steps are enough to see all of it -/
theorem it_soon {N : Nat} {f : Nat → Nat} (R : Ring N f) {k : Nat} (hk : k < N) (t : Nat) : ∃ s, s ≤ N ∧ it f s k = it f t k := by
  obtain ⟨r, h0, hr, h⟩ := period R hk
  refine ⟨t % r, Nat.le_trans (Nat.le_of_lt (Nat.mod_lt t h0)) hr, ?_⟩
  have e : t = t / r * r + t % r := by
    rw [Nat.mul_comm]
    exact (Nat.div_add_mod t r).symm
  have q := it_add f (t / r * r) k (t % r)
  rw [← e, it_mul h] at q
  exact q.symm
/-! ### the specification's way -/
theorem go_le (f : Array Nat) : ∀ s k m, rings.go f s k m ≤ m
  | 0, _, _ => Nat.le_refl _
  | s + 1, k, m => by
    rw [rings.go.eq_def]
    exact Nat.le_trans (go_le f s _ _) (Nat.min_le_left _ _)
theorem arr_at {N : Nat} {f : Nat → Nat} {k : Nat} (hk : k < N) : ((List.range N).map f).toArray.getD k 0 = f k := by
  rw [Array.getD_eq_getD_getElem?, List.getElem?_toArray, List.getElem?_map, List.getElem?_range hk]
  rfl
theorem go_low {N : Nat} {f : Nat → Nat} (R : Ring N f) : ∀ (s k m : Nat), k < N → ∀ i, 0 < i → i ≤ s → rings.go ((List.range N).map f).toArray s k m ≤ it f i k
  | 0, _, _, _, i, h0, h1 => by omega
  | s + 1, k, m, hk, i, h0, h1 => by
    rw [rings.go.eq_def]
    show rings.go ((List.range N).map f).toArray s (((List.range N).map f).toArray.getD k 0) (min m (((List.range N).map f).toArray.getD k 0)) ≤ it f i k
    rw [arr_at hk]
    by_cases e : i = 1
    · subst e
      exact Nat.le_trans (go_le _ s _ _) (Nat.min_le_right _ _)
    · have q := go_low R s (f k) (min m (f k)) (R.lt k hk) (i - 1) (by omega) (by omega)
      rw [it_front, show i - 1 + 1 = i by omega] at q
      exact q
theorem go_one {N : Nat} {f : Nat → Nat} (R : Ring N f) : ∀ (s k m : Nat), k < N → rings.go ((List.range N).map f).toArray s k m = m ∨ ∃ i, i ≤ s ∧ rings.go ((List.range N).map f).toArray s k m = it f i k
  | 0, _, _, _ => .inl rfl
  | s + 1, k, m, hk => by
    rw [rings.go.eq_def]
    show rings.go ((List.range N).map f).toArray s (((List.range N).map f).toArray.getD k 0) (min m (((List.range N).map f).toArray.getD k 0)) = m ∨ ∃ i, i ≤ s + 1 ∧ rings.go ((List.range N).map f).toArray s (((List.range N).map f).toArray.getD k 0) (min m (((List.range N).map f).toArray.getD k 0)) = it f i k
    rw [arr_at hk]
    rcases go_one R s (f k) (min m (f k)) (R.lt k hk) with e | ⟨i, hi, e⟩
    · rw [e]
      by_cases h : m ≤ f k
      · exact .inl (Nat.min_eq_left h)
      · exact .inr ⟨1, by omega, Nat.min_eq_right (by omega)⟩
    · refine .inr ⟨i + 1, by omega, ?_⟩
      rw [e, it_front]
/-- the least of its ring -/
def least1 (N : Nat) (f : Nat → Nat) (k : Nat) : Bool := rings.go ((List.range N).map f).toArray N k k == k
theorem least1_iff {N : Nat} {f : Nat → Nat} (R : Ring N f) {k : Nat} (hk : k < N) : least1 N f k = true ↔ ∀ t, k ≤ it f t k := by
  unfold least1
  rw [beq_iff_eq]
  constructor
  · intro h t
    obtain ⟨s, hs, e⟩ := it_soon R hk t
    rw [← e]
    rcases Nat.eq_zero_or_pos s with z | z
    · subst z
      exact Nat.le_refl _
    · have q := go_low R N k k hk s z hs
      rw [h] at q
      exact q
  · intro h
    rcases go_one R N k k hk with e | ⟨i, _, e⟩
    · exact e
    · have q := go_le ((List.range N).map f).toArray N k k
      rw [e] at q ⊢
      exact Nat.le_antisymm q (h i)
def leasts (N : Nat) (f : Nat → Nat) (i : Nat) : Nat := ((List.range i).filter (least1 N f)).length
theorem leasts_more (N : Nat) (f : Nat → Nat) (i : Nat) : leasts N f (i + 1) = leasts N f i + (if least1 N f i = true then 1 else 0) := by
  unfold leasts
  rw [List.range_succ, List.filter_append, List.length_append, List.filter_cons]
  cases least1 N f i <;> rfl
theorem leasts_le (N : Nat) (f : Nat → Nat) (i : Nat) : leasts N f i ≤ i := by
  unfold leasts
  exact Nat.le_trans (List.length_filter_le _ _) (by rw [List.length_range]; exact Nat.le_refl _)
theorem rings_is (n a : Nat) (u v : Int) : rings n a u v = leasts (n * n) (pl n a u v) (n * n) := rfl
/-! ### the program's way: what has been met -/
structure Met (N : Nat) (f : Nat → Nat) (i : Nat) (met : List Nat) : Prop where
  nd : met.Nodup
  lt : ∀ x ∈ met, x < N
  cl : ∀ x ∈ met, f x ∈ met
  be : ∀ x, x < i → x ∈ met
  dn : ∀ x ∈ met, ∃ t, it f t x < i
theorem Met.start (N : Nat) (f : Nat → Nat) : Met N f 0 [] := ⟨List.nodup_nil, fun _ h => (nomatch h), fun _ h => (nomatch h), fun _ h => absurd h (Nat.not_lt_zero _), fun _ h => (nomatch h)⟩
theorem Met.on {N : Nat} {f : Nat → Nat} {i : Nat} {met : List Nat} (M : Met N f i met) {x : Nat} (hx : x ∈ met) : ∀ t, it f t x ∈ met
  | 0 => hx
  | t + 1 => M.cl _ (M.on hx t)
/-- a place is new just if it is the least of its ring -/
theorem Met.new {N : Nat} {f : Nat → Nat} (R : Ring N f) {i : Nat} {met : List Nat} (M : Met N f i met) (hi : i < N) : least1 N f i = true ↔ ¬ i ∈ met := by
  rw [least1_iff R hi]
  constructor
  · intro h hm
    obtain ⟨t, ht⟩ := M.dn i hm
    have := h t
    omega
  · intro h t
    apply Classical.byContradiction
    intro q
    have hm := M.be (it f t i) (by omega)
    obtain ⟨s, hs⟩ := it_back R hi t
    have := M.on hm s
    rw [hs] at this
    exact h this
theorem Met.skip {N : Nat} {f : Nat → Nat} {i : Nat} {met : List Nat} (M : Met N f i met) (hm : i ∈ met) : Met N f (i + 1) met := by
  refine ⟨M.nd, M.lt, M.cl, fun x hx => ?_, fun x hx => ?_⟩
  · by_cases e : x < i
    · exact M.be x e
    · obtain rfl : x = i := by omega
      exact hm
  · obtain ⟨t, ht⟩ := M.dn x hx
    exact ⟨t, by omega⟩
/-- a ring is gone round: T steps of it -/
def walked (f : Nat → Nat) (i T : Nat) : List Nat := (List.range T).map fun t => it f t i
theorem walked_more (f : Nat → Nat) (i T : Nat) : walked f i (T + 1) = walked f i T ++ [it f T i] := by
  unfold walked
  rw [List.range_succ, List.map_append]
  rfl
theorem Met.round {N : Nat} {f : Nat → Nat} (R : Ring N f) {i T : Nat} {met : List Nat} (M : Met N f i met) (hi : i < N) (hn : ¬ i ∈ met) (nd : (met ++ walked f i T).Nodup) (hm : it f T i ∈ met ++ walked f i T) : Met N f (i + 1) (met ++ walked f i T) := by
  have hw : it f T i ∈ walked f i T := by
    rcases List.mem_append.mp hm with h | h
    · obtain ⟨s, hs⟩ := it_back R hi T
      have := M.on h s
      rw [hs] at this
      exact (hn this).elim
    · exact h
  obtain ⟨t0, ht0, e0⟩ := List.mem_map.mp hw
  have ht0 := List.mem_range.mp ht0
  have inW : ∀ s, s < T → it f s i ∈ met ++ walked f i T := fun s hs => List.mem_append.mpr (.inr (List.mem_map.mpr ⟨s, List.mem_range.mpr hs, rfl⟩))
  refine ⟨nd, fun x hx => ?_, fun x hx => ?_, fun x hx => ?_, fun x hx => ?_⟩
  · rcases List.mem_append.mp hx with h | h
    · exact M.lt x h
    · obtain ⟨s, _, rfl⟩ := List.mem_map.mp h
      exact it_lt R hi s
  · rcases List.mem_append.mp hx with h | h
    · exact List.mem_append.mpr (.inl (M.cl x h))
    · obtain ⟨s, hs, rfl⟩ := List.mem_map.mp h
      have hs := List.mem_range.mp hs
      show it f (s + 1) i ∈ _
      by_cases e : s + 1 < T
      · exact inW _ e
      · rw [show s + 1 = T by omega]
        exact hm
  · by_cases e : x < i
    · exact List.mem_append.mpr (.inl (M.be x e))
    · obtain rfl : x = i := by omega
      exact inW 0 (by omega)
  · rcases List.mem_append.mp hx with h | h
    · obtain ⟨t, ht⟩ := M.dn x h
      exact ⟨t, by omega⟩
    · obtain ⟨s, _, rfl⟩ := List.mem_map.mp h
      obtain ⟨t, ht⟩ := it_back R hi s
      exact ⟨t, by omega⟩
/-! ### a movement takes no two places to one -/
theorem num_inj {n : Nat} (hn : 0 < n) {x y x' y' : Int} (h : num n x y = num n x' y') : x % (n : Int) = x' % (n : Int) ∧ y % (n : Int) = y' % (n : Int) := by
  have h1 := Int.emod_nonneg x (show (n : Int) ≠ 0 by omega)
  have h2 := Int.emod_lt_of_pos x (show (0 : Int) < n by omega)
  have h3 := Int.emod_nonneg y (show (n : Int) ≠ 0 by omega)
  have h5 := Int.emod_nonneg x' (show (n : Int) ≠ 0 by omega)
  have h6 := Int.emod_lt_of_pos x' (show (0 : Int) < n by omega)
  have h7 := Int.emod_nonneg y' (show (n : Int) ≠ 0 by omega)
  unfold num at h
  have e1 : ((y % (n : Int)).toNat * n + (x % (n : Int)).toNat) % n = ((y' % (n : Int)).toNat * n + (x' % (n : Int)).toNat) % n := congrArg (· % n) h
  have e2 : ((y % (n : Int)).toNat * n + (x % (n : Int)).toNat) / n = ((y' % (n : Int)).toNat * n + (x' % (n : Int)).toNat) / n := congrArg (· / n) h
  rw [Nat.add_comm, Nat.add_mul_mod_self_right, Nat.mod_eq_of_lt (by omega), Nat.add_comm ((y' % (n : Int)).toNat * n), Nat.add_mul_mod_self_right, Nat.mod_eq_of_lt (by omega)] at e1
  rw [Nat.add_comm, Nat.add_mul_div_right _ _ hn, Nat.div_eq_of_lt (by omega), Nat.add_comm ((y' % (n : Int)).toNat * n), Nat.add_mul_div_right _ _ hn, Nat.div_eq_of_lt (by omega)] at e2
  omega
theorem cong_nat {n x x' : Nat} (hx : x < n) (hx' : x' < n) {p q : Int} (h : p % (n : Int) = q % (n : Int)) (e : p - q = (x : Int) - (x' : Int) ∨ p - q = (x' : Int) - (x : Int)) : x = x' := by
  have h := Int.emod_eq_emod_iff_emod_sub_eq_zero.mp h
  rcases e with e | e
  · rw [e] at h
    have h := Int.emod_eq_emod_iff_emod_sub_eq_zero.mpr h
    rw [Int.emod_eq_of_lt (by omega) (by omega), Int.emod_eq_of_lt (by omega) (by omega)] at h
    omega
  · rw [e] at h
    have h := Int.emod_eq_emod_iff_emod_sub_eq_zero.mpr h
    rw [Int.emod_eq_of_lt (by omega) (by omega), Int.emod_eq_of_lt (by omega) (by omega)] at h
    omega
theorem pl_ring {n a : Nat} (hn : 0 < n) (ha : a < 8) (u v : Int) : Ring (n * n) (pl n a u v) := by
  refine ⟨fun k _ => pl_lt hn a u v k, fun k j hk hj h => ?_⟩
  unfold pl at h
  obtain ⟨h1, h2⟩ := num_inj hn h
  have kx := Nat.mod_lt k hn
  have jx := Nat.mod_lt j hn
  have ky : k / n < n := Nat.div_lt_of_lt_mul hk
  have jy : j / n < n := Nat.div_lt_of_lt_mul hj
  have fin : k % n = j % n → k / n = j / n → k = j := fun e1 e2 => by
    rw [← Nat.div_add_mod k n, ← Nat.div_add_mod j n, e1, e2]
  have q : a = 0 ∨ a = 1 ∨ a = 2 ∨ a = 3 ∨ a = 4 ∨ a = 5 ∨ a = 6 ∨ a = 7 := by omega
  rcases q with rfl | rfl | rfl | rfl | rfl | rfl | rfl | rfl
  · have h1 : (((k % n : Nat) : Int) + u) % (n : Int) = (((j % n : Nat) : Int) + u) % (n : Int) := h1
    have h2 : (((k / n : Nat) : Int) + v) % (n : Int) = (((j / n : Nat) : Int) + v) % (n : Int) := h2
    exact fin (cong_nat kx jx h1 (by omega)) (cong_nat ky jy h2 (by omega))
  · have h1 : (-((k / n : Nat) : Int) + u) % (n : Int) = (-((j / n : Nat) : Int) + u) % (n : Int) := h1
    have h2 : (((k % n : Nat) : Int) + v) % (n : Int) = (((j % n : Nat) : Int) + v) % (n : Int) := h2
    exact fin (cong_nat kx jx h2 (by omega)) (cong_nat ky jy h1 (by omega))
  · have h1 : (-((k % n : Nat) : Int) + u) % (n : Int) = (-((j % n : Nat) : Int) + u) % (n : Int) := h1
    have h2 : (-((k / n : Nat) : Int) + v) % (n : Int) = (-((j / n : Nat) : Int) + v) % (n : Int) := h2
    exact fin (cong_nat kx jx h1 (by omega)) (cong_nat ky jy h2 (by omega))
  · have h1 : (((k / n : Nat) : Int) + u) % (n : Int) = (((j / n : Nat) : Int) + u) % (n : Int) := h1
    have h2 : (-((k % n : Nat) : Int) + v) % (n : Int) = (-((j % n : Nat) : Int) + v) % (n : Int) := h2
    exact fin (cong_nat kx jx h2 (by omega)) (cong_nat ky jy h1 (by omega))
  · have h1 : (-((k % n : Nat) : Int) + u) % (n : Int) = (-((j % n : Nat) : Int) + u) % (n : Int) := h1
    have h2 : (((k / n : Nat) : Int) + v) % (n : Int) = (((j / n : Nat) : Int) + v) % (n : Int) := h2
    exact fin (cong_nat kx jx h1 (by omega)) (cong_nat ky jy h2 (by omega))
  · have h1 : (((k % n : Nat) : Int) + u) % (n : Int) = (((j % n : Nat) : Int) + u) % (n : Int) := h1
    have h2 : (-((k / n : Nat) : Int) + v) % (n : Int) = (-((j / n : Nat) : Int) + v) % (n : Int) := h2
    exact fin (cong_nat kx jx h1 (by omega)) (cong_nat ky jy h2 (by omega))
  · have h1 : (((k / n : Nat) : Int) + u) % (n : Int) = (((j / n : Nat) : Int) + u) % (n : Int) := h1
    have h2 : (((k % n : Nat) : Int) + v) % (n : Int) = (((j % n : Nat) : Int) + v) % (n : Int) := h2
    exact fin (cong_nat kx jx h2 (by omega)) (cong_nat ky jy h1 (by omega))
  · have h1 : (-((k / n : Nat) : Int) + u) % (n : Int) = (-((j / n : Nat) : Int) + u) % (n : Int) := h1
    have h2 : (-((k % n : Nat) : Int) + v) % (n : Int) = (-((j % n : Nat) : Int) + v) % (n : Int) := h2
    exact fin (cong_nat kx jx h2 (by omega)) (cong_nat ky jy h1 (by omega))
/-! ### count -/
def wayN (w : Nat) : Nat := ([1, 4, 8] : List Nat).getD w 0
theorem which_is : ∀ w, w ≤ 2 → which w = List.range (wayN w) := by
  intro w hw
  have q : w = 0 ∨ w = 1 ∨ w = 2 := by omega
  rcases q with rfl | rfl | rfl <;> decide
def tot (k n : Nat) (l : List (Nat × Int × Int)) : Nat := l.foldl (fun (s : Nat) m => s + k ^ leasts (n * n) (pl n m.1 m.2.1 m.2.2) (n * n)) 0
theorem count_tot {n k w : Nat} (hw : w ≤ 2) : count n k w = tot k n (moves n (List.range (wayN w))) / (moves n (List.range (wayN w))).length := by
  unfold count tot
  rw [which_is w hw]
  rfl
theorem tot_more (k n : Nat) (l : List (Nat × Int × Int)) (m : Nat × Int × Int) : tot k n (l ++ [m]) = tot k n l + k ^ leasts (n * n) (pl n m.1 m.2.1 m.2.2) (n * n) := by
  unfold tot
  rw [List.foldl_append]
  rfl
theorem tot_le {k n : Nat} (hk : 1 ≤ k) (hk2 : k ≤ 10) (hn : n ≤ 8) (l : List (Nat × Int × Int)) : tot k n l ≤ l.length * 10 ^ 64 := by
  have key : ∀ (l : List (Nat × Int × Int)) (s : Nat), l.foldl (fun (s : Nat) m => s + k ^ leasts (n * n) (pl n m.1 m.2.1 m.2.2) (n * n)) s ≤ s + l.length * 10 ^ 64 := fun l => by
    induction l with
    | nil => intro s; simp
    | cons m r ih =>
      intro s
      rw [List.foldl_cons]
      refine Nat.le_trans (ih _) ?_
      have h1 : leasts (n * n) (pl n m.1 m.2.1 m.2.2) (n * n) ≤ 64 := Nat.le_trans (leasts_le _ _ _) (Nat.mul_le_mul hn hn)
      have h2 : k ^ leasts (n * n) (pl n m.1 m.2.1 m.2.2) (n * n) ≤ 10 ^ 64 := Nat.le_trans (Nat.pow_le_pow_right hk h1) (Nat.pow_le_pow_left hk2 64)
      rw [List.length_cons, Nat.add_mul, Nat.one_mul]
      omega
  have q := key l 0
  rw [Nat.zero_add] at q
  exact q
theorem count_is {z k w most : Int} (h1 : 1 ≤ z) (h2 : z ≤ 8) (h3 : 1 ≤ k) (h4 : k ≤ 10) (h5 : 0 ≤ w) (h6 : w ≤ 2) (h7 : 0 ≤ most) :
    PySa48.count z k w most = if most < (((decimal (count z.toNat k.toNat w.toNat)).length : Nat) : Int) then [-1] else (((decimal (count z.toNat k.toNat w.toNat)).length : Nat) : Int) :: (decimal (count z.toNat k.toNat w.toNat)).map fun (x : Nat) => (x : Int) := by
  have hin : ¬ (z.toNat < 1 ∨ 8 < z.toNat ∨ k.toNat < 1 ∨ 10 < k.toNat ∨ w < 0 ∨ 2 < w.toNat ∨ most < 0) := by omega
  show (if z.toNat < 1 ∨ 8 < z.toNat ∨ k.toNat < 1 ∨ 10 < k.toNat ∨ w < 0 ∨ 2 < w.toNat ∨ most < 0 then [-2] else _) = _
  rw [if_neg hin]
  rfl
theorem count_out {z k w most : Int} (h : ¬ (1 ≤ z ∧ z ≤ 8 ∧ 1 ≤ k ∧ k ≤ 10 ∧ 0 ≤ w ∧ w ≤ 2 ∧ 0 ≤ most)) : PySa48.count z k w most = [-2] := by
  have hin : z.toNat < 1 ∨ 8 < z.toNat ∨ k.toNat < 1 ∨ 10 < k.toNat ∨ w < 0 ∨ 2 < w.toNat ∨ most < 0 := by omega
  show (if z.toNat < 1 ∨ 8 < z.toNat ∨ k.toNat < 1 ∨ 10 < k.toNat ∨ w < 0 ∨ 2 < w.toNat ∨ most < 0 then [-2] else _) = _
  rw [if_pos hin]
end Pl
/-! ### count: the walk -/
namespace Pl
open PySem PySem.Spec PyProof.Rows L2
structure TxN (K : PySem.W.Frag) (mg : Str → Option Value) : Prop where
  ov : ∃ t, mg "TURNED_OVER" = some (.int 4 t)
  many : ∃ t, mg "MANY" = some (.int 8 t)
  out : ∃ t, mg "OUT" = some (.int (-2) t)
  long : ∃ t, mg "TOO_LONG" = some (.int (-1) t)
  what : ∃ t, mg "MOST_WHAT" = some (.int 2 t)
  counted : ∃ t, mg "MOST_COUNTED" = some (.int 8 t)
  colours : ∃ t, mg "MOST_COLOURS" = some (.int 10 t)
  list : mg "list" = none
  len : mg "len" = none
  str : mg "str" = none
  ord : mg "ord" = none
/-! ### what has been met, as a dict -/
def mK (met : List Nat) : List (Key × V) := met.map fun x => ((.inl ((x : Nat) : Int) : Key), V.bl true)
theorem valV_mK (k : Nat) : ∀ met : List Nat, valV (mK met) (.inl ((k : Nat) : Int)) = if k ∈ met then some (.bl true) else none
  | [] => rfl
  | a :: r => by
    have ih := valV_mK k r
    unfold mK at ih ⊢
    rw [List.map_cons]
    by_cases e : a = k
    · subst e
      rw [if_pos (List.mem_cons_self ..)]
      exact valV_pos (p := ((.inl ((a : Nat) : Int) : Key), V.bl true)) rfl
    · rw [valV_neg (p := ((.inl ((a : Nat) : Int) : Key), V.bl true)) (fun z => e (by have z := Sum.inl.inj z; omega)), ih]
      by_cases hm : k ∈ r
      · rw [if_pos hm, if_pos (List.mem_cons_of_mem _ hm)]
      · rw [if_neg hm, if_neg]
        intro z
        rcases List.mem_cons.mp z with z | z
        · exact e z.symm
        · exact hm z
theorem mK_put {met : List Nat} {k : Nat} (h : ¬ k ∈ met) : putK (mK met) (.inl ((k : Nat) : Int)) (.bl true) = mK (met ++ [k]) := by
  rw [putK_new _ (by rw [valV_mK, if_neg h])]
  unfold mK
  rw [List.map_append]
  rfl
theorem mK_in {met : List Nat} {k : Nat} (h : k ∈ met) : (!(valV (mK met) (.inl ((k : Nat) : Int))).isSome) = false := by
  rw [valV_mK, if_pos h]
  rfl
theorem mK_out {met : List Nat} {k : Nat} (h : ¬ k ∈ met) : (!(valV (mK met) (.inl ((k : Nat) : Int))).isSome) = true := by
  rw [valV_mK, if_neg h]
  rfl
theorem nodup_snoc {l : List Nat} {k : Nat} (h : l.Nodup) (hk : ¬ k ∈ l) : (l ++ [k]).Nodup := List.nodup_append.mpr ⟨h, by simp, fun x hx y hy e => hk (by rw [List.mem_singleton] at hy; subst hy; subst e; exact hx)⟩
/-! ### the promises -/
def spRounds (K : PySem.W.Frag) : Sp := fun vs H Q _ => ∃ (r : Addr) (N : Nat) (f : Nat → Nat), vs = [.ref r] ∧ SqL K H r ((List.range N).map fun k => V.int ((f k : Nat) : Int)) ∧ Ring N f ∧ N ≤ 64 ∧ ∀ H', Same H H' → Q (.int ((leasts N f N : Nat) : Int)) H'
def spPower : Sp := fun vs H Q _ => ∃ (b m : Nat), vs = [.int (b : Int), .int (m : Int)] ∧ b ≤ 10 ∧ m ≤ 64 ∧ Q (.int ((b ^ m : Nat) : Int)) H
def spWaysOf : Sp := fun vs H Q _ => ∃ (w : Nat), vs = [.int (w : Int)] ∧ w ≤ 2 ∧ ∀ H' p, Same H H' → H p = none → H' p = some (.lst ((List.range (wayN w)).map fun a => V.int ((a : Nat) : Int))) → Q (.ref p) H'
def spCountPat : Sp := fun vs H Q _ => ∃ (n k w : Nat), vs = [.int (n : Int), .int (k : Int), .int (w : Int)] ∧ 0 < n ∧ n ≤ 8 ∧ 1 ≤ k ∧ k ≤ 10 ∧ w ≤ 2 ∧ ∀ H', Same H H' → Q (.int ((Sa48Neutral.count n k w : Nat) : Int)) H'
def spCount : Sp := fun vs H Q _ => ∃ (z k w most : Int), vs = [.int z, .int k, .int w, .int most] ∧ ∀ (H' : Hp) (p : Addr), H' p = some (.lst ((PySa48.count z k w most).map V.int)) → Q (.ref p) H'
section
variable {P : Program} {w : World} {K : PySem.W.Frag} {mg : Str → Option Value} {base : Heap} {W : Addr} {ws : Nat → Addr}
theorem scRounds : FnScope ["row", "met", "found", "place"] ["row"] (defScope sRounds) := ⟨rfl, rfl, rfl, by decide +kernel, rfl, by decide +kernel, by decide +kernel⟩
theorem ok_rounds {f : Addr} {fd : FuncData} (F : Fun K "rounds" "rounds" sRounds f fd) (TW : TxW K mg W ws) (T : TxN K mg) : FnOk P w K mg base CX0 1 f fd ["row"] (spRounds K) := by
  refine F.ok scRounds (fun vs H Q E h => ?_) (fun cdv A outer s H vs Q E hr h => ?_)
  · obtain ⟨r, N, g, rfl, _⟩ := h
    rfl
  · obtain ⟨r, N, g, rfl, hS, R, h64, k⟩ := h
    have nd := scRounds.nd
    have hu := hu_of hr
    refine ⟨_, pss_cons (ps_set (i := 1) nd rfl (Or.inl rfl) pe_dnewK) (pss_cons (ps_set (i := 2) nd rfl (Or.inl rfl) pe_int)
      (pss_cons (ps_for PassesOwn.never rfl (pi_range1 rfl TW.range (pa_cons (pe_callB call_len_seq (by rfl) T.len PySem.boot_len (pa_cons (pv 0) pa_nil)) pa_nil)) (pg_name (i := 3) nd rfl (Or.inl rfl))
        (pss_cons (ps_if (pt_cmp (pc_dnotin hu (pv 3) (pv 1))) (pss_one (ps_set (i := 2) nd rfl (Or.inl rfl) (pe_op op_add (pv 2) pe_int))) pss_nil)
        (pss_one (ps_while PassesOwn.never (pt_cmp (pc_dnotin hu (pv 3) (pv 1))) (pss_cons (ps_dput hu (pv 1) (pv 3) pe_bl rfl) (pss_one (ps_set (i := 3) nd rfl (Or.inl rfl) (pe_ix ix_list (pv 0) (pv 3) (fun _ _ => rfl)))))))))
      (pss_one (ps_ret (pv 2))))), ?_⟩
    intro d hd
    have s0 : Same H (L2.upd H d (.dK [])) := Same.new hd
    refine ⟨_, rfl, r, _, rfl, .inl (s0.seq hS), ?_⟩
    refine ⟨((N : Nat) : Int), (by rw [List.length_map, List.length_range]), by omega, by omega, for_range (lo := 0) (n := N) (fun i σ H' => ∃ (vp : Option V) (met : List Nat), σ = [some (.ref r), some (.ref d), some (.int ((leasts N g i : Nat) : Int)), vp] ∧ Same H H' ∧ H' d = some (.dK (mK met)) ∧ Met N g i met)
      ⟨none, [], rfl, s0, upd_same, Met.start N g⟩ ?_ ?_⟩
    · rintro i σ H1 hi ⟨vp, met, rfl, s1, e1, M⟩
      have z0 : (0 : Int) + ((i : Nat) : Int) = ((i : Nat) : Int) := Int.zero_add _
      refine ⟨_, rfl, _, rfl, d, _, rfl, (by rw [z0]; exact DGet.k (k := Sum.inl ((i : Nat) : Int)) e1), _, rfl, ?_⟩
      by_cases hm : i ∈ met
      · rw [mK_in hm]
        refine iteF ?_
        refine ⟨fun m σ H' => σ = [some (.ref r), some (.ref d), some (.int ((leasts N g i : Nat) : Int)), some (.int ((i : Nat) : Int))] ∧ H' = H1, ⟨0, by rw [z0]; rfl, rfl⟩, ?_⟩
        rintro m σ H2 ⟨rfl, rfl⟩
        refine ⟨_, rfl, _, rfl, d, _, rfl, DGet.k (k := Sum.inl ((i : Nat) : Int)) e1, _, rfl, ?_⟩
        rw [mK_in hm]
        refine iteF ⟨some (.int ((i : Nat) : Int)), met, ?_, s1, e1, M.skip hm⟩
        have e : least1 N g i = false := by
          cases q : least1 N g i with
          | false => rfl
          | true => exact absurd hm ((M.new R hi).mp q)
        rw [leasts_more, e]
        rfl
      · rw [mK_out hm]
        refine iteT (B := True) ?_
        refine ⟨_, rfl, _, _, rfl, rfl, ?_⟩
        have e : least1 N g i = true := (M.new R hi).mpr hm
        have el : ((leasts N g i : Nat) : Int) + 1 = ((leasts N g (i + 1) : Nat) : Int) := by
          rw [leasts_more, e]
          rfl
        refine ⟨fun m σ H' => ∃ t : Nat, σ = [some (.ref r), some (.ref d), some (.int ((leasts N g (i + 1) : Nat) : Int)), some (.int ((it g t i : Nat) : Int))] ∧ Same H H' ∧ H' d = some (.dK (mK (met ++ walked g i t))) ∧ (met ++ walked g i t).Nodup ∧ m = N - (met ++ walked g i t).length,
          ⟨_, 0, by rw [z0, ← el]; rfl, s1, by rw [e1]; simp [walked], by simpa [walked] using M.nd, rfl⟩, ?_⟩
        rintro m σ H2 ⟨t, rfl, s2, e2, n2, rfl⟩
        have hlt : ∀ x ∈ met ++ walked g i t, x < N := fun x hx => by
          rcases List.mem_append.mp hx with h | h
          · exact M.lt x h
          · obtain ⟨s, _, rfl⟩ := List.mem_map.mp h
            exact it_lt R hi s
        refine ⟨_, rfl, _, rfl, d, _, rfl, DGet.k (k := Sum.inl ((it g t i : Nat) : Int)) e2, _, rfl, ?_⟩
        by_cases hx : it g t i ∈ met ++ walked g i t
        · rw [mK_in hx]
          exact iteF ⟨_, _, rfl, s2, e2, M.round R hi hm n2 hx⟩
        · rw [mK_out hx]
          have n3 := nodup_snoc n2 hx
          have l3 := nodup_lt (N := N) n3 fun x hx => by
            rcases List.mem_append.mp hx with h | h
            · exact hlt x h
            · rw [List.mem_singleton] at h
              rw [h]
              exact it_lt R hi t
          rw [List.length_append, List.length_singleton] at l3
          refine iteT ⟨fun σ H' => σ = [some (.ref r), some (.ref d), some (.int ((leasts N g (i + 1) : Nat) : Int)), some (.int ((it g (t + 1) i : Nat) : Int))] ∧ Same H H' ∧ H' d = some (.dK (mK (met ++ walked g i (t + 1)))), ?_, ?_⟩
          · rintro σ H3 ⟨rfl, s3, e3⟩
            refine ⟨N - (met ++ walked g i (t + 1)).length, ?_, t + 1, rfl, s3, e3, ?_, rfl⟩
            · rw [walked_more, ← List.append_assoc, List.length_append (as := met ++ walked g i t), List.length_singleton]
              omega
            · rw [walked_more, ← List.append_assoc]
              exact n3
          · refine ⟨_, rfl, _, rfl, d, _, rfl, DPut.k (k := Sum.inl ((it g t i : Nat) : Int)) e2 ?_, ?_⟩
            · unfold mK
              rw [List.length_map]
              exact Nat.lt_of_lt_of_le (Nat.lt_of_lt_of_le l3 h64) (by decide)
            · have s3 : Same H (L2.upd H2 d (.dK (putK (mK (met ++ walked g i t)) (Sum.inl ((it g t i : Nat) : Int)) (.bl true)))) := Same.upd s2 hd
              have hat : ((List.range N).map fun k => V.int ((g k : Nat) : Int))[it g t i]? = some (.int ((g (it g t i) : Nat) : Int)) := by
                rw [List.getElem?_map, List.getElem?_range (it_lt R hi t)]
                rfl
              refine ⟨_, rfl, _, rfl, r, _, _, _, rfl, rfl, s3.seq hS, atI_nat hat, rfl, s3, ?_⟩
              rw [upd_same, mK_put hx, walked_more, List.append_assoc]
    · rintro σ H1 ⟨vp, met, rfl, s1, e1, M⟩
      exact ⟨_, rfl, k _ s1⟩
theorem scPower : FnScope ["base", "many", "found", "step"] ["base", "many"] (defScope sPower) := ⟨rfl, rfl, rfl, by decide +kernel, rfl, by decide +kernel, by decide +kernel⟩
theorem ok_power {f : Addr} {fd : FuncData} (F : Fun K "power" "power" sPower f fd) (TW : TxW K mg W ws) : FnOk P w K mg base CX0 1 f fd ["base", "many"] spPower := by
  refine F.ok scPower (fun vs H Q E h => ?_) (fun cdv A outer s H vs Q E hr h => ?_)
  · obtain ⟨b, m, rfl, _⟩ := h
    rfl
  · obtain ⟨b, m, rfl, h10, h64, k⟩ := h
    have nd := scPower.nd
    refine ⟨_, pss_cons (ps_set (i := 2) nd rfl (Or.inl rfl) pe_int)
      (pss_cons (ps_for PassesOwn.never rfl (pi_range1 rfl TW.range (pa_cons (pv 1) pa_nil)) (pg_name (i := 3) nd rfl (Or.inl rfl)) (pss_one (ps_set (i := 2) nd rfl (Or.inl rfl) (pe_op op_mul (pv 2) (pv 0)))))
      (pss_one (ps_ret (pv 2)))), ?_⟩
    refine ⟨_, rfl, (m : Int), rfl, by omega, by omega, for_range (lo := 0) (n := m) (fun i σ H' => ∃ vs : Option V, σ = [some (.int (b : Int)), some (.int (m : Int)), some (.int ((b ^ i : Nat) : Int)), vs] ∧ H' = H)
      ⟨none, rfl, rfl⟩ ?_ ?_⟩
    · rintro i σ H1 hi ⟨vs, rfl, rfl⟩
      refine ⟨_, rfl, _, rfl, _, _, rfl, rfl, .inr ⟨by omega, by omega⟩, some (.int (0 + ((i : Nat) : Int))), ?_, rfl⟩
      show [some (V.int (b : Int)), some (V.int (m : Int)), some (V.int (((b ^ i : Nat) : Int) * (b : Int))), _] = _
      rw [← Int.natCast_mul, ← Nat.pow_succ]
    · rintro σ H1 ⟨vs, rfl, rfl⟩
      exact ⟨_, rfl, k⟩
theorem scWaysOf : FnScope ["what"] ["what"] (defScope sWaysOf) := ⟨rfl, rfl, rfl, by decide +kernel, rfl, by decide +kernel, by decide +kernel⟩
theorem rgV_ways (m : Nat) : rgV 0 ((m : Nat) : Int) = (List.range m).map fun a => V.int ((a : Nat) : Int) := by
  unfold rgV
  rw [Int.sub_zero, Int.toNat_natCast]
  refine List.map_congr_left fun a _ => ?_
  rw [Int.zero_add]
theorem ok_waysOf {f : Addr} {fd : FuncData} (F : Fun K "ways_of" "ways_of" sWaysOf f fd) (TW : TxW K mg W ws) (hov : ∃ t, mg "TURNED_OVER" = some (.int 4 t)) (hmany : ∃ t, mg "MANY" = some (.int 8 t)) (hlist : mg "list" = none) : FnOk P w K mg base CX0 1 f fd ["what"] spWaysOf := by
  refine F.ok scWaysOf (fun vs H Q E h => ?_) (fun cdv A outer s H vs Q E hr h => ?_)
  · obtain ⟨w, rfl, _⟩ := h
    rfl
  · obtain ⟨w, rfl, h2, k⟩ := h
    obtain ⟨t1, hov⟩ := hov
    obtain ⟨t2, hmany⟩ := hmany
    refine ⟨_, pss_one (ps_ret (pe_listRg rfl rfl hlist (prg_1 rfl TW.range (pe_ix ix_list (pe_lst (pa_cons pe_int (pa_cons (pe_glob (v := .int 4) rfl hov ⟨_, rfl⟩) (pa_cons (pe_glob (v := .int 8) rfl hmany ⟨_, rfl⟩) pa_nil)))) (pv 0) (fun _ _ => rfl))))), ?_⟩
    refine ⟨(by show 3 ≤ sizeLine; decide), fun l hl => ?_⟩
    have hat : ([V.int 1, V.int 4, V.int 8] : List V)[w]? = some (.int ((wayN w : Nat) : Int)) := by
      have q : w = 0 ∨ w = 1 ∨ w = 2 := by omega
      rcases q with rfl | rfl | rfl <;> rfl
    have hle : wayN w ≤ 8 := by
      have q : w = 0 ∨ w = 1 ∨ w = 2 := by omega
      rcases q with rfl | rfl | rfl <;> decide
    refine ⟨_, rfl, l, _, _, _, rfl, rfl, SqL.of upd_same, atI_nat hat, _, rfl, RgOk.of_le (by decide) (by omega) (by decide) (by omega), fun q hq => ?_⟩
    have s1 : Same H (L2.upd H l (.lst [V.int 1, V.int 4, V.int 8])) := Same.new hl
    refine k _ q (Same.upd s1 (s1.free hq)) (s1.free hq) ?_
    rw [upd_same, rgV_ways]
theorem scCountPat : FnScope ["n", "colours", "what", "total", "some", "movement"] ["n", "colours", "what"] (defScope sCountPat) := ⟨rfl, rfl, rfl, by decide +kernel, rfl, by decide +kernel, by decide +kernel⟩
theorem wayN_le : ∀ w, w ≤ 2 → 0 < wayN w ∧ wayN w ≤ 8 := by
  intro w hw
  have q : w = 0 ∨ w = 1 ∨ w = 2 := by omega
  rcases q with rfl | rfl | rfl <;> decide
theorem ok_countPat {f f1 f2 f3 f4 f5 : Addr} {fd fd1 fd2 fd3 fd4 fd5 : FuncData} (F : Fun K "count_patterns" "count_patterns" sCountPat f fd) (T : TxN K mg)
    (G1 : FnOk P w K mg base CX0 1 f1 fd1 ["n", "ways"] (spMvs K)) (m1 : mg "movements" = some (.ref f1)) (k1 : PySem.W.keepIn K (.ref f1) = true) (b1 : Binds K fd1 ["n", "ways"] [])
    (G2 : FnOk P w K mg base CX0 1 f2 fd2 ["what"] spWaysOf) (m2 : mg "ways_of" = some (.ref f2)) (k2 : PySem.W.keepIn K (.ref f2) = true) (b2 : Binds K fd2 ["what"] [])
    (G3 : FnOk P w K mg base CX0 1 f3 fd3 ["base", "many"] spPower) (m3 : mg "power" = some (.ref f3)) (k3 : PySem.W.keepIn K (.ref f3) = true) (b3 : Binds K fd3 ["base", "many"] [])
    (G4 : FnOk P w K mg base CX0 1 f4 fd4 ["row"] (spRounds K)) (m4 : mg "rounds" = some (.ref f4)) (k4 : PySem.W.keepIn K (.ref f4) = true) (b4 : Binds K fd4 ["row"] [])
    (G5 : FnOk P w K mg base CX0 3 f5 fd5 ["n", "movement"] (spImage K)) (m5 : mg "image" = some (.ref f5)) (k5 : PySem.W.keepIn K (.ref f5) = true) (b5 : Binds K fd5 ["n", "movement"] []) :
    FnOk P w K mg base CX0 4 f fd ["n", "colours", "what"] spCountPat := by
  refine F.ok scCountPat (fun vs H Q E h => ?_) (fun cdv A outer s H vs Q E hr h => ?_)
  · obtain ⟨n, c, w, rfl, _⟩ := h
    rfl
  · obtain ⟨n, c, w, rfl, h0, h8, hc1, hc10, hw, k⟩ := h
    have nd := scCountPat.nd
    have hr1 : Room 1 _ := hr.mono (by decide)
    refine ⟨_, pss_cons (ps_set (i := 3) nd rfl (Or.inl rfl) pe_int)
      (pss_cons (ps_set (i := 4) nd rfl (Or.inl rfl) (pe_call G1 hr1 rfl m1 k1 b1 .nil pass0 (pa_cons (pv 0) (pa_cons (pe_call G2 hr1 rfl m2 k2 b2 .nil pass0 (pa_cons (pv 2) pa_nil)) pa_nil))))
      (pss_cons (ps_for PassesOwn.never rfl (pi_list (pv 4)) (pg_name (i := 5) nd rfl (Or.inl rfl))
        (pss_one (ps_set (i := 3) nd rfl (Or.inl rfl) (pe_op op_add (pv 3) (pe_call G3 hr1 rfl m3 k3 b3 .nil pass0 (pa_cons (pv 1) (pa_cons (pe_call G4 hr1 rfl m4 k4 b4 .nil pass0 (pa_cons (pe_call G5 hr rfl m5 k5 b5 .nil pass0 (pa_cons (pv 0) (pa_cons (pv 5) pa_nil))) pa_nil)) pa_nil)))))))
      (pss_one (ps_ret (pe_op op_fdiv (pv 3) (pe_callB call_len_seq (by rfl) T.len PySem.boot_len (pa_cons (pv 4) pa_nil))))))), ?_⟩
    obtain ⟨w0, w8⟩ := wayN_le w hw
    refine ⟨_, rfl, _, rfl, w, rfl, hw, fun H1 l1 s1 n1 e1 => ?_⟩
    refine ⟨n, l1, List.range (wayN w), rfl, SqL.of e1, h8, by rw [List.length_range]; exact w8, fun H2 l2 L s2 n2 em e2 t2 => ?_⟩
    have s12 := s1.trans s2
    refine ⟨_, rfl, l2, rfl, ⟨_, SqL.of e2⟩, for_list (K := K) (a := l2) (xs := refs L) (fun i σ H' => ∃ vm : Option V, σ = [some (.int (n : Int)), some (.int (c : Int)), some (.int (w : Int)), some (.int ((tot c n ((Sa48Neutral.moves n (List.range (wayN w))).take i) : Nat) : Int)), some (.ref l2), vm] ∧ Same H2 H')
      ⟨none, rfl, Same.refl _⟩ (fun i σ H' _ ⟨_, _, s3⟩ => s3.seq (SqL.of e2)) ?_ ?_⟩
    · rintro i y σ H3 hi ⟨vm, rfl, s3⟩
      obtain ⟨⟨t, m⟩, hLi, rfl⟩ := map_at hi
      have hm : (Sa48Neutral.moves n (List.range (wayN w)))[i]? = some m := by
        have q : (L.map (·.2))[i]? = some m := by
          rw [List.getElem?_map, hLi]
          rfl
        rw [em] at q
        exact q
      have hmem : m ∈ Sa48Neutral.moves n (List.range (wayN w)) := List.mem_iff_getElem?.mpr ⟨i, hm⟩
      have ha : m.1 < 8 := by
        obtain ⟨q, _⟩ : m.1 ∈ List.range (wayN w) ∧ True := by
          unfold Sa48Neutral.moves at hmem
          obtain ⟨a, ha, h⟩ := List.mem_flatMap.mp hmem
          obtain ⟨u, _, h⟩ := List.mem_flatMap.mp h
          obtain ⟨v, _, rfl⟩ := List.mem_map.mp h
          exact ⟨ha, trivial⟩
        have := List.mem_range.mp q
        omega
      have ht : H3 t = some (.tup (mv m)) := s3 _ _ (t2 (t, m) (List.mem_iff_getElem?.mpr ⟨i, hLi⟩))
      refine ⟨_, rfl, _, rfl, _, rfl, _, rfl, t, n, m.1, m.2.1, m.2.2, rfl, SqT.of ht, ha, h0, by omega, fun H4 l4 s4 n4 e4 => ?_⟩
      have hN : n * n ≤ 64 := Nat.mul_le_mul h8 h8
      refine ⟨l4, n * n, pl n m.1 m.2.1 m.2.2, rfl, SqL.of e4, pl_ring h0 ha _ _, hN, fun H5 s5 => ?_⟩
      refine ⟨c, leasts (n * n) (pl n m.1 m.2.1 m.2.2) (n * n), rfl, hc10, Nat.le_trans (leasts_le _ _ _) hN, ?_⟩
      refine ⟨_, _, rfl, rfl, some (.ref t), ?_, s3.trans (s4.trans s5)⟩
      rw [take_more hm, tot_more, Int.natCast_add]
      rfl
    · rintro σ H3 ⟨vm, rfl, s3⟩
      have hl : (refs L).length = (Sa48Neutral.moves n (List.range (wayN w))).length := by
        rw [refs_len, em]
      have hml : (Sa48Neutral.moves n (List.range (wayN w))).length = wayN w * (n * n) := by
        rw [moves_len, List.length_range]
      have hpos : 0 < wayN w * (n * n) := Nat.mul_pos w0 (Nat.mul_pos h0 h0)
      have hle : wayN w * (n * n) ≤ 8 * (8 * 8) := Nat.mul_le_mul w8 (Nat.mul_le_mul h8 h8)
      refine ⟨_, rfl, _, rfl, l2, _, rfl, .inl (SqL.of (s3 _ _ e2)), _, _, rfl, rfl, ⟨?_, ?_⟩, ?_⟩
      · show (0 : Int) < (((refs L).length : Nat) : Int)
        omega
      · show (((refs L).length : Nat) : Int) < 1073741824
        omega
      · have kk := k _ (s12.trans s3)
        rw [count_tot hw, Int.natCast_ediv] at kk
        show Q (.int (((tot c n ((Sa48Neutral.moves n (List.range (wayN w))).take (refs L).length) : Nat) : Int) / (((refs L).length : Nat) : Int))) H3
        rw [hl, List.take_length]
        exact kk
theorem scCount : FnScope ["n", "colours", "what", "most", "found", "digit"] ["n", "colours", "what", "most"] (defScope sCount) := ⟨rfl, rfl, rfl, by decide +kernel, rfl, by decide +kernel, by decide +kernel⟩
theorem chain_ok {σ : L2.St} {H : Hp} {Q : Bool → Hp → Prop} {s : Nat} {i j k : Int} (hs : σ[s]? = some (some (.int j))) (h : Q (decide (i ≤ j) && decide (j ≤ k)) H) :
    tTest (tChain (rI0 fun i j => .bl (decide (i ≤ j))) (rI0 fun i j => .bl (decide (i ≤ j))) (tC (.int i)) (tVar s) (tC (.int k))) σ H Q := by
  refine ⟨_, hs, _, _, rfl, rfl, _, rfl, ?_⟩
  by_cases e : i ≤ j
  · rw [decide_eq_true e] at h ⊢
    exact iteT ⟨_, _, rfl, rfl, _, rfl, h⟩
  · rw [decide_eq_false e] at h ⊢
    exact iteF ⟨_, rfl, h⟩
theorem str_cps (N : Nat) : (Str.ofString (toString ((N : Nat) : Int))).cps = (Sa48.decimal N).toArray := by
  rw [Str.ofString_eq_toList]
  show (((String.ofList (Nat.toDigits 10 N)).toList).map Char.toNat).toArray = _
  rw [String.toList_ofList]
  rfl
theorem count_small {n k w : Nat} (h1 : 1 ≤ k) (h2 : k ≤ 10) (hn : n ≤ 8) (hw : w ≤ 2) : Sa48Neutral.count n k w < 10 ^ 67 := by
  rw [count_tot hw]
  refine Nat.lt_of_le_of_lt (Nat.div_le_self _ _) (Nat.lt_of_le_of_lt (tot_le h1 h2 hn _) ?_)
  rw [moves_len, List.length_range]
  have hle : wayN w * (n * n) ≤ 8 * (8 * 8) := Nat.mul_le_mul (wayN_le w hw).2 (Nat.mul_le_mul hn hn)
  exact Nat.lt_of_le_of_lt (Nat.mul_le_mul_right _ hle) (by decide)
theorem dec_len {N : Nat} (h : N < 10 ^ 67) : (Sa48.decimal N).length ≤ 67 := by
  unfold Sa48.decimal
  rw [List.length_map]
  exact (Nat.length_toDigits_le_iff (by decide) (by decide)).mpr h
theorem log_small {N : Nat} (h : N < 10 ^ 67) : ((N : Nat) : Int).natAbs.log2 < 1920 := by
  rw [Int.natAbs_natCast]
  rcases Nat.eq_zero_or_pos N with z | z
  · subst z
    decide
  · rw [Nat.log2_lt (by omega)]
    exact Nat.lt_of_lt_of_le (Nat.lt_trans h (show 10 ^ 67 < 2 ^ 255 by decide)) (Nat.pow_le_pow_right (by decide) (by decide))
theorem ok_count {f f1 : Addr} {fd fd1 : FuncData} (F : Fun K "count" "count" sCount f fd) (T : TxN K mg)
    (G1 : FnOk P w K mg base CX0 4 f1 fd1 ["n", "colours", "what"] spCountPat) (m1 : mg "count_patterns" = some (.ref f1)) (k1 : PySem.W.keepIn K (.ref f1) = true) (b1 : Binds K fd1 ["n", "colours", "what"] []) :
    FnOk P w K mg base CX0 5 f fd ["n", "colours", "what", "most"] spCount := by
  refine F.ok scCount (fun vs H Q E h => ?_) (fun cdv A outer s H vs Q E hr h => ?_)
  · obtain ⟨z, c, w, most, rfl, _⟩ := h
    rfl
  · obtain ⟨z, c, w, most, rfl, k⟩ := h
    have nd := scCount.nd
    obtain ⟨t1, mO⟩ := T.out
    obtain ⟨t2, mL⟩ := T.long
    obtain ⟨t3, mW⟩ := T.what
    obtain ⟨t4, mC⟩ := T.counted
    obtain ⟨t5, mK⟩ := T.colours
    refine ⟨_, pss_cons (ps_if (PW.pt (pw_or (pt_not (pt_chain op_le op_le pe_int (pv 0) (pe_glob (v := .int 8) rfl mC ⟨_, rfl⟩))) (pw_or1 (pt_not (pt_chain op_le op_le pe_int (pv 1) (pe_glob (v := .int 10) rfl mK ⟨_, rfl⟩)))))) (pss_one (ps_ret (pe_lst (pa_cons (pe_glob (v := .int (-2)) rfl mO ⟨_, rfl⟩) pa_nil)))) pss_nil)
      (pss_cons (ps_if (PW.pt (pw_or (pt_not (pt_chain op_le op_le pe_int (pv 2) (pe_glob (v := .int 2) rfl mW ⟨_, rfl⟩))) (pw_or1 (pt_cmpR op_lt (pv 3) pe_int (nomark _))))) (pss_one (ps_ret (pe_lst (pa_cons (pe_glob (v := .int (-2)) rfl mO ⟨_, rfl⟩) pa_nil)))) pss_nil)
      (pss_cons (ps_setLc (i := 4) (own := [("digit", 5)]) (g := gName 5) (tt := tYes) rfl nd rfl rfl (sw_true rfl rfl rfl (by decide +kernel)) (pi_str (pe_callTy call_str_int (by rfl) T.str (by decide +kernel) (pa_cons (pe_call G1 hr rfl m1 k1 b1 .nil pass0 (pa_cons (pv 0) (pa_cons (pv 1) (pa_cons (pv 2) pa_nil)))) pa_nil)))
        (blkOk_by (own := [("digit", 5)]) (N := ["n", "colours", "what", "most", "found", "digit"]) (sc := defScope sCount) (by decide +kernel)) (fun _ _ _ _ _ => pg_name (i := 5) nd rfl (Or.inl rfl)) (fun _ _ _ _ _ => pts_nil)
        (fun _ _ _ _ _ => pe_callB call_ord (by rfl) T.ord (by decide +kernel) (pa_cons (pv 5) pa_nil)))
      (pss_cons (ps_if (pt_cmpR op_gt (pe_callB call_len_seq (by rfl) T.len PySem.boot_len (pa_cons (pv 4) pa_nil)) (pv 3) (nomark _)) (pss_one (ps_ret (pe_lst (pa_cons (pe_glob (v := .int (-1)) rfl mL ⟨_, rfl⟩) pa_nil)))) pss_nil)
      (pss_one (ps_ret (pe_op op_cat (pe_lst (pa_cons (pe_callB call_len_seq (by rfl) T.len PySem.boot_len (pa_cons (pv 4) pa_nil)) pa_nil)) (pv 4))))))), ?_⟩
    have out : ¬ (1 ≤ z ∧ z ≤ 8 ∧ 1 ≤ c ∧ c ≤ 10 ∧ 0 ≤ w ∧ w ≤ 2 ∧ 0 ≤ most) → ∀ H', 1 ≤ sizeLine ∧ ∀ p, H' p = none → Q (.ref p) (L2.upd H' p (.lst [.int (-2)])) := fun h H' => ⟨by decide, fun p hp => k _ p (by rw [upd_same, count_out h]; rfl)⟩
    refine chain_ok rfl ?_
    by_cases c1 : 1 ≤ z ∧ z ≤ 8
    case neg =>
      rw [show (decide (1 ≤ z) && decide (z ≤ 8)) = false by rw [← Bool.decide_and]; exact decide_eq_false c1]
      exact iteT (B := True) (iteT (B := True) (out (fun h => c1 ⟨h.1, h.2.1⟩) H))
    rw [show (decide (1 ≤ z) && decide (z ≤ 8)) = true by rw [← Bool.decide_and]; exact decide_eq_true c1]
    refine iteF (A := True) ?_
    refine chain_ok rfl ?_
    by_cases c2 : 1 ≤ c ∧ c ≤ 10
    case neg =>
      rw [show (decide (1 ≤ c) && decide (c ≤ 10)) = false by rw [← Bool.decide_and]; exact decide_eq_false c2]
      exact iteT (B := True) (out (fun h => c2 ⟨h.2.2.1, h.2.2.2.1⟩) H)
    rw [show (decide (1 ≤ c) && decide (c ≤ 10)) = true by rw [← Bool.decide_and]; exact decide_eq_true c2]
    refine iteF (A := True) ?_
    refine chain_ok rfl ?_
    by_cases c3 : 0 ≤ w ∧ w ≤ 2
    case neg =>
      rw [show (decide (0 ≤ w) && decide (w ≤ 2)) = false by rw [← Bool.decide_and]; exact decide_eq_false c3]
      exact iteT (B := True) (iteT (B := True) (out (fun h => c3 ⟨h.2.2.2.2.1, h.2.2.2.2.2.1⟩) H))
    rw [show (decide (0 ≤ w) && decide (w ≤ 2)) = true by rw [← Bool.decide_and]; exact decide_eq_true c3]
    refine iteF (A := True) ?_
    refine ⟨_, rfl, _, _, rfl, rfl, _, rfl, ?_⟩
    by_cases c4 : most < 0
    case pos =>
      rw [decide_eq_true c4]
      exact iteT (B := True) (out (fun h => by omega) H)
    rw [decide_eq_false c4]
    refine iteF (A := True) ?_
    have ez : z = ((z.toNat : Nat) : Int) := by omega
    have ec : c = ((c.toNat : Nat) : Int) := by omega
    have ew : w = ((w.toNat : Nat) : Int) := by omega
    have cn := count_is c1.1 c1.2 c2.1 c2.2 c3.1 c3.2 (by omega : 0 ≤ most)
    have hsm : Sa48Neutral.count z.toNat c.toNat w.toNat < 10 ^ 67 := count_small (by omega) (by omega) (by omega) (by omega)
    refine ⟨_, rfl, _, rfl, _, rfl, z.toNat, c.toNat, w.toNat, ?_, by omega, by omega, by omega, by omega, by omega, fun H1 s1 => ?_⟩
    · rw [← ez, ← ec, ← ew]
      rfl
    generalize hN : Sa48Neutral.count z.toNat c.toNat w.toNat = N at cn hsm
    refine ⟨_, rfl, log_small hsm, _, rfl, fun D hD => ?_⟩
    have hcps := str_cps N
    refine lc_it walk_str (fun i H' => Same H1 H' ∧ H' D = some (.lst (((Sa48.decimal N).take i).map fun (x : Nat) => V.int ((x : Nat) : Int)))) ⟨Same.new hD, upd_same⟩ (fun _ _ _ _ => trivial) ?_ ?_
    · rintro i y H2 H3 hi ⟨s2, e2⟩ ⟨rfl, x, hx, rfl⟩
      rw [hcps, List.getElem?_toArray] at hx
      refine ⟨rfl, iteT (B := True) ?_⟩
      refine ⟨_, rfl, _, rfl, rfl, _, e2, ?_, Same.upd s2 hD, ?_⟩
      · rw [List.length_map, List.length_take]
        exact Nat.lt_of_le_of_lt (Nat.le_trans (Nat.min_le_right _ _) (dec_len hsm)) (by decide)
      · rw [upd_same, take_more hx, List.map_append]
        rfl
    · rintro H2 ⟨s2, e2⟩
      rw [hcps, List.size_toArray, List.take_length] at e2
      refine ⟨_, rfl, D, _, rfl, .inl (SqL.of e2), _, rfl, _, _, rfl, rfl, _, rfl, ?_⟩
      rw [List.length_map]
      by_cases c5 : most < (((Sa48.decimal N).length : Nat) : Int)
      · rw [decide_eq_true c5]
        rw [if_pos c5] at cn
        exact iteT (B := True) ⟨by decide, fun p hp => k _ p (by rw [upd_same, cn]; rfl)⟩
      · rw [decide_eq_false c5]
        rw [if_neg c5] at cn
        refine iteF ?_
        refine ⟨_, rfl, D, _, rfl, .inl (SqL.of e2), (by show 1 ≤ sizeLine; decide), fun p hp => ?_⟩
        have npD : D ≠ p := ne_of_none e2 hp
        refine ⟨_, rfl, p, D, _, _, rfl, rfl, upd_same, (upd_ne npD).trans e2, ?_, fun q hq => k _ q ?_⟩
        · rw [List.length_map]
          exact Nat.le_trans (Nat.add_le_add_left (dec_len hsm) 1) (by show 68 ≤ sizeLine; decide)
        · rw [upd_same, cn, List.map_cons, List.map_map, List.length_map]
          rfl
end
end Pl
namespace Pl
open PySem PySem.Spec PyProof.Rows L2
/-! ### the end: what the top has written -/
theorem vals4 {a b c d : Int} {t u v w : Tok} {o : Option Addr} {n : Nat} {sl : Array (Option Value)} {K : PySem.W.Frag} {x : Addr} (h : K.lookup x = some ⟨.type "tuple", o, .seq #[.int a t, .int b u, .int c v, .int d w] n, sl⟩) (H : Hp) : SqT K H x [.int a, .int b, .int c, .int d] :=
  .inr ⟨_, _, _, h, rfl, rfl, (by show 4 ≤ sizeLine; decide), .cons ⟨_, rfl⟩ (.cons ⟨_, rfl⟩ (.cons ⟨_, rfl⟩ (.cons ⟨_, rfl⟩ .nil)))⟩
theorem ways_at {K : PySem.W.Frag} {W w0 w1 w2 w3 w4 w5 w6 w7 : Addr} {o : Option Addr} {n : Nat} {sl : Array (Option Value)} (h : K.lookup W = some ⟨.type "tuple", o, .seq #[.ref w0, .ref w1, .ref w2, .ref w3, .ref w4, .ref w5, .ref w6, .ref w7] n, sl⟩) (H : Hp) :
    SqT K H W ((List.range 8).map fun i => V.ref (([w0, w1, w2, w3, w4, w5, w6, w7] : List Addr).getD i 0)) :=
  .inr ⟨_, _, _, h, rfl, rfl, (by show 8 ≤ sizeLine; decide), .cons rfl (.cons rfl (.cons rfl (.cons rfl (.cons rfl (.cons rfl (.cons rfl (.cons rfl .nil)))))))⟩
theorem ways_in {K : PySem.W.Frag} {w0 w1 w2 w3 w4 w5 w6 w7 : Addr} {ow0 ow1 ow2 ow3 ow4 ow5 ow6 ow7 : Option Addr} {nw0 nw1 nw2 nw3 nw4 nw5 nw6 nw7 : Nat} {sw0 sw1 sw2 sw3 sw4 sw5 sw6 sw7 : Array (Option Value)} {t0_0 t0_1 t0_2 t0_3 t1_0 t1_1 t1_2 t1_3 t2_0 t2_1 t2_2 t2_3 t3_0 t3_1 t3_2 t3_3 t4_0 t4_1 t4_2 t4_3 t5_0 t5_1 t5_2 t5_3 t6_0 t6_1 t6_2 t6_3 t7_0 t7_1 t7_2 t7_3 : Tok}
    (lw0 : K.lookup w0 = some ⟨.type "tuple", ow0, .seq #[.int 1 t0_0, .int 0 t0_1, .int 0 t0_2, .int 1 t0_3] nw0, sw0⟩)
    (lw1 : K.lookup w1 = some ⟨.type "tuple", ow1, .seq #[.int 0 t1_0, .int (-1) t1_1, .int 1 t1_2, .int 0 t1_3] nw1, sw1⟩)
    (lw2 : K.lookup w2 = some ⟨.type "tuple", ow2, .seq #[.int (-1) t2_0, .int 0 t2_1, .int 0 t2_2, .int (-1) t2_3] nw2, sw2⟩)
    (lw3 : K.lookup w3 = some ⟨.type "tuple", ow3, .seq #[.int 0 t3_0, .int 1 t3_1, .int (-1) t3_2, .int 0 t3_3] nw3, sw3⟩)
    (lw4 : K.lookup w4 = some ⟨.type "tuple", ow4, .seq #[.int (-1) t4_0, .int 0 t4_1, .int 0 t4_2, .int 1 t4_3] nw4, sw4⟩)
    (lw5 : K.lookup w5 = some ⟨.type "tuple", ow5, .seq #[.int 1 t5_0, .int 0 t5_1, .int 0 t5_2, .int (-1) t5_3] nw5, sw5⟩)
    (lw6 : K.lookup w6 = some ⟨.type "tuple", ow6, .seq #[.int 0 t6_0, .int 1 t6_1, .int 1 t6_2, .int 0 t6_3] nw6, sw6⟩)
    (lw7 : K.lookup w7 = some ⟨.type "tuple", ow7, .seq #[.int 0 t7_0, .int (-1) t7_1, .int (-1) t7_2, .int 0 t7_3] nw7, sw7⟩)
    (H : Hp) (i : Nat) (hi : i < 8) : SqT K H (([w0, w1, w2, w3, w4, w5, w6, w7] : List Addr).getD i 0) (wayV i) := by
  have q : i = 0 ∨ i = 1 ∨ i = 2 ∨ i = 3 ∨ i = 4 ∨ i = 5 ∨ i = 6 ∨ i = 7 := by omega
  rcases q with rfl | rfl | rfl | rfl | rfl | rfl | rfl | rfl
  · exact vals4 lw0 H
  · exact vals4 lw1 H
  · exact vals4 lw2 H
  · exact vals4 lw3 H
  · exact vals4 lw4 H
  · exact vals4 lw5 H
  · exact vals4 lw6 H
  · exact vals4 lw7 H
theorem all_mk {P : Program} {w : World} {K : PySem.W.Frag} {h : Heap} {mg : Str → Option Value} {fa W w0 w1 w2 w3 w4 w5 w6 w7 f_turned f_moved f_number_in f_image f_movements f_ways_of f_rounds f_power f_count_patterns f_count : Addr} (X : K.In h) (G : h.Ns mainGlobals mg) (hfa : mg "count" = some (.ref fa))
    {odW ow0 ow1 ow2 ow3 ow4 ow5 ow6 ow7 od_turned an_turned od_moved an_moved od_number_in an_number_in od_image an_image od_movements an_movements od_ways_of an_ways_of od_rounds an_rounds od_power an_power od_count_patterns an_count_patterns od_count an_count : Option Addr} {slW sw0 sw1 sw2 sw3 sw4 sw5 sw6 sw7 sl_turned sl_moved sl_number_in sl_image sl_movements sl_ways_of sl_rounds sl_power sl_count_patterns sl_count : Array (Option Value)} {nW nw0 nw1 nw2 nw3 nw4 nw5 nw6 nw7 : Nat} {t0_0 t0_1 t0_2 t0_3 t1_0 t1_1 t1_2 t1_3 t2_0 t2_1 t2_2 t2_3 t3_0 t3_1 t3_2 t3_3 t4_0 t4_1 t4_2 t4_3 t5_0 t5_1 t5_2 t5_3 t6_0 t6_1 t6_2 t6_3 t7_0 t7_1 t7_2 t7_3 t_TURNED_OVER t_MANY t_OUT t_TOO_LONG t_MOST_WHAT t_MOST_COUNTED t_MOST_COLOURS : Tok}
    {oc_turned kV_turned dc_turned pm_turned cd_turned ct_turned oc_moved kV_moved dc_moved pm_moved cd_moved ct_moved oc_number_in kV_number_in dc_number_in pm_number_in cd_number_in ct_number_in oc_image kV_image dc_image pm_image cd_image ct_image oc_movements kV_movements dc_movements pm_movements cd_movements ct_movements oc_ways_of kV_ways_of dc_ways_of pm_ways_of cd_ways_of ct_ways_of oc_rounds kV_rounds dc_rounds pm_rounds cd_rounds ct_rounds oc_power kV_power dc_power pm_power cd_power ct_power oc_count_patterns kV_count_patterns dc_count_patterns pm_count_patterns cd_count_patterns ct_count_patterns oc_count kV_count dc_count pm_count cd_count ct_count : Value}
    (aWAYS : PySem.W.nsIn K mainGlobals "WAYS" = some (some (.ref W)))
    (lW : K.lookup W = some ⟨.type "tuple", odW, .seq #[.ref w0, .ref w1, .ref w2, .ref w3, .ref w4, .ref w5, .ref w6, .ref w7] nW, slW⟩)
    (lw0 : K.lookup w0 = some ⟨.type "tuple", ow0, .seq #[.int 1 t0_0, .int 0 t0_1, .int 0 t0_2, .int 1 t0_3] nw0, sw0⟩)
    (lw1 : K.lookup w1 = some ⟨.type "tuple", ow1, .seq #[.int 0 t1_0, .int (-1) t1_1, .int 1 t1_2, .int 0 t1_3] nw1, sw1⟩)
    (lw2 : K.lookup w2 = some ⟨.type "tuple", ow2, .seq #[.int (-1) t2_0, .int 0 t2_1, .int 0 t2_2, .int (-1) t2_3] nw2, sw2⟩)
    (lw3 : K.lookup w3 = some ⟨.type "tuple", ow3, .seq #[.int 0 t3_0, .int 1 t3_1, .int (-1) t3_2, .int 0 t3_3] nw3, sw3⟩)
    (lw4 : K.lookup w4 = some ⟨.type "tuple", ow4, .seq #[.int (-1) t4_0, .int 0 t4_1, .int 0 t4_2, .int 1 t4_3] nw4, sw4⟩)
    (lw5 : K.lookup w5 = some ⟨.type "tuple", ow5, .seq #[.int 1 t5_0, .int 0 t5_1, .int 0 t5_2, .int (-1) t5_3] nw5, sw5⟩)
    (lw6 : K.lookup w6 = some ⟨.type "tuple", ow6, .seq #[.int 0 t6_0, .int 1 t6_1, .int 1 t6_2, .int 0 t6_3] nw6, sw6⟩)
    (lw7 : K.lookup w7 = some ⟨.type "tuple", ow7, .seq #[.int 0 t7_0, .int (-1) t7_1, .int (-1) t7_2, .int 0 t7_3] nw7, sw7⟩)
    (a_turned : PySem.W.nsIn K mainGlobals "turned" = some (some (.ref f_turned)))
    (l_turned : K.lookup f_turned = some ⟨oc_turned, od_turned, .func (PySem.W.fnOf "turned" "turned" (defArgs sTurned) (defBody sTurned) (defScope sTurned) .none kV_turned dc_turned pm_turned an_turned cd_turned ct_turned), sl_turned⟩)
    (c_turned : PySem.W.codeIn K cd_turned "turned" = true)
    (k_turned : PySem.W.keepIn K (.ref f_turned) = true)
    (a_moved : PySem.W.nsIn K mainGlobals "moved" = some (some (.ref f_moved)))
    (l_moved : K.lookup f_moved = some ⟨oc_moved, od_moved, .func (PySem.W.fnOf "moved" "moved" (defArgs sMoved) (defBody sMoved) (defScope sMoved) .none kV_moved dc_moved pm_moved an_moved cd_moved ct_moved), sl_moved⟩)
    (c_moved : PySem.W.codeIn K cd_moved "moved" = true)
    (k_moved : PySem.W.keepIn K (.ref f_moved) = true)
    (a_number_in : PySem.W.nsIn K mainGlobals "number_in" = some (some (.ref f_number_in)))
    (l_number_in : K.lookup f_number_in = some ⟨oc_number_in, od_number_in, .func (PySem.W.fnOf "number_in" "number_in" (defArgs sNum) (defBody sNum) (defScope sNum) .none kV_number_in dc_number_in pm_number_in an_number_in cd_number_in ct_number_in), sl_number_in⟩)
    (c_number_in : PySem.W.codeIn K cd_number_in "number_in" = true)
    (k_number_in : PySem.W.keepIn K (.ref f_number_in) = true)
    (a_image : PySem.W.nsIn K mainGlobals "image" = some (some (.ref f_image)))
    (l_image : K.lookup f_image = some ⟨oc_image, od_image, .func (PySem.W.fnOf "image" "image" (defArgs sImage) (defBody sImage) (defScope sImage) .none kV_image dc_image pm_image an_image cd_image ct_image), sl_image⟩)
    (c_image : PySem.W.codeIn K cd_image "image" = true)
    (k_image : PySem.W.keepIn K (.ref f_image) = true)
    (a_movements : PySem.W.nsIn K mainGlobals "movements" = some (some (.ref f_movements)))
    (l_movements : K.lookup f_movements = some ⟨oc_movements, od_movements, .func (PySem.W.fnOf "movements" "movements" (defArgs sMvs) (defBody sMvs) (defScope sMvs) .none kV_movements dc_movements pm_movements an_movements cd_movements ct_movements), sl_movements⟩)
    (c_movements : PySem.W.codeIn K cd_movements "movements" = true)
    (k_movements : PySem.W.keepIn K (.ref f_movements) = true)
    (a_ways_of : PySem.W.nsIn K mainGlobals "ways_of" = some (some (.ref f_ways_of)))
    (l_ways_of : K.lookup f_ways_of = some ⟨oc_ways_of, od_ways_of, .func (PySem.W.fnOf "ways_of" "ways_of" (defArgs sWaysOf) (defBody sWaysOf) (defScope sWaysOf) .none kV_ways_of dc_ways_of pm_ways_of an_ways_of cd_ways_of ct_ways_of), sl_ways_of⟩)
    (c_ways_of : PySem.W.codeIn K cd_ways_of "ways_of" = true)
    (k_ways_of : PySem.W.keepIn K (.ref f_ways_of) = true)
    (a_rounds : PySem.W.nsIn K mainGlobals "rounds" = some (some (.ref f_rounds)))
    (l_rounds : K.lookup f_rounds = some ⟨oc_rounds, od_rounds, .func (PySem.W.fnOf "rounds" "rounds" (defArgs sRounds) (defBody sRounds) (defScope sRounds) .none kV_rounds dc_rounds pm_rounds an_rounds cd_rounds ct_rounds), sl_rounds⟩)
    (c_rounds : PySem.W.codeIn K cd_rounds "rounds" = true)
    (k_rounds : PySem.W.keepIn K (.ref f_rounds) = true)
    (a_power : PySem.W.nsIn K mainGlobals "power" = some (some (.ref f_power)))
    (l_power : K.lookup f_power = some ⟨oc_power, od_power, .func (PySem.W.fnOf "power" "power" (defArgs sPower) (defBody sPower) (defScope sPower) .none kV_power dc_power pm_power an_power cd_power ct_power), sl_power⟩)
    (c_power : PySem.W.codeIn K cd_power "power" = true)
    (k_power : PySem.W.keepIn K (.ref f_power) = true)
    (a_count_patterns : PySem.W.nsIn K mainGlobals "count_patterns" = some (some (.ref f_count_patterns)))
    (l_count_patterns : K.lookup f_count_patterns = some ⟨oc_count_patterns, od_count_patterns, .func (PySem.W.fnOf "count_patterns" "count_patterns" (defArgs sCountPat) (defBody sCountPat) (defScope sCountPat) .none kV_count_patterns dc_count_patterns pm_count_patterns an_count_patterns cd_count_patterns ct_count_patterns), sl_count_patterns⟩)
    (c_count_patterns : PySem.W.codeIn K cd_count_patterns "count_patterns" = true)
    (k_count_patterns : PySem.W.keepIn K (.ref f_count_patterns) = true)
    (a_count : PySem.W.nsIn K mainGlobals "count" = some (some (.ref f_count)))
    (l_count : K.lookup f_count = some ⟨oc_count, od_count, .func (PySem.W.fnOf "count" "count" (defArgs sCount) (defBody sCount) (defScope sCount) .none kV_count dc_count pm_count an_count cd_count ct_count), sl_count⟩)
    (c_count : PySem.W.codeIn K cd_count "count" = true)
    (k_count : PySem.W.keepIn K (.ref f_count) = true)
    (n_range : PySem.W.nsIn K mainGlobals "range" = some none)
    (n_list : PySem.W.nsIn K mainGlobals "list" = some none)
    (n_len : PySem.W.nsIn K mainGlobals "len" = some none)
    (n_str : PySem.W.nsIn K mainGlobals "str" = some none)
    (n_ord : PySem.W.nsIn K mainGlobals "ord" = some none)
    (v_TURNED_OVER : PySem.W.nsIn K mainGlobals "TURNED_OVER" = some (some (.int 4 t_TURNED_OVER)))
    (v_MANY : PySem.W.nsIn K mainGlobals "MANY" = some (some (.int 8 t_MANY)))
    (v_OUT : PySem.W.nsIn K mainGlobals "OUT" = some (some (.int (-2) t_OUT)))
    (v_TOO_LONG : PySem.W.nsIn K mainGlobals "TOO_LONG" = some (some (.int (-1) t_TOO_LONG)))
    (v_MOST_WHAT : PySem.W.nsIn K mainGlobals "MOST_WHAT" = some (some (.int 2 t_MOST_WHAT)))
    (v_MOST_COUNTED : PySem.W.nsIn K mainGlobals "MOST_COUNTED" = some (some (.int 8 t_MOST_COUNTED)))
    (v_MOST_COLOURS : PySem.W.nsIn K mainGlobals "MOST_COLOURS" = some (some (.int 10 t_MOST_COLOURS)))
    : ∃ fd : FuncData, (∀ (s : Shared) (us : List Value), us.length = (["n", "colours", "what", "most"] : List Str).length → BindsTo s fd ⟨us, []⟩ ((["n", "colours", "what", "most"] : List Str).zip us)) ∧ ∀ base : Heap, K.In base → base.Ns mainGlobals mg → FnOk P w K mg base CX0 5 fa fd ["n", "colours", "what", "most"] (spCount) := by
  have e := hfa.symm.trans (PySem.W.mg_of X G a_count)
  cases e
  have g_WAYS := PySem.W.mg_of X G aWAYS
  have F_turned := fun_mk (st := sTurned) l_turned c_turned k_turned
  have g_turned := PySem.W.mg_of X G a_turned
  have b_turned := F_turned.binds (ps := ["way", "x", "y"]) fun _ _ _ _ _ _ us hl => match us, hl with | [_, _, _], _ => rfl
  have F_moved := fun_mk (st := sMoved) l_moved c_moved k_moved
  have g_moved := PySem.W.mg_of X G a_moved
  have b_moved := F_moved.binds (ps := ["movement", "x", "y"]) fun _ _ _ _ _ _ us hl => match us, hl with | [_, _, _], _ => rfl
  have F_number_in := fun_mk (st := sNum) l_number_in c_number_in k_number_in
  have g_number_in := PySem.W.mg_of X G a_number_in
  have b_number_in := F_number_in.binds (ps := ["n", "x", "y"]) fun _ _ _ _ _ _ us hl => match us, hl with | [_, _, _], _ => rfl
  have F_image := fun_mk (st := sImage) l_image c_image k_image
  have g_image := PySem.W.mg_of X G a_image
  have b_image := F_image.binds (ps := ["n", "movement"]) fun _ _ _ _ _ _ us hl => match us, hl with | [_, _], _ => rfl
  have F_movements := fun_mk (st := sMvs) l_movements c_movements k_movements
  have g_movements := PySem.W.mg_of X G a_movements
  have b_movements := F_movements.binds (ps := ["n", "ways"]) fun _ _ _ _ _ _ us hl => match us, hl with | [_, _], _ => rfl
  have F_ways_of := fun_mk (st := sWaysOf) l_ways_of c_ways_of k_ways_of
  have g_ways_of := PySem.W.mg_of X G a_ways_of
  have b_ways_of := F_ways_of.binds (ps := ["what"]) fun _ _ _ _ _ _ us hl => match us, hl with | [_], _ => rfl
  have F_rounds := fun_mk (st := sRounds) l_rounds c_rounds k_rounds
  have g_rounds := PySem.W.mg_of X G a_rounds
  have b_rounds := F_rounds.binds (ps := ["row"]) fun _ _ _ _ _ _ us hl => match us, hl with | [_], _ => rfl
  have F_power := fun_mk (st := sPower) l_power c_power k_power
  have g_power := PySem.W.mg_of X G a_power
  have b_power := F_power.binds (ps := ["base", "many"]) fun _ _ _ _ _ _ us hl => match us, hl with | [_, _], _ => rfl
  have F_count_patterns := fun_mk (st := sCountPat) l_count_patterns c_count_patterns k_count_patterns
  have g_count_patterns := PySem.W.mg_of X G a_count_patterns
  have b_count_patterns := F_count_patterns.binds (ps := ["n", "colours", "what"]) fun _ _ _ _ _ _ us hl => match us, hl with | [_, _, _], _ => rfl
  have F_count := fun_mk (st := sCount) l_count c_count k_count
  have g_count := PySem.W.mg_of X G a_count
  have b_count := F_count.binds (ps := ["n", "colours", "what", "most"]) fun _ _ _ _ _ _ us hl => match us, hl with | [_, _, _, _], _ => rfl
  have z_range := PySem.W.mg_none_of X G n_range
  have z_list := PySem.W.mg_none_of X G n_list
  have z_len := PySem.W.mg_none_of X G n_len
  have z_str := PySem.W.mg_none_of X G n_str
  have z_ord := PySem.W.mg_none_of X G n_ord
  have g_TURNED_OVER := PySem.W.mg_of X G v_TURNED_OVER
  have g_MANY := PySem.W.mg_of X G v_MANY
  have g_OUT := PySem.W.mg_of X G v_OUT
  have g_TOO_LONG := PySem.W.mg_of X G v_TOO_LONG
  have g_MOST_WHAT := PySem.W.mg_of X G v_MOST_WHAT
  have g_MOST_COUNTED := PySem.W.mg_of X G v_MOST_COUNTED
  have g_MOST_COLOURS := PySem.W.mg_of X G v_MOST_COLOURS
  refine ⟨PySem.W.fnOf "count" "count" (defArgs sCount) (defBody sCount) (defScope sCount) .none kV_count dc_count pm_count an_count cd_count ct_count, fun s us hu => match us, hu with | [_, _, _, _], _ => .of_eq rfl, fun base _ _ => ?_⟩
  let ws : List Addr := [w0, w1, w2, w3, w4, w5, w6, w7]
  have TW : TxW K mg W (fun i => ws.getD i 0) := ⟨g_WAYS, ways_at lW, ways_in lw0 lw1 lw2 lw3 lw4 lw5 lw6 lw7, z_range⟩
  have Gturned : FnOk P w K mg base CX0 1 f_turned _ ["way", "x", "y"] spTurned := ok_turned F_turned TW
  have Gmoved : FnOk P w K mg base CX0 2 f_moved _ ["movement", "x", "y"] (spMoved K) := ok_moved F_moved Gturned g_turned F_turned.kp b_turned
  have Gnum : FnOk P w K mg base CX0 1 f_number_in _ ["n", "x", "y"] spNum := ok_num F_number_in
  have Gimage : FnOk P w K mg base CX0 3 f_image _ ["n", "movement"] (spImage K) := ok_image F_image TW Gmoved g_moved F_moved.kp b_moved Gnum g_number_in F_number_in.kp b_number_in
  have Gmvs : FnOk P w K mg base CX0 1 f_movements _ ["n", "ways"] (spMvs K) := ok_mvs F_movements TW
  have TN : TxN K mg := ⟨⟨_, g_TURNED_OVER⟩, ⟨_, g_MANY⟩, ⟨_, g_OUT⟩, ⟨_, g_TOO_LONG⟩, ⟨_, g_MOST_WHAT⟩, ⟨_, g_MOST_COUNTED⟩, ⟨_, g_MOST_COLOURS⟩, z_list, z_len, z_str, z_ord⟩
  have Gwo : FnOk P w K mg base CX0 1 f_ways_of _ ["what"] spWaysOf := ok_waysOf F_ways_of TW TN.ov TN.many z_list
  have Gro : FnOk P w K mg base CX0 1 f_rounds _ ["row"] (spRounds K) := ok_rounds F_rounds TW TN
  have Gpo : FnOk P w K mg base CX0 1 f_power _ ["base", "many"] spPower := ok_power F_power TW
  have Gcp : FnOk P w K mg base CX0 4 f_count_patterns _ ["n", "colours", "what"] spCountPat := ok_countPat F_count_patterns TN Gmvs g_movements F_movements.kp b_movements Gwo g_ways_of F_ways_of.kp b_ways_of Gpo g_power F_power.kp b_power Gro g_rounds F_rounds.kp b_rounds Gimage g_image F_image.kp b_image
  exact ok_count F_count TN Gcp g_count_patterns F_count_patterns.kp b_count_patterns
end Pl
open PySem PySem.W PyProof.Rows
set_option maxRecDepth 100000 in
set_option maxHeartbeats 8000000 in
theorem PySem.Challenge.cw_planerepeats_s05_count_holds : PySem.Challenge.rw_planerepeats_s05_count.Holds := by
  w_on; k_headS; (case hw => exact ⟨[.int 0, .int 0, .int 0, .int 0], by decide +kernel, by decide +kernel⟩)
  k_fillS
  refine L2.walk_specK (r := PySem.Challenge.rw_planerepeats_s05_count) (k := 5) (CX := L2.CX0) (ps := ["n", "colours", "what", "most"]) (sp := fun _ => Pl.spCount) (by decide +kernel) rfl rfl ⟨rfl, by decide, by decide⟩ (fun w h Y => PySem.W.kIn_of Y) ?F ?S (fun _ _ _ _ z => z)
  case F =>
    intro w mg fa h Y KX G hmg
    refine' Pl.all_mk KX G hmg ?aWAYS ?lW ?lw0 ?lw1 ?lw2 ?lw3 ?lw4 ?lw5 ?lw6 ?lw7 ?a_turned ?l_turned ?c_turned ?k_turned ?a_moved ?l_moved ?c_moved ?k_moved ?a_number_in ?l_number_in ?c_number_in ?k_number_in ?a_image ?l_image ?c_image ?k_image ?a_movements ?l_movements ?c_movements ?k_movements ?a_ways_of ?l_ways_of ?c_ways_of ?k_ways_of ?a_rounds ?l_rounds ?c_rounds ?k_rounds ?a_power ?l_power ?c_power ?k_power ?a_count_patterns ?l_count_patterns ?c_count_patterns ?k_count_patterns ?a_count ?l_count ?c_count ?k_count ?n_range ?n_list ?n_len ?n_str ?n_ord ?v_TURNED_OVER ?v_MANY ?v_OUT ?v_TOO_LONG ?v_MOST_WHAT ?v_MOST_COUNTED ?v_MOST_COLOURS
    (case aWAYS => k_is)
    (case lW => k_is)
    (case lw0 => k_is)
    (case lw1 => k_is)
    (case lw2 => k_is)
    (case lw3 => k_is)
    (case lw4 => k_is)
    (case lw5 => k_is)
    (case lw6 => k_is)
    (case lw7 => k_is)
    (case a_turned => k_is)
    (case l_turned => k_is)
    (case c_turned => k_is)
    (case k_turned => k_is)
    (case a_moved => k_is)
    (case l_moved => k_is)
    (case c_moved => k_is)
    (case k_moved => k_is)
    (case a_number_in => k_is)
    (case l_number_in => k_is)
    (case c_number_in => k_is)
    (case k_number_in => k_is)
    (case a_image => k_is)
    (case l_image => k_is)
    (case c_image => k_is)
    (case k_image => k_is)
    (case a_movements => k_is)
    (case l_movements => k_is)
    (case c_movements => k_is)
    (case k_movements => k_is)
    (case a_ways_of => k_is)
    (case l_ways_of => k_is)
    (case c_ways_of => k_is)
    (case k_ways_of => k_is)
    (case a_rounds => k_is)
    (case l_rounds => k_is)
    (case c_rounds => k_is)
    (case k_rounds => k_is)
    (case a_power => k_is)
    (case l_power => k_is)
    (case c_power => k_is)
    (case k_power => k_is)
    (case a_count_patterns => k_is)
    (case l_count_patterns => k_is)
    (case c_count_patterns => k_is)
    (case k_count_patterns => k_is)
    (case a_count => k_is)
    (case l_count => k_is)
    (case c_count => k_is)
    (case k_count => k_is)
    (case n_range => k_is)
    (case n_list => k_is)
    (case n_len => k_is)
    (case n_str => k_is)
    (case n_ord => k_is)
    (case v_TURNED_OVER => k_is)
    (case v_MANY => k_is)
    (case v_OUT => k_is)
    (case v_TOO_LONG => k_is)
    (case v_MOST_WHAT => k_is)
    (case v_MOST_COUNTED => k_is)
    (case v_MOST_COLOURS => k_is)
  case S =>
    intro K H xs a hO hwi hask hx
    obtain ⟨z, k, w, most, u⟩ := a
    cases hx with
    | cons h1 h2 =>
      cases h2 with
      | cons h2 h3 =>
        cases h3 with
        | cons h3 h4 =>
          cases h4 with
          | cons h4 h5 =>
            cases h5
            cases h1
            cases h2
            cases h3
            cases h4
            exact ⟨z, k, w, most, rfl, fun H' p hp => .lst (L2.SqL.of hp) (L2.dw_ints _)⟩
#print axioms PySem.Challenge.cw_planerepeats_s05_count_holds
