import PyProof.Rows.All
import Wide.All
import OpenK.AllK
import Wide.FinOn
import Open.SpecLaws
import KE.OsGo
import HandS.ForSpec
import HandS.Comp
import HandS.Dict
import HandS.Iter
import HandS.Conv
import HandS.WordsDict
import HandS.Walk
import HandS.Sort
import HandS.SortOrd
import PySem.Challenge.RW_planerepeats_s04_least
set_option Elab.async false
set_option maxRecDepth 100000
set_option maxHeartbeats 4000000
/-! ### the text by places -/
namespace Pl
open PySem PySem.Spec PyProof.Rows L2
def top (i : Nat) : Stmt := PySem.Challenge.pw_planerepeats_s04_least.main.body.getD i (.Pass ⟨0, 0, 0, 0⟩)
abbrev sTurned : Stmt := top 5
abbrev sMoved : Stmt := top 6
abbrev sNum : Stmt := top 7
abbrev sImage : Stmt := top 8
abbrev sMvs : Stmt := top 9
abbrev sWaysOf : Stmt := top 10
abbrev sInit : Stmt := inClass (top 11) 0
abbrev sLeaves : Stmt := inClass (top 11) 1
abbrev sSyms : Stmt := inClass (top 11) 3
abbrev sTaken : Stmt := inClass (top 11) 5
abbrev sMade : Stmt := top 13
abbrev sIsSide : Stmt := top 18
abbrev sLeast : Stmt := top 19
end Pl
namespace Pl
open Sa48 Sa48Neutral
/-! ### places by their numbers -/
/-- the number of a place of the square, for any place -/
def num (n : Nat) (x y : Int) : Nat := (y % (n : Int)).toNat * n + (x % (n : Int)).toNat
/-- the number of the place to which a movement takes the place numbered k -/
def pl (n a : Nat) (u v : Int) (k : Nat) : Nat := num n ((turned a ((k % n : Nat) : Int) ((k / n : Nat) : Int)).1 + u) ((turned a ((k % n : Nat) : Int) ((k / n : Nat) : Int)).2 + v)
theorem place_pl (p : Pat) (a : Nat) (u v : Int) (k : Nat) : place p a u v k = pl p.n a u v k := rfl
theorem at_num (p : Pat) (x y : Int) : p.at_ x y = p.c.getD (num p.n x y) 0 := rfl
theorem num_lt {n : Nat} (hn : 0 < n) (x y : Int) : num n x y < n * n := by
  have h1 := Int.emod_nonneg x (show (n : Int) ≠ 0 by omega)
  have h2 := Int.emod_lt_of_pos x (show (0 : Int) < n by omega)
  have h3 := Int.emod_nonneg y (show (n : Int) ≠ 0 by omega)
  have h4 := Int.emod_lt_of_pos y (show (0 : Int) < n by omega)
  have hx : (x % (n : Int)).toNat < n := by omega
  have hy : (y % (n : Int)).toNat + 1 ≤ n := by omega
  have hm := Nat.mul_le_mul_right n hy
  rw [Nat.add_mul, Nat.one_mul] at hm
  unfold num
  omega
theorem pl_lt {n : Nat} (hn : 0 < n) (a : Nat) (u v : Int) (k : Nat) : pl n a u v k < n * n := num_lt hn _ _
theorem num_nat {n x y : Nat} (hx : x < n) (hy : y < n) : num n (x : Int) (y : Int) = y * n + x := by
  unfold num
  rw [Int.emod_eq_of_lt (by omega) (by omega), Int.emod_eq_of_lt (by omega) (by omega)]
  rfl
theorem num_self {n k : Nat} (hk : k < n * n) : num n ((k % n : Nat) : Int) ((k / n : Nat) : Int) = k := by
  have hn : 0 < n := by
    rcases Nat.eq_zero_or_pos n with h | h
    · subst h; simp at hk
    · exact h
  rw [num_nat (Nat.mod_lt _ hn) (Nat.div_lt_of_lt_mul hk), Nat.mul_comm]
  exact Nat.div_add_mod k n
theorem num_mod (n : Nat) (x y x' y' : Int) (h1 : x % (n : Int) = x' % (n : Int)) (h2 : y % (n : Int) = y' % (n : Int)) : num n x y = num n x' y' := by
  unfold num
  rw [h1, h2]
theorem pl_congr (n a : Nat) (u v u' v' : Int) (k : Nat) (h1 : u % (n : Int) = u' % (n : Int)) (h2 : v % (n : Int) = v' % (n : Int)) : pl n a u v k = pl n a u' v' k := by
  unfold pl
  refine num_mod n _ _ _ _ ?_ ?_
  · rw [Int.add_emod, h1, ← Int.add_emod]
  · rw [Int.add_emod, h2, ← Int.add_emod]
theorem pl_mod (n a : Nat) (u v : Int) (k : Nat) : pl n a (u % (n : Int)) (v % (n : Int)) k = pl n a u v k :=
  pl_congr n a _ _ _ _ k (Int.emod_emod_of_dvd _ (Int.dvd_refl _)) (Int.emod_emod_of_dvd _ (Int.dvd_refl _))
/-! ### symmetries by numbers -/
theorem mem_rg {n : Nat} {z : Int} : z ∈ rg n ↔ ∃ i : Nat, i < n ∧ z = (i : Int) := by
  unfold rg
  rw [List.mem_map]
  constructor
  · rintro ⟨i, h, rfl⟩
    exact ⟨i, List.mem_range.mp h, rfl⟩
  · rintro ⟨i, h, rfl⟩
    exact ⟨i, List.mem_range.mpr h, rfl⟩
/-- each place and where it's taken have one colour, by numbers -/
def symL (c : List Nat) (n a : Nat) (u v : Int) : Bool := (List.range (n * n)).all fun k => c.getD (pl n a u v k) 0 == c.getD k 0
theorem symL_iff {c : List Nat} {n a : Nat} {u v : Int} : symL c n a u v = true ↔ ∀ k, k < n * n → c.getD (pl n a u v k) 0 = c.getD k 0 := by
  unfold symL
  rw [List.all_eq_true]
  constructor
  · intro h k hk
    exact eq_of_beq (h k (List.mem_range.mpr hk))
  · intro h k hk
    exact beq_iff_eq.mpr (h k (List.mem_range.mp hk))
theorem sym_iff {p : Pat} {a : Nat} {u v : Int} : sym p a u v = true ↔ ∀ x y : Nat, x < p.n → y < p.n → p.at_ ((turned a x y).1 + u) ((turned a x y).2 + v) = p.at_ x y := by
  unfold sym
  rw [List.all_eq_true]
  constructor
  · intro h x y hx hy
    have q := List.all_eq_true.mp (h x (mem_rg.mpr ⟨x, hx, rfl⟩)) y (mem_rg.mpr ⟨y, hy, rfl⟩)
    exact eq_of_beq q
  · intro h x hx
    obtain ⟨i, hi, rfl⟩ := mem_rg.mp hx
    refine List.all_eq_true.mpr fun y hy => ?_
    obtain ⟨j, hj, rfl⟩ := mem_rg.mp hy
    exact beq_iff_eq.mpr (h i j hi hj)
theorem sym_symL (p : Pat) (a : Nat) (u v : Int) : sym p a u v = symL p.c p.n a u v := by
  rw [Bool.eq_iff_iff, sym_iff, symL_iff]
  constructor
  · intro h k hk
    have hn : 0 < p.n := by
      rcases Nat.eq_zero_or_pos p.n with h | h
      · rw [h] at hk; simp at hk
      · exact h
    have q := h (k % p.n) (k / p.n) (Nat.mod_lt _ hn) (Nat.div_lt_of_lt_mul hk)
    rw [at_num, at_num, num_self hk] at q
    exact q
  · intro h x y hx hy
    have hk : y * p.n + x < p.n * p.n := by
      have hm := Nat.mul_le_mul_right p.n (show y + 1 ≤ p.n from hy)
      rw [Nat.add_mul, Nat.one_mul] at hm
      omega
    have q := h _ hk
    have e1 : (y * p.n + x) % p.n = x := by
      rw [Nat.add_comm, Nat.add_mul_mod_self_right]
      exact Nat.mod_eq_of_lt hx
    have e2 : (y * p.n + x) / p.n = y := by
      rw [Nat.add_comm, Nat.add_mul_div_right _ _ (by omega), Nat.div_eq_of_lt hx, Nat.zero_add]
    unfold pl at q
    rw [e1, e2] at q
    rw [at_num, at_num, num_nat hx hy]
    exact q
theorem symL_congr {c : List Nat} {n a : Nat} {u v u' v' : Int} (h1 : u % (n : Int) = u' % (n : Int)) (h2 : v % (n : Int) = v' % (n : Int)) : symL c n a u v = symL c n a u' v' := by
  unfold symL
  have e : (fun k => c.getD (pl n a u v k) 0 == c.getD k 0) = fun k => c.getD (pl n a u' v' k) 0 == c.getD k 0 := by
    funext k
    rw [pl_congr n a u v u' v' k h1 h2]
  rw [e]
theorem symL_mod (c : List Nat) (n a : Nat) (u v : Int) : symL c n a (u % (n : Int)) (v % (n : Int)) = symL c n a u v :=
  symL_congr (Int.emod_emod_of_dvd _ (Int.dvd_refl _)) (Int.emod_emod_of_dvd _ (Int.dvd_refl _))
end Pl
/-! ### heaps, short words -/
namespace Pl
open PySem PySem.Spec PyProof.Rows L2
theorem Same.upd {H H' : Hp} {p : Addr} {o : HO} (s : Same H H') (h : H p = none) : Same H (L2.upd H' p o) := fun b ob e => by
  rw [upd_ne (ne_of_none e h)]
  exact s b ob e
theorem Same.new {H : Hp} {p : Addr} {o : HO} (h : H p = none) : Same H (L2.upd H p o) := Same.upd (Same.refl H) h
theorem tup_same {K : PySem.W.Frag} {H H' : Hp} {a : Addr} {xs : List V} (e : Same H H') (h : SqT K H a xs) : SqT K H' a xs := by
  rcases h with (h | ⟨o, h⟩) | h
  · exact .inl (.inl (e _ _ h))
  · exact .inl (.inr ⟨o, e _ _ h⟩)
  · exact .inr h
/-- a part of a way, one more -/
theorem take_more {α : Type} : ∀ {l : List α} {i : Nat} {x : α}, l[i]? = some x → l.take (i + 1) = l.take i ++ [x]
  | [], i, x, h => by simp at h
  | a :: l, 0, x, h => by
    have e : a = x := Option.some.inj h
    subst e
    rfl
  | a :: l, i + 1, x, h => by
    have ih := take_more (l := l) (i := i) (x := x) h
    show a :: l.take (i + 1) = a :: l.take i ++ [x]
    rw [ih]
    rfl
theorem map_at {α β : Type} {f : α → β} {l : List α} {i : Nat} {y : β} (h : (l.map f)[i]? = some y) : ∃ z, l[i]? = some z ∧ y = f z := by
  rw [List.getElem?_map] at h
  cases e : l[i]? with
  | none =>
    rw [e] at h
    cases h
  | some z =>
    rw [e] at h
    exact ⟨z, rfl, (Option.some.inj h).symm⟩
/-! ### what the eight ways are -/
def wayC (a : Nat) : Int × Int × Int × Int := ([(1, 0, 0, 1), (0, -1, 1, 0), (-1, 0, 0, -1), (0, 1, -1, 0), (-1, 0, 0, 1), (1, 0, 0, -1), (0, 1, 1, 0), (0, -1, -1, 0)] : List (Int × Int × Int × Int)).getD a (0, 0, 0, 0)
def wayV (a : Nat) : List V := [.int (wayC a).1, .int (wayC a).2.1, .int (wayC a).2.2.1, .int (wayC a).2.2.2]
theorem way_small : ∀ a, a < 8 → ((-1 ≤ (wayC a).1 ∧ (wayC a).1 ≤ 1) ∧ (-1 ≤ (wayC a).2.1 ∧ (wayC a).2.1 ≤ 1) ∧ (-1 ≤ (wayC a).2.2.1 ∧ (wayC a).2.2.1 ≤ 1) ∧ (-1 ≤ (wayC a).2.2.2 ∧ (wayC a).2.2.2 ≤ 1)) := by decide
theorem way_turned {a : Nat} (h : a < 8) (x y : Int) : Sa48.turned a x y = ((wayC a).1 * x + (wayC a).2.1 * y, (wayC a).2.2.1 * x + (wayC a).2.2.2 * y) := by
  have q : a = 0 ∨ a = 1 ∨ a = 2 ∨ a = 3 ∨ a = 4 ∨ a = 5 ∨ a = 6 ∨ a = 7 := by omega
  rcases q with rfl | rfl | rfl | rfl | rfl | rfl | rfl | rfl <;> simp [Sa48.turned, wayC]
/-- what the top has written: the ways, the names of the first module -/
structure TxW (K : PySem.W.Frag) (mg : Str → Option Value) (W : Addr) (ws : Nat → Addr) : Prop where
  mgW : mg "WAYS" = some (.ref W)
  tW : ∀ H, SqT K H W ((List.range 8).map fun i => V.ref (ws i))
  tw : ∀ H i, i < 8 → SqT K H (ws i) (wayV i)
  range : mg "range" = none
/-! ### the promises -/
def spTurned : Sp := fun vs H Q _ => ∃ (a : Nat) (x y : Int), vs = [.int (a : Int), .int x, .int y] ∧ a < 8 ∧
  ∀ H' p, Same H H' → H p = none → H' p = some (.tup [.int (Sa48.turned a x y).1, .int (Sa48.turned a x y).2]) → Q (.ref p) H'
def spMoved (K : PySem.W.Frag) : Sp := fun vs H Q _ => ∃ (m : Addr) (a : Nat) (u v x y : Int), vs = [.ref m, .int x, .int y] ∧ SqT K H m [.int (a : Int), .int u, .int v] ∧ a < 8 ∧
  ∀ H' p, Same H H' → H p = none → H' p = some (.tup [.int ((Sa48.turned a x y).1 + u), .int ((Sa48.turned a x y).2 + v)]) → Q (.ref p) H'
def spNum : Sp := fun vs H Q _ => ∃ (n : Nat) (x y : Int), vs = [.int (n : Int), .int x, .int y] ∧ 0 < n ∧ n ≤ 64 ∧ Q (.int ((num n x y : Nat) : Int)) H
def spImage (K : PySem.W.Frag) : Sp := fun vs H Q _ => ∃ (m : Addr) (n a : Nat) (u v : Int), vs = [.int (n : Int), .ref m] ∧ SqT K H m [.int (a : Int), .int u, .int v] ∧ a < 8 ∧ 0 < n ∧ n ≤ 64 ∧
  ∀ H' p, Same H H' → H p = none → H' p = some (.lst ((List.range (n * n)).map fun k => V.int ((pl n a u v k : Nat) : Int))) → Q (.ref p) H'
section
variable {P : Program} {w : World} {K : PySem.W.Frag} {mg : Str → Option Value} {base : Heap} {W : Addr} {ws : Nat → Addr}
theorem scTurned : FnScope ["way", "x", "y", "a", "b", "c", "d"] ["way", "x", "y"] (defScope sTurned) := ⟨rfl, rfl, rfl, by decide +kernel, rfl, by decide +kernel, by decide +kernel⟩
theorem ok_turned {f : Addr} {fd : FuncData} (F : Fun K "turned" "turned" sTurned f fd) (T : TxW K mg W ws) : FnOk P w K mg base CX0 1 f fd ["way", "x", "y"] spTurned := by
  refine F.ok scTurned (fun vs H Q E h => ?_) (fun cdv A outer s H vs Q E hr h => ?_)
  · obtain ⟨a, x, y, rfl, _⟩ := h
    rfl
  · obtain ⟨a, x, y, rfl, ha, k⟩ := h
    have nd := scTurned.nd
    refine ⟨_, pss_cons (ps_asg (pe_ix ix_tup (pe_glob (v := .ref W) rfl T.mgW rfl) (pv 0) (fun _ _ => rfl)) (pg_tup rfl (pgs_cons (pg_name (i := 3) nd rfl (Or.inl rfl)) (pgs_cons (pg_name (i := 4) nd rfl (Or.inl rfl)) (pgs_cons (pg_name (i := 5) nd rfl (Or.inl rfl)) (pgs_cons (pg_name (i := 6) nd rfl (Or.inl rfl)) pgs_nil))))))
      (pss_one (ps_ret (pe_tup (pa_cons (pe_op op_add (pe_op op_mul (pv 3) (pv 1)) (pe_op op_mul (pv 4) (pv 2))) (pa_cons (pe_op op_add (pe_op op_mul (pv 5) (pv 1)) (pe_op op_mul (pv 6) (pv 2))) pa_nil))))), ?_⟩
    obtain ⟨⟨b1, b2⟩, ⟨b3, b4⟩, ⟨b5, b6⟩, b7, b8⟩ := way_small a ha
    have hw : ((List.range 8).map fun i => V.ref (ws i))[a]? = some (V.ref (ws a)) := by
      rw [List.getElem?_map, List.getElem?_range ha]
      rfl
    refine ⟨_, rfl, W, _, _, _, rfl, rfl, T.tW _, atI_nat hw, ws a, wayV a, rfl, T.tw _ a ha, rfl, _, _, rfl, _, _, rfl, _, _, rfl, _, _, rfl, rfl, ?_⟩
    refine ⟨_, rfl, _, rfl, _, _, rfl, rfl, .inl ⟨by omega, by omega⟩, _, rfl, _, rfl, _, _, rfl, rfl, .inl ⟨by omega, by omega⟩, _, _, rfl, rfl, ?_⟩
    refine ⟨_, rfl, _, rfl, _, _, rfl, rfl, .inl ⟨by omega, by omega⟩, _, rfl, _, rfl, _, _, rfl, rfl, .inl ⟨by omega, by omega⟩, _, _, rfl, rfl, (by show 2 ≤ sizeLine; decide), fun p hp => ?_⟩
    refine k _ p (Same.new hp) hp ?_
    rw [upd_same, way_turned ha]
theorem scMoved : FnScope ["movement", "x", "y", "way", "a", "b", "u", "v"] ["movement", "x", "y"] (defScope sMoved) := ⟨rfl, rfl, rfl, by decide +kernel, rfl, by decide +kernel, by decide +kernel⟩
theorem ok_moved {f f1 : Addr} {fd fd1 : FuncData} (F : Fun K "moved" "moved" sMoved f fd) (G : FnOk P w K mg base CX0 1 f1 fd1 ["way", "x", "y"] spTurned) (m1 : mg "turned" = some (.ref f1)) (k1 : PySem.W.keepIn K (.ref f1) = true) (b1 : Binds K fd1 ["way", "x", "y"] []) :
    FnOk P w K mg base CX0 2 f fd ["movement", "x", "y"] (spMoved K) := by
  refine F.ok scMoved (fun vs H Q E h => ?_) (fun cdv A outer s H vs Q E hr h => ?_)
  · obtain ⟨m, a, u, v, x, y, rfl, _⟩ := h
    rfl
  · obtain ⟨m, a, u, v, x, y, rfl, hm, ha, k⟩ := h
    have nd := scMoved.nd
    refine ⟨_, pss_cons (ps_asg (pv 0) (pg_tup rfl (pgs_cons (pg_name (i := 3) nd rfl (Or.inl rfl)) (pgs_cons (pg_name (i := 4) nd rfl (Or.inl rfl)) (pgs_cons (pg_name (i := 5) nd rfl (Or.inl rfl)) pgs_nil)))))
      (pss_cons (ps_asg (pe_call G hr rfl m1 k1 b1 .nil pass0 (pa_cons (pv 3) (pa_cons (pv 1) (pa_cons (pv 2) pa_nil)))) (pg_tup rfl (pgs_cons (pg_name (i := 6) nd rfl (Or.inl rfl)) (pgs_cons (pg_name (i := 7) nd rfl (Or.inl rfl)) pgs_nil))))
      (pss_one (ps_ret (pe_tup (pa_cons (pe_op op_add (pv 6) (pv 4)) (pa_cons (pe_op op_add (pv 7) (pv 5)) pa_nil)))))), ?_⟩
    refine ⟨_, rfl, m, _, rfl, hm, rfl, _, _, rfl, _, _, rfl, _, _, rfl, rfl, ?_⟩
    refine ⟨_, rfl, _, rfl, _, rfl, a, x, y, rfl, ha, fun H1 p1 s1 n1 e1 => ?_⟩
    refine ⟨p1, _, rfl, SqT.of e1, rfl, _, _, rfl, _, _, rfl, rfl, ?_⟩
    refine ⟨_, rfl, _, rfl, _, _, rfl, rfl, _, rfl, _, rfl, _, _, rfl, rfl, (by show 2 ≤ sizeLine; decide), fun p hp => ?_⟩
    exact k _ p (Same.upd s1 (s1.free hp)) (s1.free hp) upd_same
theorem scNum : FnScope ["n", "x", "y"] ["n", "x", "y"] (defScope sNum) := ⟨rfl, rfl, rfl, by decide +kernel, rfl, by decide +kernel, by decide +kernel⟩
theorem ok_num {f : Addr} {fd : FuncData} (F : Fun K "number_in" "number_in" sNum f fd) : FnOk P w K mg base CX0 1 f fd ["n", "x", "y"] spNum := by
  refine F.ok scNum (fun vs H Q E h => ?_) (fun cdv A outer s H vs Q E hr h => ?_)
  · obtain ⟨n, x, y, rfl, _⟩ := h
    rfl
  · obtain ⟨n, x, y, rfl, h0, h1, k⟩ := h
    refine ⟨_, pss_one (ps_ret (pe_op op_add (pe_op op_mul (pe_op op_mod (pv 2) (pv 0)) (pv 0)) (pe_op op_mod (pv 1) (pv 0)))), ?_⟩
    refine ⟨_, rfl, _, rfl, _, _, rfl, rfl, (by show (0 : Int) < (n : Int); omega), _, rfl, _, _, rfl, rfl, .inr ⟨by omega, by omega⟩, _, rfl, _, rfl, _, _, rfl, rfl, (by show (0 : Int) < (n : Int); omega), _, _, rfl, rfl, ?_⟩
    have e : y % (n : Int) * (n : Int) + x % (n : Int) = ((num n x y : Nat) : Int) := by
      have h1 := Int.emod_nonneg x (show (n : Int) ≠ 0 by omega)
      have h3 := Int.emod_nonneg y (show (n : Int) ≠ 0 by omega)
      unfold num
      rw [Int.natCast_add, Int.natCast_mul, Int.toNat_of_nonneg h1, Int.toNat_of_nonneg h3]
    show Q (.int (y % (n : Int) * (n : Int) + x % (n : Int))) H
    rw [e]
    exact k
theorem scImage : FnScope ["n", "movement", "found", "y", "x", "u", "v"] ["n", "movement"] (defScope sImage) := ⟨rfl, rfl, rfl, by decide +kernel, rfl, by decide +kernel, by decide +kernel⟩
theorem range_more {α : Type} (f : Nat → α) (k : Nat) : (List.range (k + 1)).map f = (List.range k).map f ++ [f k] := by
  rw [List.range_succ, List.map_append]
  rfl
theorem ok_image {f f1 f2 : Addr} {fd fd1 fd2 : FuncData} (F : Fun K "image" "image" sImage f fd) (T : TxW K mg W ws) (G1 : FnOk P w K mg base CX0 2 f1 fd1 ["movement", "x", "y"] (spMoved K)) (m1 : mg "moved" = some (.ref f1)) (k1 : PySem.W.keepIn K (.ref f1) = true) (b1 : Binds K fd1 ["movement", "x", "y"] [])
    (G2 : FnOk P w K mg base CX0 1 f2 fd2 ["n", "x", "y"] spNum) (m2 : mg "number_in" = some (.ref f2)) (k2 : PySem.W.keepIn K (.ref f2) = true) (b2 : Binds K fd2 ["n", "x", "y"] []) :
    FnOk P w K mg base CX0 3 f fd ["n", "movement"] (spImage K) := by
  refine F.ok scImage (fun vs H Q E h => ?_) (fun cdv A outer s H vs Q E hr h => ?_)
  · obtain ⟨m, n, a, u, v, rfl, _⟩ := h
    rfl
  · obtain ⟨m, n, a, u, v, rfl, hm, ha, h0, h64, k⟩ := h
    have nd := scImage.nd
    have hr1 : Room 1 _ := hr.mono (by decide)
    refine ⟨_, pss_cons (ps_set (i := 2) nd rfl (Or.inl rfl) (pe_lst pa_nil))
      (pss_cons (ps_for PassesOwn.never rfl (pi_range1 rfl T.range (pa_cons (pv 0) pa_nil)) (pg_name (i := 3) nd rfl (Or.inl rfl))
        (pss_one (ps_for PassesOwn.never rfl (pi_range1 rfl T.range (pa_cons (pv 0) pa_nil)) (pg_name (i := 4) nd rfl (Or.inl rfl))
          (pss_cons (ps_asg (pe_call G1 hr rfl m1 k1 b1 .nil pass0 (pa_cons (pv 1) (pa_cons (pv 4) (pa_cons (pv 3) pa_nil)))) (pg_tup rfl (pgs_cons (pg_name (i := 5) nd rfl (Or.inl rfl)) (pgs_cons (pg_name (i := 6) nd rfl (Or.inl rfl)) pgs_nil))))
          (pss_one (ps_expr (pe_bm PySem.F.plainAttrs_list PySem.F.slot_list_append PySem.F.type_list_append mt_append (pv 2) (pa_cons (pe_call G2 hr1 rfl m2 k2 b2 .nil pass0 (pa_cons (pv 0) (pa_cons (pv 5) (pa_cons (pv 6) pa_nil)))) pa_nil))))))))
      (pss_one (ps_ret (pv 2)))), ?_⟩
    have hsz : n * n ≤ 4096 := Nat.mul_le_mul h64 h64
    refine ⟨Nat.zero_le _, fun l hl => ?_⟩
    refine ⟨_, rfl, (n : Int), rfl, by omega, by omega, for_range (lo := 0) (n := n) (fun i σ H' => ∃ vy vx vu vv : Option V, σ = [some (.int (n : Int)), some (.ref m), some (.ref l), vy, vx, vu, vv] ∧ Same H H' ∧ H' l = some (.lst ((List.range (i * n)).map fun k => V.int ((pl n a u v k : Nat) : Int))))
      ⟨none, none, none, none, rfl, Same.new hl, by rw [upd_same, Nat.zero_mul]; rfl⟩ ?_ ?_⟩
    · rintro i σ H' hi ⟨vy, vx, vu, vv, rfl, s1, e1⟩
      refine ⟨_, rfl, (n : Int), rfl, by omega, by omega, for_range (lo := 0) (n := n) (fun j σ H' => ∃ vx vu vv : Option V, σ = [some (.int (n : Int)), some (.ref m), some (.ref l), some (.int (i : Int)), vx, vu, vv] ∧ Same H H' ∧ H' l = some (.lst ((List.range (i * n + j)).map fun k => V.int ((pl n a u v k : Nat) : Int))))
        ⟨vx, vu, vv, by rw [Int.zero_add]; rfl, s1, e1⟩ ?_ ?_⟩
      · rintro j σ H2 hj ⟨vx, vu, vv, rfl, s2, e2⟩
        have hk : i * n + j < n * n := by
          have hm := Nat.mul_le_mul_right n (show i + 1 ≤ n from hi)
          rw [Nat.add_mul, Nat.one_mul] at hm
          omega
        refine ⟨_, rfl, _, rfl, _, rfl, m, a, u, v, _, _, rfl, tup_same s2 hm, ha, fun H3 p s3 n3 e3 => ?_⟩
        refine ⟨p, _, rfl, SqT.of e3, rfl, _, _, rfl, _, _, rfl, rfl, ?_⟩
        have e2' := s3 _ _ e2
        refine ⟨_, rfl, .inl ⟨rfl, _, SqL.of e2'⟩, _, rfl, _, rfl, _, rfl, n, _, _, rfl, h0, h64, ?_⟩
        refine ⟨l, _, _, rfl, rfl, e2', (by rw [List.length_map, List.length_range]; exact Nat.lt_of_lt_of_le (Nat.lt_of_lt_of_le hk hsz) (by decide)), ?_⟩
        refine ⟨_, _, _, rfl, Same.upd (s2.trans s3) hl, ?_⟩
        rw [upd_same, ← Nat.add_assoc (i * n) j 1, range_more]
        have e1 : (i * n + j) % n = j := by
          rw [Nat.add_comm, Nat.add_mul_mod_self_right]
          exact Nat.mod_eq_of_lt hj
        have e2 : (i * n + j) / n = i := by
          rw [Nat.add_comm, Nat.add_mul_div_right _ _ (by omega), Nat.div_eq_of_lt hj, Nat.zero_add]
        unfold pl
        rw [e1, e2, Int.zero_add]
      · rintro σ H2 ⟨vx, vu, vv, rfl, s2, e2⟩
        refine ⟨_, vx, vu, vv, rfl, s2, ?_⟩
        rw [e2, Nat.add_mul, Nat.one_mul]
    · rintro σ H' ⟨vy, vx, vu, vv, rfl, s1, e1⟩
      exact ⟨_, rfl, k _ l s1 hl e1⟩
end
end Pl
/-! ### movements: tuples of a way and a shift -/
namespace Pl
open PySem PySem.Spec PyProof.Rows L2
abbrev Mv : Type := Nat × Int × Int
def mv (m : Mv) : List V := [.int (m.1 : Int), .int m.2.1, .int m.2.2]
def mk (m : Mv) : List Key := [.inl (m.1 : Int), .inl m.2.1, .inl m.2.2]
theorem mk_mv (m : Mv) : (mk m).map kV = mv m := rfl
theorem mk_inj {m m' : Mv} (h : mk m = mk m') : m = m' := by
  obtain ⟨a, u, v⟩ := m
  obtain ⟨a', u', v'⟩ := m'
  have h : ([.inl (a : Int), .inl u, .inl v] : List Key) = [.inl (a' : Int), .inl u', .inl v'] := h
  injection h with h1 h
  injection h with h2 h
  injection h with h3 _
  have h1 := Sum.inl.inj h1
  have h2 := Sum.inl.inj h2
  have h3 := Sum.inl.inj h3
  have h1 : a = a' := by omega
  rw [h1, h2, h3]
/-- at each of these addresses stands the tuple of its movement -/
def Ts (H : Hp) (L : List (Addr × Mv)) : Prop := ∀ q ∈ L, H q.1 = some (.tup (mv q.2))
def refs (L : List (Addr × Mv)) : List V := L.map fun q => V.ref q.1
theorem Ts.same {H H' : Hp} {L : List (Addr × Mv)} (t : Ts H L) (s : Same H H') : Ts H' L := fun q hq => s _ _ (t q hq)
theorem Ts.app {H : Hp} {L M : List (Addr × Mv)} (t : Ts H L) (u : Ts H M) : Ts H (L ++ M) := fun q hq => by
  rcases List.mem_append.mp hq with h | h
  · exact t q h
  · exact u q h
theorem refs_app (L M : List (Addr × Mv)) : refs (L ++ M) = refs L ++ refs M := List.map_append
theorem refs_len (L : List (Addr × Mv)) : (refs L).length = (L.map (·.2)).length := by
  unfold refs
  rw [List.length_map, List.length_map]
theorem Ts.keep {H H' : Hp} {L : List (Addr × Mv)} (t : Ts H L) {p : Addr} {o : HO} (np : ∀ xs, H p ≠ some (.tup xs)) (e : H' = upd H p o) : Ts H' L := fun q hq => by
  rw [e, upd_ne]
  · exact t q hq
  · intro z
    exact np _ (z ▸ t q hq)
/-- the movements of one way with one first part -/
def mvRow (n : Nat) (a : Nat) (u : Int) : List Mv := (Sa48Neutral.rg n).map fun v => (a, u, v)
def mvWay (n : Nat) (a : Nat) : List Mv := (Sa48Neutral.rg n).flatMap fun u => mvRow n a u
theorem moves_more (n : Nat) (l : List Nat) (a : Nat) : Sa48Neutral.moves n (l ++ [a]) = Sa48Neutral.moves n l ++ mvWay n a := by
  unfold Sa48Neutral.moves
  rw [List.flatMap_append, List.flatMap_cons, List.flatMap_nil, List.append_nil]
  rfl
theorem rg_more (n : Nat) : Sa48Neutral.rg (n + 1) = Sa48Neutral.rg n ++ [(n : Int)] := by
  unfold Sa48Neutral.rg
  rw [List.range_succ, List.map_append]
  rfl
theorem rg_len (n : Nat) : (Sa48Neutral.rg n).length = n := by
  unfold Sa48Neutral.rg
  rw [List.length_map, List.length_range]
theorem flat_len {α β : Type} {f : α → List β} {k : Nat} : ∀ l : List α, (∀ x ∈ l, (f x).length = k) → (l.flatMap f).length = l.length * k
  | [], _ => by simp
  | x :: r, h => by
    rw [List.flatMap_cons, List.length_append, h x (List.mem_cons_self ..), flat_len r fun y hy => h y (List.mem_cons_of_mem _ hy), List.length_cons, Nat.add_mul, Nat.one_mul, Nat.add_comm]
theorem mvRow_len (n a : Nat) (u : Int) : (mvRow n a u).length = n := by
  unfold mvRow
  rw [List.length_map, rg_len]
theorem mvWay_len (n a : Nat) : (mvWay n a).length = n * n := by
  unfold mvWay
  rw [flat_len _ fun x _ => mvRow_len n a x, rg_len]
theorem moves_len (n : Nat) (l : List Nat) : (Sa48Neutral.moves n l).length = l.length * (n * n) := by
  unfold Sa48Neutral.moves
  exact flat_len _ fun x _ => mvWay_len n x
/-! ### the promise of movements -/
def spMvs (K : PySem.W.Frag) : Sp := fun vs H Q _ => ∃ (n : Nat) (l : Addr) (ways : List Nat), vs = [.int (n : Int), .ref l] ∧ SqL K H l (ways.map fun a => V.int ((a : Nat) : Int)) ∧ n ≤ 8 ∧ ways.length ≤ 8 ∧
  ∀ (H' : Hp) (p : Addr) (L : List (Addr × Mv)), Same H H' → H p = none → L.map (·.2) = Sa48Neutral.moves n ways → H' p = some (.lst (refs L)) → Ts H' L → Q (.ref p) H'
section
variable {P : Program} {w : World} {K : PySem.W.Frag} {mg : Str → Option Value} {base : Heap} {W : Addr} {ws : Nat → Addr}
theorem scMvs : FnScope ["n", "ways", "found", "way", "a", "b"] ["n", "ways"] (defScope sMvs) := ⟨rfl, rfl, rfl, by decide +kernel, rfl, by decide +kernel, by decide +kernel⟩
theorem ok_mvs {f : Addr} {fd : FuncData} (F : Fun K "movements" "movements" sMvs f fd) (T : TxW K mg W ws) : FnOk P w K mg base CX0 1 f fd ["n", "ways"] (spMvs K) := by
  refine F.ok scMvs (fun vs H Q E h => ?_) (fun cdv A outer s H vs Q E hr h => ?_)
  · obtain ⟨n, l, ways, rfl, _⟩ := h
    rfl
  · obtain ⟨n, l, ways, rfl, hl, hn, hw, k⟩ := h
    have nd := scMvs.nd
    refine ⟨_, pss_cons (ps_set (i := 2) nd rfl (Or.inl rfl) (pe_lst pa_nil))
      (pss_cons (ps_for PassesOwn.never rfl (pi_list (pv 1)) (pg_name (i := 3) nd rfl (Or.inr rfl))
        (pss_one (ps_for PassesOwn.never rfl (pi_range1 rfl T.range (pa_cons (pv 0) pa_nil)) (pg_name (i := 4) nd rfl (Or.inr rfl))
          (pss_one (ps_expr (pe_bm PySem.F.plainAttrs_list PySem.F.slot_list_extend PySem.F.type_list_extend mt_extend (pv 2) (pa_cons (pe_lc (own := [("b", 5)]) (g := gName 5) (tt := tYes) rfl nd (pi_range1 rfl T.range (pa_cons (pv 0) pa_nil))
            (blkOk_by (own := [("b", 5)]) (N := ["n", "ways", "found", "way", "a", "b"]) (sc := defScope sMvs) (by decide +kernel)) (fun _ _ _ _ _ => pg_name (i := 5) nd rfl (Or.inl rfl)) (fun _ _ _ _ _ => pts_nil)
            (fun _ _ _ _ _ => pe_tup (pa_cons (pv 3) (pa_cons (pv 4) (pa_cons (pv 5) pa_nil))))) pa_nil)))))))
      (pss_one (ps_ret (pv 2)))), ?_⟩
    refine ⟨Nat.zero_le _, fun r hr0 => ?_⟩
    refine ⟨_, rfl, l, rfl, ⟨_, (Same.new hr0).seq hl⟩, for_list (K := K) (a := l) (xs := ways.map fun a => V.int ((a : Nat) : Int)) (fun i σ H' => ∃ (vw va vb : Option V) (L : List (Addr × Mv)), σ = [some (.int (n : Int)), some (.ref l), some (.ref r), vw, va, vb] ∧ Same H H' ∧
        H' r = some (.lst (refs L)) ∧ L.map (·.2) = Sa48Neutral.moves n (ways.take i) ∧ Ts H' L)
      ⟨none, none, none, [], rfl, Same.new hr0, upd_same, rfl, fun q hq => nomatch hq⟩ (fun i σ H' _ ⟨_, _, _, _, _, s1, _⟩ => s1.seq hl) ?_ ?_⟩
    · rintro i y σ H' hi ⟨vw, va, vb, L, rfl, s1, e1, em, t1⟩
      obtain ⟨a, ha, rfl⟩ := map_at hi
      have hi8 : i < ways.length := (List.getElem?_eq_some_iff.mp ha).1
      have hil : (ways.take i).length = i := by
        rw [List.length_take]
        omega
      refine ⟨_, rfl, (n : Int), rfl, by omega, by omega, for_range (lo := 0) (n := n) (fun j σ H' => ∃ (va vb : Option V) (L : List (Addr × Mv)), σ = [some (.int (n : Int)), some (.ref l), some (.ref r), some (.int (a : Int)), va, vb] ∧ Same H H' ∧
          H' r = some (.lst (refs L)) ∧ L.map (·.2) = Sa48Neutral.moves n (ways.take i) ++ (Sa48Neutral.rg j).flatMap (fun u => mvRow n a u) ∧ Ts H' L)
        ⟨va, vb, L, rfl, s1, e1, by rw [em]; exact (List.append_nil _).symm, t1⟩ ?_ ?_⟩
      · rintro j σ H2 hj ⟨va, vb, L, rfl, s2, e2, em, t2⟩
        have hL : L.length = i * (n * n) + j * n := by
          have q := congrArg List.length em
          rw [List.length_map, List.length_append, moves_len, hil, flat_len _ fun x _ => mvRow_len n a x, rg_len] at q
          exact q
        have hsz : L.length + n ≤ 1000 := by
          have q1 : i * (n * n) ≤ 7 * (8 * 8) := Nat.mul_le_mul (by omega) (Nat.mul_le_mul hn hn)
          have q2 : j * n ≤ 8 * 8 := Nat.mul_le_mul (by omega) hn
          omega
        refine ⟨_, rfl, .inl ⟨rfl, _, SqL.of e2⟩, _, rfl, (n : Int), rfl, by omega, by omega, fun D hD => ?_⟩
        have nrD : r ≠ D := ne_of_none e2 hD
        refine lc_range (lo := 0) (n := n) (fun m H3 => ∃ M : List (Addr × Mv), Same H2 H3 ∧ H3 D = some (.lst (refs M)) ∧ M.map (·.2) = (Sa48Neutral.rg m).map (fun v => ((a, (j : Int), v) : Mv)) ∧ Ts H3 M)
          ⟨[], Same.new hD, upd_same, rfl, fun q hq => nomatch hq⟩ ?_ ?_
        · rintro m H3 hm ⟨M, s3, e3, em3, t3⟩
          refine ⟨rfl, iteT (B := True) ?_⟩
          refine ⟨_, rfl, _, rfl, _, rfl, (by show 3 ≤ sizeLine; decide), fun p hp => ?_⟩
          have npD : D ≠ p := ne_of_none e3 hp
          refine ⟨_, (upd_ne npD).trans e3, ?_, M ++ [(p, ((a, (j : Int), (m : Int)) : Mv))], ?_, ?_, ?_, ?_⟩
          · have q := congrArg List.length em3
            rw [List.length_map, List.length_map, rg_len] at q
            unfold refs
            rw [List.length_map, q]
            exact Nat.lt_of_lt_of_le (Nat.lt_of_lt_of_le hm hn) (by decide)
          · exact Same.upd (Same.upd s3 (s3.free hp)) hD
          · rw [upd_same, refs_app]
            rfl
          · rw [List.map_append, em3, rg_more, List.map_append]
            rfl
          · refine Ts.app ?_ ?_
            · intro q hq
              have h1 := t3 q hq
              rw [upd_ne (ne_of h1 e3 (by intro z; cases z)), upd_ne (ne_of_none h1 hp)]
              exact h1
            · intro q hq
              obtain rfl := List.mem_singleton.mp hq
              rw [upd_ne (Ne.symm npD), upd_same, Int.zero_add, Int.zero_add]
              rfl
        · rintro H3 ⟨M, s3, e3, em3, t3⟩
          have e2' := s3 _ _ e2
          have hM : M.length = n := by
            have q := congrArg List.length em3
            rw [List.length_map, List.length_map, rg_len] at q
            exact q
          refine ⟨r, D, _, _, rfl, rfl, e2', e3, ?_, ?_⟩
          · unfold refs
            rw [List.length_map, List.length_map, hM]
            exact Nat.le_trans hsz (by decide)
          · refine ⟨_, vb, L ++ M, rfl, Same.upd (s2.trans s3) hr0, ?_, ?_, ?_⟩
            · rw [upd_same, refs_app]
            · rw [List.map_append, em, em3, rg_more, List.flatMap_append, List.append_assoc, List.flatMap_cons, List.flatMap_nil, List.append_nil]
              rfl
            · refine Ts.keep (H := H3) ((t2.same s3).app t3) (fun xs z => ?_) rfl
              rw [e2'] at z
              cases z
      · rintro σ H2 ⟨va, vb, L, rfl, s2, e2, em, t2⟩
        refine ⟨_, _, _, L, rfl, s2, e2, ?_, t2⟩
        rw [em, take_more ha, moves_more]
        rfl
    · rintro σ H' ⟨vw, va, vb, L, rfl, s1, e1, em, t1⟩
      rw [List.length_map, List.take_length] at em
      exact ⟨_, rfl, k _ r L s1 hr0 em e1 t1⟩
end
end Pl
namespace Pl
open Sa48 Sa48Neutral
/-! ### all movements, in their order -/
theorem moves_filter (n : Nat) (q : Nat → Bool) : ∀ l : List Nat, (moves n l).filter (fun m => q m.1) = moves n (l.filter q)
  | [] => rfl
  | a :: r => by
    have ih := moves_filter n q r
    have e1 : ∀ s : List Nat, moves n (a :: s) = ((rg n).flatMap fun u => (rg n).map fun v => (a, u, v)) ++ moves n s := fun s => rfl
    rw [e1, List.filter_append, ih, List.filter_cons]
    cases h : q a with
    | true =>
      rw [if_pos rfl, e1]
      congr 1
      refine List.filter_eq_self.mpr fun m hm => ?_
      obtain ⟨u, _, h2⟩ := List.mem_flatMap.mp hm
      obtain ⟨v, _, rfl⟩ := List.mem_map.mp h2
      exact h
    | false =>
      rw [if_neg Bool.false_ne_true]
      have e : ((rg n).flatMap fun u => (rg n).map fun v => (a, u, v)).filter (fun m => q m.1) = [] := by
        refine List.filter_eq_nil_iff.mpr fun m hm => ?_
        obtain ⟨u, _, h2⟩ := List.mem_flatMap.mp hm
        obtain ⟨v, _, rfl⟩ := List.mem_map.mp h2
        rw [h]
        exact Bool.false_ne_true
      rw [e]
      rfl
theorem mem_moves {n : Nat} {l : List Nat} {m : Nat × Int × Int} : m ∈ moves n l ↔ m.1 ∈ l ∧ (∃ i : Nat, i < n ∧ m.2.1 = (i : Int)) ∧ ∃ i : Nat, i < n ∧ m.2.2 = (i : Int) := by
  unfold moves
  constructor
  · intro h
    obtain ⟨a, ha, h⟩ := List.mem_flatMap.mp h
    obtain ⟨u, hu, h⟩ := List.mem_flatMap.mp h
    obtain ⟨v, hv, rfl⟩ := List.mem_map.mp h
    exact ⟨ha, mem_rg.mp hu, mem_rg.mp hv⟩
  · rintro ⟨ha, hu, hv⟩
    exact List.mem_flatMap.mpr ⟨m.1, ha, List.mem_flatMap.mpr ⟨m.2.1, mem_rg.mpr hu, List.mem_map.mpr ⟨m.2.2, mem_rg.mpr hv, rfl⟩⟩⟩
/-! ### shifts -/
theorem shift_iff {p : Pat} (hn : 0 < p.n) {u v : Int} : sym p 0 u v = true ↔ ∀ x y : Int, p.at_ (x + u) (y + v) = p.at_ x y := by
  rw [sym_iff]
  constructor
  · intro h x y
    have h1 := Int.emod_nonneg x (show (p.n : Int) ≠ 0 by omega)
    have h2 := Int.emod_lt_of_pos x (show (0 : Int) < p.n by omega)
    have h3 := Int.emod_nonneg y (show (p.n : Int) ≠ 0 by omega)
    have h4 := Int.emod_lt_of_pos y (show (0 : Int) < p.n by omega)
    have q := h (x % (p.n : Int)).toNat (y % (p.n : Int)).toNat (by omega) (by omega)
    rw [Int.toNat_of_nonneg h1, Int.toNat_of_nonneg h3] at q
    have q : p.at_ (x % (p.n : Int) + u) (y % (p.n : Int) + v) = p.at_ (x % (p.n : Int)) (y % (p.n : Int)) := q
    rw [at_num, at_num] at q ⊢
    rw [num_mod p.n (x + u) (y + v) (x % (p.n : Int) + u) (y % (p.n : Int) + v) (by rw [Int.emod_add_emod]) (by rw [Int.emod_add_emod]), q]
    rw [num_mod p.n x y (x % (p.n : Int)) (y % (p.n : Int)) (by rw [Int.emod_emod_of_dvd _ (Int.dvd_refl _)]) (by rw [Int.emod_emod_of_dvd _ (Int.dvd_refl _)])]
  · intro h x y _ _
    exact h x y
theorem shift_sub {p : Pat} (hn : 0 < p.n) {u v u' v' : Int} (h : sym p 0 u v = true) (h' : sym p 0 u' v' = true) : sym p 0 (u - u') (v - v') = true := by
  rw [shift_iff hn] at h h' ⊢
  intro x y
  have q := h' (x + (u - u')) (y + (v - v'))
  have r := h x y
  rw [show x + (u - u') + u' = x + u by omega, show y + (v - v') + v' = y + v by omega] at q
  rw [← q, r]
theorem shift_mul {p : Pat} (hn : 0 < p.n) {u : Int} (h : sym p 0 u 0 = true) : ∀ k : Nat, sym p 0 ((k : Int) * u) 0 = true
  | 0 => by
    rw [shift_iff hn]
    intro x y
    simp
  | k + 1 => by
    have ih := shift_mul hn h k
    rw [shift_iff hn] at h ih ⊢
    intro x y
    have q := h (x + (k : Int) * u) y
    have r := ih x y
    rw [Int.add_zero] at q r ⊢
    rw [← r, ← q]
    congr 1
    rw [Int.natCast_add, Int.add_mul]
    omega
/-- a shift may be brought below e along a row -/
theorem shift_low {p : Pat} (hn : 0 < p.n) {e u g : Nat} (_ : 0 < e) (h : sym p 0 (e : Int) 0 = true) (q : sym p 0 (u : Int) (g : Int) = true) : sym p 0 ((u % e : Nat) : Int) (g : Int) = true := by
  have r := shift_sub hn q (shift_mul hn h (u / e))
  have e1 : (u : Int) - ((u / e : Nat) : Int) * (e : Int) = ((u % e : Nat) : Int) := by
    have := Nat.div_add_mod u e
    rw [Nat.mul_comm] at this
    have : ((u / e * e + u % e : Nat) : Int) = (u : Int) := by rw [this]
    rw [Int.natCast_add, Int.natCast_mul] at this
    omega
  rw [e1, Int.sub_zero] at r
  exact r
/-! ### cell -/
theorem find_range {n i : Nat} {q : Nat → Bool} (hi : i < n) (h : q i = true) (l : ∀ j, j < i → q j = false) : (List.range n).find? q = some i := by
  rw [List.find?_range_eq_some]
  refine ⟨h, List.mem_range.mpr hi, fun j hj => ?_⟩
  rw [l j hj]
  rfl
theorem any_range {n : Nat} {q : Nat → Bool} : (List.range n).any q = true ↔ ∃ i, i < n ∧ q i = true := by
  rw [List.any_eq_true]
  constructor
  · rintro ⟨i, h, q⟩
    exact ⟨i, List.mem_range.mp h, q⟩
  · rintro ⟨i, h, q⟩
    exact ⟨i, List.mem_range.mpr h, q⟩
def shiftsL (c : List Nat) (n : Nat) : List (Nat × Int × Int) := ((moves n (List.range 8)).filter fun m => symL c n m.1 m.2.1 m.2.2).filter fun m => m.1 == 0
theorem shiftsL_length (c : List Nat) (n : Nat) : (shiftsL c n).length = (((List.range n).flatMap fun (u : Nat) => (List.range n).map fun (v : Nat) => sym ⟨n, c⟩ 0 (u : Int) (v : Int)).filter fun b => b).length := by
  unfold shiftsL
  rw [List.filter_filter]
  have e1 : (fun m : Nat × Int × Int => (m.1 == 0) && symL c n m.1 m.2.1 m.2.2) = fun m => symL c n m.1 m.2.1 m.2.2 && (fun a : Nat => a == 0) m.1 := by
    funext m
    exact Bool.and_comm _ _
  rw [e1, ← List.filter_filter (p := fun m : Nat × Int × Int => symL c n m.1 m.2.1 m.2.2) (q := fun m => (fun a : Nat => a == 0) m.1), moves_filter n (fun a => a == 0)]
  have e2 : (List.range 8).filter (fun a => a == 0) = [0] := by decide
  rw [e2]
  have e3 : ((List.range n).flatMap fun (u : Nat) => (List.range n).map fun (v : Nat) => sym ⟨n, c⟩ 0 (u : Int) (v : Int)) = (moves n [0]).map fun m => symL c n m.1 m.2.1 m.2.2 := by
    unfold moves
    rw [List.flatMap_cons, List.flatMap_nil, List.append_nil, List.map_flatMap]
    unfold rg
    rw [List.flatMap_map]
    congr 1
    funext u
    rw [List.map_map, List.map_map]
    congr 1
    funext v
    exact sym_symL ⟨n, c⟩ 0 u v
  rw [e3, List.filter_map, List.length_map]
  rfl
theorem cell_is {z : Int} {n : Nat} {cs : List Int} {c : List Nat} {e f g : Nat} (hz : z = (n : Int)) (hc : nats cs = c) (hn : 0 < n) (h64 : n ≤ 64) (e0 : 0 < e) (en : e ≤ n) (he : symL c n 0 (e : Int) 0 = true) (le : ∀ j, 0 < j → j < e → symL c n 0 (j : Int) 0 = false)
    (g0 : 0 < g) (gn : g ≤ n) (hf : f < e) (hg : symL c n 0 (f : Int) (g : Int) = true) (lf : ∀ j, j < f → symL c n 0 (j : Int) (g : Int) = false)
    (lg : ∀ k, 0 < k → k < g → ∀ j, j < e → symL c n 0 (j : Int) (k : Int) = false) :
    PySa48.cell z cs = [0, (e : Int), (f : Int), (g : Int), ((shiftsL c n).length : Int)] := by
  subst hz hc
  have hs : ∀ u v : Int, sym ⟨n, nats cs⟩ 0 u v = symL (nats cs) n 0 u v := fun u v => sym_symL ⟨n, nats cs⟩ 0 u v
  have r1 : ((List.range n).find? fun (u : Nat) => sym ⟨n, nats cs⟩ 0 ((u + 1 : Nat) : Int) ((0 : Nat) : Int)) = some (e - 1) := by
    refine find_range (by omega) ?_ fun j hj => ?_
    · show sym ⟨n, nats cs⟩ 0 ((e - 1 + 1 : Nat) : Int) ((0 : Nat) : Int) = true
      rw [hs, show e - 1 + 1 = e by omega]
      exact he
    · show sym ⟨n, nats cs⟩ 0 ((j + 1 : Nat) : Int) ((0 : Nat) : Int) = false
      rw [hs]
      exact le _ (by omega) (by omega)
  have r2 : ((List.range n).find? fun v => (List.range n).any fun u => sym ⟨n, nats cs⟩ 0 (u : Int) ((v + 1 : Nat) : Int)) = some (g - 1) := by
    refine find_range (by omega) ?_ fun j hj => ?_
    · rw [any_range]
      refine ⟨f, by omega, ?_⟩
      rw [hs, show g - 1 + 1 = g by omega]
      exact hg
    · cases q : (List.range n).any fun u => sym ⟨n, nats cs⟩ 0 (u : Int) ((j + 1 : Nat) : Int) with
      | false => rfl
      | true =>
        obtain ⟨u, hu, q⟩ := any_range.mp q
        have r := shift_low (p := ⟨n, nats cs⟩) hn e0 (by rw [hs]; exact he) q
        rw [hs, lg (j + 1) (by omega) (by omega) _ (Nat.mod_lt _ e0)] at r
        cases r
  have r3 : ((List.range e).find? fun (u : Nat) => sym ⟨n, nats cs⟩ 0 (u : Int) (g : Int)) = some f := by
    refine find_range hf ?_ fun j hj => ?_
    · show sym ⟨n, nats cs⟩ 0 (f : Int) (g : Int) = true
      rw [hs]
      exact hg
    · show sym ⟨n, nats cs⟩ 0 (j : Int) (g : Int) = false
      rw [hs]
      exact lf j hj
  have hin : ¬ (n < 1 ∨ 64 < n) := by omega
  show (if (n : Int).toNat < 1 ∨ 64 < (n : Int).toNat then [-2] else _) = _
  rw [Int.toNat_natCast, if_neg hin]
  show told 0 [((List.range n).find? fun (u : Nat) => sym ⟨n, nats cs⟩ 0 ((u + 1 : Nat) : Int) ((0 : Nat) : Int)).getD 0 + 1,
    ((List.range (((List.range n).find? fun (u : Nat) => sym ⟨n, nats cs⟩ 0 ((u + 1 : Nat) : Int) ((0 : Nat) : Int)).getD 0 + 1)).find? fun (u : Nat) => sym ⟨n, nats cs⟩ 0 (u : Int) ((((List.range n).find? fun v => (List.range n).any fun u => sym ⟨n, nats cs⟩ 0 (u : Int) ((v + 1 : Nat) : Int)).getD 0 + 1 : Nat) : Int)).getD 0,
    ((List.range n).find? fun v => (List.range n).any fun u => sym ⟨n, nats cs⟩ 0 (u : Int) ((v + 1 : Nat) : Int)).getD 0 + 1,
    (((List.range n).flatMap fun (u : Nat) => (List.range n).map fun (v : Nat) => sym ⟨n, nats cs⟩ 0 (u : Int) (v : Int)).filter fun b => b).length] = _
  rw [r1, r2, ← shiftsL_length]
  show told 0 [e - 1 + 1, ((List.range (e - 1 + 1)).find? fun (u : Nat) => sym ⟨n, nats cs⟩ 0 (u : Int) ((g - 1 + 1 : Nat) : Int)).getD 0, g - 1 + 1, (shiftsL (nats cs) n).length] = _
  rw [show e - 1 + 1 = e by omega, show g - 1 + 1 = g by omega, r3]
  rfl
theorem cell_out {z : Int} {cs : List Int} (h : z < 1 ∨ 64 < z) : PySa48.cell z cs = [-2] := by
  have hin : z.toNat < 1 ∨ 64 < z.toNat := by omega
  show (if z.toNat < 1 ∨ 64 < z.toNat then [-2] else _) = _
  rw [if_pos hin]
/-- there is a shift along a row, and one along a column -/
theorem sym_full (c : List Nat) (n : Nat) : symL c n 0 (n : Int) 0 = true := by
  rw [symL_congr (u' := 0) (v' := 0) (by simp) rfl, symL_iff]
  intro k hk
  have e : pl n 0 0 0 k = k := by
    unfold pl
    show num n (((k % n : Nat) : Int) + 0) (((k / n : Nat) : Int) + 0) = k
    rw [Int.add_zero, Int.add_zero]
    exact num_self hk
  rw [e]
theorem sym_full2 (c : List Nat) (n : Nat) : symL c n 0 0 (n : Int) = true := by
  rw [symL_congr (u' := (n : Int)) (v' := 0) (by simp) (by simp)]
  exact sym_full c n
end Pl
/-! ### patterns -/
namespace Pl
open PySem PySem.Spec PyProof.Rows L2
def cV (c : List Nat) : List V := c.map fun z => V.int ((z : Nat) : Int)
def pf (n : Nat) (ca d : Addr) : List (Str × V) := [("n", .int (n : Int)), ("colours", .ref ca), ("known", .ref d)]
theorem lk_here {k : Str} {v : V} {r : List (Str × V)} : List.lookup k ((k, v) :: r) = some v := by
  have e : (k == k) = true := beq_self_eq_true k
  simp only [List.lookup, e]
theorem lk_past {k g : Str} {v : V} {r : List (Str × V)} (h : (k == g) = false) : List.lookup k ((g, v) :: r) = List.lookup k r := by
  simp only [List.lookup, h]
theorem put_past {f g : Str} {v x : V} {r : List (Str × V)} (h : ¬ g = f) : putF f v ((g, x) :: r) = (g, x) :: putF f v r := if_neg h
theorem pf_n (n : Nat) (ca d : Addr) : (pf n ca d).lookup ("n" : Str) = some (.int (n : Int)) := lk_here
theorem pf_c (n : Nat) (ca d : Addr) : (pf n ca d).lookup ("colours" : Str) = some (.ref ca) := (lk_past (by decide +kernel)).trans lk_here
theorem pf_k (n : Nat) (ca d : Addr) : (pf n ca d).lookup ("known" : Str) = some (.ref d) := (lk_past (by decide +kernel)).trans ((lk_past (by decide +kernel)).trans lk_here)
theorem pf_no (n : Nat) (ca d : Addr) {m : Str} (h1 : (m == ("n" : Str)) = false) (h2 : (m == ("colours" : Str)) = false) (h3 : (m == ("known" : Str)) = false) : (pf n ca d).lookup m = none :=
  (lk_past h1).trans ((lk_past h2).trans ((lk_past h3).trans rfl))
theorem pf_new (n : Nat) (ca d : Addr) : putF "known" (.ref d) (putF "colours" (.ref ca) (putF "n" (.int (n : Int)) [])) = pf n ca d := by
  have e1 : putF "colours" (.ref ca) (putF "n" (.int (n : Int)) []) = ([("n", .int (n : Int)), ("colours", .ref ca)] : List (Str × V)) := (put_past (by decide +kernel)).trans rfl
  rw [e1]
  exact (put_past (by decide +kernel)).trans (congrArg _ ((put_past (by decide +kernel)).trans rfl))
/-- all movements by all ways -/
def allM (n : Nat) : List Mv := Sa48Neutral.moves n (List.range 8)
def sy (c : List Nat) (n : Nat) (m : Mv) : Bool := symL c n m.1 m.2.1 m.2.2
def entry (c : List Nat) (n : Nat) (m : Mv) : List Key × V := (mk m, .bl (sy c n m))
def known (c : List Nat) (n : Nat) : List (List Key × V) := (allM n).map (entry c n)
theorem valV_known (c : List Nat) (n : Nat) (m : Mv) : ∀ l : List Mv, valV (l.map (entry c n)) (mk m) = if m ∈ l then some (.bl (sy c n m)) else none
  | [] => rfl
  | a :: r => by
    have ih := valV_known c n m r
    rw [List.map_cons]
    by_cases e : a = m
    · subst e
      rw [if_pos (List.mem_cons_self ..)]
      exact valV_pos (p := entry c n a) rfl
    · rw [valV_neg (p := entry c n a) (fun z => e (mk_inj z)), ih]
      by_cases hm : m ∈ r
      · rw [if_pos hm, if_pos (List.mem_cons_of_mem _ hm)]
      · rw [if_neg hm, if_neg]
        intro z
        rcases List.mem_cons.mp z with z | z
        · exact e z.symm
        · exact hm z
theorem nodup_app {α : Type} {l r : List α} (hl : l.Nodup) (hr : r.Nodup) (hd : ∀ x ∈ l, ∀ y ∈ r, x ≠ y) : (l ++ r).Nodup := List.nodup_append.mpr ⟨hl, hr, hd⟩
theorem nodup_flat {α β : Type} {f : α → List β} : ∀ {l : List α}, l.Nodup → (∀ a ∈ l, (f a).Nodup) → (∀ a b x, x ∈ f a → x ∈ f b → a = b) → (l.flatMap f).Nodup
  | [], _, _, _ => List.nodup_nil
  | a :: r, h, h1, h2 => by
    obtain ⟨na, nr⟩ := List.nodup_cons.mp h
    rw [List.flatMap_cons]
    refine nodup_app (h1 a (List.mem_cons_self ..)) (nodup_flat nr (fun b hb => h1 b (List.mem_cons_of_mem _ hb)) h2) fun x hx y hy e => ?_
    subst e
    obtain ⟨b, hb, hxb⟩ := List.mem_flatMap.mp hy
    exact na ((h2 a b x hx hxb) ▸ hb)
theorem nodup_map {α β : Type} {f : α → β} (hf : ∀ a b, f a = f b → a = b) : ∀ {l : List α}, l.Nodup → (l.map f).Nodup
  | [], _ => List.nodup_nil
  | a :: r, h => by
    obtain ⟨na, nr⟩ := List.nodup_cons.mp h
    rw [List.map_cons]
    refine List.nodup_cons.mpr ⟨fun z => ?_, nodup_map hf nr⟩
    obtain ⟨b, hb, e⟩ := List.mem_map.mp z
    exact na (hf _ _ e ▸ hb)
theorem rg_nodup (n : Nat) : (Sa48Neutral.rg n).Nodup := nodup_map (fun a b h => by omega) List.nodup_range
theorem moves_nodup (n : Nat) {l : List Nat} (h : l.Nodup) : (Sa48Neutral.moves n l).Nodup := by
  unfold Sa48Neutral.moves
  refine nodup_flat h (fun a _ => nodup_flat (rg_nodup n) (fun u _ => nodup_map (fun v v' e => by injection e with _ e; injection e) (rg_nodup n)) fun u u' x hx hx' => ?_) fun a b x hx hx' => ?_
  · obtain ⟨v, _, rfl⟩ := List.mem_map.mp hx
    obtain ⟨v', _, e⟩ := List.mem_map.mp hx'
    injection e with _ e
    injection e with e _
    exact e.symm
  · obtain ⟨u, _, hx⟩ := List.mem_flatMap.mp hx
    obtain ⟨v, _, rfl⟩ := List.mem_map.mp hx
    obtain ⟨u', _, hx'⟩ := List.mem_flatMap.mp hx'
    obtain ⟨v', _, e⟩ := List.mem_map.mp hx'
    injection e with e _
    exact e.symm
theorem not_mem_take {α : Type} : ∀ {l : List α} {i : Nat} {x : α}, l.Nodup → l[i]? = some x → ¬ x ∈ l.take i
  | [], i, x, _, h => by simp at h
  | a :: l, 0, x, _, h => by simp
  | a :: l, i + 1, x, hn, h => by
    obtain ⟨na, nr⟩ := List.nodup_cons.mp hn
    have h : l[i]? = some x := h
    rw [List.take_succ_cons]
    intro z
    rcases List.mem_cons.mp z with z | z
    · subst z
      exact na (List.mem_iff_getElem?.mpr ⟨i, h⟩)
    · exact not_mem_take nr h z
/-- a pattern stands at x: its colours c (at ca), what is known (at d) -/
def PatI (K : PySem.W.Frag) (C : Addr) (H : Hp) (x dx ca d : Addr) (n : Nat) (c : List Nat) : Prop := H x = some (.ins C dx (pf n ca d)) ∧ SqL K H ca (cV c) ∧ c.length = n * n ∧ 0 < n ∧ n ≤ 6
def PatAt (K : PySem.W.Frag) (C : Addr) (H : Hp) (x : Addr) (n : Nat) (c : List Nat) : Prop := ∃ dx ca d, PatI K C H x dx ca d n c ∧ H d = some (.dT (known c n))
theorem PatI.same {K : PySem.W.Frag} {C : Addr} {H H' : Hp} {x dx ca d : Addr} {n : Nat} {c : List Nat} (p : PatI K C H x dx ca d n c) (s : Same H H') : PatI K C H' x dx ca d n c := ⟨s _ _ p.1, s.seq p.2.1, p.2.2⟩
theorem PatAt.same {K : PySem.W.Frag} {C : Addr} {H H' : Hp} {x : Addr} {n : Nat} {c : List Nat} (p : PatAt K C H x n c) (s : Same H H') : PatAt K C H' x n c := by
  obtain ⟨dx, ca, d, h, k⟩ := p
  exact ⟨dx, ca, d, h.same s, s _ _ k⟩
theorem off_seq {K : PySem.W.Frag} {H H' : Hp} {a d : Addr} {xs : List V} {o : HO} (hd : H d = some o) (n1 : ∀ xs, o ≠ .lst xs) (n2 : ∀ ob xs, o ≠ .frz ob (.lst xs)) (e : ∀ b o, b ≠ d → H b = some o → H' b = some o) (h : SqL K H a xs) : SqL K H' a xs := by
  rcases h with (h | ⟨ob, h⟩) | h
  · exact .inl (.inl (e _ _ (ne_of h hd (fun z => n1 _ z.symm)) h))
  · exact .inl (.inr ⟨ob, e _ _ (ne_of h hd (fun z => n2 _ _ z.symm)) h⟩)
  · exact .inr h
/-- what the top has written of the class and the names -/
structure TxC (K : PySem.W.Frag) (mg : Str → Option Value) (C : Addr) : Prop where
  cl : Cls K C
  nN : NoAttr K C "n"
  nC : NoAttr K C "colours"
  nK : NoAttr K C "known"
  gC : mg "Pattern" = some (.ref C)
  enum : mg "enumerate" = none
  list : mg "list" = none
  many : ∃ t, mg "MANY" = some (.int 8 t)
/-! ### the promises -/
def spLeaves (K : PySem.W.Frag) (C : Addr) : Sp := fun vs H Q _ => ∃ (x dx ca d m : Addr) (n : Nat) (c : List Nat) (a : Nat) (u v : Int), vs = [.ref x, .ref m] ∧ PatI K C H x dx ca d n c ∧ SqT K H m [.int (a : Int), .int u, .int v] ∧ a < 8 ∧
  ∀ H', Same H H' → Q (.bl (symL c n a u v)) H'
def spHas (K : PySem.W.Frag) (C : Addr) : Sp := fun vs H Q _ => ∃ (x : Addr) (n : Nat) (c : List Nat) (a : Nat) (u v : Int), vs = [.ref x, .int (a : Int), .int u, .int v] ∧ PatAt K C H x n c ∧ a < 8 ∧
  ∀ H', Same H H' → Q (.bl (symL c n a u v)) H'
def spSyms (K : PySem.W.Frag) (C : Addr) : Sp := fun vs H Q _ => ∃ (x : Addr) (n : Nat) (c : List Nat), vs = [.ref x] ∧ PatAt K C H x n c ∧
  ∀ (H' : Hp) (p : Addr) (L : List (Addr × Mv)), Same H H' → H p = none → L.map (·.2) = (allM n).filter (sy c n) → H' p = some (.lst (refs L)) → Ts H' L → Q (.ref p) H'
def spInit (K : PySem.W.Frag) (C : Addr) : Sp := fun vs H Q _ => ∃ (x dx ca : Addr) (n : Nat) (c : List Nat), vs = [.ref x, .int (n : Int), .ref ca] ∧ H x = some (.ins C dx []) ∧ SqL K H ca (cV c) ∧ c.length = n * n ∧ 0 < n ∧ n ≤ 6 ∧
  ∀ H', (∀ b o, b ≠ x → H b = some o → H' b = some o) → PatAt K C H' x n c → Q .non H'
section
variable {P : Program} {w : World} {K : PySem.W.Frag} {mg : Str → Option Value} {base : Heap} {W C : Addr} {ws : Nat → Addr}
theorem cV_at {c : List Nat} {k : Nat} (h : k < c.length) : (cV c)[k]? = some (.int ((c.getD k 0 : Nat) : Int)) := by
  unfold cV
  rw [List.getElem?_map, List.getElem?_eq_getElem h, List.getD_eq_getElem?_getD, List.getElem?_eq_getElem h]
  rfl
theorem scLeaves : FnScope ["self", "movement", "place", "other"] ["self", "movement"] (defScope sLeaves) := ⟨rfl, rfl, rfl, by decide +kernel, rfl, by decide +kernel, by decide +kernel⟩
theorem ok_leaves {f f1 : Addr} {fd fd1 : FuncData} (F : Fun K "leaves" "Pattern.leaves" sLeaves f fd) (T : TxC K mg C) (G1 : FnOk P w K mg base CX0 3 f1 fd1 ["n", "movement"] (spImage K)) (m1 : mg "image" = some (.ref f1)) (k1 : PySem.W.keepIn K (.ref f1) = true) (b1 : Binds K fd1 ["n", "movement"] []) :
    FnOk P w K mg base CX0 4 f fd ["self", "movement"] (spLeaves K C) := by
  refine F.ok scLeaves (fun vs H Q E h => ?_) (fun cdv A outer s H vs Q E hr h => ?_)
  · obtain ⟨x, dx, ca, d, m, n, c, a, u, v, rfl, _⟩ := h
    rfl
  · obtain ⟨x, dx, ca, d, m, n, c, a, u, v, rfl, hP, hm, ha, k⟩ := h
    have nd := scLeaves.nd
    refine ⟨_, pss_cons (ps_for PassesOwn.never rfl (pi_enum rfl T.enum (pa_cons (pe_call G1 hr rfl m1 k1 b1 .nil pass0 (pa_cons (pe_fld (pv 0) rfl) (pa_cons (pv 1) pa_nil))) pa_nil))
        (pg_tup rfl (pgs_cons (pg_name (i := 2) nd rfl (Or.inl rfl)) (pgs_cons (pg_name (i := 3) nd rfl (Or.inl rfl)) pgs_nil)))
        (pss_one (ps_if (pt_cmpR op_ne (pe_ix ix_list (pe_fld (pv 0) rfl) (pv 2) (fun _ _ => rfl)) (pe_ix ix_list (pe_fld (pv 0) rfl) (pv 3) (fun _ _ => rfl)) (nomark _)) (pss_one (ps_ret pe_bl)) pss_nil)))
      (pss_one (ps_ret pe_bl)), ?_⟩
    obtain ⟨hx, hca, hlen, h0, h6⟩ := id hP
    refine ⟨_, rfl, x, C, dx, _, _, rfl, hx, T.cl, T.nN, pf_n _ _ _, _, rfl, m, n, a, u, v, rfl, hm, ha, h0, by omega, fun H1 p s1 n1 e1 => ?_⟩
    refine ⟨p, _, rfl, SqL.of e1, for_it walk_enum (fun i σ H' => ∃ vp vo : Option V, σ = [some (.ref x), some (.ref m), vp, vo] ∧ Same H1 H' ∧ ∀ k, k < i → c.getD (pl n a u v k) 0 = c.getD k 0)
      ⟨none, none, rfl, Same.refl _, fun k hk => absurd hk (Nat.not_lt_zero _)⟩ (fun i σ H' _ ⟨_, _, _, s2, _⟩ => s2.seq (SqL.of e1)) ?_ ?_⟩
    · rintro i y σ H2 H3 hi ⟨vp, vo, rfl, s2, hs⟩ ⟨t, yx, yy, rfl, ht, rfl, ex, ey⟩
      rw [List.length_map, List.length_range] at hi
      cases ex
      have ey : ((List.range (n * n)).map fun k => V.int ((pl n a u v k : Nat) : Int))[i]? = some yy := ey
      rw [List.getElem?_map, List.getElem?_range hi] at ey
      cases ey
      have s3 : Same H (L2.upd H2 t (.tup [V.int ((i : Nat) : Int), V.int ((pl n a u v i : Nat) : Int)])) := s1.trans (s2.trans (Same.new ht))
      obtain ⟨hx3, hca3, _⟩ := hP.same s3
      have hpl : pl n a u v i < n * n := pl_lt h0 a u v i
      refine ⟨t, _, rfl, SqT.of upd_same, rfl, _, _, rfl, _, _, rfl, rfl, ?_⟩
      refine ⟨_, rfl, x, C, dx, _, _, rfl, hx3, T.cl, T.nC, pf_c _ _ _, _, rfl, ca, _, _, _, rfl, rfl, hca3, atI_nat (cV_at (by omega)), ?_⟩
      refine ⟨_, rfl, x, C, dx, _, _, rfl, hx3, T.cl, T.nC, pf_c _ _ _, _, rfl, ca, _, _, _, rfl, rfl, hca3, atI_nat (cV_at (by omega)), ?_⟩
      refine ⟨rfl, _, rfl, ?_⟩
      by_cases e : c.getD i 0 = c.getD (pl n a u v i) 0
      · rw [e, decide_eq_true rfl]
        refine iteF ⟨_, _, rfl, s2.trans (Same.new ht), fun k hk => ?_⟩
        by_cases hki : k < i
        · exact hs k hki
        · obtain rfl : k = i := by omega
          exact e.symm
      · rw [decide_eq_false (fun z => e (by injection z with z; omega))]
        refine iteT ?_
        have r : symL c n a u v = false := by
          cases q : symL c n a u v with
          | false => rfl
          | true => exact absurd (symL_iff.mp q i hi).symm e
        have := k _ s3
        rw [r] at this
        exact this
    · rintro σ H2 ⟨vp, vo, rfl, s2, hs⟩
      rw [List.length_map, List.length_range] at hs
      have := k _ (s1.trans s2)
      rw [symL_iff.mpr hs] at this
      exact this
theorem scSyms : FnScope ["self", "movement"] ["self"] (defScope sSyms) := ⟨rfl, rfl, rfl, by decide +kernel, rfl, by decide +kernel, by decide +kernel⟩
theorem known_at {c : List Nat} {n i : Nat} {key : List Key} {v : V} (h : (known c n)[i]? = some (key, v)) : ∃ m, (allM n)[i]? = some m ∧ key = mk m ∧ v = .bl (sy c n m) := by
  unfold known at h
  obtain ⟨m, h1, h2⟩ := map_at h
  injection h2 with h3 h4
  exact ⟨m, h1, h3, h4⟩
theorem known_len (c : List Nat) (n : Nat) : (known c n).length = (allM n).length := by
  unfold known
  rw [List.length_map]
theorem allM_len (n : Nat) : (allM n).length = 8 * (n * n) := by
  unfold allM
  rw [moves_len, List.length_range]
theorem allM_small {n : Nat} (h : n ≤ 6) : (allM n).length ≤ 288 := by
  rw [allM_len]
  have := Nat.mul_le_mul h h
  omega
theorem ok_syms {f : Addr} {fd : FuncData} (F : Fun K "symmetries" "Pattern.symmetries" sSyms f fd) (T : TxC K mg C) : FnOk P w K mg base CX0 1 f fd ["self"] (spSyms K C) := by
  refine F.ok scSyms (fun vs H Q E h => ?_) (fun cdv A outer s H vs Q E hr h => ?_)
  · obtain ⟨x, n, c, rfl, _⟩ := h
    rfl
  · obtain ⟨x, n, c, rfl, ⟨dx, ca, d, hP, hd⟩, k⟩ := h
    have nd := scSyms.nd
    have hu := hu_of hr
    refine ⟨_, pss_one (ps_ret (pe_lock (pe_lc (own := [("movement", 1)]) (g := gName 1) rfl nd (pi_keys (pe_fld (pv 0) rfl))
      (blkOk_by (own := [("movement", 1)]) (N := ["self", "movement"]) (sc := defScope sSyms) (by decide +kernel)) (fun _ _ _ _ _ => pg_name (i := 1) nd rfl (Or.inl rfl)) (fun _ _ _ _ _ => by refine pts_one (pt_val (t := tDGet (tFld K (tVar 0) "known") (tVar 1)) ?_ ?_); exact pe_dget hu (pe_fld (pv 0) rfl) (pv 1) (fun _ _ => rfl); intro _; rfl)
      (fun _ _ _ _ _ => pv 1)))), ?_⟩
    obtain ⟨hx, hca, hlen, h0, h6⟩ := id hP
    refine ⟨d, _, hd, trivial, fun od => ?_⟩
    have nxd : x ≠ d := ne_of hx hd (by intro z; cases z)
    have hx1 : L2.upd H d (.frz od (.dT (known c n))) x = some (.ins C dx (pf n ca d)) := by
      rw [upd_ne nxd]
      exact hx
    refine ⟨_, rfl, x, C, dx, _, _, rfl, hx1, T.cl, T.nK, pf_k _ _ _, d, od, rfl, .inr ⟨known c n, upd_same, fun D hD => ?_⟩⟩
    have ndD : d ≠ D := fun z => by
      rw [← z, upd_same] at hD
      cases hD
    have hD0 : H D = none := by
      rw [upd_ne (Ne.symm ndD)] at hD
      exact hD
    refine lc_it walk_keysT (fun i H' => ∃ L : List (Addr × Mv), Same (L2.upd H d (.frz od (.dT (known c n)))) H' ∧ H' D = some (.lst (refs L)) ∧ L.map (·.2) = ((allM n).take i).filter (sy c n) ∧ Ts H' L)
      ⟨[], Same.new hD, upd_same, rfl, fun q hq => nomatch hq⟩ (fun i H' _ ⟨_, s1, _⟩ => s1 _ _ upd_same) ?_ ?_
    · rintro i y H1 H2 hi ⟨L, s1, e1, em, t1⟩ ⟨rfl, key, v, q, hk, rfl, hq⟩
      obtain ⟨m, hm, rfl, rfl⟩ := known_at hk
      have hx2 := s1 _ _ hx1
      have hd2 := s1 _ _ (upd_same (H := H) (a := d) (o := .frz od (.dT (known c n))))
      have hmem : m ∈ allM n := List.mem_iff_getElem?.mpr ⟨i, hm⟩
      have e : valV (known c n) (mk m) = some (.bl (sy c n m)) := by
        unfold known
        rw [valV_known, if_pos hmem]
      have hL : L.length ≤ 288 := by
        have q := congrArg List.length em
        rw [List.length_map] at q
        rw [q]
        refine Nat.le_trans (List.length_filter_le _ _) ?_
        rw [List.length_take]
        exact Nat.le_trans (Nat.min_le_right _ _) (allM_small h6)
      refine ⟨rfl, _, rfl, x, C, dx, _, _, rfl, hx2, T.cl, T.nK, pf_k _ _ _, _, rfl, d, .bl (sy c n m), rfl, ?_, _, rfl, ?_⟩
      · exact .inr ⟨known c n, mk m, q, .inr ⟨od, hd2⟩, rfl, hq, e.symm⟩
      · cases hs : sy c n m with
        | true =>
          refine iteT ?_
          refine ⟨_, rfl, _, e1, (by unfold refs; rw [List.length_map]; exact Nat.lt_of_le_of_lt hL (by decide)), L ++ [(q, m)], Same.upd s1 hD, ?_, ?_, ?_⟩
          · rw [upd_same, refs_app]
            rfl
          · rw [List.map_append, em, take_more hm, List.filter_append, List.filter_cons, if_pos hs]
            rfl
          · refine Ts.keep (H := H2) (t1.app fun z hz => ?_) (fun xs z => ?_) rfl
            · obtain rfl := List.mem_singleton.mp hz
              exact hq
            · rw [e1] at z
              cases z
        | false =>
          refine iteF ⟨L, s1, e1, ?_, t1⟩
          rw [em, take_more hm, List.filter_append, List.filter_cons, if_neg (by rw [hs]; exact Bool.false_ne_true), List.filter_nil, List.append_nil]
    · rintro H1 ⟨L, s1, e1, em, t1⟩
      rw [known_len, List.take_length] at em
      have hd2 := s1 _ _ (upd_same (H := H) (a := d) (o := .frz od (.dT (known c n))))
      refine ⟨hd2, k _ D L (fun b o hb => ?_) hD0 em ?_ ?_⟩
      · by_cases hbd : b = d
        · subst hbd
          rw [upd_same]
          exact hd.symm.trans hb
        · rw [upd_ne hbd]
          exact s1 _ _ (by rw [upd_ne hbd]; exact hb)
      · rw [upd_ne (Ne.symm ndD)]
        exact e1
      · refine Ts.keep (H := H1) t1 (fun xs z => ?_) rfl
        rw [hd2] at z
        cases z
theorem scInit : FnScope ["self", "n", "colours", "movement"] ["self", "n", "colours"] (defScope sInit) := ⟨rfl, rfl, rfl, by decide +kernel, rfl, by decide +kernel, by decide +kernel⟩
theorem ok_init {f f1 f2 : Addr} {fd fd1 fd2 : FuncData} (F : Fun K "__init__" "Pattern.__init__" sInit f fd) (T : TxC K mg C) (TW : TxW K mg W ws) (G1 : FnOk P w K mg base CX0 1 f1 fd1 ["n", "ways"] (spMvs K)) (m1 : mg "movements" = some (.ref f1)) (k1 : PySem.W.keepIn K (.ref f1) = true) (b1 : Binds K fd1 ["n", "ways"] [])
    (G2 : FnOk P w K mg base CX0 4 f2 fd2 ["self", "movement"] (spLeaves K C)) (m2 : Meth K C "leaves" f2) (b2 : Binds K fd2 ["self", "movement"] []) :
    FnOk P w K mg base CX0 5 f fd ["self", "n", "colours"] (spInit K C) := by
  refine F.ok scInit (fun vs H Q E h => ?_) (fun cdv A outer s H vs Q E hr h => ?_)
  · obtain ⟨x, dx, ca, n, c, rfl, _⟩ := h
    rfl
  · obtain ⟨x, dx, ca, n, c, rfl, hx, hca, hlen, h0, h6, k⟩ := h
    have nd := scInit.nd
    have hu := hu_of hr
    have hr1 : Room 1 _ := hr.mono (by decide)
    obtain ⟨tM, mgM⟩ := T.many
    refine ⟨_, pss_cons (ps_fld (pv 0) (pv 1) rfl) (pss_cons (ps_fld (pv 0) (pv 2) rfl) (pss_cons (ps_fld (pv 0) pe_dnewT rfl)
      (pss_one (ps_for PassesOwn.never rfl (pi_list (pe_call G1 hr1 rfl m1 k1 b1 .nil pass0 (pa_cons (pv 1) (pa_cons (pe_listRg rfl rfl T.list (prg_1 rfl TW.range (pe_glob (v := .int 8) rfl mgM ⟨_, rfl⟩))) pa_nil)))) (pg_name (i := 3) nd rfl (Or.inl rfl))
        (pss_one (ps_dput hu (pe_fld (pv 0) rfl) (pv 3) (pe_meth (pv 0) T.cl m2 G2 hr b2 .nil pass0 (pa_cons (pv 3) pa_nil)) rfl)))))), ?_⟩
    refine ⟨_, rfl, _, rfl, x, C, dx, [], rfl, hx, T.cl, T.nN, (by show 0 < 1000; decide), ?_⟩
    refine ⟨_, rfl, _, rfl, x, C, dx, _, rfl, upd_same, T.cl, T.nC, (by show 1 < 1000; decide), ?_⟩
    intro d hd
    have nxd : x ≠ d := fun z => by
      rw [← z, upd_same] at hd
      cases hd
    have hd0 : H d = none := by
      rw [upd_ne (Ne.symm nxd), upd_ne (Ne.symm nxd)] at hd
      exact hd
    refine ⟨_, rfl, x, C, dx, _, rfl, (by rw [upd_ne nxd, upd_same]), T.cl, T.nK, ?_, ?_⟩
    · show List.length (putF "colours" (.ref ca) (putF "n" (.int (n : Int)) [])) < 1000
      have e1 : putF "colours" (.ref ca) (putF "n" (.int (n : Int)) []) = ([("n", .int (n : Int)), ("colours", .ref ca)] : List (Str × V)) := (put_past (by decide +kernel)).trans rfl
      rw [e1]
      show 2 < 1000
      decide
    · refine ⟨_, rfl, 8, rfl, (RgOk.of_le (by decide) (by decide) (by decide) (by decide)), fun q hq => ?_⟩
      refine ⟨n, q, List.range 8, rfl, SqL.of (upd_same.trans rfl), by omega, by decide, fun H1 r L s1 n1 em e1 t1 => ?_⟩
      have F1 : H1 x = some (.ins C dx (pf n ca d)) := by
        rw [← pf_new]
        exact s1 _ _ ((upd_ne (ne_of_none upd_same hq)).trans upd_same)
      have hd3 := (upd_ne (H := L2.upd (L2.upd (L2.upd H x (.ins C dx (putF "n" (.int (n : Int)) []))) x (.ins C dx (putF "colours" (.ref ca) (putF "n" (.int (n : Int)) [])))) d (.dT [])) (o := .ins C dx (putF "known" (.ref d) (putF "colours" (.ref ca) (putF "n" (.int (n : Int)) [])))) (Ne.symm nxd)).trans upd_same
      have F2 : H1 d = some (.dT []) := s1 _ _ ((upd_ne (ne_of_none hd3 hq)).trans hd3)
      have F3 : ∀ b o, b ≠ x → H b = some o → H1 b = some o := fun b o hbx hb => by
        have nbd : b ≠ d := ne_of_none hb hd0
        have hb3 := (upd_ne (H := L2.upd (L2.upd (L2.upd H x (.ins C dx (putF "n" (.int (n : Int)) []))) x (.ins C dx (putF "colours" (.ref ca) (putF "n" (.int (n : Int)) [])))) d (.dT [])) (o := .ins C dx (putF "known" (.ref d) (putF "colours" (.ref ca) (putF "n" (.int (n : Int)) [])))) hbx).trans ((upd_ne nbd).trans ((upd_ne hbx).trans ((upd_ne hbx).trans hb)))
        exact s1 _ _ ((upd_ne (ne_of_none hb3 hq)).trans hb3)
      have F4 : SqL K H1 ca (cV c) := off_seq hx (by intro xs z; cases z) (by intro ob xs z; cases z) F3 hca
      have nrd : r ≠ d := ne_of e1 F2 (by intro z; cases z)
      refine ⟨r, rfl, ⟨_, SqL.of e1⟩, for_list (K := K) (a := r) (xs := refs L) (fun i σ H' => ∃ vm : Option V, σ = [some (.ref x), some (.int (n : Int)), some (.ref ca), vm] ∧ (∀ b o, b ≠ d → H1 b = some o → H' b = some o) ∧ H' d = some (.dT (((allM n).take i).map (entry c n))))
        ⟨none, rfl, fun b o _ h => h, F2⟩ (fun i σ H' _ ⟨_, _, s2, _⟩ => SqL.of (s2 _ _ nrd e1)) ?_ ?_⟩
      · rintro i y σ H2 hi ⟨vm, rfl, s2, e2⟩
        obtain ⟨⟨t, m⟩, hLi, rfl⟩ := map_at hi
        have hm : (allM n)[i]? = some m := by
          have q : (L.map (·.2))[i]? = some m := by
            rw [List.getElem?_map, hLi]
            rfl
          rw [em] at q
          exact q
        have hmem : m ∈ allM n := List.mem_iff_getElem?.mpr ⟨i, hm⟩
        have ht1 : H1 t = some (.tup (mv m)) := t1 (t, m) (List.mem_iff_getElem?.mpr ⟨i, hLi⟩)
        have ntd : t ≠ d := ne_of ht1 F2 (by intro z; cases z)
        have ht2 := s2 _ _ ntd ht1
        have hx2 := s2 _ _ nxd F1
        have hca2 : SqL K H2 ca (cV c) := off_seq F2 (by intro xs z; cases z) (by intro ob xs z; cases z) s2 F4
        have ha : m.1 < 8 := List.mem_range.mp (mem_moves.mp hmem).1
        refine ⟨_, rfl, x, dx, _, rfl, hx2, pf_no _ _ _ (by decide +kernel) (by decide +kernel) (by decide +kernel), _, rfl, x, dx, ca, d, t, n, c, m.1, m.2.1, m.2.2, rfl, ⟨hx2, hca2, hlen, h0, h6⟩, SqT.of ht2, ha, fun H5 s5 => ?_⟩
        refine ⟨_, rfl, x, C, dx, _, _, rfl, s5 _ _ hx2, T.cl, T.nK, pf_k _ _ _, _, rfl, d, _, rfl, DPut.t (k := mk m) (s5 _ _ e2) (s5 _ _ ht2) ?_, _, rfl, fun b o hb h1 => (upd_ne hb).trans (s5 _ _ (s2 b o hb h1)), ?_⟩
        · rw [List.length_map, List.length_take]
          exact Nat.lt_of_le_of_lt (Nat.le_trans (Nat.min_le_right _ _) (allM_small h6)) (by decide)
        · rw [upd_same, take_more hm, List.map_append, putK_new]
          · rfl
          · rw [valV_known, if_neg]
            exact not_mem_take (moves_nodup n List.nodup_range) hm
      · rintro σ H2 ⟨vm, rfl, s2, e2⟩
        have hl : (refs L).length = (allM n).length := by
          rw [refs_len, em]
          rfl
        rw [hl, List.take_length] at e2
        refine k _ (fun b o hbx hb => s2 b o (ne_of_none hb hd0) (F3 b o hbx hb)) ⟨dx, ca, d, ⟨s2 _ _ nxd F1, off_seq F2 (by intro xs z; cases z) (by intro ob xs z; cases z) s2 F4, hlen, h0, h6⟩, e2⟩
end
end Pl
/-! ### sides, what is asked of a square -/
namespace Pl
open PySem PySem.Spec PyProof.Rows L2
def spSide : Sp := fun vs H Q _ => ∃ z : Int, vs = [.int z] ∧ Q (.bl (decide (1 ≤ z) && decide (z ≤ 64))) H
theorem pf_meth {n : Nat} {ca d : Addr} {m : Str} (h : ((m == ("n" : Str)) || (m == ("colours" : Str)) || (m == ("known" : Str))) = false) : (pf n ca d).lookup m = none := by
  rw [Bool.or_eq_false_iff, Bool.or_eq_false_iff] at h
  exact pf_no n ca d h.1.1 h.1.2 h.2
theorem refs_at {L : List (Addr × Mv)} {i : Nat} {y : V} (h : (refs L)[i]? = some y) : ∃ t m, L[i]? = some (t, m) ∧ y = .ref t := by
  obtain ⟨⟨t, m⟩, h1, h2⟩ := map_at h
  exact ⟨t, m, h1, h2⟩
section
variable {P : Program} {w : World} {K : PySem.W.Frag} {mg : Str → Option Value} {base : Heap}
theorem scSide : FnScope ["n"] ["n"] (defScope sIsSide) := ⟨rfl, rfl, rfl, by decide +kernel, rfl, by decide +kernel, by decide +kernel⟩
theorem ok_side {f : Addr} {fd : FuncData} (F : Fun K "is_side" "is_side" sIsSide f fd) (mM : ∃ t, mg "MOST_SIDE" = some (.int 64 t)) : FnOk P w K mg base CX0 1 f fd ["n"] spSide := by
  refine F.ok scSide (fun vs H Q E h => ?_) (fun cdv A outer s H vs Q E hr h => ?_)
  · obtain ⟨z, rfl, _⟩ := h
    rfl
  · obtain ⟨z, rfl, k⟩ := h
    obtain ⟨t, mM⟩ := mM
    refine ⟨_, pss_one (ps_ret (pe_chain op_le op_le pe_int (pv 0) (pe_glob (v := .int 64) rfl mM ⟨_, rfl⟩))), ?_⟩
    refine ⟨_, rfl, _, _, rfl, rfl, _, rfl, ?_⟩
    by_cases h : 1 ≤ z
    · rw [decide_eq_true h] at k ⊢
      exact iteT ⟨_, _, rfl, rfl, k⟩
    · rw [decide_eq_false h] at k ⊢
      exact iteF k
theorem cV_nats {cs : List Int} (h : ∀ z ∈ cs, 0 ≤ z) : cV (Sa48Neutral.nats cs) = cs.map V.int := by
  unfold cV Sa48Neutral.nats
  rw [List.map_map]
  refine List.map_congr_left fun z hz => ?_
  show V.int ((z.toNat : Nat) : Int) = V.int z
  rw [Int.toNat_of_nonneg (h z hz)]
/-- what is asked of a square -/
theorem square_of {z : Int} {cs : List Int} (h : Sa48Neutral.square z cs = true) (h1 : 1 ≤ z) (h2 : z ≤ 64) : ∃ n : Nat, z = (n : Int) ∧ 0 < n ∧ n ≤ 6 ∧ (Sa48Neutral.nats cs).length = n * n ∧ cV (Sa48Neutral.nats cs) = cs.map V.int := by
  unfold Sa48Neutral.square at h
  rw [if_pos ⟨h1, h2⟩, Bool.and_eq_true, Bool.and_eq_true, Bool.and_eq_true, decide_eq_true_eq, decide_eq_true_eq, List.all_eq_true] at h
  obtain ⟨_, ha, h6, hl⟩ := h
  refine ⟨z.toNat, by omega, by omega, by omega, ?_, cV_nats fun y hy => ?_⟩
  · unfold Sa48Neutral.nats
    rw [List.length_map]
    have e : ((z.toNat * z.toNat : Nat) : Int) = z * z := by
      rw [Int.natCast_mul, Int.toNat_of_nonneg (by omega)]
    omega
  · have := ha y hy
    unfold Sa48Neutral.natural at this
    rw [Bool.and_eq_true, decide_eq_true_eq] at this
    exact this.1
end
end Pl
namespace Pl
open Sa48 Sa48Neutral
/-! ### the order of lists -/
def lexI : List Int → List Int → Bool
  | [], [] => false
  | [], _ :: _ => true
  | _ :: _, [] => false
  | x :: xs, y :: ys => if x = y then lexI xs ys else decide (x < y)
theorem lexI_asym : ∀ a b : List Int, lexI a b = true → lexI b a = false
  | [], [], _ => rfl
  | [], _ :: _, _ => rfl
  | _ :: _, [], h => by cases h
  | x :: xs, y :: ys, h => by
    unfold lexI at h ⊢
    by_cases e : x = y
    · rw [if_pos e] at h
      rw [if_pos e.symm]
      exact lexI_asym xs ys h
    · rw [if_neg e, decide_eq_true_eq] at h
      rw [if_neg (Ne.symm e)]
      exact decide_eq_false (by omega)
theorem lexI_tr : ∀ a b c : List Int, lexI b a = false → lexI c b = false → lexI c a = false
  | [], _, [], _, _ => rfl
  | [], [], _ :: _, _, _ => rfl
  | [], _ :: _, _ :: _, _, _ => rfl
  | _ :: _, [], _, h, _ => by cases h
  | _ :: _, _ :: _, [], _, h => by cases h
  | x :: xs, y :: ys, z :: zs, h1, h2 => by
    unfold lexI at h1 h2 ⊢
    by_cases e1 : y = x
    · rw [if_pos e1] at h1
      by_cases e2 : z = y
      · rw [if_pos e2] at h2
        rw [if_pos (e2.trans e1)]
        exact lexI_tr xs ys zs h1 h2
      · rw [if_neg e2, decide_eq_false_iff_not] at h2
        rw [if_neg (fun q => e2 (by omega))]
        exact decide_eq_false (by omega)
    · rw [if_neg e1, decide_eq_false_iff_not] at h1
      by_cases e2 : z = y
      · rw [if_neg (fun q => e1 (by omega))]
        exact decide_eq_false (by omega)
      · rw [if_neg e2, decide_eq_false_iff_not] at h2
        rw [if_neg (fun q => by omega)]
        exact decide_eq_false (by omega)
theorem lexI_anti : ∀ a b : List Int, lexI a b = false → lexI b a = false → a = b
  | [], [], _, _ => rfl
  | [], _ :: _, h, _ => by cases h
  | _ :: _, [], _, h => by cases h
  | x :: xs, y :: ys, h1, h2 => by
    unfold lexI at h1 h2
    by_cases e : x = y
    · rw [if_pos e] at h1
      rw [if_pos e.symm] at h2
      rw [e, lexI_anti xs ys h1 h2]
    · rw [if_neg e, decide_eq_false_iff_not] at h1
      rw [if_neg (Ne.symm e), decide_eq_false_iff_not] at h2
      omega
theorem lexI_refl (a : List Int) : lexI a a = false := by
  cases h : lexI a a with
  | false => rfl
  | true =>
    rw [lexI_asym a a h] at h
    cases h
def li (l : List Nat) : List Int := l.map fun (x : Nat) => (x : Int)
theorem li_inj : ∀ {a b : List Nat}, li a = li b → a = b
  | [], [], _ => rfl
  | [], _ :: _, h => by cases h
  | _ :: _, [], h => by cases h
  | x :: xs, y :: ys, h => by
    have h : (x : Int) :: li xs = (y : Int) :: li ys := h
    injection h with h1 h2
    have h1 : x = y := by omega
    rw [h1, li_inj h2]
theorem before_lex : ∀ a b : List Nat, a.length = b.length → before a b = lexI (li a) (li b)
  | [], [], _ => rfl
  | [], _ :: _, h => by simp at h
  | _ :: _, [], h => by simp at h
  | x :: xs, y :: ys, h => by
    have hl : xs.length = ys.length := by simpa using h
    show (decide (x < y) || (x == y && before xs ys)) = (if (x : Int) = (y : Int) then lexI (li xs) (li ys) else decide ((x : Int) < (y : Int)))
    by_cases e : x = y
    · subst e
      rw [if_pos rfl, before_lex xs ys hl, beq_self_eq_true, Bool.true_and, decide_eq_false (Nat.lt_irrefl x), Bool.false_or]
    · rw [if_neg (by omega), beq_eq_false_iff_ne.mpr e, Bool.false_and, Bool.or_false]
      by_cases q : x < y
      · rw [decide_eq_true q, decide_eq_true (by omega)]
      · rw [decide_eq_false q, decide_eq_false (by omega)]
/-- the fold finds the least -/
theorem fold_least {N : Nat} : ∀ (l : List (List Nat)) (b : List Nat), b.length = N → (∀ q ∈ l, q.length = N) →
    (l.foldl (fun (b q : List Nat) => if before q b = true then q else b) b) ∈ b :: l ∧ ∀ q ∈ b :: l, lexI (li q) (li (l.foldl (fun (b q : List Nat) => if before q b = true then q else b) b)) = false
  | [], b, _, _ => ⟨List.mem_cons_self .., fun q hq => by
    rcases List.mem_cons.mp hq with rfl | hq
    · exact lexI_refl _
    · exact (nomatch hq)⟩
  | x :: l, b, hb, hl => by
    have hx := hl x (List.mem_cons_self ..)
    have hr : ∀ q ∈ l, q.length = N := fun q hq => hl q (List.mem_cons_of_mem _ hq)
    rw [List.foldl_cons]
    by_cases e : before x b = true
    · rw [if_pos e]
      obtain ⟨h1, h2⟩ := fold_least l x hx hr
      have hxb := lexI_asym _ _ ((before_lex x b (hx.trans hb.symm)).symm.trans e)
      refine ⟨List.mem_cons_of_mem _ h1, fun q hq => ?_⟩
      rcases List.mem_cons.mp hq with rfl | hq
      · exact lexI_tr _ _ _ (h2 x (List.mem_cons_self ..)) hxb
      · exact h2 q hq
    · rw [if_neg e]
      obtain ⟨h1, h2⟩ := fold_least l b hb hr
      have hxb : lexI (li x) (li b) = false := by
        rw [before_lex x b (hx.trans hb.symm)] at e
        cases z : lexI (li x) (li b) with
        | false => rfl
        | true => exact absurd z e
      refine ⟨?_, fun q hq => ?_⟩
      · rcases List.mem_cons.mp h1 with h | h
        · rw [h]
          exact List.mem_cons_self ..
        · exact List.mem_cons_of_mem _ (List.mem_cons_of_mem _ h)
      · rcases List.mem_cons.mp hq with rfl | hq
        · exact h2 q (List.mem_cons_self ..)
        · rcases List.mem_cons.mp hq with rfl | hq
          · exact lexI_tr _ _ _ (h2 b (List.mem_cons_self ..)) hxb
          · exact h2 q (List.mem_cons_of_mem _ hq)
/-! ### what a movement makes -/
def tl (c : List Nat) (n : Nat) (m : Nat × Int × Int) (j : Nat) : List Nat := (List.range j).foldl (fun l k => l.set (pl n m.1 m.2.1 m.2.2 k) (c.getD k 0)) (List.replicate (n * n) 0)
def mdL (c : List Nat) (n : Nat) (m : Nat × Int × Int) : List Nat := tl c n m (n * n)
theorem tl_more (c : List Nat) (n : Nat) (m : Nat × Int × Int) (j : Nat) : tl c n m (j + 1) = (tl c n m j).set (pl n m.1 m.2.1 m.2.2 j) (c.getD j 0) := by
  unfold tl
  rw [List.range_succ, List.foldl_append]
  rfl
theorem tl_len (c : List Nat) (n : Nat) (m : Nat × Int × Int) : ∀ j, (tl c n m j).length = n * n
  | 0 => by
    show (List.replicate (n * n) 0).length = n * n
    rw [List.length_replicate]
  | j + 1 => by rw [tl_more, List.length_set, tl_len c n m j]
theorem fold_arr (f : Nat → Nat) (g : Nat → Nat) : ∀ (l : List Nat) (a : Array Nat), (l.foldl (fun (c : Array Nat) (k : Nat) => c.setIfInBounds (f k) (g k)) a).toList = l.foldl (fun c k => c.set (f k) (g k)) a.toList
  | [], _ => rfl
  | x :: l, a => by
    rw [List.foldl_cons, List.foldl_cons, fold_arr f g l, Array.toList_setIfInBounds]
theorem made_is (c : List Nat) (n : Nat) (m : Nat × Int × Int) : made ⟨n, c⟩ m.1 m.2.1 m.2.2 = mdL c n m := by
  unfold made mdL tl
  rw [fold_arr, Array.toList_replicate]
  rfl
theorem mdL_id {c : List Nat} {n : Nat} (hc : c.length = n * n) : mdL c n (0, 0, 0) = c := by
  have key : ∀ j, j ≤ n * n → tl c n (0, 0, 0) j = c.take j ++ List.replicate (n * n - j) 0 := fun j => by
    induction j with
    | zero => intro _; rfl
    | succ j ih =>
      intro hj
      rw [tl_more, ih (by omega)]
      have e : pl n 0 0 0 j = j := by
        unfold pl
        show num n (((j % n : Nat) : Int) + 0) (((j / n : Nat) : Int) + 0) = j
        rw [Int.add_zero, Int.add_zero]
        exact num_self (by omega)
      show (c.take j ++ List.replicate (n * n - j) 0).set (pl n 0 0 0 j) (c.getD j 0) = _
      rw [e]
      refine List.ext_getElem? fun i => ?_
      rw [List.getElem?_set]
      have hl : (c.take j).length = j := by
        rw [List.length_take]
        omega
      have hl' : (c.take (j + 1)).length = j + 1 := by
        rw [List.length_take]
        omega
      by_cases e1 : j = i
      · subst e1
        rw [if_pos rfl, if_pos (by rw [List.length_append, hl, List.length_replicate]; omega), List.getElem?_append_left (by omega), List.getElem?_take_of_lt (by omega), List.getD_eq_getElem?_getD, List.getElem?_eq_getElem (by omega)]
        rfl
      · rw [if_neg e1]
        by_cases e2 : i < j
        · rw [List.getElem?_append_left (by omega), List.getElem?_append_left (by omega), List.getElem?_take_of_lt e2, List.getElem?_take_of_lt (by omega)]
        · rw [List.getElem?_append_right (by omega), List.getElem?_append_right (by omega), hl, hl', List.getElem?_replicate, List.getElem?_replicate]
          by_cases e3 : i < n * n
          · rw [if_pos (by omega), if_pos (by omega)]
          · rw [if_neg (by omega), if_neg (by omega)]
  have q := key (n * n) (Nat.le_refl _)
  unfold mdL
  rw [q, Nat.sub_self, ← hc, List.take_length]
  simp
/-- those that differ, in their order -/
def dl (c : List Nat) (n : Nat) (ms : List (Nat × Int × Int)) : List (List Nat) := ms.foldl (fun D m => if mdL c n m ∈ D then D else D ++ [mdL c n m]) []
theorem dl_more (c : List Nat) (n : Nat) (ms : List (Nat × Int × Int)) (m : Nat × Int × Int) : dl c n (ms ++ [m]) = if mdL c n m ∈ dl c n ms then dl c n ms else dl c n ms ++ [mdL c n m] := by
  unfold dl
  rw [List.foldl_append]
  rfl
theorem dl_le (c : List Nat) (n : Nat) (ms : List (Nat × Int × Int)) : (dl c n ms).length ≤ ms.length := by
  have key : ∀ (ms : List (Nat × Int × Int)) (D : List (List Nat)), (ms.foldl (fun D m => if mdL c n m ∈ D then D else D ++ [mdL c n m]) D).length ≤ D.length + ms.length := fun ms => by
    induction ms with
    | nil => intro D; exact Nat.le_refl _
    | cons m r ih =>
      intro D
      rw [List.foldl_cons]
      refine Nat.le_trans (ih _) ?_
      rw [List.length_cons]
      split
      · omega
      · rw [List.length_append, List.length_singleton]
        omega
  have q := key ms []
  rw [List.length_nil, Nat.zero_add] at q
  exact q
theorem dl_mem {c : List Nat} {n : Nat} {q : List Nat} : ∀ {ms : List (Nat × Int × Int)}, q ∈ dl c n ms ↔ ∃ m ∈ ms, mdL c n m = q := fun {ms} => by
  have key : ∀ (ms : List (Nat × Int × Int)) (D : List (List Nat)), q ∈ ms.foldl (fun D m => if mdL c n m ∈ D then D else D ++ [mdL c n m]) D ↔ q ∈ D ∨ ∃ m ∈ ms, mdL c n m = q := fun ms => by
    induction ms with
    | nil =>
      intro D
      constructor
      · exact .inl
      · rintro (h | ⟨m, hm, _⟩)
        · exact h
        · exact (nomatch hm)
    | cons m r ih =>
      intro D
      rw [List.foldl_cons, ih]
      by_cases e : mdL c n m ∈ D
      · rw [if_pos e]
        constructor
        · rintro (h | ⟨m', hm, h⟩)
          · exact .inl h
          · exact .inr ⟨m', List.mem_cons_of_mem _ hm, h⟩
        · rintro (h | ⟨m', hm, h⟩)
          · exact .inl h
          · rcases List.mem_cons.mp hm with rfl | hm
            · exact .inl (h ▸ e)
            · exact .inr ⟨m', hm, h⟩
      · rw [if_neg e, List.mem_append, List.mem_singleton]
        constructor
        · rintro ((h | h) | ⟨m', hm, h⟩)
          · exact .inl h
          · exact .inr ⟨m, List.mem_cons_self .., h.symm⟩
          · exact .inr ⟨m', List.mem_cons_of_mem _ hm, h⟩
        · rintro (h | ⟨m', hm, h⟩)
          · exact .inl (.inl h)
          · rcases List.mem_cons.mp hm with rfl | hm
            · exact .inl (.inr h.symm)
            · exact .inr ⟨m', hm, h⟩
  have z := key ms []
  constructor
  · intro h
    rcases z.mp h with h | h
    · exact (nomatch h)
    · exact h
  · intro h
    exact z.mpr (.inr h)
def wayN (w : Nat) : Nat := ([1, 4, 8] : List Nat).getD w 0
theorem which_is : ∀ w, w ≤ 2 → which w = List.range (wayN w) := by
  intro w hw
  have q : w = 0 ∨ w = 1 ∨ w = 2 := by omega
  rcases q with rfl | rfl | rfl <;> decide
theorem images_is {c : List Nat} {n w : Nat} (hw : w ≤ 2) : images ⟨n, c⟩ w = (dl c n (moves n (List.range (wayN w)))).reverse := by
  have key : ∀ (ms : List (Nat × Int × Int)) (D : List (List Nat)), ms.foldl (fun (l : List (List Nat)) m => if l.contains (mdL c n m) = true then l else mdL c n m :: l) D.reverse = (ms.foldl (fun D m => if mdL c n m ∈ D then D else D ++ [mdL c n m]) D).reverse := fun ms => by
    induction ms with
    | nil => intro D; rfl
    | cons m r ih =>
      intro D
      rw [List.foldl_cons, List.foldl_cons]
      by_cases e : mdL c n m ∈ D
      · rw [if_pos e, if_pos (by rw [List.contains_iff_mem, List.mem_reverse]; exact e)]
        exact ih D
      · rw [if_neg e, if_neg (by rw [List.contains_iff_mem, List.mem_reverse]; exact e)]
        have z := ih (D ++ [mdL c n m])
        rw [List.reverse_append] at z
        exact z
  unfold images dl
  rw [which_is w hw]
  have e : (fun (l : List (List Nat)) (m : Nat × Int × Int) => let q := made ⟨n, c⟩ m.1 m.2.1 m.2.2
      if l.contains q = true then l else q :: l) = fun l m => if l.contains (mdL c n m) = true then l else mdL c n m :: l := by
    funext l m
    show (if l.contains (made ⟨n, c⟩ m.1 m.2.1 m.2.2) = true then l else made ⟨n, c⟩ m.1 m.2.1 m.2.2 :: l) = _
    rw [made_is]
  show (moves n (List.range (wayN w))).foldl (fun (l : List (List Nat)) (m : Nat × Int × Int) => let q := made ⟨n, c⟩ m.1 m.2.1 m.2.2
      if l.contains q = true then l else q :: l) [] = _
  rw [e]
  exact key _ []
theorem least_is {z w : Int} {n : Nat} {cs : List Int} {c : List Nat} {S : List (List Nat)} {s0 : List Nat} {r : List (List Nat)} (hz : z = (n : Int)) (hc : nats cs = c) (hn : 0 < n) (h64 : n ≤ 64) (hl : c.length = n * n) (h0 : 0 ≤ w) (h2 : w ≤ 2)
    (hp : S.Perm (dl c n (moves n (List.range (wayN w.toNat))))) (hs : S.Pairwise fun x y => lexI (li y) (li x) = false) (e : S = s0 :: r) :
    PySa48.least z w cs = ((S.length : Nat) : Int) :: li s0 := by
  subst hz hc
  have hin : ¬ (n < 1 ∨ 64 < n ∨ w < 0 ∨ 2 < w.toNat) := by omega
  have hw : w.toNat ≤ 2 := by omega
  show (if (n : Int).toNat < 1 ∨ 64 < (n : Int).toNat ∨ w < 0 ∨ 2 < w.toNat then [-2] else told (images ⟨(n : Int).toNat, nats cs⟩ w.toNat).length ((images ⟨(n : Int).toNat, nats cs⟩ w.toNat).foldl (fun (b q : List Nat) => if before q b = true then q else b) (nats cs))) = _
  rw [Int.toNat_natCast, if_neg hin, images_is hw]
  have len : ∀ q ∈ (dl (nats cs) n (moves n (List.range (wayN w.toNat)))).reverse, q.length = n * n := fun q hq => by
    obtain ⟨m, _, rfl⟩ := dl_mem.mp (List.mem_reverse.mp hq)
    exact tl_len _ _ _ _
  obtain ⟨h1, h3⟩ := fold_least (N := n * n) (dl (nats cs) n (moves n (List.range (wayN w.toNat)))).reverse (nats cs) hl len
  have idm : nats cs ∈ dl (nats cs) n (moves n (List.range (wayN w.toNat))) := by
    refine dl_mem.mpr ⟨(0, 0, 0), mem_moves.mpr ⟨List.mem_range.mpr ?_, ⟨0, hn, rfl⟩, ⟨0, hn, rfl⟩⟩, mdL_id hl⟩
    have q : w.toNat = 0 ∨ w.toNat = 1 ∨ w.toNat = 2 := by omega
    rcases q with q | q | q <;> rw [q] <;> decide
  generalize hm : (dl (nats cs) n (moves n (List.range (wayN w.toNat)))).reverse.foldl (fun (b q : List Nat) => if before q b = true then q else b) (nats cs) = mn at h1 h3
  have mS : mn ∈ S := by
    refine hp.mem_iff.mpr ?_
    rcases List.mem_cons.mp h1 with h | h
    · rw [h]
      exact idm
    · exact List.mem_reverse.mp h
  have sD : s0 ∈ dl (nats cs) n (moves n (List.range (wayN w.toNat))) := hp.mem_iff.mp (by rw [e]; exact List.mem_cons_self ..)
  have a1 : lexI (li s0) (li mn) = false := h3 s0 (List.mem_cons_of_mem _ (List.mem_reverse.mpr sD))
  have a2 : lexI (li mn) (li s0) = false := by
    rw [e] at mS hs
    rcases List.mem_cons.mp mS with h | h
    · rw [h]
      exact lexI_refl _
    · exact (List.pairwise_cons.mp hs).1 mn h
  have em : s0 = mn := li_inj (lexI_anti _ _ a1 a2)
  rw [List.length_reverse, ← hp.length_eq, em]
  rfl
theorem least_out {z w : Int} {cs : List Int} (h : ¬ (1 ≤ z ∧ z ≤ 64 ∧ 0 ≤ w ∧ w ≤ 2)) : PySa48.least z w cs = [-2] := by
  have hin : z.toNat < 1 ∨ 64 < z.toNat ∨ w < 0 ∨ 2 < w.toNat := by omega
  show (if z.toNat < 1 ∨ 64 < z.toNat ∨ w < 0 ∨ 2 < w.toNat then [-2] else _) = _
  rw [if_pos hin]
end Pl
/-! ### sorted(d), d a dict whose keys are tuples of ints, all of one length: any number of them -/
namespace Pl
open PySem PySem.Spec PyProof.Rows L2
theorem lexI_swo {α : Type} (k : α → List Int) : SrtO.Swo fun x y => lexI (k x) (k y) := ⟨fun _ _ h => lexI_asym _ _ h, fun _ _ _ h1 h2 => lexI_tr _ _ _ h1 h2⟩
/-- v is a tuple of the ints ns -/
def TupIs (h : Heap) (v : Value) (ns : List Int) : Prop := ∃ a o its n, v = .ref a ∧ h.get? a = some o ∧ o.cls = .type "tuple" ∧ o.data = .seq its n ∧ IntsAre its.toList ns
theorem TupIs.stay {h h' : Heap} {v : Value} {ns : List Int} (t : TupIs h v ns) (k : ∀ b o, h.get? b = some o → o.cls = .type "tuple" → h'.get? b = some o) : TupIs h' v ns := by
  obtain ⟨a, o, its, n, e, ho, hc, r⟩ := t
  exact ⟨a, o, its, n, e, k _ _ ho hc, hc, r⟩
section
variable {prog : Program} {w : World} {A : Around} {E : Value → Shared → Prop} {s : Shared}
theorem kat_ints {Q : Bool → Shared → Prop} : ∀ {ns : List Int} {xs : List Value} {ms : List Int} {ys : List Value} (i : Nat), IntsAre xs ns → IntsAre ys ms → ns.length = ms.length → Q (lexI ns ms) s → PySem.W.KatLex prog w A true false Q (xs.zip ys) i s
  | [], _, [], _, _, .nil, .nil, _, h => PySem.W.kat_nil h
  | [], _, _ :: _, _, _, .nil, .cons _ _ _, hl, _ => by simp at hl
  | _ :: _, _, [], _, _, .cons _ _ _, .nil, hl, _ => by simp at hl
  | n :: ns, _, m :: ms, _, i, .cons _ t hx, .cons _ u hy, hl, h => by
    have hl : ns.length = ms.length := by simpa using hl
    unfold lexI at h
    refine PySem.W.kat_cons (SeqAt.EqAt.int_int n t m u prog w _ _ (PySem.W.kat_go (fun q => ?_) (fun q => ?_)))
    · rw [if_pos (by simpa using q)] at h
      exact PySem.W.kat_yes (kat_ints (i + 1) hx hy hl h)
    · rw [if_neg (by simpa using q)] at h
      exact PySem.W.kat_no (TS.oneLt_ints _ h)
theorem ia_len : ∀ {us : List Value} {ns : List Int}, IntsAre us ns → us.length = ns.length
  | _, _, .nil => rfl
  | _, _, .cons _ _ r => by rw [List.length_cons, List.length_cons, ia_len r]
theorem tup_cmp {vs : List Value} {k : Value → List Int} {N : Nat} (hp : ∀ v ∈ vs, TupIs s.heap v (k v) ∧ (k v).length = N) : SrtO.Cmp prog w A s (tuples' true) (fun p => p.1 ∈ vs) (SrtO.lt2 fun v u => lexI (k v) (k u)) := by
  intro p q hm hm'
  obtain ⟨h1, l1⟩ := hp _ hm
  obtain ⟨h2, l2⟩ := hp _ hm'
  show wpAny (model prog w) A (keyLt' (tuples' true) p.1 q.1) (fun r s' => s' = s ∧ r = lexI (k p.1) (k q.1)) (fun _ _ => False) s
  generalize k p.1 = ns at h1 l1 ⊢
  generalize k q.1 = ms at h2 l2 ⊢
  obtain ⟨a, o, xs, n, e, ho, hc, hd, hi⟩ := h1
  obtain ⟨a', o', ys, n', e', ho', hc', hd', hi'⟩ := h2
  rw [e, e']
  refine PySem.W.kat_lt ho hd ho' hd' ?_
  have z : decide (xs.size < ys.size) = false := by
    have q1 := ia_len hi
    have q2 := ia_len hi'
    rw [Array.length_toList] at q1 q2
    exact decide_eq_false (by omega)
  rw [z]
  exact kat_ints 0 hi hi' (l1.trans l2.symm) ⟨rfl, rfl⟩
theorem tup_firsts {h : Heap} {k : Value → List Int} : ∀ {vs : List Value}, (∀ v ∈ vs, TupIs h v (k v) ∧ 1 ≤ (k v).length) → ∃ fs : List Value, PySem.W.KatTups h vs fs ∧ fs.length = vs.length ∧ ∀ f ∈ fs, ∃ x t, f = Value.int x t
  | [], _ => ⟨[], PySem.W.KatTups.nil, rfl, fun _ hf => by simp at hf⟩
  | v :: vs, hp => by
    obtain ⟨fs, h1, h2, h3⟩ := tup_firsts (k := k) (vs := vs) fun u hu => hp u (List.mem_cons_of_mem _ hu)
    obtain ⟨⟨a, o, xs, n, e, ho, hc, hd, hi⟩, hl⟩ := hp v (List.mem_cons_self ..)
    subst e
    obtain ⟨x, t, hx⟩ : ∃ x t, xs[0]? = some (Value.int x t) := by
      rw [← Array.getElem?_toList]
      generalize xs.toList = us at hi
      generalize k (Value.ref a) = ns at hi hl
      cases hi with
      | nil => simp at hl
      | cons x t r => exact ⟨x, t, rfl⟩
    refine ⟨.int x t :: fs, PySem.W.KatTups.cons ho hc hd hx h1, by rw [List.length_cons, List.length_cons, h2], fun f hf => ?_⟩
    rcases List.mem_cons.mp hf with rfl | hf
    · exact ⟨x, t, rfl⟩
    · exact h3 f hf
theorem tup_sortable {a : Addr} {vs : List Value} {k : Value → List Int} {N : Nat} (h0 : 0 < vs.length) (hN : 1 ≤ N) (hp : ∀ v ∈ vs, TupIs s.heap v (k v) ∧ (k v).length = N) (ha : ∀ o, s.heap.get? a = some o → o.cls ≠ .type "tuple") :
    SrtO.SortableO prog w A s a vs fun v u => lexI (k v) (k u) := by
  intro h' keep
  have hp' : ∀ v ∈ vs, TupIs h' v (k v) ∧ (k v).length = N := fun v hv => ⟨(hp v hv).1.stay fun b o e c => keep b o (fun z => ha o (z ▸ e) c) e, (hp v hv).2⟩
  obtain ⟨fs, h1, h2, h3⟩ := tup_firsts fun v hv => ⟨(hp' v hv).1, by rw [(hp' v hv).2]; exact hN⟩
  refine ⟨tuples' true, fun Q E hq => PySem.W.kat_kind (T := .type "int") h1 (by omega) (fun f hf => ?_) (by rfl) ?_, tup_cmp hp'⟩
  · obtain ⟨x, t, rfl⟩ := h3 f hf
    exact PySem.W.Looks.now
  · have z : (Value.type "int" != Value.type "tuple") = true := by first | decide +kernel | rfl
    rw [z]
    exact hq
end
/-- the ints of the tuple at an address -/
def intV : V → Int
  | .int i => i
  | _ => 0
def tupInts (H : Hp) (a : Addr) : List Int := match H a with
  | some (.tup ys) => ys.map intV
  | _ => []
theorem tupInts_at {H : Hp} {a : Addr} {ns : List Int} (h : H a = some (.tup (ns.map V.int))) : tupInts H a = ns := by
  unfold tupInts
  rw [h]
  show (ns.map V.int).map intV = ns
  rw [List.map_map]
  exact (List.map_congr_left (g := id) fun _ _ => rfl).trans (List.map_id _)
def addrV : Value → Addr
  | .ref a => a
  | _ => 0
/-- d: a dict with tuples of N ints for keys; the keys' tuples, in the lists' order -/
def rSortDict : List V → Hp → VK → Prop := fun vs H Q => ∃ (d : Addr) (kvs : List (List Key × V)) (N : Nat), vs = [.ref d] ∧ H d = some (.dT kvs) ∧ 1 ≤ N ∧ (∀ p ∈ kvs, ∃ ns : List Int, p.1 = ns.map Sum.inl ∧ ns.length = N) ∧
  ∀ (bs as : List Addr) (p : Addr), IsKeys H kvs bs → as.Perm bs → (as.map (tupInts H)).Pairwise (fun x y => lexI y x = false) → H p = none → Q (.ref p) (upd H p (.lst (as.map V.ref)))
theorem isKeys_ints {H : Hp} {N : Nat} : ∀ {kvs : List (List Key × V)} {bs : List Addr}, IsKeys H kvs bs → (∀ p ∈ kvs, ∃ ns : List Int, p.1 = ns.map Sum.inl ∧ ns.length = N) → ∀ b ∈ bs, ∃ ns : List Int, H b = some (.tup (ns.map V.int)) ∧ ns.length = N
  | _, _, .nil, _, b, hb => by simp at hb
  | p :: kvs, c :: bs, .cons h r, hk, b, hb => by
    rcases List.mem_cons.mp hb with rfl | hb
    · obtain ⟨ns, e, hl⟩ := hk p (List.mem_cons_self ..)
      rw [e, List.map_map] at h
      exact ⟨ns, h, hl⟩
    · exact isKeys_ints r (fun q hq => hk q (List.mem_cons_of_mem _ hq)) b hb
theorem ia_of : ∀ {ns : List Int} {us : List Value}, Vals (ns.map V.int) us → IntsAre us ns
  | [], _, .nil => .nil
  | n :: ns, _, .cons r t => by
    obtain ⟨k, rfl⟩ := r
    exact .cons n k (ia_of t)
theorem refs_only {us : List Value} (h : ∀ u ∈ us, ∃ a, u = Value.ref a) : us = (us.map addrV).map Value.ref := by
  rw [List.map_map]
  refine ((List.map_congr_left (g := id) fun u hu => ?_).trans (List.map_id _)).symm
  obtain ⟨a, rfl⟩ := h u hu
  rfl
theorem cr_sortDict {X : Cx} (hc : X.calm = true) : CallR X (.builtin "sorted") rSortDict := by
  intro pins s σ H vs us Q I r h
  obtain ⟨d, kvs, N, rfl, hd, hN, hk, q⟩ := h
  obtain ⟨u, rfl, rx⟩ := vals1 r
  cases rx
  obtain ⟨z, lo, ks, pr, o, es, ep, ho, hx, hdt, he, _⟩ := I.hok d _ hd
  have l1 : es.size = ks.length := size_of_entries he
  have l2 : kvs.length = ks.length := Paired.length pr
  have keys : IsKeys H kvs (ks.map fun x => x.2.1) := isKeys_of pr
  have each := isKeys_ints keys hk
  refine Calls.call_function_entry kind_sorted plain_sorted entry_sorted (args_sorted1 _) ?_
  unfold Builtin.«sorted»
  refine wpAny_bind (m := checkCount "sorted" 1 1 _) (wpAny_pure (wpAny_bind ?_))
  refine PySem.W.kdu_collect (A := X.A.in1) (kdl_raw lo hx hdt) (I.ok.hd hc) ho (by omega) fun h' tk acc kp al => ?_
  have ea : acc.toList = (ks.map fun x => x.2.1).map Value.ref := by
    refine List.ext_getElem? fun j => ?_
    rw [List.map_map, List.getElem?_map]
    have hal : acc.toList.length = ks.length := by
      rw [Array.length_toList, al.1]
      exact l1
    cases hb : ks[j]? with
    | none =>
      rw [List.getElem?_eq_none (by rw [hal]; exact List.getElem?_eq_none_iff.mp hb)]
      rfl
    | some b =>
      have hj : j < ks.length := (List.getElem?_eq_some_iff.mp hb).1
      obtain ⟨v, hv⟩ : ∃ v, acc.toList[j]? = some v := ⟨_, List.getElem?_eq_getElem (by omega)⟩
      obtain ⟨en, hen, ev⟩ := al.2 j v (by rw [← Array.getElem?_toList]; exact hv)
      have qe := entry_at he j
      rw [hen, hb] at qe
      have e2 : en = entryOfKey (tupleKind (mixKind X.prog X.w)) b := Option.some.inj qe
      rw [hv, ev, e2]
      rfl
  generalize hbs : (ks.map fun x => x.2.1) = bs at keys each ea
  have hbl : bs.length = ks.length := by rw [← hbs, List.length_map]
  have hal : acc.toList.length = bs.length := by rw [ea, List.length_map]
  have hz : acc.toList.length ≤ sizeLine := by omega
  have I1 : Inv X pins σ H { s with heap := h', toks := tk } := I.kept kp
  have tups : ∀ v ∈ acc.toList, TupIs h' v (tupInts H (addrV v)) ∧ (tupInts H (addrV v)).length = N := fun v hv => by
    rw [ea] at hv
    obtain ⟨b, hb, rfl⟩ := List.mem_map.mp hv
    obtain ⟨ns, hb2, hl⟩ := each b hb
    obtain ⟨_, its, rv, ob, ob1, ob2, n, ob3⟩ := I1.hok b _ hb2
    show TupIs h' (.ref b) (tupInts H b) ∧ (tupInts H b).length = N
    rw [tupInts_at hb2]
    exact ⟨⟨b, ob, _, n, rfl, ob1, ob2, ob3, by simpa using ia_of rv⟩, hl⟩
  refine wpAny_bind (wpAny_newList ?_ hz)
  have hoL : (h'.push (seqObj "list" acc.toList.toArray 0)).get? h'.objs.size = some (seqObj "list" acc.toList.toArray 0) := Heap.get?_push_size _ rfl
  show wpAny _ _ _ _ _ { s with heap := h'.push (seqObj "list" acc.toList.toArray 0), toks := tk }
  refine wpAny_bind (wpAny_holding (wpAny_call_entry slot_list_sort ⟨_, hoL, rfl⟩ entry_list_sort (SrtO.list_sort_ord (s := { s with heap := h'.push (seqObj "list" acc.toList.toArray 0), toks := tk }) (lexI_swo fun v => tupInts H (addrV v)) hoL hz (fun h2 => ?_) (fun out hs hb => ⟨_, rfl, ?_⟩)) (args_list_sort _)))
  · refine tup_sortable (N := N) (by omega) hN (fun v hv => ⟨(tups v hv).1.stay fun b ob e _ => Heap.get?_push_of_some _ e, (tups v hv).2⟩) fun ob e => ?_
    have e' : some ob = some (seqObj "list" acc.toList.toArray 0) := e.symm.trans hoL
    cases e'
    intro c
    exact absurd (Value.type.inj c) (by decide)
  · have only : ∀ u ∈ out, ∃ a, u = Value.ref a := fun u hu => by
      have m := hb.perm.mem_iff.mp hu
      rw [ea] at m
      obtain ⟨b, _, rfl⟩ := List.mem_map.mp m
      exact ⟨b, rfl⟩
    have eo := refs_only only
    have pm : (out.map addrV).Perm bs := by
      have m := hb.perm.map addrV
      rw [ea, List.map_map] at m
      exact m.trans (List.Perm.of_eq ((List.map_congr_left (g := id) fun _ _ => rfl).trans (List.map_id _)))
    obtain ⟨n', hat⟩ := sortedHeap_at (vs := acc.toList) (out := out.toArray) hoL
    have rv : Vals ((out.map addrV).map V.ref) out := by
      have m := vals_refs (out.map addrV)
      rw [← eo] at m
      exact m
    have hol : ((out.map addrV).map V.ref).length ≤ sizeLine := by
      rw [List.length_map, List.length_map, hb.perm.length_eq]
      exact hz
    have kept : ∀ b ob, h'.get? b = some ob → (sortedHeap (h'.push (seqObj "list" acc.toList.toArray 0)) h'.objs.size acc.toList out.toArray).get? b = some ob := fun b ob e => by
      have hlt : b < h'.objs.size := Heap.lt_size e
      rw [sortedHeap_old (Nat.ne_of_lt hlt) (by rw [size_push']; exact Nat.lt_succ_of_lt hlt)]
      exact Heap.get?_push_of_some _ e
    have srt : ((out.map addrV).map (tupInts H)).Pairwise (fun x y => lexI y x = false) := by
      rw [List.map_map]
      exact List.pairwise_map.mpr hs
    refine wpAny_pure ⟨_, rfl, .ref h'.objs.size, upd H h'.objs.size (.lst ((out.map addrV).map V.ref)), I1.laid (t' := tk) kept (Nat.le_refl _) ⟨hol, out, n', rv, hat⟩, rfl, ?_⟩
    exact q bs (out.map addrV) _ keys pm srt (I1.hok.fresh (Nat.le_refl _))
end Pl
/-! ### the ways that are meant; a chain of comparisons -/
namespace Pl
open PySem PySem.Spec PyProof.Rows L2
def spWaysOf : Sp := fun vs H Q _ => ∃ (w : Nat), vs = [.int (w : Int)] ∧ w ≤ 2 ∧ ∀ H' p, Same H H' → H p = none → H' p = some (.lst ((List.range (wayN w)).map fun a => V.int ((a : Nat) : Int))) → Q (.ref p) H'
section
variable {P : Program} {w : World} {K : PySem.W.Frag} {mg : Str → Option Value} {base : Heap} {W : Addr} {ws : Nat → Addr}
theorem scWaysOf : FnScope ["what"] ["what"] (defScope sWaysOf) := ⟨rfl, rfl, rfl, by decide +kernel, rfl, by decide +kernel, by decide +kernel⟩
theorem rgV_ways (m : Nat) : rgV 0 ((m : Nat) : Int) = (List.range m).map fun a => V.int ((a : Nat) : Int) := by
  unfold rgV
  rw [Int.sub_zero, Int.toNat_natCast]
  refine List.map_congr_left fun a _ => ?_
  rw [Int.zero_add]
theorem ok_waysOf {f : Addr} {fd : FuncData} (F : Fun K "ways_of" "ways_of" sWaysOf f fd) (TW : TxW K mg W ws) (hov : ∃ t, mg "TURNED_OVER" = some (.int 4 t)) (hmany : ∃ t, mg "MANY" = some (.int 8 t)) (hlist : mg "list" = none) : FnOk P w K mg base CX0 1 f fd ["what"] spWaysOf := by
  refine F.ok scWaysOf (fun vs H Q E h => ?_) (fun cdv A outer s H vs Q E hr h => ?_)
  · obtain ⟨w, rfl, _⟩ := h
    rfl
  · obtain ⟨w, rfl, h2, k⟩ := h
    obtain ⟨t1, hov⟩ := hov
    obtain ⟨t2, hmany⟩ := hmany
    refine ⟨_, pss_one (ps_ret (pe_listRg rfl rfl hlist (prg_1 rfl TW.range (pe_ix ix_list (pe_lst (pa_cons pe_int (pa_cons (pe_glob (v := .int 4) rfl hov ⟨_, rfl⟩) (pa_cons (pe_glob (v := .int 8) rfl hmany ⟨_, rfl⟩) pa_nil)))) (pv 0) (fun _ _ => rfl))))), ?_⟩
    refine ⟨(by show 3 ≤ sizeLine; decide), fun l hl => ?_⟩
    have hat : ([V.int 1, V.int 4, V.int 8] : List V)[w]? = some (.int ((wayN w : Nat) : Int)) := by
      have q : w = 0 ∨ w = 1 ∨ w = 2 := by omega
      rcases q with rfl | rfl | rfl <;> rfl
    have hle : wayN w ≤ 8 := by
      have q : w = 0 ∨ w = 1 ∨ w = 2 := by omega
      rcases q with rfl | rfl | rfl <;> decide
    refine ⟨_, rfl, l, _, _, _, rfl, rfl, SqL.of upd_same, atI_nat hat, _, rfl, RgOk.of_le (by decide) (by omega) (by decide) (by omega), fun q hq => ?_⟩
    have s1 : Same H (L2.upd H l (.lst [V.int 1, V.int 4, V.int 8])) := Same.new hl
    refine k _ q (Same.upd s1 (s1.free hq)) (s1.free hq) ?_
    rw [upd_same, rgV_ways]
theorem wayN_le : ∀ w, w ≤ 2 → 0 < wayN w ∧ wayN w ≤ 8 := by
  intro w hw
  have q : w = 0 ∨ w = 1 ∨ w = 2 := by omega
  rcases q with rfl | rfl | rfl <;> decide
theorem chain_ok {σ : L2.St} {H : Hp} {Q : Bool → Hp → Prop} {s : Nat} {i j k : Int} (hs : σ[s]? = some (some (.int j))) (h : Q (decide (i ≤ j) && decide (j ≤ k)) H) :
    tTest (tChain (rI0 fun i j => .bl (decide (i ≤ j))) (rI0 fun i j => .bl (decide (i ≤ j))) (tC (.int i)) (tVar s) (tC (.int k))) σ H Q := by
  refine ⟨_, hs, _, _, rfl, rfl, _, rfl, ?_⟩
  by_cases e : i ≤ j
  · rw [decide_eq_true e] at h ⊢
    exact iteT ⟨_, _, rfl, rfl, _, rfl, h⟩
  · rw [decide_eq_false e] at h ⊢
    exact iteF ⟨_, rfl, h⟩
end
end Pl
/-! ### least: the walk -/
namespace Pl
open PySem PySem.Spec PyProof.Rows L2
def spTaken (K : PySem.W.Frag) (C : Addr) : Sp := fun vs H Q _ => ∃ (x t : Addr) (n : Nat) (c : List Nat) (m : Mv), vs = [.ref x, .ref t] ∧ PatAt K C H x n c ∧ H t = some (.tup (mv m)) ∧ m.1 < 8 ∧
  ∀ H' p, Same H H' → H p = none → H' p = some (.lst (cV (mdL c n m))) → Q (.ref p) H'
def spMade (K : PySem.W.Frag) (C : Addr) : Sp := fun vs H Q _ => ∃ (x : Addr) (n : Nat) (c : List Nat) (w : Nat), vs = [.ref x, .int (w : Int)] ∧ PatAt K C H x n c ∧ w ≤ 2 ∧
  ∀ (H' : Hp) (p : Addr) (S : List (Addr × List Nat)), Same H H' → H p = none → (S.map (·.2)).Perm (dl c n (Sa48Neutral.moves n (List.range (wayN w)))) → (S.map (·.2)).Pairwise (fun x y => lexI (li y) (li x) = false) →
    (∀ q ∈ S, H' q.1 = some (.tup (cV q.2))) → H' p = some (.lst (S.map fun q => V.ref q.1)) → Q (.ref p) H'
def spLeast (K : PySem.W.Frag) : Sp := fun vs H Q _ => ∃ (z w : Int) (a : Addr) (cs : List Int), vs = [.int z, .int w, .ref a] ∧ SqL K H a (cs.map V.int) ∧ PySa48.least_asked z w cs = true ∧
  ∀ (H' : Hp) (p : Addr), H' p = some (.lst ((PySa48.least z w cs).map V.int)) → Q (.ref p) H'
/-! #### patterns as keys -/
def lk (l : List Nat) : List Key := (li l).map Sum.inl
theorem lk_inj {a b : List Nat} (h : lk a = lk b) : a = b := li_inj (List.map_inj_right (f := (Sum.inl : Int → Key)) (fun _ _ e => Sum.inl.inj e) |>.mp h)
theorem lk_kV (l : List Nat) : (lk l).map kV = cV l := by
  unfold lk li cV
  rw [List.map_map, List.map_map]
  rfl
def dk (D : List (List Nat)) : List (List Key × V) := D.map fun l => (lk l, V.bl true)
theorem dk_in (l : List Nat) (D : List (List Nat)) : ((dk D).any fun kv => decide (kv.1 = lk l)) = true ↔ l ∈ D := by
  unfold dk
  rw [List.any_eq_true]
  constructor
  · rintro ⟨p, hp, e⟩
    obtain ⟨q, hq, rfl⟩ := List.mem_map.mp hp
    exact lk_inj (of_decide_eq_true e) ▸ hq
  · intro h
    exact ⟨_, List.mem_map.mpr ⟨l, h, rfl⟩, decide_eq_true rfl⟩
theorem dk_put (l : List Nat) (D : List (List Nat)) : putK (dk D) (lk l) (.bl true) = dk (if l ∈ D then D else D ++ [l]) := by
  unfold putK
  by_cases h : l ∈ D
  · rw [if_pos ((dk_in l D).mpr h), if_pos h]
    unfold dk
    rw [List.map_map]
    refine List.map_congr_left fun q _ => ?_
    show (if lk q = lk l then (lk q, V.bl true) else (lk q, V.bl true)) = (lk q, V.bl true)
    split <;> rfl
  · rw [if_neg (fun z => h ((dk_in l D).mp z)), if_neg h]
    unfold dk
    rw [List.map_append]
    rfl
theorem cV_li (l : List Nat) : cV l = (li l).map V.int := by
  unfold li cV
  rw [List.map_map]
  rfl
theorem keyed {H : Hp} : ∀ {D : List (List Nat)} {bs : List Addr}, IsKeys H (dk D) bs → bs.map (tupInts H) = D.map li
  | [], _, .nil => rfl
  | l :: D, b :: bs, .cons h r => by
    have h : H b = some (.tup ((lk l).map kV)) := h
    rw [lk_kV, cV_li] at h
    rw [List.map_cons, List.map_cons, tupInts_at h, keyed r]
theorem keyed_at {H : Hp} : ∀ {D : List (List Nat)} {bs : List Addr}, IsKeys H (dk D) bs → ∀ b ∈ bs, ∃ l ∈ D, H b = some (.tup (cV l))
  | [], _, .nil, b, hb => by simp at hb
  | l :: D, c :: bs, .cons h r, b, hb => by
    rcases List.mem_cons.mp hb with rfl | hb
    · have h : H b = some (.tup ((lk l).map kV)) := h
      rw [lk_kV] at h
      exact ⟨l, List.mem_cons_self .., h⟩
    · obtain ⟨l', hl, e⟩ := keyed_at r b hb
      exact ⟨l', List.mem_cons_of_mem _ hl, e⟩
theorem li_back (l : List Nat) : (li l).map Int.toNat = l := by
  unfold li
  rw [List.map_map]
  exact (List.map_congr_left (g := id) fun _ _ => rfl).trans (List.map_id _)
section
variable {P : Program} {w : World} {K : PySem.W.Frag} {mg : Str → Option Value} {base : Heap} {W C : Addr} {ws : Nat → Addr}
theorem ix_nat {n k : Nat} (h : k < n) : ixN n ((k : Nat) : Int) = some k := by
  unfold ixN
  rw [if_pos (by omega), if_pos (by omega), Int.toNat_natCast]
theorem scTaken : FnScope ["self", "movement", "found", "place", "other"] ["self", "movement"] (defScope sTaken) := ⟨rfl, rfl, rfl, by decide +kernel, rfl, by decide +kernel, by decide +kernel⟩
theorem ok_taken {f f1 : Addr} {fd fd1 : FuncData} (F : Fun K "taken" "Pattern.taken" sTaken f fd) (T : TxC K mg C) (mlen : mg "len" = none)
    (G1 : FnOk P w K mg base CX0 3 f1 fd1 ["n", "movement"] (spImage K)) (m1 : mg "image" = some (.ref f1)) (k1 : PySem.W.keepIn K (.ref f1) = true) (b1 : Binds K fd1 ["n", "movement"] []) :
    FnOk P w K mg base CX0 4 f fd ["self", "movement"] (spTaken K C) := by
  refine F.ok scTaken (fun vs H Q E h => ?_) (fun cdv A outer s H vs Q E hr h => ?_)
  · obtain ⟨x, t, n, c, m, rfl, _⟩ := h
    rfl
  · obtain ⟨x, t, n, c, m, rfl, hP, ht, ha, k⟩ := h
    have nd := scTaken.nd
    refine ⟨_, pss_cons (ps_set (i := 2) nd rfl (Or.inl rfl) (pe_op op_rep (pe_lst (pa_cons pe_int pa_nil)) (pe_callB call_len_seq (by rfl) mlen PySem.boot_len (pa_cons (pe_fld (pv 0) rfl) pa_nil))))
      (pss_cons (ps_for PassesOwn.never rfl (pi_enum rfl T.enum (pa_cons (pe_call G1 hr rfl m1 k1 b1 .nil pass0 (pa_cons (pe_fld (pv 0) rfl) (pa_cons (pv 1) pa_nil))) pa_nil))
        (pg_tup rfl (pgs_cons (pg_name (i := 3) nd rfl (Or.inl rfl)) (pgs_cons (pg_name (i := 4) nd rfl (Or.inl rfl)) pgs_nil)))
        (pss_one (ps_asg (pe_ix ix_list (pe_fld (pv 0) rfl) (pv 3) (fun _ _ => rfl)) (pg_sub (pv 2) (pv 4) set_list))))
      (pss_one (ps_ret (pv 2)))), ?_⟩
    obtain ⟨dx, ca, d, hPI, _⟩ := id hP
    obtain ⟨hx, hca, hlen, h0, h6⟩ := id hPI
    have hN : n * n ≤ 36 := Nat.mul_le_mul h6 h6
    have hcl : (cV c).length = n * n := by
      unfold cV
      rw [List.length_map, hlen]
    refine ⟨(by show 1 ≤ sizeLine; decide), fun l0 hl0 => ?_⟩
    have s0 : Same H (L2.upd H l0 (.lst [V.int 0])) := Same.new hl0
    obtain ⟨hx0, hca0, _⟩ := hPI.same s0
    refine ⟨_, rfl, x, C, dx, _, _, rfl, hx0, T.cl, T.nC, pf_c _ _ _, ca, _, rfl, .inl hca0, ?_⟩
    refine ⟨l0, _, _, rfl, rfl, upd_same, (by omega), (by omega), ?_, fun l hl => ?_⟩
    · rw [hcl, Int.toNat_natCast]
      show 1 * (n * n) ≤ sizeLine
      exact Nat.le_trans (by omega : 1 * (n * n) ≤ 36) (by decide)
    rw [hcl, Int.toNat_natCast, List.flatten_replicate_singleton]
    have z0 : List.replicate (n * n) (V.int 0) = cV (tl c n m 0) := by
      show _ = cV (List.replicate (n * n) 0)
      unfold cV
      rw [List.map_replicate]
      rfl
    rw [z0]
    have hl0' : H l = none := s0.free hl
    have s1 : Same H (L2.upd (L2.upd H l0 (.lst [V.int 0])) l (.lst (cV (tl c n m 0)))) := Same.upd s0 hl0'
    refine ⟨_, rfl, x, C, dx, _, _, rfl, s1 _ _ hx, T.cl, T.nN, pf_n _ _ _, _, rfl, t, n, m.1, m.2.1, m.2.2, rfl, SqT.of (s1 _ _ ht), ha, h0, by omega, fun H3 q s3 n3 e3 => ?_⟩
    have e3l := s3 _ _ (upd_same (H := L2.upd H l0 (.lst [V.int 0])) (a := l) (o := .lst (cV (tl c n m 0))))
    have nql : q ≠ l := fun z => by
      rw [z, upd_same] at n3
      cases n3
    have offL : ∀ H' : Hp, (∀ b o, b ≠ l → H3 b = some o → H' b = some o) → Same H H' := fun H' h b o hb => h b o (fun z => by rw [z, hl0'] at hb; cases hb) (s3 _ _ (s1 _ _ hb))
    refine ⟨q, _, rfl, SqL.of e3, for_it walk_enum (fun j σ H' => ∃ (vp vo : Option V), σ = [some (.ref x), some (.ref t), some (.ref l), vp, vo] ∧ (∀ b o, b ≠ l → H3 b = some o → H' b = some o) ∧ H' l = some (.lst (cV (tl c n m j))))
      ⟨none, none, rfl, fun b o _ h => h, e3l⟩ (fun j σ H' _ ⟨_, _, _, s4, _⟩ => SqL.of (s4 _ _ nql e3)) ?_ ?_⟩
    · rintro j y σ H4 H5 hj ⟨vp, vo, rfl, s4, e4⟩ ⟨u, yx, yy, rfl, hu, rfl, ex, ey⟩
      rw [List.length_map, List.length_range] at hj
      cases ex
      have ey : ((List.range (n * n)).map fun k => V.int ((pl n m.1 m.2.1 m.2.2 k : Nat) : Int))[j]? = some yy := ey
      rw [List.getElem?_map, List.getElem?_range hj] at ey
      cases ey
      have hpl : pl n m.1 m.2.1 m.2.2 j < n * n := pl_lt h0 _ _ _ j
      have nlu : l ≠ u := ne_of_none e4 hu
      have s5 : Same H (L2.upd H4 u (.tup [V.int ((j : Nat) : Int), V.int ((pl n m.1 m.2.1 m.2.2 j : Nat) : Int)])) := (offL _ s4).trans (Same.new hu)
      obtain ⟨hx5, hca5, _⟩ := hPI.same s5
      refine ⟨u, _, rfl, SqT.of upd_same, rfl, _, _, rfl, _, _, rfl, rfl, ?_⟩
      refine ⟨_, rfl, x, C, dx, _, _, rfl, hx5, T.cl, T.nC, pf_c _ _ _, _, rfl, ca, _, _, _, rfl, rfl, hca5, atI_nat (cV_at (by omega)), ?_⟩
      refine ⟨_, rfl, _, rfl, l, _, _, pl n m.1 m.2.1 m.2.2 j, rfl, rfl, (upd_ne nlu).trans e4, ?_, ?_⟩
      · unfold cV
        rw [List.length_map, tl_len]
        exact ix_nat hpl
      · refine ⟨_, _, rfl, fun b o hb h => ?_, ?_⟩
        · have h4 := s4 b o hb h
          rw [upd_ne hb, upd_ne (ne_of_none h4 hu)]
          exact h4
        · rw [upd_same, tl_more]
          unfold cV
          rw [List.map_set]
    · rintro σ H4 ⟨vp, vo, rfl, s4, e4⟩
      rw [List.length_map, List.length_range] at e4
      exact ⟨_, rfl, k _ l (offL _ s4) hl0' e4⟩
theorem scMade : FnScope ["pattern", "what", "found", "movement"] ["pattern", "what"] (defScope sMade) := ⟨rfl, rfl, rfl, by decide +kernel, rfl, by decide +kernel, by decide +kernel⟩
theorem ok_made {f f1 f2 f3 : Addr} {fd fd1 fd2 fd3 : FuncData} (F : Fun K "made" "made" sMade f fd) (T : TxC K mg C) (mtup : mg "tuple" = none) (msor : mg "sorted" = none)
    (G1 : FnOk P w K mg base CX0 1 f1 fd1 ["n", "ways"] (spMvs K)) (m1 : mg "movements" = some (.ref f1)) (k1 : PySem.W.keepIn K (.ref f1) = true) (b1 : Binds K fd1 ["n", "ways"] [])
    (G2 : FnOk P w K mg base CX0 1 f2 fd2 ["what"] spWaysOf) (m2 : mg "ways_of" = some (.ref f2)) (k2 : PySem.W.keepIn K (.ref f2) = true) (b2 : Binds K fd2 ["what"] [])
    (G3 : FnOk P w K mg base CX0 4 f3 fd3 ["self", "movement"] (spTaken K C)) (m3 : Meth K C "taken" f3) (b3 : Binds K fd3 ["self", "movement"] []) :
    FnOk P w K mg base CX0 5 f fd ["pattern", "what"] (spMade K C) := by
  refine F.ok scMade (fun vs H Q E h => ?_) (fun cdv A outer s H vs Q E hr h => ?_)
  · obtain ⟨x, n, c, w, rfl, _⟩ := h
    rfl
  · obtain ⟨x, n, c, w, rfl, hP, hw, k⟩ := h
    have nd := scMade.nd
    have hu := hu_of hr
    have hr1 : Room 1 _ := hr.mono (by decide)
    refine ⟨_, pss_cons (ps_set (i := 2) nd rfl (Or.inl rfl) pe_dnewT)
      (pss_cons (ps_for PassesOwn.never rfl (pi_list (pe_call G1 hr1 rfl m1 k1 b1 .nil pass0 (pa_cons (pe_fld (pv 0) rfl) (pa_cons (pe_call G2 hr1 rfl m2 k2 b2 .nil pass0 (pa_cons (pv 1) pa_nil)) pa_nil)))) (pg_name (i := 3) nd rfl (Or.inl rfl))
        (pss_one (ps_dput hu (pv 2) (pe_tupleOf rfl mtup (pe_meth (pv 0) T.cl m3 G3 hr b3 .nil pass0 (pa_cons (pv 3) pa_nil))) pe_bl rfl)))
      (pss_one (ps_ret (pe_callB (cr_sortDict rfl) (by rfl) msor (by decide +kernel) (pa_cons (pv 2) pa_nil))))), ?_⟩
    obtain ⟨dx, ca, d0, hPI, _⟩ := id hP
    obtain ⟨hx, hca, hlen, h0, h6⟩ := id hPI
    obtain ⟨w0, w8⟩ := wayN_le w hw
    intro d hd
    have s0 : Same H (L2.upd H d (.dT [])) := Same.new hd
    refine ⟨_, rfl, x, C, dx, _, _, rfl, s0 _ _ hx, T.cl, T.nN, pf_n _ _ _, _, rfl, w, rfl, hw, fun H1 l1 s1 n1 e1 => ?_⟩
    refine ⟨n, l1, List.range (wayN w), rfl, SqL.of e1, by omega, by rw [List.length_range]; exact w8, fun H2 l2 L s2 n2 em e2 t2 => ?_⟩
    have ed : H2 d = some (.dT []) := s2 _ _ (s1 _ _ upd_same)
    have nld : l2 ≠ d := ne_of e2 ed (by intro z; cases z)
    have offD : ∀ H' : Hp, (∀ b o, b ≠ d → H2 b = some o → H' b = some o) → Same H H' := fun H' h b o hb => h b o (fun z => by rw [z, hd] at hb; cases hb) (s2 _ _ (s1 _ _ (s0 _ _ hb)))
    have small : ∀ i, (dl c n ((Sa48Neutral.moves n (List.range (wayN w))).take i)).length ≤ 288 := fun i => by
      refine Nat.le_trans (dl_le _ _ _) ?_
      rw [List.length_take, moves_len, List.length_range]
      have q1 : wayN w * (n * n) ≤ 8 * (6 * 6) := Nat.mul_le_mul w8 (Nat.mul_le_mul h6 h6)
      omega
    refine ⟨l2, rfl, ⟨_, SqL.of e2⟩, for_list (K := K) (a := l2) (xs := refs L) (fun i σ H' => ∃ vm : Option V, σ = [some (.ref x), some (.int (w : Int)), some (.ref d), vm] ∧ (∀ b o, b ≠ d → H2 b = some o → H' b = some o) ∧ H' d = some (.dT (dk (dl c n ((Sa48Neutral.moves n (List.range (wayN w))).take i)))))
      ⟨none, rfl, fun b o _ h => h, ed⟩ (fun i σ H' _ ⟨_, _, s3, _⟩ => SqL.of (s3 _ _ nld e2)) ?_ ?_⟩
    · rintro i y σ H3 hi ⟨vm, rfl, s3, e3⟩
      obtain ⟨t, m, hLi, rfl⟩ := refs_at hi
      have hm : (Sa48Neutral.moves n (List.range (wayN w)))[i]? = some m := by
        have q : (L.map (·.2))[i]? = some m := by
          rw [List.getElem?_map, hLi]
          rfl
        rw [em] at q
        exact q
      have hmem : m ∈ Sa48Neutral.moves n (List.range (wayN w)) := List.mem_iff_getElem?.mpr ⟨i, hm⟩
      have ha : m.1 < 8 := by
        have := List.mem_range.mp (mem_moves.mp hmem).1
        omega
      have ht2 : H2 t = some (.tup (mv m)) := t2 (t, m) (List.mem_iff_getElem?.mpr ⟨i, hLi⟩)
      have ntd : t ≠ d := ne_of ht2 ed (by intro z; cases z)
      have sH := offD _ s3
      refine ⟨_, rfl, _, rfl, x, dx, _, rfl, sH _ _ hx, pf_meth (by decide +kernel), _, rfl, x, t, n, c, m, rfl, hP.same sH, s3 _ _ ntd ht2, ha, fun H4 p4 s4 n4 e4 => ?_⟩
      refine .inl ⟨p4, _, rfl, SqL.of e4, fun q5 h5 => ?_⟩
      have ed5 : L2.upd H4 q5 (.tup (cV (mdL c n m))) d = some (.dT (dk (dl c n ((Sa48Neutral.moves n (List.range (wayN w))).take i)))) := by
        have z := s4 _ _ e3
        rw [upd_ne (ne_of_none z h5)]
        exact z
      refine ⟨d, _, rfl, DPut.t (k := lk (mdL c n m)) ed5 (upd_same.trans (by rw [lk_kV])) ?_, _, rfl, fun b o hb h => ?_, ?_⟩
      · unfold dk
        rw [List.length_map]
        exact Nat.lt_of_le_of_lt (small i) (by decide)
      · have h4 := s4 _ _ (s3 b o hb h)
        rw [upd_ne hb, upd_ne (ne_of_none h4 h5)]
        exact h4
      · rw [upd_same, dk_put, take_more hm, dl_more]
    · rintro σ H3 ⟨vm, rfl, s3, e3⟩
      have hl : (refs L).length = (Sa48Neutral.moves n (List.range (wayN w))).length := by
        rw [refs_len, em]
      rw [hl, List.take_length] at e3
      refine ⟨_, rfl, d, _, n * n, rfl, e3, Nat.mul_pos h0 h0, fun p hp => ?_, fun bs as p hk pm srt hp => ?_⟩
      · unfold dk at hp
        obtain ⟨l, hl, rfl⟩ := List.mem_map.mp hp
        obtain ⟨m, _, rfl⟩ := dl_mem.mp hl
        refine ⟨li (mdL c n m), rfl, ?_⟩
        unfold li
        rw [List.length_map]
        exact tl_len _ _ _ _
      · have sH := offD _ s3
        have each : ∀ a ∈ as, ∃ l : List Nat, H3 a = some (.tup (cV l)) ∧ tupInts H3 a = li l := fun a ha => by
          obtain ⟨l, _, e⟩ := keyed_at hk a (pm.mem_iff.mp ha)
          exact ⟨l, e, tupInts_at (by rw [← cV_li]; exact e)⟩
        have e2 : (as.map fun a => (a, (tupInts H3 a).map Int.toNat)).map (fun q => q.2) = as.map fun a => (tupInts H3 a).map Int.toNat := by
          rw [List.map_map]
          rfl
        refine k _ p (as.map fun a => (a, (tupInts H3 a).map Int.toNat)) (Same.upd sH (sH.free hp)) (sH.free hp) ?_ ?_ ?_ ?_
        · rw [e2]
          have z := (pm.map (tupInts H3)).map (List.map Int.toNat)
          rw [keyed hk, List.map_map, List.map_map] at z
          refine z.trans (List.Perm.of_eq ((List.map_congr_left (g := id) fun l _ => li_back l).trans (List.map_id _)))
        · rw [e2]
          have e5 : as.map (tupInts H3) = (as.map fun a => (tupInts H3 a).map Int.toNat).map li := by
            rw [List.map_map]
            refine List.map_congr_left fun a ha => ?_
            obtain ⟨l, _, e⟩ := each a ha
            show tupInts H3 a = li ((tupInts H3 a).map Int.toNat)
            rw [e, li_back]
          rw [e5] at srt
          exact List.pairwise_map.mp srt
        · intro q hq
          obtain ⟨a, ha, rfl⟩ := List.mem_map.mp hq
          obtain ⟨l, e, e'⟩ := each a ha
          show L2.upd H3 p _ a = some (.tup (cV ((tupInts H3 a).map Int.toNat)))
          rw [e', li_back, upd_ne (ne_of_none e hp)]
          exact e
        · rw [upd_same, List.map_map]
          rfl
theorem scLeast : FnScope ["n", "what", "p", "found"] ["n", "what", "p"] (defScope sLeast) := ⟨rfl, rfl, rfl, by decide +kernel, rfl, by decide +kernel, by decide +kernel⟩
theorem ok_least {f f1 f2 f3 : Addr} {fd fd1 fd2 fd3 : FuncData} (F : Fun K "least" "least" sLeast f fd) (T : TxC K mg C) (mO : ∃ t, mg "OUT" = some (.int (-2) t)) (mW : ∃ t, mg "MOST_WHAT" = some (.int 2 t)) (mlen : mg "len" = none)
    (G1 : FnOk P w K mg base CX0 1 f1 fd1 ["n"] spSide) (m1 : mg "is_side" = some (.ref f1)) (k1 : PySem.W.keepIn K (.ref f1) = true) (b1 : Binds K fd1 ["n"] [])
    (M : Mk K C f2) (G2 : FnOk P w K mg base CX0 5 f2 fd2 ["self", "n", "colours"] (spInit K C)) (b2 : Binds K fd2 ["self", "n", "colours"] [])
    (G3 : FnOk P w K mg base CX0 5 f3 fd3 ["pattern", "what"] (spMade K C)) (m3 : mg "made" = some (.ref f3)) (k3 : PySem.W.keepIn K (.ref f3) = true) (b3 : Binds K fd3 ["pattern", "what"] []) :
    FnOk P w K mg base CX0 7 f fd ["n", "what", "p"] (spLeast K) := by
  refine F.ok scLeast (fun vs H Q E h => ?_) (fun cdv A outer s H vs Q E hr h => ?_)
  · obtain ⟨z, w, a, cs, rfl, _⟩ := h
    rfl
  · obtain ⟨z, w, a, cs, rfl, hS, hask, k⟩ := h
    have nd := scLeast.nd
    obtain ⟨tO, mO⟩ := mO
    obtain ⟨tW, mW⟩ := mW
    have hr1 : Room 1 _ := hr.mono (by decide)
    have hr5 : Room 5 _ := hr.mono (by decide)
    have hsq : Sa48Neutral.square z cs = true := by
      have q : (Sa48Neutral.whole w && Sa48Neutral.square z cs) = true := hask
      rw [Bool.and_eq_true] at q
      exact q.2
    refine ⟨_, pss_cons (ps_if (PW.pt (pw_or (pt_not (pt_val (pe_call G1 hr1 rfl m1 k1 b1 .nil pass0 (pa_cons (pv 0) pa_nil)))) (pw_or1 (pt_not (pt_chain op_le op_le pe_int (pv 1) (pe_glob (v := .int 2) rfl mW ⟨_, rfl⟩)))))) (pss_one (ps_ret (pe_lst (pa_cons (pe_glob (v := .int (-2)) rfl mO ⟨_, rfl⟩) pa_nil)))) pss_nil)
      (pss_cons (ps_set (i := 3) nd rfl (Or.inl rfl) (pe_call G3 hr5 rfl m3 k3 b3 .nil pass0 (pa_cons (pe_make M G2 hr rfl T.gC b2 .nil pass0 (pa_cons (pv 0) (pa_cons (pv 2) pa_nil))) (pa_cons (pv 1) pa_nil))))
      (pss_one (ps_ret (pe_op op_cat (pe_lst (pa_cons (pe_callB call_len_seq (by rfl) mlen PySem.boot_len (pa_cons (pv 3) pa_nil)) pa_nil)) (pe_callTy call_list_of (by rfl) T.list (by decide +kernel) (pa_cons (pe_ix ix_list (pv 3) pe_int (fun _ _ => rfl)) pa_nil)))))), ?_⟩
    have out : ¬ (1 ≤ z ∧ z ≤ 64 ∧ 0 ≤ w ∧ w ≤ 2) → ∀ H', 1 ≤ sizeLine ∧ ∀ p, H' p = none → Q (.ref p) (L2.upd H' p (.lst [.int (-2)])) := fun h H' => ⟨by decide, fun p hp => k _ p (by rw [upd_same, least_out h]; rfl)⟩
    refine ⟨_, rfl, z, rfl, _, rfl, ?_⟩
    by_cases hz : 1 ≤ z ∧ z ≤ 64
    case neg =>
      rw [show (decide (1 ≤ z) && decide (z ≤ 64)) = false by rw [← Bool.decide_and]; exact decide_eq_false hz]
      exact iteT (B := True) (iteT (B := True) (out (fun h => hz ⟨h.1, h.2.1⟩) H))
    rw [show (decide (1 ≤ z) && decide (z ≤ 64)) = true by rw [← Bool.decide_and]; exact decide_eq_true hz]
    refine iteF (A := True) ?_
    refine chain_ok rfl ?_
    by_cases hw : 0 ≤ w ∧ w ≤ 2
    case neg =>
      rw [show (decide (0 ≤ w) && decide (w ≤ 2)) = false by rw [← Bool.decide_and]; exact decide_eq_false hw]
      exact iteT (B := True) (out (fun h => hw ⟨h.2.2.1, h.2.2.2⟩) H)
    rw [show (decide (0 ≤ w) && decide (w ≤ 2)) = true by rw [← Bool.decide_and]; exact decide_eq_true hw]
    refine iteF (A := True) ?_
    obtain ⟨n, rfl, h0, h6, hlen, hcV⟩ := square_of (z := z) (cs := cs) hsq hz.1 hz.2
    have hN : n * n ≤ 36 := Nat.mul_le_mul h6 h6
    have ew : w = ((w.toNat : Nat) : Int) := by omega
    refine ⟨_, rfl, _, rfl, fun x dx nx ndx nex => ?_⟩
    have s0 : Same H (L2.upd (L2.upd H dx (.own x)) x (.ins C dx [])) := Same.upd (Same.new ndx) nx
    refine ⟨x, dx, a, n, Sa48Neutral.nats cs, rfl, upd_same, (by rw [hcV]; exact s0.seq hS), hlen, h0, h6, fun H1 o1 hP => ⟨rfl, ?_⟩⟩
    refine ⟨_, rfl, x, n, _, w.toNat, ?_, hP, by omega, fun H2 p S s2 n2 pm srt tup e2 => ?_⟩
    · rw [← ew]
      rfl
    obtain ⟨⟨a0, l0⟩, S', eS⟩ : ∃ q S', S = q :: S' := by
      cases S with
      | nil =>
        have z := pm.length_eq
        have idm : Sa48Neutral.nats cs ∈ dl (Sa48Neutral.nats cs) n (Sa48Neutral.moves n (List.range (wayN w.toNat))) :=
          dl_mem.mpr ⟨(0, 0, 0), mem_moves.mpr ⟨List.mem_range.mpr (wayN_le w.toNat (by omega)).1, ⟨0, h0, rfl⟩, ⟨0, h0, rfl⟩⟩, mdL_id hlen⟩
        have := List.length_pos_of_mem idm
        rw [← z] at this
        simp at this
      | cons q S' => exact ⟨q, S', rfl⟩
    have hl0 : l0.length = n * n := by
      have hm : l0 ∈ dl (Sa48Neutral.nats cs) n (Sa48Neutral.moves n (List.range (wayN w.toNat))) := pm.mem_iff.mp (by rw [eS]; exact List.mem_cons_self ..)
      obtain ⟨m, _, rfl⟩ := dl_mem.mp hm
      exact tl_len _ _ _ _
    have la := least_is rfl rfl h0 (by omega) hlen hw.1 hw.2 pm srt (show S.map (fun q => q.2) = l0 :: S'.map (fun q => q.2) by rw [eS]; rfl)
    refine ⟨_, rfl, p, _, rfl, .inl (SqL.of e2), (by show 1 ≤ sizeLine; decide), fun p3 h3 => ?_⟩
    have e3 := (Same.new (o := .lst [V.int ((((S.map fun q => V.ref q.1)).length : Nat) : Int)]) h3) _ _ e2
    have t3 : L2.upd H2 p3 (.lst [V.int ((((S.map fun q => V.ref q.1)).length : Nat) : Int)]) a0 = some (.tup (cV l0)) := (Same.new h3) _ _ (tup (a0, l0) (by rw [eS]; exact List.mem_cons_self ..))
    refine ⟨_, rfl, p, _, 0, _, rfl, rfl, SqL.of e3, (show atI (S.map fun q => V.ref q.1) ((0 : Nat) : Int) = some (V.ref a0) by rw [eS]; exact atI_nat rfl), a0, _, rfl, .inr (SqT.of t3), fun p4 h4 => ?_⟩
    have np : p3 ≠ p4 := fun z => by
      rw [← z, upd_same] at h4
      cases h4
    refine ⟨p3, p4, _, _, rfl, rfl, (upd_ne np).trans upd_same, upd_same, ?_, fun r hr => k _ r ?_⟩
    · have hcl0 : (cV l0).length = n * n := by
        unfold cV
        rw [List.length_map, hl0]
      rw [hcl0]
      exact Nat.le_trans (Nat.add_le_add_left hN 1) (by show 37 ≤ sizeLine; decide)
    · rw [upd_same, la, cV_li, List.length_map, List.length_map]
      rfl
end
end Pl
namespace Pl
open PySem PySem.Spec PyProof.Rows L2
/-! ### the end: what the top has written -/
theorem vals4 {a b c d : Int} {t u v w : Tok} {o : Option Addr} {n : Nat} {sl : Array (Option Value)} {K : PySem.W.Frag} {x : Addr} (h : K.lookup x = some ⟨.type "tuple", o, .seq #[.int a t, .int b u, .int c v, .int d w] n, sl⟩) (H : Hp) : SqT K H x [.int a, .int b, .int c, .int d] :=
  .inr ⟨_, _, _, h, rfl, rfl, (by show 4 ≤ sizeLine; decide), .cons ⟨_, rfl⟩ (.cons ⟨_, rfl⟩ (.cons ⟨_, rfl⟩ (.cons ⟨_, rfl⟩ .nil)))⟩
theorem ways_at {K : PySem.W.Frag} {W w0 w1 w2 w3 w4 w5 w6 w7 : Addr} {o : Option Addr} {n : Nat} {sl : Array (Option Value)} (h : K.lookup W = some ⟨.type "tuple", o, .seq #[.ref w0, .ref w1, .ref w2, .ref w3, .ref w4, .ref w5, .ref w6, .ref w7] n, sl⟩) (H : Hp) :
    SqT K H W ((List.range 8).map fun i => V.ref (([w0, w1, w2, w3, w4, w5, w6, w7] : List Addr).getD i 0)) :=
  .inr ⟨_, _, _, h, rfl, rfl, (by show 8 ≤ sizeLine; decide), .cons rfl (.cons rfl (.cons rfl (.cons rfl (.cons rfl (.cons rfl (.cons rfl (.cons rfl .nil)))))))⟩
theorem ways_in {K : PySem.W.Frag} {w0 w1 w2 w3 w4 w5 w6 w7 : Addr} {ow0 ow1 ow2 ow3 ow4 ow5 ow6 ow7 : Option Addr} {nw0 nw1 nw2 nw3 nw4 nw5 nw6 nw7 : Nat} {sw0 sw1 sw2 sw3 sw4 sw5 sw6 sw7 : Array (Option Value)} {t0_0 t0_1 t0_2 t0_3 t1_0 t1_1 t1_2 t1_3 t2_0 t2_1 t2_2 t2_3 t3_0 t3_1 t3_2 t3_3 t4_0 t4_1 t4_2 t4_3 t5_0 t5_1 t5_2 t5_3 t6_0 t6_1 t6_2 t6_3 t7_0 t7_1 t7_2 t7_3 : Tok}
    (lw0 : K.lookup w0 = some ⟨.type "tuple", ow0, .seq #[.int 1 t0_0, .int 0 t0_1, .int 0 t0_2, .int 1 t0_3] nw0, sw0⟩)
    (lw1 : K.lookup w1 = some ⟨.type "tuple", ow1, .seq #[.int 0 t1_0, .int (-1) t1_1, .int 1 t1_2, .int 0 t1_3] nw1, sw1⟩)
    (lw2 : K.lookup w2 = some ⟨.type "tuple", ow2, .seq #[.int (-1) t2_0, .int 0 t2_1, .int 0 t2_2, .int (-1) t2_3] nw2, sw2⟩)
    (lw3 : K.lookup w3 = some ⟨.type "tuple", ow3, .seq #[.int 0 t3_0, .int 1 t3_1, .int (-1) t3_2, .int 0 t3_3] nw3, sw3⟩)
    (lw4 : K.lookup w4 = some ⟨.type "tuple", ow4, .seq #[.int (-1) t4_0, .int 0 t4_1, .int 0 t4_2, .int 1 t4_3] nw4, sw4⟩)
    (lw5 : K.lookup w5 = some ⟨.type "tuple", ow5, .seq #[.int 1 t5_0, .int 0 t5_1, .int 0 t5_2, .int (-1) t5_3] nw5, sw5⟩)
    (lw6 : K.lookup w6 = some ⟨.type "tuple", ow6, .seq #[.int 0 t6_0, .int 1 t6_1, .int 1 t6_2, .int 0 t6_3] nw6, sw6⟩)
    (lw7 : K.lookup w7 = some ⟨.type "tuple", ow7, .seq #[.int 0 t7_0, .int (-1) t7_1, .int (-1) t7_2, .int 0 t7_3] nw7, sw7⟩)
    (H : Hp) (i : Nat) (hi : i < 8) : SqT K H (([w0, w1, w2, w3, w4, w5, w6, w7] : List Addr).getD i 0) (wayV i) := by
  have q : i = 0 ∨ i = 1 ∨ i = 2 ∨ i = 3 ∨ i = 4 ∨ i = 5 ∨ i = 6 ∨ i = 7 := by omega
  rcases q with rfl | rfl | rfl | rfl | rfl | rfl | rfl | rfl
  · exact vals4 lw0 H
  · exact vals4 lw1 H
  · exact vals4 lw2 H
  · exact vals4 lw3 H
  · exact vals4 lw4 H
  · exact vals4 lw5 H
  · exact vals4 lw6 H
  · exact vals4 lw7 H
theorem all_mk {P : Program} {w : World} {K : PySem.W.Frag} {h : Heap} {mg : Str → Option Value} {fa C W w0 w1 w2 w3 w4 w5 w6 w7 f_turned f_moved f_number_in f_image f_movements f___init__ f_leaves f_symmetries f_taken f_ways_of f_made f_is_side f_least : Addr} (X : K.In h) (G : h.Ns mainGlobals mg) (hfa : mg "least" = some (.ref fa))
    {odW ow0 ow1 ow2 ow3 ow4 ow5 ow6 ow7 od_turned an_turned od_moved an_moved od_number_in an_number_in od_image an_image od_movements an_movements od___init__ an___init__ od_leaves an_leaves od_symmetries an_symmetries od_taken an_taken od_ways_of an_ways_of od_made an_made od_is_side an_is_side od_least an_least : Option Addr} {slW sw0 sw1 sw2 sw3 sw4 sw5 sw6 sw7 sl_turned sl_moved sl_number_in sl_image sl_movements sl___init__ sl_leaves sl_symmetries sl_taken sl_ways_of sl_made sl_is_side sl_least : Array (Option Value)} {nW nw0 nw1 nw2 nw3 nw4 nw5 nw6 nw7 : Nat} {t0_0 t0_1 t0_2 t0_3 t1_0 t1_1 t1_2 t1_3 t2_0 t2_1 t2_2 t2_3 t3_0 t3_1 t3_2 t3_3 t4_0 t4_1 t4_2 t4_3 t5_0 t5_1 t5_2 t5_3 t6_0 t6_1 t6_2 t6_3 t7_0 t7_1 t7_2 t7_3 t_MANY t_TURNED_OVER t_MOST_SIDE t_MOST_WHAT t_OUT : Tok}
    {oc_turned kV_turned dc_turned pm_turned cd_turned ct_turned oc_moved kV_moved dc_moved pm_moved cd_moved ct_moved oc_number_in kV_number_in dc_number_in pm_number_in cd_number_in ct_number_in oc_image kV_image dc_image pm_image cd_image ct_image oc_movements kV_movements dc_movements pm_movements cd_movements ct_movements oc___init__ kV___init__ dc___init__ pm___init__ cd___init__ ct___init__ oc_leaves kV_leaves dc_leaves pm_leaves cd_leaves ct_leaves oc_symmetries kV_symmetries dc_symmetries pm_symmetries cd_symmetries ct_symmetries oc_taken kV_taken dc_taken pm_taken cd_taken ct_taken oc_ways_of kV_ways_of dc_ways_of pm_ways_of cd_ways_of ct_ways_of oc_made kV_made dc_made pm_made cd_made ct_made oc_is_side kV_is_side dc_is_side pm_is_side cd_is_side ct_is_side oc_least kV_least dc_least pm_least cd_least ct_least : Value}
    (aPattern : PySem.W.nsIn K mainGlobals "Pattern" = some (some (.ref C)))
    (aWAYS : PySem.W.nsIn K mainGlobals "WAYS" = some (some (.ref W)))
    (lW : K.lookup W = some ⟨.type "tuple", odW, .seq #[.ref w0, .ref w1, .ref w2, .ref w3, .ref w4, .ref w5, .ref w6, .ref w7] nW, slW⟩)
    (lw0 : K.lookup w0 = some ⟨.type "tuple", ow0, .seq #[.int 1 t0_0, .int 0 t0_1, .int 0 t0_2, .int 1 t0_3] nw0, sw0⟩)
    (lw1 : K.lookup w1 = some ⟨.type "tuple", ow1, .seq #[.int 0 t1_0, .int (-1) t1_1, .int 1 t1_2, .int 0 t1_3] nw1, sw1⟩)
    (lw2 : K.lookup w2 = some ⟨.type "tuple", ow2, .seq #[.int (-1) t2_0, .int 0 t2_1, .int 0 t2_2, .int (-1) t2_3] nw2, sw2⟩)
    (lw3 : K.lookup w3 = some ⟨.type "tuple", ow3, .seq #[.int 0 t3_0, .int 1 t3_1, .int (-1) t3_2, .int 0 t3_3] nw3, sw3⟩)
    (lw4 : K.lookup w4 = some ⟨.type "tuple", ow4, .seq #[.int (-1) t4_0, .int 0 t4_1, .int 0 t4_2, .int 1 t4_3] nw4, sw4⟩)
    (lw5 : K.lookup w5 = some ⟨.type "tuple", ow5, .seq #[.int 1 t5_0, .int 0 t5_1, .int 0 t5_2, .int (-1) t5_3] nw5, sw5⟩)
    (lw6 : K.lookup w6 = some ⟨.type "tuple", ow6, .seq #[.int 0 t6_0, .int 1 t6_1, .int 1 t6_2, .int 0 t6_3] nw6, sw6⟩)
    (lw7 : K.lookup w7 = some ⟨.type "tuple", ow7, .seq #[.int 0 t7_0, .int (-1) t7_1, .int (-1) t7_2, .int 0 t7_3] nw7, sw7⟩)
    (a_turned : PySem.W.nsIn K mainGlobals "turned" = some (some (.ref f_turned)))
    (l_turned : K.lookup f_turned = some ⟨oc_turned, od_turned, .func (PySem.W.fnOf "turned" "turned" (defArgs sTurned) (defBody sTurned) (defScope sTurned) .none kV_turned dc_turned pm_turned an_turned cd_turned ct_turned), sl_turned⟩)
    (c_turned : PySem.W.codeIn K cd_turned "turned" = true)
    (k_turned : PySem.W.keepIn K (.ref f_turned) = true)
    (a_moved : PySem.W.nsIn K mainGlobals "moved" = some (some (.ref f_moved)))
    (l_moved : K.lookup f_moved = some ⟨oc_moved, od_moved, .func (PySem.W.fnOf "moved" "moved" (defArgs sMoved) (defBody sMoved) (defScope sMoved) .none kV_moved dc_moved pm_moved an_moved cd_moved ct_moved), sl_moved⟩)
    (c_moved : PySem.W.codeIn K cd_moved "moved" = true)
    (k_moved : PySem.W.keepIn K (.ref f_moved) = true)
    (a_number_in : PySem.W.nsIn K mainGlobals "number_in" = some (some (.ref f_number_in)))
    (l_number_in : K.lookup f_number_in = some ⟨oc_number_in, od_number_in, .func (PySem.W.fnOf "number_in" "number_in" (defArgs sNum) (defBody sNum) (defScope sNum) .none kV_number_in dc_number_in pm_number_in an_number_in cd_number_in ct_number_in), sl_number_in⟩)
    (c_number_in : PySem.W.codeIn K cd_number_in "number_in" = true)
    (k_number_in : PySem.W.keepIn K (.ref f_number_in) = true)
    (a_image : PySem.W.nsIn K mainGlobals "image" = some (some (.ref f_image)))
    (l_image : K.lookup f_image = some ⟨oc_image, od_image, .func (PySem.W.fnOf "image" "image" (defArgs sImage) (defBody sImage) (defScope sImage) .none kV_image dc_image pm_image an_image cd_image ct_image), sl_image⟩)
    (c_image : PySem.W.codeIn K cd_image "image" = true)
    (k_image : PySem.W.keepIn K (.ref f_image) = true)
    (a_movements : PySem.W.nsIn K mainGlobals "movements" = some (some (.ref f_movements)))
    (l_movements : K.lookup f_movements = some ⟨oc_movements, od_movements, .func (PySem.W.fnOf "movements" "movements" (defArgs sMvs) (defBody sMvs) (defScope sMvs) .none kV_movements dc_movements pm_movements an_movements cd_movements ct_movements), sl_movements⟩)
    (c_movements : PySem.W.codeIn K cd_movements "movements" = true)
    (k_movements : PySem.W.keepIn K (.ref f_movements) = true)
    (a___init__ : PySem.W.findIn K (.ref C) "__init__" = some (some (.ref f___init__)))
    (i___init__ : PySem.W.isFn K (.ref f___init__) = true)
    (l___init__ : K.lookup f___init__ = some ⟨oc___init__, od___init__, .func (PySem.W.fnOf "__init__" "Pattern.__init__" (defArgs sInit) (defBody sInit) (defScope sInit) .none kV___init__ dc___init__ pm___init__ an___init__ cd___init__ ct___init__), sl___init__⟩)
    (c___init__ : PySem.W.codeIn K cd___init__ "Pattern.__init__" = true)
    (k___init__ : PySem.W.keepIn K (.ref f___init__) = true)
    (a_leaves : PySem.W.findIn K (.ref C) "leaves" = some (some (.ref f_leaves)))
    (i_leaves : PySem.W.isFn K (.ref f_leaves) = true)
    (l_leaves : K.lookup f_leaves = some ⟨oc_leaves, od_leaves, .func (PySem.W.fnOf "leaves" "Pattern.leaves" (defArgs sLeaves) (defBody sLeaves) (defScope sLeaves) .none kV_leaves dc_leaves pm_leaves an_leaves cd_leaves ct_leaves), sl_leaves⟩)
    (c_leaves : PySem.W.codeIn K cd_leaves "Pattern.leaves" = true)
    (k_leaves : PySem.W.keepIn K (.ref f_leaves) = true)
    (a_symmetries : PySem.W.findIn K (.ref C) "symmetries" = some (some (.ref f_symmetries)))
    (i_symmetries : PySem.W.isFn K (.ref f_symmetries) = true)
    (l_symmetries : K.lookup f_symmetries = some ⟨oc_symmetries, od_symmetries, .func (PySem.W.fnOf "symmetries" "Pattern.symmetries" (defArgs sSyms) (defBody sSyms) (defScope sSyms) .none kV_symmetries dc_symmetries pm_symmetries an_symmetries cd_symmetries ct_symmetries), sl_symmetries⟩)
    (c_symmetries : PySem.W.codeIn K cd_symmetries "Pattern.symmetries" = true)
    (k_symmetries : PySem.W.keepIn K (.ref f_symmetries) = true)
    (a_taken : PySem.W.findIn K (.ref C) "taken" = some (some (.ref f_taken)))
    (i_taken : PySem.W.isFn K (.ref f_taken) = true)
    (l_taken : K.lookup f_taken = some ⟨oc_taken, od_taken, .func (PySem.W.fnOf "taken" "Pattern.taken" (defArgs sTaken) (defBody sTaken) (defScope sTaken) .none kV_taken dc_taken pm_taken an_taken cd_taken ct_taken), sl_taken⟩)
    (c_taken : PySem.W.codeIn K cd_taken "Pattern.taken" = true)
    (k_taken : PySem.W.keepIn K (.ref f_taken) = true)
    (a_ways_of : PySem.W.nsIn K mainGlobals "ways_of" = some (some (.ref f_ways_of)))
    (l_ways_of : K.lookup f_ways_of = some ⟨oc_ways_of, od_ways_of, .func (PySem.W.fnOf "ways_of" "ways_of" (defArgs sWaysOf) (defBody sWaysOf) (defScope sWaysOf) .none kV_ways_of dc_ways_of pm_ways_of an_ways_of cd_ways_of ct_ways_of), sl_ways_of⟩)
    (c_ways_of : PySem.W.codeIn K cd_ways_of "ways_of" = true)
    (k_ways_of : PySem.W.keepIn K (.ref f_ways_of) = true)
    (a_made : PySem.W.nsIn K mainGlobals "made" = some (some (.ref f_made)))
    (l_made : K.lookup f_made = some ⟨oc_made, od_made, .func (PySem.W.fnOf "made" "made" (defArgs sMade) (defBody sMade) (defScope sMade) .none kV_made dc_made pm_made an_made cd_made ct_made), sl_made⟩)
    (c_made : PySem.W.codeIn K cd_made "made" = true)
    (k_made : PySem.W.keepIn K (.ref f_made) = true)
    (a_is_side : PySem.W.nsIn K mainGlobals "is_side" = some (some (.ref f_is_side)))
    (l_is_side : K.lookup f_is_side = some ⟨oc_is_side, od_is_side, .func (PySem.W.fnOf "is_side" "is_side" (defArgs sIsSide) (defBody sIsSide) (defScope sIsSide) .none kV_is_side dc_is_side pm_is_side an_is_side cd_is_side ct_is_side), sl_is_side⟩)
    (c_is_side : PySem.W.codeIn K cd_is_side "is_side" = true)
    (k_is_side : PySem.W.keepIn K (.ref f_is_side) = true)
    (a_least : PySem.W.nsIn K mainGlobals "least" = some (some (.ref f_least)))
    (l_least : K.lookup f_least = some ⟨oc_least, od_least, .func (PySem.W.fnOf "least" "least" (defArgs sLeast) (defBody sLeast) (defScope sLeast) .none kV_least dc_least pm_least an_least cd_least ct_least), sl_least⟩)
    (c_least : PySem.W.codeIn K cd_least "least" = true)
    (k_least : PySem.W.keepIn K (.ref f_least) = true)
    (pg : PySem.W.plainGet K C Str.empty = true)
    (hd : PySem.W.hasDictIn K C = true)
    (po : PySem.W.plainOver K C = true)
    (sa : PySem.W.findIn K (.ref C) "__setattr__" = some (some (.builtin "object.__setattr__")))
    (mk : PySem.W.makesIn K C = true)
    (kc : PySem.W.keepIn K (.ref C) = true)
    (nN : PySem.W.findIn K (.ref C) "n" = some none)
    (nC : PySem.W.findIn K (.ref C) "colours" = some none)
    (nK : PySem.W.findIn K (.ref C) "known" = some none)
    (n_range : PySem.W.nsIn K mainGlobals "range" = some none)
    (n_enumerate : PySem.W.nsIn K mainGlobals "enumerate" = some none)
    (n_list : PySem.W.nsIn K mainGlobals "list" = some none)
    (n_len : PySem.W.nsIn K mainGlobals "len" = some none)
    (n_tuple : PySem.W.nsIn K mainGlobals "tuple" = some none)
    (n_sorted : PySem.W.nsIn K mainGlobals "sorted" = some none)
    (v_MANY : PySem.W.nsIn K mainGlobals "MANY" = some (some (.int 8 t_MANY)))
    (v_TURNED_OVER : PySem.W.nsIn K mainGlobals "TURNED_OVER" = some (some (.int 4 t_TURNED_OVER)))
    (v_MOST_SIDE : PySem.W.nsIn K mainGlobals "MOST_SIDE" = some (some (.int 64 t_MOST_SIDE)))
    (v_MOST_WHAT : PySem.W.nsIn K mainGlobals "MOST_WHAT" = some (some (.int 2 t_MOST_WHAT)))
    (v_OUT : PySem.W.nsIn K mainGlobals "OUT" = some (some (.int (-2) t_OUT)))
    : ∃ fd : FuncData, (∀ (s : Shared) (us : List Value), us.length = (["n", "what", "p"] : List Str).length → BindsTo s fd ⟨us, []⟩ ((["n", "what", "p"] : List Str).zip us)) ∧ ∀ base : Heap, K.In base → base.Ns mainGlobals mg → FnOk P w K mg base CX0 7 fa fd ["n", "what", "p"] (spLeast K) := by
  have e := hfa.symm.trans (PySem.W.mg_of X G a_least)
  cases e
  have g_Pattern := PySem.W.mg_of X G aPattern
  have g_WAYS := PySem.W.mg_of X G aWAYS
  have F_turned := fun_mk (st := sTurned) l_turned c_turned k_turned
  have g_turned := PySem.W.mg_of X G a_turned
  have b_turned := F_turned.binds (ps := ["way", "x", "y"]) fun _ _ _ _ _ _ us hl => match us, hl with | [_, _, _], _ => rfl
  have F_moved := fun_mk (st := sMoved) l_moved c_moved k_moved
  have g_moved := PySem.W.mg_of X G a_moved
  have b_moved := F_moved.binds (ps := ["movement", "x", "y"]) fun _ _ _ _ _ _ us hl => match us, hl with | [_, _, _], _ => rfl
  have F_number_in := fun_mk (st := sNum) l_number_in c_number_in k_number_in
  have g_number_in := PySem.W.mg_of X G a_number_in
  have b_number_in := F_number_in.binds (ps := ["n", "x", "y"]) fun _ _ _ _ _ _ us hl => match us, hl with | [_, _, _], _ => rfl
  have F_image := fun_mk (st := sImage) l_image c_image k_image
  have g_image := PySem.W.mg_of X G a_image
  have b_image := F_image.binds (ps := ["n", "movement"]) fun _ _ _ _ _ _ us hl => match us, hl with | [_, _], _ => rfl
  have F_movements := fun_mk (st := sMvs) l_movements c_movements k_movements
  have g_movements := PySem.W.mg_of X G a_movements
  have b_movements := F_movements.binds (ps := ["n", "ways"]) fun _ _ _ _ _ _ us hl => match us, hl with | [_, _], _ => rfl
  have F___init__ := fun_mk (st := sInit) l___init__ c___init__ k___init__
  have M___init__ : Meth K C "__init__" f___init__ := ⟨a___init__, i___init__, k___init__⟩
  have b___init__ := F___init__.binds (ps := ["self", "n", "colours"]) fun _ _ _ _ _ _ us hl => match us, hl with | [_, _, _], _ => rfl
  have F_leaves := fun_mk (st := sLeaves) l_leaves c_leaves k_leaves
  have M_leaves : Meth K C "leaves" f_leaves := ⟨a_leaves, i_leaves, k_leaves⟩
  have b_leaves := F_leaves.binds (ps := ["self", "movement"]) fun _ _ _ _ _ _ us hl => match us, hl with | [_, _], _ => rfl
  have F_symmetries := fun_mk (st := sSyms) l_symmetries c_symmetries k_symmetries
  have M_symmetries : Meth K C "symmetries" f_symmetries := ⟨a_symmetries, i_symmetries, k_symmetries⟩
  have b_symmetries := F_symmetries.binds (ps := ["self"]) fun _ _ _ _ _ _ us hl => match us, hl with | [_], _ => rfl
  have F_taken := fun_mk (st := sTaken) l_taken c_taken k_taken
  have M_taken : Meth K C "taken" f_taken := ⟨a_taken, i_taken, k_taken⟩
  have b_taken := F_taken.binds (ps := ["self", "movement"]) fun _ _ _ _ _ _ us hl => match us, hl with | [_, _], _ => rfl
  have F_ways_of := fun_mk (st := sWaysOf) l_ways_of c_ways_of k_ways_of
  have g_ways_of := PySem.W.mg_of X G a_ways_of
  have b_ways_of := F_ways_of.binds (ps := ["what"]) fun _ _ _ _ _ _ us hl => match us, hl with | [_], _ => rfl
  have F_made := fun_mk (st := sMade) l_made c_made k_made
  have g_made := PySem.W.mg_of X G a_made
  have b_made := F_made.binds (ps := ["pattern", "what"]) fun _ _ _ _ _ _ us hl => match us, hl with | [_, _], _ => rfl
  have F_is_side := fun_mk (st := sIsSide) l_is_side c_is_side k_is_side
  have g_is_side := PySem.W.mg_of X G a_is_side
  have b_is_side := F_is_side.binds (ps := ["n"]) fun _ _ _ _ _ _ us hl => match us, hl with | [_], _ => rfl
  have F_least := fun_mk (st := sLeast) l_least c_least k_least
  have g_least := PySem.W.mg_of X G a_least
  have b_least := F_least.binds (ps := ["n", "what", "p"]) fun _ _ _ _ _ _ us hl => match us, hl with | [_, _, _], _ => rfl
  have z_range := PySem.W.mg_none_of X G n_range
  have z_enumerate := PySem.W.mg_none_of X G n_enumerate
  have z_list := PySem.W.mg_none_of X G n_list
  have z_len := PySem.W.mg_none_of X G n_len
  have z_tuple := PySem.W.mg_none_of X G n_tuple
  have z_sorted := PySem.W.mg_none_of X G n_sorted
  have g_MANY := PySem.W.mg_of X G v_MANY
  have g_TURNED_OVER := PySem.W.mg_of X G v_TURNED_OVER
  have g_MOST_SIDE := PySem.W.mg_of X G v_MOST_SIDE
  have g_MOST_WHAT := PySem.W.mg_of X G v_MOST_WHAT
  have g_OUT := PySem.W.mg_of X G v_OUT
  refine ⟨PySem.W.fnOf "least" "least" (defArgs sLeast) (defBody sLeast) (defScope sLeast) .none kV_least dc_least pm_least an_least cd_least ct_least, fun s us hu => match us, hu with | [_, _, _], _ => .of_eq rfl, fun base _ _ => ?_⟩
  let ws : List Addr := [w0, w1, w2, w3, w4, w5, w6, w7]
  have TW : TxW K mg W (fun i => ws.getD i 0) := ⟨g_WAYS, ways_at lW, ways_in lw0 lw1 lw2 lw3 lw4 lw5 lw6 lw7, z_range⟩
  have Gturned : FnOk P w K mg base CX0 1 f_turned _ ["way", "x", "y"] spTurned := ok_turned F_turned TW
  have Gmoved : FnOk P w K mg base CX0 2 f_moved _ ["movement", "x", "y"] (spMoved K) := ok_moved F_moved Gturned g_turned F_turned.kp b_turned
  have Gnum : FnOk P w K mg base CX0 1 f_number_in _ ["n", "x", "y"] spNum := ok_num F_number_in
  have Gimage : FnOk P w K mg base CX0 3 f_image _ ["n", "movement"] (spImage K) := ok_image F_image TW Gmoved g_moved F_moved.kp b_moved Gnum g_number_in F_number_in.kp b_number_in
  have Gmvs : FnOk P w K mg base CX0 1 f_movements _ ["n", "ways"] (spMvs K) := ok_mvs F_movements TW
  have T : TxC K mg C := ⟨⟨pg, hd, po, sa⟩, nN, nC, nK, g_Pattern, z_enumerate, z_list, ⟨_, g_MANY⟩⟩
  have Gleaves : FnOk P w K mg base CX0 4 f_leaves _ ["self", "movement"] (spLeaves K C) := ok_leaves F_leaves T Gimage g_image F_image.kp b_image
  have Gsyms : FnOk P w K mg base CX0 1 f_symmetries _ ["self"] (spSyms K C) := ok_syms F_symmetries T
  have Ginit : FnOk P w K mg base CX0 5 f___init__ _ ["self", "n", "colours"] (spInit K C) := ok_init F___init__ T TW Gmvs g_movements F_movements.kp b_movements Gleaves M_leaves b_leaves
  have Mk0 : Mk K C f___init__ := ⟨mk, a___init__, i___init__, kc⟩
  have Gwo : FnOk P w K mg base CX0 1 f_ways_of _ ["what"] spWaysOf := ok_waysOf F_ways_of TW ⟨_, g_TURNED_OVER⟩ ⟨_, g_MANY⟩ z_list
  have Gta : FnOk P w K mg base CX0 4 f_taken _ ["self", "movement"] (spTaken K C) := ok_taken F_taken T z_len Gimage g_image F_image.kp b_image
  have Gma : FnOk P w K mg base CX0 5 f_made _ ["pattern", "what"] (spMade K C) := ok_made F_made T z_tuple z_sorted Gmvs g_movements F_movements.kp b_movements Gwo g_ways_of F_ways_of.kp b_ways_of Gta M_taken b_taken
  have Gside : FnOk P w K mg base CX0 1 f_is_side _ ["n"] spSide := ok_side F_is_side ⟨_, g_MOST_SIDE⟩
  exact ok_least F_least T ⟨_, g_OUT⟩ ⟨_, g_MOST_WHAT⟩ z_len Gside g_is_side F_is_side.kp b_is_side Mk0 Ginit b___init__ Gma g_made F_made.kp b_made
end Pl
open PySem PySem.W PyProof.Rows
set_option maxRecDepth 100000 in
set_option maxHeartbeats 8000000 in
theorem PySem.Challenge.cw_planerepeats_s04_least_holds : PySem.Challenge.rw_planerepeats_s04_least.Holds := by
  w_on; k_headS; (case hw => exact ⟨[.int 0, .int 0, .list []], by decide +kernel, by decide +kernel⟩)
  k_fillS
  refine L2.walk_specK (r := PySem.Challenge.rw_planerepeats_s04_least) (k := 7) (CX := L2.CX0) (ps := ["n", "what", "p"]) (sp := Pl.spLeast) (by decide +kernel) rfl rfl ⟨rfl, by decide, by decide⟩ (fun w h Y => PySem.W.kIn_of Y) ?F ?S (fun _ _ _ _ z => z)
  case F =>
    intro w mg fa h Y KX G hmg
    refine' Pl.all_mk KX G hmg ?aPattern ?aWAYS ?lW ?lw0 ?lw1 ?lw2 ?lw3 ?lw4 ?lw5 ?lw6 ?lw7 ?a_turned ?l_turned ?c_turned ?k_turned ?a_moved ?l_moved ?c_moved ?k_moved ?a_number_in ?l_number_in ?c_number_in ?k_number_in ?a_image ?l_image ?c_image ?k_image ?a_movements ?l_movements ?c_movements ?k_movements ?a___init__ ?i___init__ ?l___init__ ?c___init__ ?k___init__ ?a_leaves ?i_leaves ?l_leaves ?c_leaves ?k_leaves ?a_symmetries ?i_symmetries ?l_symmetries ?c_symmetries ?k_symmetries ?a_taken ?i_taken ?l_taken ?c_taken ?k_taken ?a_ways_of ?l_ways_of ?c_ways_of ?k_ways_of ?a_made ?l_made ?c_made ?k_made ?a_is_side ?l_is_side ?c_is_side ?k_is_side ?a_least ?l_least ?c_least ?k_least ?pg ?hd ?po ?sa ?mk ?kc ?nN ?nC ?nK ?n_range ?n_enumerate ?n_list ?n_len ?n_tuple ?n_sorted ?v_MANY ?v_TURNED_OVER ?v_MOST_SIDE ?v_MOST_WHAT ?v_OUT
    (case aPattern => k_is)
    (case aWAYS => k_is)
    (case lW => k_is)
    (case lw0 => k_is)
    (case lw1 => k_is)
    (case lw2 => k_is)
    (case lw3 => k_is)
    (case lw4 => k_is)
    (case lw5 => k_is)
    (case lw6 => k_is)
    (case lw7 => k_is)
    (case a_turned => k_is)
    (case l_turned => k_is)
    (case c_turned => k_is)
    (case k_turned => k_is)
    (case a_moved => k_is)
    (case l_moved => k_is)
    (case c_moved => k_is)
    (case k_moved => k_is)
    (case a_number_in => k_is)
    (case l_number_in => k_is)
    (case c_number_in => k_is)
    (case k_number_in => k_is)
    (case a_image => k_is)
    (case l_image => k_is)
    (case c_image => k_is)
    (case k_image => k_is)
    (case a_movements => k_is)
    (case l_movements => k_is)
    (case c_movements => k_is)
    (case k_movements => k_is)
    (case a___init__ => k_is)
    (case i___init__ => k_is)
    (case l___init__ => k_is)
    (case c___init__ => k_is)
    (case k___init__ => k_is)
    (case a_leaves => k_is)
    (case i_leaves => k_is)
    (case l_leaves => k_is)
    (case c_leaves => k_is)
    (case k_leaves => k_is)
    (case a_symmetries => k_is)
    (case i_symmetries => k_is)
    (case l_symmetries => k_is)
    (case c_symmetries => k_is)
    (case k_symmetries => k_is)
    (case a_taken => k_is)
    (case i_taken => k_is)
    (case l_taken => k_is)
    (case c_taken => k_is)
    (case k_taken => k_is)
    (case a_ways_of => k_is)
    (case l_ways_of => k_is)
    (case c_ways_of => k_is)
    (case k_ways_of => k_is)
    (case a_made => k_is)
    (case l_made => k_is)
    (case c_made => k_is)
    (case k_made => k_is)
    (case a_is_side => k_is)
    (case l_is_side => k_is)
    (case c_is_side => k_is)
    (case k_is_side => k_is)
    (case a_least => k_is)
    (case l_least => k_is)
    (case c_least => k_is)
    (case k_least => k_is)
    (case pg => k_is)
    (case hd => k_is)
    (case po => k_is)
    (case sa => k_is)
    (case mk => k_is)
    (case kc => k_is)
    (case nN => k_is)
    (case nC => k_is)
    (case nK => k_is)
    (case n_range => k_is)
    (case n_enumerate => k_is)
    (case n_list => k_is)
    (case n_len => k_is)
    (case n_tuple => k_is)
    (case n_sorted => k_is)
    (case v_MANY => k_is)
    (case v_TURNED_OVER => k_is)
    (case v_MOST_SIDE => k_is)
    (case v_MOST_WHAT => k_is)
    (case v_OUT => k_is)
  case S =>
    intro K H xs a hO hwi hask hx
    obtain ⟨z, w, cs, u⟩ := a
    cases hx with
    | cons h1 h2 =>
      cases h2 with
      | cons h2 h3 =>
        cases h3 with
        | cons h3 h4 =>
          cases h4
          cases h1
          cases h2
          cases h3 with
          | lst hs ha =>
            have e := L2.ints_dw cs _ ha
            subst e
            exact ⟨z, w, _, cs, rfl, hs, hask, fun H' p hp => .lst (L2.SqL.of hp) (L2.dw_ints _)⟩
#print axioms PySem.Challenge.cw_planerepeats_s04_least_holds
