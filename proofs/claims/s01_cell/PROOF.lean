import PyProof.Rows.All
import Wide.All
import OpenK.AllK
import Wide.FinOn
import Open.SpecLaws
import KE.OsGo
import HandS.ForSpec
import HandS.Comp
import HandS.Dict
import HandS.Iter
import HandS.Conv
import HandS.WordsDict
import HandS.Walk
import PySem.Challenge.RW_planerepeats_s01_cell
set_option Elab.async false
set_option maxRecDepth 100000
set_option maxHeartbeats 4000000
/-! ### the text by places -/
namespace Pl
open PySem PySem.Spec PyProof.Rows L2
def top (i : Nat) : Stmt := PySem.Challenge.pw_planerepeats_s01_cell.main.body.getD i (.Pass ⟨0, 0, 0, 0⟩)
abbrev sTurned : Stmt := top 4
abbrev sMoved : Stmt := top 5
abbrev sNum : Stmt := top 6
abbrev sImage : Stmt := top 7
abbrev sMvs : Stmt := top 8
abbrev sInit : Stmt := inClass (top 9) 0
abbrev sLeaves : Stmt := inClass (top 9) 1
abbrev sHas : Stmt := inClass (top 9) 2
abbrev sSyms : Stmt := inClass (top 9) 3
abbrev sLeastShift : Stmt := top 11
abbrev sRowShift : Stmt := top 12
abbrev sCountShifts : Stmt := top 13
abbrev sIsSide : Stmt := top 17
abbrev sCell : Stmt := top 18
end Pl
namespace Pl
open Sa48 Sa48Neutral
/-! ### places by their numbers -/
/-- the number of a place of the square, for any place -/
def num (n : Nat) (x y : Int) : Nat := (y % (n : Int)).toNat * n + (x % (n : Int)).toNat
/-- the number of the place to which a movement takes the place numbered k -/
def pl (n a : Nat) (u v : Int) (k : Nat) : Nat := num n ((turned a ((k % n : Nat) : Int) ((k / n : Nat) : Int)).1 + u) ((turned a ((k % n : Nat) : Int) ((k / n : Nat) : Int)).2 + v)
theorem place_pl (p : Pat) (a : Nat) (u v : Int) (k : Nat) : place p a u v k = pl p.n a u v k := rfl
theorem at_num (p : Pat) (x y : Int) : p.at_ x y = p.c.getD (num p.n x y) 0 := rfl
theorem num_lt {n : Nat} (hn : 0 < n) (x y : Int) : num n x y < n * n := by
  have h1 := Int.emod_nonneg x (show (n : Int) ≠ 0 by omega)
  have h2 := Int.emod_lt_of_pos x (show (0 : Int) < n by omega)
  have h3 := Int.emod_nonneg y (show (n : Int) ≠ 0 by omega)
  have h4 := Int.emod_lt_of_pos y (show (0 : Int) < n by omega)
  have hx : (x % (n : Int)).toNat < n := by omega
  have hy : (y % (n : Int)).toNat + 1 ≤ n := by omega
  have hm := Nat.mul_le_mul_right n hy
  rw [Nat.add_mul, Nat.one_mul] at hm
  unfold num
  omega
theorem pl_lt {n : Nat} (hn : 0 < n) (a : Nat) (u v : Int) (k : Nat) : pl n a u v k < n * n := num_lt hn _ _
theorem num_nat {n x y : Nat} (hx : x < n) (hy : y < n) : num n (x : Int) (y : Int) = y * n + x := by
  unfold num
  rw [Int.emod_eq_of_lt (by omega) (by omega), Int.emod_eq_of_lt (by omega) (by omega)]
  rfl
theorem num_self {n k : Nat} (hk : k < n * n) : num n ((k % n : Nat) : Int) ((k / n : Nat) : Int) = k := by
  have hn : 0 < n := by
    rcases Nat.eq_zero_or_pos n with h | h
    · subst h; simp at hk
    · exact h
  rw [num_nat (Nat.mod_lt _ hn) (Nat.div_lt_of_lt_mul hk), Nat.mul_comm]
  exact Nat.div_add_mod k n
theorem num_mod (n : Nat) (x y x' y' : Int) (h1 : x % (n : Int) = x' % (n : Int)) (h2 : y % (n : Int) = y' % (n : Int)) : num n x y = num n x' y' := by
  unfold num
  rw [h1, h2]
theorem pl_congr (n a : Nat) (u v u' v' : Int) (k : Nat) (h1 : u % (n : Int) = u' % (n : Int)) (h2 : v % (n : Int) = v' % (n : Int)) : pl n a u v k = pl n a u' v' k := by
  unfold pl
  refine num_mod n _ _ _ _ ?_ ?_
  · rw [Int.add_emod, h1, ← Int.add_emod]
  · rw [Int.add_emod, h2, ← Int.add_emod]
theorem pl_mod (n a : Nat) (u v : Int) (k : Nat) : pl n a (u % (n : Int)) (v % (n : Int)) k = pl n a u v k :=
  pl_congr n a _ _ _ _ k (Int.emod_emod_of_dvd _ (Int.dvd_refl _)) (Int.emod_emod_of_dvd _ (Int.dvd_refl _))
/-! ### symmetries by numbers -/
theorem mem_rg {n : Nat} {z : Int} : z ∈ rg n ↔ ∃ i : Nat, i < n ∧ z = (i : Int) := by
  unfold rg
  rw [List.mem_map]
  constructor
  · rintro ⟨i, h, rfl⟩
    exact ⟨i, List.mem_range.mp h, rfl⟩
  · rintro ⟨i, h, rfl⟩
    exact ⟨i, List.mem_range.mpr h, rfl⟩
/-- each place and where it's taken have one colour, by numbers -/
def symL (c : List Nat) (n a : Nat) (u v : Int) : Bool := (List.range (n * n)).all fun k => c.getD (pl n a u v k) 0 == c.getD k 0
theorem symL_iff {c : List Nat} {n a : Nat} {u v : Int} : symL c n a u v = true ↔ ∀ k, k < n * n → c.getD (pl n a u v k) 0 = c.getD k 0 := by
  unfold symL
  rw [List.all_eq_true]
  constructor
  · intro h k hk
    exact eq_of_beq (h k (List.mem_range.mpr hk))
  · intro h k hk
    exact beq_iff_eq.mpr (h k (List.mem_range.mp hk))
theorem sym_iff {p : Pat} {a : Nat} {u v : Int} : sym p a u v = true ↔ ∀ x y : Nat, x < p.n → y < p.n → p.at_ ((turned a x y).1 + u) ((turned a x y).2 + v) = p.at_ x y := by
  unfold sym
  rw [List.all_eq_true]
  constructor
  · intro h x y hx hy
    have q := List.all_eq_true.mp (h x (mem_rg.mpr ⟨x, hx, rfl⟩)) y (mem_rg.mpr ⟨y, hy, rfl⟩)
    exact eq_of_beq q
  · intro h x hx
    obtain ⟨i, hi, rfl⟩ := mem_rg.mp hx
    refine List.all_eq_true.mpr fun y hy => ?_
    obtain ⟨j, hj, rfl⟩ := mem_rg.mp hy
    exact beq_iff_eq.mpr (h i j hi hj)
theorem sym_symL (p : Pat) (a : Nat) (u v : Int) : sym p a u v = symL p.c p.n a u v := by
  rw [Bool.eq_iff_iff, sym_iff, symL_iff]
  constructor
  · intro h k hk
    have hn : 0 < p.n := by
      rcases Nat.eq_zero_or_pos p.n with h | h
      · rw [h] at hk; simp at hk
      · exact h
    have q := h (k % p.n) (k / p.n) (Nat.mod_lt _ hn) (Nat.div_lt_of_lt_mul hk)
    rw [at_num, at_num, num_self hk] at q
    exact q
  · intro h x y hx hy
    have hk : y * p.n + x < p.n * p.n := by
      have hm := Nat.mul_le_mul_right p.n (show y + 1 ≤ p.n from hy)
      rw [Nat.add_mul, Nat.one_mul] at hm
      omega
    have q := h _ hk
    have e1 : (y * p.n + x) % p.n = x := by
      rw [Nat.add_comm, Nat.add_mul_mod_self_right]
      exact Nat.mod_eq_of_lt hx
    have e2 : (y * p.n + x) / p.n = y := by
      rw [Nat.add_comm, Nat.add_mul_div_right _ _ (by omega), Nat.div_eq_of_lt hx, Nat.zero_add]
    unfold pl at q
    rw [e1, e2] at q
    rw [at_num, at_num, num_nat hx hy]
    exact q
theorem symL_congr {c : List Nat} {n a : Nat} {u v u' v' : Int} (h1 : u % (n : Int) = u' % (n : Int)) (h2 : v % (n : Int) = v' % (n : Int)) : symL c n a u v = symL c n a u' v' := by
  unfold symL
  have e : (fun k => c.getD (pl n a u v k) 0 == c.getD k 0) = fun k => c.getD (pl n a u' v' k) 0 == c.getD k 0 := by
    funext k
    rw [pl_congr n a u v u' v' k h1 h2]
  rw [e]
theorem symL_mod (c : List Nat) (n a : Nat) (u v : Int) : symL c n a (u % (n : Int)) (v % (n : Int)) = symL c n a u v :=
  symL_congr (Int.emod_emod_of_dvd _ (Int.dvd_refl _)) (Int.emod_emod_of_dvd _ (Int.dvd_refl _))
end Pl
/-! ### heaps, short words -/
namespace Pl
open PySem PySem.Spec PyProof.Rows L2
theorem Same.upd {H H' : Hp} {p : Addr} {o : HO} (s : Same H H') (h : H p = none) : Same H (L2.upd H' p o) := fun b ob e => by
  rw [upd_ne (ne_of_none e h)]
  exact s b ob e
theorem Same.new {H : Hp} {p : Addr} {o : HO} (h : H p = none) : Same H (L2.upd H p o) := Same.upd (Same.refl H) h
theorem tup_same {K : PySem.W.Frag} {H H' : Hp} {a : Addr} {xs : List V} (e : Same H H') (h : SqT K H a xs) : SqT K H' a xs := by
  rcases h with (h | ⟨o, h⟩) | h
  · exact .inl (.inl (e _ _ h))
  · exact .inl (.inr ⟨o, e _ _ h⟩)
  · exact .inr h
/-- a part of a way, one more -/
theorem take_more {α : Type} : ∀ {l : List α} {i : Nat} {x : α}, l[i]? = some x → l.take (i + 1) = l.take i ++ [x]
  | [], i, x, h => by simp at h
  | a :: l, 0, x, h => by
    have e : a = x := Option.some.inj h
    subst e
    rfl
  | a :: l, i + 1, x, h => by
    have ih := take_more (l := l) (i := i) (x := x) h
    show a :: l.take (i + 1) = a :: l.take i ++ [x]
    rw [ih]
    rfl
theorem map_at {α β : Type} {f : α → β} {l : List α} {i : Nat} {y : β} (h : (l.map f)[i]? = some y) : ∃ z, l[i]? = some z ∧ y = f z := by
  rw [List.getElem?_map] at h
  cases e : l[i]? with
  | none =>
    rw [e] at h
    cases h
  | some z =>
    rw [e] at h
    exact ⟨z, rfl, (Option.some.inj h).symm⟩
/-! ### what the eight ways are -/
def wayC (a : Nat) : Int × Int × Int × Int := ([(1, 0, 0, 1), (0, -1, 1, 0), (-1, 0, 0, -1), (0, 1, -1, 0), (-1, 0, 0, 1), (1, 0, 0, -1), (0, 1, 1, 0), (0, -1, -1, 0)] : List (Int × Int × Int × Int)).getD a (0, 0, 0, 0)
def wayV (a : Nat) : List V := [.int (wayC a).1, .int (wayC a).2.1, .int (wayC a).2.2.1, .int (wayC a).2.2.2]
theorem way_small : ∀ a, a < 8 → ((-1 ≤ (wayC a).1 ∧ (wayC a).1 ≤ 1) ∧ (-1 ≤ (wayC a).2.1 ∧ (wayC a).2.1 ≤ 1) ∧ (-1 ≤ (wayC a).2.2.1 ∧ (wayC a).2.2.1 ≤ 1) ∧ (-1 ≤ (wayC a).2.2.2 ∧ (wayC a).2.2.2 ≤ 1)) := by decide
theorem way_turned {a : Nat} (h : a < 8) (x y : Int) : Sa48.turned a x y = ((wayC a).1 * x + (wayC a).2.1 * y, (wayC a).2.2.1 * x + (wayC a).2.2.2 * y) := by
  have q : a = 0 ∨ a = 1 ∨ a = 2 ∨ a = 3 ∨ a = 4 ∨ a = 5 ∨ a = 6 ∨ a = 7 := by omega
  rcases q with rfl | rfl | rfl | rfl | rfl | rfl | rfl | rfl <;> simp [Sa48.turned, wayC]
/-- what the top has written: the ways, the names of the first module -/
structure TxW (K : PySem.W.Frag) (mg : Str → Option Value) (W : Addr) (ws : Nat → Addr) : Prop where
  mgW : mg "WAYS" = some (.ref W)
  tW : ∀ H, SqT K H W ((List.range 8).map fun i => V.ref (ws i))
  tw : ∀ H i, i < 8 → SqT K H (ws i) (wayV i)
  range : mg "range" = none
/-! ### the promises -/
def spTurned : Sp := fun vs H Q _ => ∃ (a : Nat) (x y : Int), vs = [.int (a : Int), .int x, .int y] ∧ a < 8 ∧
  ∀ H' p, Same H H' → H p = none → H' p = some (.tup [.int (Sa48.turned a x y).1, .int (Sa48.turned a x y).2]) → Q (.ref p) H'
def spMoved (K : PySem.W.Frag) : Sp := fun vs H Q _ => ∃ (m : Addr) (a : Nat) (u v x y : Int), vs = [.ref m, .int x, .int y] ∧ SqT K H m [.int (a : Int), .int u, .int v] ∧ a < 8 ∧
  ∀ H' p, Same H H' → H p = none → H' p = some (.tup [.int ((Sa48.turned a x y).1 + u), .int ((Sa48.turned a x y).2 + v)]) → Q (.ref p) H'
def spNum : Sp := fun vs H Q _ => ∃ (n : Nat) (x y : Int), vs = [.int (n : Int), .int x, .int y] ∧ 0 < n ∧ n ≤ 64 ∧ Q (.int ((num n x y : Nat) : Int)) H
def spImage (K : PySem.W.Frag) : Sp := fun vs H Q _ => ∃ (m : Addr) (n a : Nat) (u v : Int), vs = [.int (n : Int), .ref m] ∧ SqT K H m [.int (a : Int), .int u, .int v] ∧ a < 8 ∧ 0 < n ∧ n ≤ 64 ∧
  ∀ H' p, Same H H' → H p = none → H' p = some (.lst ((List.range (n * n)).map fun k => V.int ((pl n a u v k : Nat) : Int))) → Q (.ref p) H'
section
variable {P : Program} {w : World} {K : PySem.W.Frag} {mg : Str → Option Value} {base : Heap} {W : Addr} {ws : Nat → Addr}
theorem scTurned : FnScope ["way", "x", "y", "a", "b", "c", "d"] ["way", "x", "y"] (defScope sTurned) := ⟨rfl, rfl, rfl, by decide +kernel, rfl, by decide +kernel, by decide +kernel⟩
theorem ok_turned {f : Addr} {fd : FuncData} (F : Fun K "turned" "turned" sTurned f fd) (T : TxW K mg W ws) : FnOk P w K mg base CX0 1 f fd ["way", "x", "y"] spTurned := by
  refine F.ok scTurned (fun vs H Q E h => ?_) (fun cdv A outer s H vs Q E hr h => ?_)
  · obtain ⟨a, x, y, rfl, _⟩ := h
    rfl
  · obtain ⟨a, x, y, rfl, ha, k⟩ := h
    have nd := scTurned.nd
    refine ⟨_, pss_cons (ps_asg (pe_ix ix_tup (pe_glob (v := .ref W) rfl T.mgW rfl) (pv 0) (fun _ _ => rfl)) (pg_tup rfl (pgs_cons (pg_name (i := 3) nd rfl (Or.inl rfl)) (pgs_cons (pg_name (i := 4) nd rfl (Or.inl rfl)) (pgs_cons (pg_name (i := 5) nd rfl (Or.inl rfl)) (pgs_cons (pg_name (i := 6) nd rfl (Or.inl rfl)) pgs_nil))))))
      (pss_one (ps_ret (pe_tup (pa_cons (pe_op op_add (pe_op op_mul (pv 3) (pv 1)) (pe_op op_mul (pv 4) (pv 2))) (pa_cons (pe_op op_add (pe_op op_mul (pv 5) (pv 1)) (pe_op op_mul (pv 6) (pv 2))) pa_nil))))), ?_⟩
    obtain ⟨⟨b1, b2⟩, ⟨b3, b4⟩, ⟨b5, b6⟩, b7, b8⟩ := way_small a ha
    have hw : ((List.range 8).map fun i => V.ref (ws i))[a]? = some (V.ref (ws a)) := by
      rw [List.getElem?_map, List.getElem?_range ha]
      rfl
    refine ⟨_, rfl, W, _, _, _, rfl, rfl, T.tW _, atI_nat hw, ws a, wayV a, rfl, T.tw _ a ha, rfl, _, _, rfl, _, _, rfl, _, _, rfl, _, _, rfl, rfl, ?_⟩
    refine ⟨_, rfl, _, rfl, _, _, rfl, rfl, .inl ⟨by omega, by omega⟩, _, rfl, _, rfl, _, _, rfl, rfl, .inl ⟨by omega, by omega⟩, _, _, rfl, rfl, ?_⟩
    refine ⟨_, rfl, _, rfl, _, _, rfl, rfl, .inl ⟨by omega, by omega⟩, _, rfl, _, rfl, _, _, rfl, rfl, .inl ⟨by omega, by omega⟩, _, _, rfl, rfl, (by show 2 ≤ sizeLine; decide), fun p hp => ?_⟩
    refine k _ p (Same.new hp) hp ?_
    rw [upd_same, way_turned ha]
theorem scMoved : FnScope ["movement", "x", "y", "way", "a", "b", "u", "v"] ["movement", "x", "y"] (defScope sMoved) := ⟨rfl, rfl, rfl, by decide +kernel, rfl, by decide +kernel, by decide +kernel⟩
theorem ok_moved {f f1 : Addr} {fd fd1 : FuncData} (F : Fun K "moved" "moved" sMoved f fd) (G : FnOk P w K mg base CX0 1 f1 fd1 ["way", "x", "y"] spTurned) (m1 : mg "turned" = some (.ref f1)) (k1 : PySem.W.keepIn K (.ref f1) = true) (b1 : Binds K fd1 ["way", "x", "y"] []) :
    FnOk P w K mg base CX0 2 f fd ["movement", "x", "y"] (spMoved K) := by
  refine F.ok scMoved (fun vs H Q E h => ?_) (fun cdv A outer s H vs Q E hr h => ?_)
  · obtain ⟨m, a, u, v, x, y, rfl, _⟩ := h
    rfl
  · obtain ⟨m, a, u, v, x, y, rfl, hm, ha, k⟩ := h
    have nd := scMoved.nd
    refine ⟨_, pss_cons (ps_asg (pv 0) (pg_tup rfl (pgs_cons (pg_name (i := 3) nd rfl (Or.inl rfl)) (pgs_cons (pg_name (i := 4) nd rfl (Or.inl rfl)) (pgs_cons (pg_name (i := 5) nd rfl (Or.inl rfl)) pgs_nil)))))
      (pss_cons (ps_asg (pe_call G hr rfl m1 k1 b1 .nil pass0 (pa_cons (pv 3) (pa_cons (pv 1) (pa_cons (pv 2) pa_nil)))) (pg_tup rfl (pgs_cons (pg_name (i := 6) nd rfl (Or.inl rfl)) (pgs_cons (pg_name (i := 7) nd rfl (Or.inl rfl)) pgs_nil))))
      (pss_one (ps_ret (pe_tup (pa_cons (pe_op op_add (pv 6) (pv 4)) (pa_cons (pe_op op_add (pv 7) (pv 5)) pa_nil)))))), ?_⟩
    refine ⟨_, rfl, m, _, rfl, hm, rfl, _, _, rfl, _, _, rfl, _, _, rfl, rfl, ?_⟩
    refine ⟨_, rfl, _, rfl, _, rfl, a, x, y, rfl, ha, fun H1 p1 s1 n1 e1 => ?_⟩
    refine ⟨p1, _, rfl, SqT.of e1, rfl, _, _, rfl, _, _, rfl, rfl, ?_⟩
    refine ⟨_, rfl, _, rfl, _, _, rfl, rfl, _, rfl, _, rfl, _, _, rfl, rfl, (by show 2 ≤ sizeLine; decide), fun p hp => ?_⟩
    exact k _ p (Same.upd s1 (s1.free hp)) (s1.free hp) upd_same
theorem scNum : FnScope ["n", "x", "y"] ["n", "x", "y"] (defScope sNum) := ⟨rfl, rfl, rfl, by decide +kernel, rfl, by decide +kernel, by decide +kernel⟩
theorem ok_num {f : Addr} {fd : FuncData} (F : Fun K "number_in" "number_in" sNum f fd) : FnOk P w K mg base CX0 1 f fd ["n", "x", "y"] spNum := by
  refine F.ok scNum (fun vs H Q E h => ?_) (fun cdv A outer s H vs Q E hr h => ?_)
  · obtain ⟨n, x, y, rfl, _⟩ := h
    rfl
  · obtain ⟨n, x, y, rfl, h0, h1, k⟩ := h
    refine ⟨_, pss_one (ps_ret (pe_op op_add (pe_op op_mul (pe_op op_mod (pv 2) (pv 0)) (pv 0)) (pe_op op_mod (pv 1) (pv 0)))), ?_⟩
    refine ⟨_, rfl, _, rfl, _, _, rfl, rfl, (by show (0 : Int) < (n : Int); omega), _, rfl, _, _, rfl, rfl, .inr ⟨by omega, by omega⟩, _, rfl, _, rfl, _, _, rfl, rfl, (by show (0 : Int) < (n : Int); omega), _, _, rfl, rfl, ?_⟩
    have e : y % (n : Int) * (n : Int) + x % (n : Int) = ((num n x y : Nat) : Int) := by
      have h1 := Int.emod_nonneg x (show (n : Int) ≠ 0 by omega)
      have h3 := Int.emod_nonneg y (show (n : Int) ≠ 0 by omega)
      unfold num
      rw [Int.natCast_add, Int.natCast_mul, Int.toNat_of_nonneg h1, Int.toNat_of_nonneg h3]
    show Q (.int (y % (n : Int) * (n : Int) + x % (n : Int))) H
    rw [e]
    exact k
theorem scImage : FnScope ["n", "movement", "found", "y", "x", "u", "v"] ["n", "movement"] (defScope sImage) := ⟨rfl, rfl, rfl, by decide +kernel, rfl, by decide +kernel, by decide +kernel⟩
theorem range_more {α : Type} (f : Nat → α) (k : Nat) : (List.range (k + 1)).map f = (List.range k).map f ++ [f k] := by
  rw [List.range_succ, List.map_append]
  rfl
theorem ok_image {f f1 f2 : Addr} {fd fd1 fd2 : FuncData} (F : Fun K "image" "image" sImage f fd) (T : TxW K mg W ws) (G1 : FnOk P w K mg base CX0 2 f1 fd1 ["movement", "x", "y"] (spMoved K)) (m1 : mg "moved" = some (.ref f1)) (k1 : PySem.W.keepIn K (.ref f1) = true) (b1 : Binds K fd1 ["movement", "x", "y"] [])
    (G2 : FnOk P w K mg base CX0 1 f2 fd2 ["n", "x", "y"] spNum) (m2 : mg "number_in" = some (.ref f2)) (k2 : PySem.W.keepIn K (.ref f2) = true) (b2 : Binds K fd2 ["n", "x", "y"] []) :
    FnOk P w K mg base CX0 3 f fd ["n", "movement"] (spImage K) := by
  refine F.ok scImage (fun vs H Q E h => ?_) (fun cdv A outer s H vs Q E hr h => ?_)
  · obtain ⟨m, n, a, u, v, rfl, _⟩ := h
    rfl
  · obtain ⟨m, n, a, u, v, rfl, hm, ha, h0, h64, k⟩ := h
    have nd := scImage.nd
    have hr1 : Room 1 _ := hr.mono (by decide)
    refine ⟨_, pss_cons (ps_set (i := 2) nd rfl (Or.inl rfl) (pe_lst pa_nil))
      (pss_cons (ps_for PassesOwn.never rfl (pi_range1 rfl T.range (pa_cons (pv 0) pa_nil)) (pg_name (i := 3) nd rfl (Or.inl rfl))
        (pss_one (ps_for PassesOwn.never rfl (pi_range1 rfl T.range (pa_cons (pv 0) pa_nil)) (pg_name (i := 4) nd rfl (Or.inl rfl))
          (pss_cons (ps_asg (pe_call G1 hr rfl m1 k1 b1 .nil pass0 (pa_cons (pv 1) (pa_cons (pv 4) (pa_cons (pv 3) pa_nil)))) (pg_tup rfl (pgs_cons (pg_name (i := 5) nd rfl (Or.inl rfl)) (pgs_cons (pg_name (i := 6) nd rfl (Or.inl rfl)) pgs_nil))))
          (pss_one (ps_expr (pe_bm PySem.F.plainAttrs_list PySem.F.slot_list_append PySem.F.type_list_append mt_append (pv 2) (pa_cons (pe_call G2 hr1 rfl m2 k2 b2 .nil pass0 (pa_cons (pv 0) (pa_cons (pv 5) (pa_cons (pv 6) pa_nil)))) pa_nil))))))))
      (pss_one (ps_ret (pv 2)))), ?_⟩
    have hsz : n * n ≤ 4096 := Nat.mul_le_mul h64 h64
    refine ⟨Nat.zero_le _, fun l hl => ?_⟩
    refine ⟨_, rfl, (n : Int), rfl, by omega, by omega, for_range (lo := 0) (n := n) (fun i σ H' => ∃ vy vx vu vv : Option V, σ = [some (.int (n : Int)), some (.ref m), some (.ref l), vy, vx, vu, vv] ∧ Same H H' ∧ H' l = some (.lst ((List.range (i * n)).map fun k => V.int ((pl n a u v k : Nat) : Int))))
      ⟨none, none, none, none, rfl, Same.new hl, by rw [upd_same, Nat.zero_mul]; rfl⟩ ?_ ?_⟩
    · rintro i σ H' hi ⟨vy, vx, vu, vv, rfl, s1, e1⟩
      refine ⟨_, rfl, (n : Int), rfl, by omega, by omega, for_range (lo := 0) (n := n) (fun j σ H' => ∃ vx vu vv : Option V, σ = [some (.int (n : Int)), some (.ref m), some (.ref l), some (.int (i : Int)), vx, vu, vv] ∧ Same H H' ∧ H' l = some (.lst ((List.range (i * n + j)).map fun k => V.int ((pl n a u v k : Nat) : Int))))
        ⟨vx, vu, vv, by rw [Int.zero_add]; rfl, s1, e1⟩ ?_ ?_⟩
      · rintro j σ H2 hj ⟨vx, vu, vv, rfl, s2, e2⟩
        have hk : i * n + j < n * n := by
          have hm := Nat.mul_le_mul_right n (show i + 1 ≤ n from hi)
          rw [Nat.add_mul, Nat.one_mul] at hm
          omega
        refine ⟨_, rfl, _, rfl, _, rfl, m, a, u, v, _, _, rfl, tup_same s2 hm, ha, fun H3 p s3 n3 e3 => ?_⟩
        refine ⟨p, _, rfl, SqT.of e3, rfl, _, _, rfl, _, _, rfl, rfl, ?_⟩
        have e2' := s3 _ _ e2
        refine ⟨_, rfl, .inl ⟨rfl, _, SqL.of e2'⟩, _, rfl, _, rfl, _, rfl, n, _, _, rfl, h0, h64, ?_⟩
        refine ⟨l, _, _, rfl, rfl, e2', (by rw [List.length_map, List.length_range]; exact Nat.lt_of_lt_of_le (Nat.lt_of_lt_of_le hk hsz) (by decide)), ?_⟩
        refine ⟨_, _, _, rfl, Same.upd (s2.trans s3) hl, ?_⟩
        rw [upd_same, ← Nat.add_assoc (i * n) j 1, range_more]
        have e1 : (i * n + j) % n = j := by
          rw [Nat.add_comm, Nat.add_mul_mod_self_right]
          exact Nat.mod_eq_of_lt hj
        have e2 : (i * n + j) / n = i := by
          rw [Nat.add_comm, Nat.add_mul_div_right _ _ (by omega), Nat.div_eq_of_lt hj, Nat.zero_add]
        unfold pl
        rw [e1, e2, Int.zero_add]
      · rintro σ H2 ⟨vx, vu, vv, rfl, s2, e2⟩
        refine ⟨_, vx, vu, vv, rfl, s2, ?_⟩
        rw [e2, Nat.add_mul, Nat.one_mul]
    · rintro σ H' ⟨vy, vx, vu, vv, rfl, s1, e1⟩
      exact ⟨_, rfl, k _ l s1 hl e1⟩
end
end Pl
/-! ### movements: tuples of a way and a shift -/
namespace Pl
open PySem PySem.Spec PyProof.Rows L2
abbrev Mv : Type := Nat × Int × Int
def mv (m : Mv) : List V := [.int (m.1 : Int), .int m.2.1, .int m.2.2]
def mk (m : Mv) : List Key := [.inl (m.1 : Int), .inl m.2.1, .inl m.2.2]
theorem mk_mv (m : Mv) : (mk m).map kV = mv m := rfl
theorem mk_inj {m m' : Mv} (h : mk m = mk m') : m = m' := by
  obtain ⟨a, u, v⟩ := m
  obtain ⟨a', u', v'⟩ := m'
  have h : ([.inl (a : Int), .inl u, .inl v] : List Key) = [.inl (a' : Int), .inl u', .inl v'] := h
  injection h with h1 h
  injection h with h2 h
  injection h with h3 _
  have h1 := Sum.inl.inj h1
  have h2 := Sum.inl.inj h2
  have h3 := Sum.inl.inj h3
  have h1 : a = a' := by omega
  rw [h1, h2, h3]
/-- at each of these addresses stands the tuple of its movement -/
def Ts (H : Hp) (L : List (Addr × Mv)) : Prop := ∀ q ∈ L, H q.1 = some (.tup (mv q.2))
def refs (L : List (Addr × Mv)) : List V := L.map fun q => V.ref q.1
theorem Ts.same {H H' : Hp} {L : List (Addr × Mv)} (t : Ts H L) (s : Same H H') : Ts H' L := fun q hq => s _ _ (t q hq)
theorem Ts.app {H : Hp} {L M : List (Addr × Mv)} (t : Ts H L) (u : Ts H M) : Ts H (L ++ M) := fun q hq => by
  rcases List.mem_append.mp hq with h | h
  · exact t q h
  · exact u q h
theorem refs_app (L M : List (Addr × Mv)) : refs (L ++ M) = refs L ++ refs M := List.map_append
theorem refs_len (L : List (Addr × Mv)) : (refs L).length = (L.map (·.2)).length := by
  unfold refs
  rw [List.length_map, List.length_map]
theorem Ts.keep {H H' : Hp} {L : List (Addr × Mv)} (t : Ts H L) {p : Addr} {o : HO} (np : ∀ xs, H p ≠ some (.tup xs)) (e : H' = upd H p o) : Ts H' L := fun q hq => by
  rw [e, upd_ne]
  · exact t q hq
  · intro z
    exact np _ (z ▸ t q hq)
/-- the movements of one way with one first part -/
def mvRow (n : Nat) (a : Nat) (u : Int) : List Mv := (Sa48Neutral.rg n).map fun v => (a, u, v)
def mvWay (n : Nat) (a : Nat) : List Mv := (Sa48Neutral.rg n).flatMap fun u => mvRow n a u
theorem moves_more (n : Nat) (l : List Nat) (a : Nat) : Sa48Neutral.moves n (l ++ [a]) = Sa48Neutral.moves n l ++ mvWay n a := by
  unfold Sa48Neutral.moves
  rw [List.flatMap_append, List.flatMap_cons, List.flatMap_nil, List.append_nil]
  rfl
theorem rg_more (n : Nat) : Sa48Neutral.rg (n + 1) = Sa48Neutral.rg n ++ [(n : Int)] := by
  unfold Sa48Neutral.rg
  rw [List.range_succ, List.map_append]
  rfl
theorem rg_len (n : Nat) : (Sa48Neutral.rg n).length = n := by
  unfold Sa48Neutral.rg
  rw [List.length_map, List.length_range]
theorem flat_len {α β : Type} {f : α → List β} {k : Nat} : ∀ l : List α, (∀ x ∈ l, (f x).length = k) → (l.flatMap f).length = l.length * k
  | [], _ => by simp
  | x :: r, h => by
    rw [List.flatMap_cons, List.length_append, h x (List.mem_cons_self ..), flat_len r fun y hy => h y (List.mem_cons_of_mem _ hy), List.length_cons, Nat.add_mul, Nat.one_mul, Nat.add_comm]
theorem mvRow_len (n a : Nat) (u : Int) : (mvRow n a u).length = n := by
  unfold mvRow
  rw [List.length_map, rg_len]
theorem mvWay_len (n a : Nat) : (mvWay n a).length = n * n := by
  unfold mvWay
  rw [flat_len _ fun x _ => mvRow_len n a x, rg_len]
theorem moves_len (n : Nat) (l : List Nat) : (Sa48Neutral.moves n l).length = l.length * (n * n) := by
  unfold Sa48Neutral.moves
  exact flat_len _ fun x _ => mvWay_len n x
/-! ### the promise of movements -/
def spMvs (K : PySem.W.Frag) : Sp := fun vs H Q _ => ∃ (n : Nat) (l : Addr) (ways : List Nat), vs = [.int (n : Int), .ref l] ∧ SqL K H l (ways.map fun a => V.int ((a : Nat) : Int)) ∧ n ≤ 8 ∧ ways.length ≤ 8 ∧
  ∀ (H' : Hp) (p : Addr) (L : List (Addr × Mv)), Same H H' → H p = none → L.map (·.2) = Sa48Neutral.moves n ways → H' p = some (.lst (refs L)) → Ts H' L → Q (.ref p) H'
section
variable {P : Program} {w : World} {K : PySem.W.Frag} {mg : Str → Option Value} {base : Heap} {W : Addr} {ws : Nat → Addr}
theorem scMvs : FnScope ["n", "ways", "found", "way", "a", "b"] ["n", "ways"] (defScope sMvs) := ⟨rfl, rfl, rfl, by decide +kernel, rfl, by decide +kernel, by decide +kernel⟩
theorem ok_mvs {f : Addr} {fd : FuncData} (F : Fun K "movements" "movements" sMvs f fd) (T : TxW K mg W ws) : FnOk P w K mg base CX0 1 f fd ["n", "ways"] (spMvs K) := by
  refine F.ok scMvs (fun vs H Q E h => ?_) (fun cdv A outer s H vs Q E hr h => ?_)
  · obtain ⟨n, l, ways, rfl, _⟩ := h
    rfl
  · obtain ⟨n, l, ways, rfl, hl, hn, hw, k⟩ := h
    have nd := scMvs.nd
    refine ⟨_, pss_cons (ps_set (i := 2) nd rfl (Or.inl rfl) (pe_lst pa_nil))
      (pss_cons (ps_for PassesOwn.never rfl (pi_list (pv 1)) (pg_name (i := 3) nd rfl (Or.inr rfl))
        (pss_one (ps_for PassesOwn.never rfl (pi_range1 rfl T.range (pa_cons (pv 0) pa_nil)) (pg_name (i := 4) nd rfl (Or.inr rfl))
          (pss_one (ps_expr (pe_bm PySem.F.plainAttrs_list PySem.F.slot_list_extend PySem.F.type_list_extend mt_extend (pv 2) (pa_cons (pe_lc (own := [("b", 5)]) (g := gName 5) (tt := tYes) rfl nd (pi_range1 rfl T.range (pa_cons (pv 0) pa_nil))
            (blkOk_by (own := [("b", 5)]) (N := ["n", "ways", "found", "way", "a", "b"]) (sc := defScope sMvs) (by decide +kernel)) (fun _ _ _ _ _ => pg_name (i := 5) nd rfl (Or.inl rfl)) (fun _ _ _ _ _ => pts_nil)
            (fun _ _ _ _ _ => pe_tup (pa_cons (pv 3) (pa_cons (pv 4) (pa_cons (pv 5) pa_nil))))) pa_nil)))))))
      (pss_one (ps_ret (pv 2)))), ?_⟩
    refine ⟨Nat.zero_le _, fun r hr0 => ?_⟩
    refine ⟨_, rfl, l, rfl, ⟨_, (Same.new hr0).seq hl⟩, for_list (K := K) (a := l) (xs := ways.map fun a => V.int ((a : Nat) : Int)) (fun i σ H' => ∃ (vw va vb : Option V) (L : List (Addr × Mv)), σ = [some (.int (n : Int)), some (.ref l), some (.ref r), vw, va, vb] ∧ Same H H' ∧
        H' r = some (.lst (refs L)) ∧ L.map (·.2) = Sa48Neutral.moves n (ways.take i) ∧ Ts H' L)
      ⟨none, none, none, [], rfl, Same.new hr0, upd_same, rfl, fun q hq => nomatch hq⟩ (fun i σ H' _ ⟨_, _, _, _, _, s1, _⟩ => s1.seq hl) ?_ ?_⟩
    · rintro i y σ H' hi ⟨vw, va, vb, L, rfl, s1, e1, em, t1⟩
      obtain ⟨a, ha, rfl⟩ := map_at hi
      have hi8 : i < ways.length := (List.getElem?_eq_some_iff.mp ha).1
      have hil : (ways.take i).length = i := by
        rw [List.length_take]
        omega
      refine ⟨_, rfl, (n : Int), rfl, by omega, by omega, for_range (lo := 0) (n := n) (fun j σ H' => ∃ (va vb : Option V) (L : List (Addr × Mv)), σ = [some (.int (n : Int)), some (.ref l), some (.ref r), some (.int (a : Int)), va, vb] ∧ Same H H' ∧
          H' r = some (.lst (refs L)) ∧ L.map (·.2) = Sa48Neutral.moves n (ways.take i) ++ (Sa48Neutral.rg j).flatMap (fun u => mvRow n a u) ∧ Ts H' L)
        ⟨va, vb, L, rfl, s1, e1, by rw [em]; exact (List.append_nil _).symm, t1⟩ ?_ ?_⟩
      · rintro j σ H2 hj ⟨va, vb, L, rfl, s2, e2, em, t2⟩
        have hL : L.length = i * (n * n) + j * n := by
          have q := congrArg List.length em
          rw [List.length_map, List.length_append, moves_len, hil, flat_len _ fun x _ => mvRow_len n a x, rg_len] at q
          exact q
        have hsz : L.length + n ≤ 1000 := by
          have q1 : i * (n * n) ≤ 7 * (8 * 8) := Nat.mul_le_mul (by omega) (Nat.mul_le_mul hn hn)
          have q2 : j * n ≤ 8 * 8 := Nat.mul_le_mul (by omega) hn
          omega
        refine ⟨_, rfl, .inl ⟨rfl, _, SqL.of e2⟩, _, rfl, (n : Int), rfl, by omega, by omega, fun D hD => ?_⟩
        have nrD : r ≠ D := ne_of_none e2 hD
        refine lc_range (lo := 0) (n := n) (fun m H3 => ∃ M : List (Addr × Mv), Same H2 H3 ∧ H3 D = some (.lst (refs M)) ∧ M.map (·.2) = (Sa48Neutral.rg m).map (fun v => ((a, (j : Int), v) : Mv)) ∧ Ts H3 M)
          ⟨[], Same.new hD, upd_same, rfl, fun q hq => nomatch hq⟩ ?_ ?_
        · rintro m H3 hm ⟨M, s3, e3, em3, t3⟩
          refine ⟨rfl, iteT (B := True) ?_⟩
          refine ⟨_, rfl, _, rfl, _, rfl, (by show 3 ≤ sizeLine; decide), fun p hp => ?_⟩
          have npD : D ≠ p := ne_of_none e3 hp
          refine ⟨_, (upd_ne npD).trans e3, ?_, M ++ [(p, ((a, (j : Int), (m : Int)) : Mv))], ?_, ?_, ?_, ?_⟩
          · have q := congrArg List.length em3
            rw [List.length_map, List.length_map, rg_len] at q
            unfold refs
            rw [List.length_map, q]
            exact Nat.lt_of_lt_of_le (Nat.lt_of_lt_of_le hm hn) (by decide)
          · exact Same.upd (Same.upd s3 (s3.free hp)) hD
          · rw [upd_same, refs_app]
            rfl
          · rw [List.map_append, em3, rg_more, List.map_append]
            rfl
          · refine Ts.app ?_ ?_
            · intro q hq
              have h1 := t3 q hq
              rw [upd_ne (ne_of h1 e3 (by intro z; cases z)), upd_ne (ne_of_none h1 hp)]
              exact h1
            · intro q hq
              obtain rfl := List.mem_singleton.mp hq
              rw [upd_ne (Ne.symm npD), upd_same, Int.zero_add, Int.zero_add]
              rfl
        · rintro H3 ⟨M, s3, e3, em3, t3⟩
          have e2' := s3 _ _ e2
          have hM : M.length = n := by
            have q := congrArg List.length em3
            rw [List.length_map, List.length_map, rg_len] at q
            exact q
          refine ⟨r, D, _, _, rfl, rfl, e2', e3, ?_, ?_⟩
          · unfold refs
            rw [List.length_map, List.length_map, hM]
            exact Nat.le_trans hsz (by decide)
          · refine ⟨_, vb, L ++ M, rfl, Same.upd (s2.trans s3) hr0, ?_, ?_, ?_⟩
            · rw [upd_same, refs_app]
            · rw [List.map_append, em, em3, rg_more, List.flatMap_append, List.append_assoc, List.flatMap_cons, List.flatMap_nil, List.append_nil]
              rfl
            · refine Ts.keep (H := H3) ((t2.same s3).app t3) (fun xs z => ?_) rfl
              rw [e2'] at z
              cases z
      · rintro σ H2 ⟨va, vb, L, rfl, s2, e2, em, t2⟩
        refine ⟨_, _, _, L, rfl, s2, e2, ?_, t2⟩
        rw [em, take_more ha, moves_more]
        rfl
    · rintro σ H' ⟨vw, va, vb, L, rfl, s1, e1, em, t1⟩
      rw [List.length_map, List.take_length] at em
      exact ⟨_, rfl, k _ r L s1 hr0 em e1 t1⟩
end
end Pl
namespace Pl
open Sa48 Sa48Neutral
/-! ### all movements, in their order -/
theorem moves_filter (n : Nat) (q : Nat → Bool) : ∀ l : List Nat, (moves n l).filter (fun m => q m.1) = moves n (l.filter q)
  | [] => rfl
  | a :: r => by
    have ih := moves_filter n q r
    have e1 : ∀ s : List Nat, moves n (a :: s) = ((rg n).flatMap fun u => (rg n).map fun v => (a, u, v)) ++ moves n s := fun s => rfl
    rw [e1, List.filter_append, ih, List.filter_cons]
    cases h : q a with
    | true =>
      rw [if_pos rfl, e1]
      congr 1
      refine List.filter_eq_self.mpr fun m hm => ?_
      obtain ⟨u, _, h2⟩ := List.mem_flatMap.mp hm
      obtain ⟨v, _, rfl⟩ := List.mem_map.mp h2
      exact h
    | false =>
      rw [if_neg Bool.false_ne_true]
      have e : ((rg n).flatMap fun u => (rg n).map fun v => (a, u, v)).filter (fun m => q m.1) = [] := by
        refine List.filter_eq_nil_iff.mpr fun m hm => ?_
        obtain ⟨u, _, h2⟩ := List.mem_flatMap.mp hm
        obtain ⟨v, _, rfl⟩ := List.mem_map.mp h2
        rw [h]
        exact Bool.false_ne_true
      rw [e]
      rfl
theorem mem_moves {n : Nat} {l : List Nat} {m : Nat × Int × Int} : m ∈ moves n l ↔ m.1 ∈ l ∧ (∃ i : Nat, i < n ∧ m.2.1 = (i : Int)) ∧ ∃ i : Nat, i < n ∧ m.2.2 = (i : Int) := by
  unfold moves
  constructor
  · intro h
    obtain ⟨a, ha, h⟩ := List.mem_flatMap.mp h
    obtain ⟨u, hu, h⟩ := List.mem_flatMap.mp h
    obtain ⟨v, hv, rfl⟩ := List.mem_map.mp h
    exact ⟨ha, mem_rg.mp hu, mem_rg.mp hv⟩
  · rintro ⟨ha, hu, hv⟩
    exact List.mem_flatMap.mpr ⟨m.1, ha, List.mem_flatMap.mpr ⟨m.2.1, mem_rg.mpr hu, List.mem_map.mpr ⟨m.2.2, mem_rg.mpr hv, rfl⟩⟩⟩
/-! ### shifts -/
theorem shift_iff {p : Pat} (hn : 0 < p.n) {u v : Int} : sym p 0 u v = true ↔ ∀ x y : Int, p.at_ (x + u) (y + v) = p.at_ x y := by
  rw [sym_iff]
  constructor
  · intro h x y
    have h1 := Int.emod_nonneg x (show (p.n : Int) ≠ 0 by omega)
    have h2 := Int.emod_lt_of_pos x (show (0 : Int) < p.n by omega)
    have h3 := Int.emod_nonneg y (show (p.n : Int) ≠ 0 by omega)
    have h4 := Int.emod_lt_of_pos y (show (0 : Int) < p.n by omega)
    have q := h (x % (p.n : Int)).toNat (y % (p.n : Int)).toNat (by omega) (by omega)
    rw [Int.toNat_of_nonneg h1, Int.toNat_of_nonneg h3] at q
    have q : p.at_ (x % (p.n : Int) + u) (y % (p.n : Int) + v) = p.at_ (x % (p.n : Int)) (y % (p.n : Int)) := q
    rw [at_num, at_num] at q ⊢
    rw [num_mod p.n (x + u) (y + v) (x % (p.n : Int) + u) (y % (p.n : Int) + v) (by rw [Int.emod_add_emod]) (by rw [Int.emod_add_emod]), q]
    rw [num_mod p.n x y (x % (p.n : Int)) (y % (p.n : Int)) (by rw [Int.emod_emod_of_dvd _ (Int.dvd_refl _)]) (by rw [Int.emod_emod_of_dvd _ (Int.dvd_refl _)])]
  · intro h x y _ _
    exact h x y
theorem shift_sub {p : Pat} (hn : 0 < p.n) {u v u' v' : Int} (h : sym p 0 u v = true) (h' : sym p 0 u' v' = true) : sym p 0 (u - u') (v - v') = true := by
  rw [shift_iff hn] at h h' ⊢
  intro x y
  have q := h' (x + (u - u')) (y + (v - v'))
  have r := h x y
  rw [show x + (u - u') + u' = x + u by omega, show y + (v - v') + v' = y + v by omega] at q
  rw [← q, r]
theorem shift_mul {p : Pat} (hn : 0 < p.n) {u : Int} (h : sym p 0 u 0 = true) : ∀ k : Nat, sym p 0 ((k : Int) * u) 0 = true
  | 0 => by
    rw [shift_iff hn]
    intro x y
    simp
  | k + 1 => by
    have ih := shift_mul hn h k
    rw [shift_iff hn] at h ih ⊢
    intro x y
    have q := h (x + (k : Int) * u) y
    have r := ih x y
    rw [Int.add_zero] at q r ⊢
    rw [← r, ← q]
    congr 1
    rw [Int.natCast_add, Int.add_mul]
    omega
/-- a shift may be brought below e along a row -/
theorem shift_low {p : Pat} (hn : 0 < p.n) {e u g : Nat} (_ : 0 < e) (h : sym p 0 (e : Int) 0 = true) (q : sym p 0 (u : Int) (g : Int) = true) : sym p 0 ((u % e : Nat) : Int) (g : Int) = true := by
  have r := shift_sub hn q (shift_mul hn h (u / e))
  have e1 : (u : Int) - ((u / e : Nat) : Int) * (e : Int) = ((u % e : Nat) : Int) := by
    have := Nat.div_add_mod u e
    rw [Nat.mul_comm] at this
    have : ((u / e * e + u % e : Nat) : Int) = (u : Int) := by rw [this]
    rw [Int.natCast_add, Int.natCast_mul] at this
    omega
  rw [e1, Int.sub_zero] at r
  exact r
/-! ### cell -/
theorem find_range {n i : Nat} {q : Nat → Bool} (hi : i < n) (h : q i = true) (l : ∀ j, j < i → q j = false) : (List.range n).find? q = some i := by
  rw [List.find?_range_eq_some]
  refine ⟨h, List.mem_range.mpr hi, fun j hj => ?_⟩
  rw [l j hj]
  rfl
theorem any_range {n : Nat} {q : Nat → Bool} : (List.range n).any q = true ↔ ∃ i, i < n ∧ q i = true := by
  rw [List.any_eq_true]
  constructor
  · rintro ⟨i, h, q⟩
    exact ⟨i, List.mem_range.mp h, q⟩
  · rintro ⟨i, h, q⟩
    exact ⟨i, List.mem_range.mpr h, q⟩
def shiftsL (c : List Nat) (n : Nat) : List (Nat × Int × Int) := ((moves n (List.range 8)).filter fun m => symL c n m.1 m.2.1 m.2.2).filter fun m => m.1 == 0
theorem shiftsL_length (c : List Nat) (n : Nat) : (shiftsL c n).length = (((List.range n).flatMap fun (u : Nat) => (List.range n).map fun (v : Nat) => sym ⟨n, c⟩ 0 (u : Int) (v : Int)).filter fun b => b).length := by
  unfold shiftsL
  rw [List.filter_filter]
  have e1 : (fun m : Nat × Int × Int => (m.1 == 0) && symL c n m.1 m.2.1 m.2.2) = fun m => symL c n m.1 m.2.1 m.2.2 && (fun a : Nat => a == 0) m.1 := by
    funext m
    exact Bool.and_comm _ _
  rw [e1, ← List.filter_filter (p := fun m : Nat × Int × Int => symL c n m.1 m.2.1 m.2.2) (q := fun m => (fun a : Nat => a == 0) m.1), moves_filter n (fun a => a == 0)]
  have e2 : (List.range 8).filter (fun a => a == 0) = [0] := by decide
  rw [e2]
  have e3 : ((List.range n).flatMap fun (u : Nat) => (List.range n).map fun (v : Nat) => sym ⟨n, c⟩ 0 (u : Int) (v : Int)) = (moves n [0]).map fun m => symL c n m.1 m.2.1 m.2.2 := by
    unfold moves
    rw [List.flatMap_cons, List.flatMap_nil, List.append_nil, List.map_flatMap]
    unfold rg
    rw [List.flatMap_map]
    congr 1
    funext u
    rw [List.map_map, List.map_map]
    congr 1
    funext v
    exact sym_symL ⟨n, c⟩ 0 u v
  rw [e3, List.filter_map, List.length_map]
  rfl
theorem cell_is {z : Int} {n : Nat} {cs : List Int} {c : List Nat} {e f g : Nat} (hz : z = (n : Int)) (hc : nats cs = c) (hn : 0 < n) (h64 : n ≤ 64) (e0 : 0 < e) (en : e ≤ n) (he : symL c n 0 (e : Int) 0 = true) (le : ∀ j, 0 < j → j < e → symL c n 0 (j : Int) 0 = false)
    (g0 : 0 < g) (gn : g ≤ n) (hf : f < e) (hg : symL c n 0 (f : Int) (g : Int) = true) (lf : ∀ j, j < f → symL c n 0 (j : Int) (g : Int) = false)
    (lg : ∀ k, 0 < k → k < g → ∀ j, j < e → symL c n 0 (j : Int) (k : Int) = false) :
    PySa48.cell z cs = [0, (e : Int), (f : Int), (g : Int), ((shiftsL c n).length : Int)] := by
  subst hz hc
  have hs : ∀ u v : Int, sym ⟨n, nats cs⟩ 0 u v = symL (nats cs) n 0 u v := fun u v => sym_symL ⟨n, nats cs⟩ 0 u v
  have r1 : ((List.range n).find? fun (u : Nat) => sym ⟨n, nats cs⟩ 0 ((u + 1 : Nat) : Int) ((0 : Nat) : Int)) = some (e - 1) := by
    refine find_range (by omega) ?_ fun j hj => ?_
    · show sym ⟨n, nats cs⟩ 0 ((e - 1 + 1 : Nat) : Int) ((0 : Nat) : Int) = true
      rw [hs, show e - 1 + 1 = e by omega]
      exact he
    · show sym ⟨n, nats cs⟩ 0 ((j + 1 : Nat) : Int) ((0 : Nat) : Int) = false
      rw [hs]
      exact le _ (by omega) (by omega)
  have r2 : ((List.range n).find? fun v => (List.range n).any fun u => sym ⟨n, nats cs⟩ 0 (u : Int) ((v + 1 : Nat) : Int)) = some (g - 1) := by
    refine find_range (by omega) ?_ fun j hj => ?_
    · rw [any_range]
      refine ⟨f, by omega, ?_⟩
      rw [hs, show g - 1 + 1 = g by omega]
      exact hg
    · cases q : (List.range n).any fun u => sym ⟨n, nats cs⟩ 0 (u : Int) ((j + 1 : Nat) : Int) with
      | false => rfl
      | true =>
        obtain ⟨u, hu, q⟩ := any_range.mp q
        have r := shift_low (p := ⟨n, nats cs⟩) hn e0 (by rw [hs]; exact he) q
        rw [hs, lg (j + 1) (by omega) (by omega) _ (Nat.mod_lt _ e0)] at r
        cases r
  have r3 : ((List.range e).find? fun (u : Nat) => sym ⟨n, nats cs⟩ 0 (u : Int) (g : Int)) = some f := by
    refine find_range hf ?_ fun j hj => ?_
    · show sym ⟨n, nats cs⟩ 0 (f : Int) (g : Int) = true
      rw [hs]
      exact hg
    · show sym ⟨n, nats cs⟩ 0 (j : Int) (g : Int) = false
      rw [hs]
      exact lf j hj
  have hin : ¬ (n < 1 ∨ 64 < n) := by omega
  show (if (n : Int).toNat < 1 ∨ 64 < (n : Int).toNat then [-2] else _) = _
  rw [Int.toNat_natCast, if_neg hin]
  show told 0 [((List.range n).find? fun (u : Nat) => sym ⟨n, nats cs⟩ 0 ((u + 1 : Nat) : Int) ((0 : Nat) : Int)).getD 0 + 1,
    ((List.range (((List.range n).find? fun (u : Nat) => sym ⟨n, nats cs⟩ 0 ((u + 1 : Nat) : Int) ((0 : Nat) : Int)).getD 0 + 1)).find? fun (u : Nat) => sym ⟨n, nats cs⟩ 0 (u : Int) ((((List.range n).find? fun v => (List.range n).any fun u => sym ⟨n, nats cs⟩ 0 (u : Int) ((v + 1 : Nat) : Int)).getD 0 + 1 : Nat) : Int)).getD 0,
    ((List.range n).find? fun v => (List.range n).any fun u => sym ⟨n, nats cs⟩ 0 (u : Int) ((v + 1 : Nat) : Int)).getD 0 + 1,
    (((List.range n).flatMap fun (u : Nat) => (List.range n).map fun (v : Nat) => sym ⟨n, nats cs⟩ 0 (u : Int) (v : Int)).filter fun b => b).length] = _
  rw [r1, r2, ← shiftsL_length]
  show told 0 [e - 1 + 1, ((List.range (e - 1 + 1)).find? fun (u : Nat) => sym ⟨n, nats cs⟩ 0 (u : Int) ((g - 1 + 1 : Nat) : Int)).getD 0, g - 1 + 1, (shiftsL (nats cs) n).length] = _
  rw [show e - 1 + 1 = e by omega, show g - 1 + 1 = g by omega, r3]
  rfl
theorem cell_out {z : Int} {cs : List Int} (h : z < 1 ∨ 64 < z) : PySa48.cell z cs = [-2] := by
  have hin : z.toNat < 1 ∨ 64 < z.toNat := by omega
  show (if z.toNat < 1 ∨ 64 < z.toNat then [-2] else _) = _
  rw [if_pos hin]
/-- there is a shift along a row, and one along a column -/
theorem sym_full (c : List Nat) (n : Nat) : symL c n 0 (n : Int) 0 = true := by
  rw [symL_congr (u' := 0) (v' := 0) (by simp) rfl, symL_iff]
  intro k hk
  have e : pl n 0 0 0 k = k := by
    unfold pl
    show num n (((k % n : Nat) : Int) + 0) (((k / n : Nat) : Int) + 0) = k
    rw [Int.add_zero, Int.add_zero]
    exact num_self hk
  rw [e]
theorem sym_full2 (c : List Nat) (n : Nat) : symL c n 0 0 (n : Int) = true := by
  rw [symL_congr (u' := (n : Int)) (v' := 0) (by simp) (by simp)]
  exact sym_full c n
end Pl
/-! ### patterns -/
namespace Pl
open PySem PySem.Spec PyProof.Rows L2
def cV (c : List Nat) : List V := c.map fun z => V.int ((z : Nat) : Int)
def pf (n : Nat) (ca d : Addr) : List (Str × V) := [("n", .int (n : Int)), ("colours", .ref ca), ("known", .ref d)]
theorem lk_here {k : Str} {v : V} {r : List (Str × V)} : List.lookup k ((k, v) :: r) = some v := by
  have e : (k == k) = true := beq_self_eq_true k
  simp only [List.lookup, e]
theorem lk_past {k g : Str} {v : V} {r : List (Str × V)} (h : (k == g) = false) : List.lookup k ((g, v) :: r) = List.lookup k r := by
  simp only [List.lookup, h]
theorem put_past {f g : Str} {v x : V} {r : List (Str × V)} (h : ¬ g = f) : putF f v ((g, x) :: r) = (g, x) :: putF f v r := if_neg h
theorem pf_n (n : Nat) (ca d : Addr) : (pf n ca d).lookup ("n" : Str) = some (.int (n : Int)) := lk_here
theorem pf_c (n : Nat) (ca d : Addr) : (pf n ca d).lookup ("colours" : Str) = some (.ref ca) := (lk_past (by decide +kernel)).trans lk_here
theorem pf_k (n : Nat) (ca d : Addr) : (pf n ca d).lookup ("known" : Str) = some (.ref d) := (lk_past (by decide +kernel)).trans ((lk_past (by decide +kernel)).trans lk_here)
theorem pf_no (n : Nat) (ca d : Addr) {m : Str} (h1 : (m == ("n" : Str)) = false) (h2 : (m == ("colours" : Str)) = false) (h3 : (m == ("known" : Str)) = false) : (pf n ca d).lookup m = none :=
  (lk_past h1).trans ((lk_past h2).trans ((lk_past h3).trans rfl))
theorem pf_new (n : Nat) (ca d : Addr) : putF "known" (.ref d) (putF "colours" (.ref ca) (putF "n" (.int (n : Int)) [])) = pf n ca d := by
  have e1 : putF "colours" (.ref ca) (putF "n" (.int (n : Int)) []) = ([("n", .int (n : Int)), ("colours", .ref ca)] : List (Str × V)) := (put_past (by decide +kernel)).trans rfl
  rw [e1]
  exact (put_past (by decide +kernel)).trans (congrArg _ ((put_past (by decide +kernel)).trans rfl))
/-- all movements by all ways -/
def allM (n : Nat) : List Mv := Sa48Neutral.moves n (List.range 8)
def sy (c : List Nat) (n : Nat) (m : Mv) : Bool := symL c n m.1 m.2.1 m.2.2
def entry (c : List Nat) (n : Nat) (m : Mv) : List Key × V := (mk m, .bl (sy c n m))
def known (c : List Nat) (n : Nat) : List (List Key × V) := (allM n).map (entry c n)
theorem valV_known (c : List Nat) (n : Nat) (m : Mv) : ∀ l : List Mv, valV (l.map (entry c n)) (mk m) = if m ∈ l then some (.bl (sy c n m)) else none
  | [] => rfl
  | a :: r => by
    have ih := valV_known c n m r
    rw [List.map_cons]
    by_cases e : a = m
    · subst e
      rw [if_pos (List.mem_cons_self ..)]
      exact valV_pos (p := entry c n a) rfl
    · rw [valV_neg (p := entry c n a) (fun z => e (mk_inj z)), ih]
      by_cases hm : m ∈ r
      · rw [if_pos hm, if_pos (List.mem_cons_of_mem _ hm)]
      · rw [if_neg hm, if_neg]
        intro z
        rcases List.mem_cons.mp z with z | z
        · exact e z.symm
        · exact hm z
theorem nodup_app {α : Type} {l r : List α} (hl : l.Nodup) (hr : r.Nodup) (hd : ∀ x ∈ l, ∀ y ∈ r, x ≠ y) : (l ++ r).Nodup := List.nodup_append.mpr ⟨hl, hr, hd⟩
theorem nodup_flat {α β : Type} {f : α → List β} : ∀ {l : List α}, l.Nodup → (∀ a ∈ l, (f a).Nodup) → (∀ a b x, x ∈ f a → x ∈ f b → a = b) → (l.flatMap f).Nodup
  | [], _, _, _ => List.nodup_nil
  | a :: r, h, h1, h2 => by
    obtain ⟨na, nr⟩ := List.nodup_cons.mp h
    rw [List.flatMap_cons]
    refine nodup_app (h1 a (List.mem_cons_self ..)) (nodup_flat nr (fun b hb => h1 b (List.mem_cons_of_mem _ hb)) h2) fun x hx y hy e => ?_
    subst e
    obtain ⟨b, hb, hxb⟩ := List.mem_flatMap.mp hy
    exact na ((h2 a b x hx hxb) ▸ hb)
theorem nodup_map {α β : Type} {f : α → β} (hf : ∀ a b, f a = f b → a = b) : ∀ {l : List α}, l.Nodup → (l.map f).Nodup
  | [], _ => List.nodup_nil
  | a :: r, h => by
    obtain ⟨na, nr⟩ := List.nodup_cons.mp h
    rw [List.map_cons]
    refine List.nodup_cons.mpr ⟨fun z => ?_, nodup_map hf nr⟩
    obtain ⟨b, hb, e⟩ := List.mem_map.mp z
    exact na (hf _ _ e ▸ hb)
theorem rg_nodup (n : Nat) : (Sa48Neutral.rg n).Nodup := nodup_map (fun a b h => by omega) List.nodup_range
theorem moves_nodup (n : Nat) {l : List Nat} (h : l.Nodup) : (Sa48Neutral.moves n l).Nodup := by
  unfold Sa48Neutral.moves
  refine nodup_flat h (fun a _ => nodup_flat (rg_nodup n) (fun u _ => nodup_map (fun v v' e => by injection e with _ e; injection e) (rg_nodup n)) fun u u' x hx hx' => ?_) fun a b x hx hx' => ?_
  · obtain ⟨v, _, rfl⟩ := List.mem_map.mp hx
    obtain ⟨v', _, e⟩ := List.mem_map.mp hx'
    injection e with _ e
    injection e with e _
    exact e.symm
  · obtain ⟨u, _, hx⟩ := List.mem_flatMap.mp hx
    obtain ⟨v, _, rfl⟩ := List.mem_map.mp hx
    obtain ⟨u', _, hx'⟩ := List.mem_flatMap.mp hx'
    obtain ⟨v', _, e⟩ := List.mem_map.mp hx'
    injection e with e _
    exact e.symm
theorem not_mem_take {α : Type} : ∀ {l : List α} {i : Nat} {x : α}, l.Nodup → l[i]? = some x → ¬ x ∈ l.take i
  | [], i, x, _, h => by simp at h
  | a :: l, 0, x, _, h => by simp
  | a :: l, i + 1, x, hn, h => by
    obtain ⟨na, nr⟩ := List.nodup_cons.mp hn
    have h : l[i]? = some x := h
    rw [List.take_succ_cons]
    intro z
    rcases List.mem_cons.mp z with z | z
    · subst z
      exact na (List.mem_iff_getElem?.mpr ⟨i, h⟩)
    · exact not_mem_take nr h z
/-- a pattern stands at x: its colours c (at ca), what is known (at d) -/
def PatI (K : PySem.W.Frag) (C : Addr) (H : Hp) (x dx ca d : Addr) (n : Nat) (c : List Nat) : Prop := H x = some (.ins C dx (pf n ca d)) ∧ SqL K H ca (cV c) ∧ c.length = n * n ∧ 0 < n ∧ n ≤ 6
def PatAt (K : PySem.W.Frag) (C : Addr) (H : Hp) (x : Addr) (n : Nat) (c : List Nat) : Prop := ∃ dx ca d, PatI K C H x dx ca d n c ∧ H d = some (.dT (known c n))
theorem PatI.same {K : PySem.W.Frag} {C : Addr} {H H' : Hp} {x dx ca d : Addr} {n : Nat} {c : List Nat} (p : PatI K C H x dx ca d n c) (s : Same H H') : PatI K C H' x dx ca d n c := ⟨s _ _ p.1, s.seq p.2.1, p.2.2⟩
theorem PatAt.same {K : PySem.W.Frag} {C : Addr} {H H' : Hp} {x : Addr} {n : Nat} {c : List Nat} (p : PatAt K C H x n c) (s : Same H H') : PatAt K C H' x n c := by
  obtain ⟨dx, ca, d, h, k⟩ := p
  exact ⟨dx, ca, d, h.same s, s _ _ k⟩
theorem off_seq {K : PySem.W.Frag} {H H' : Hp} {a d : Addr} {xs : List V} {o : HO} (hd : H d = some o) (n1 : ∀ xs, o ≠ .lst xs) (n2 : ∀ ob xs, o ≠ .frz ob (.lst xs)) (e : ∀ b o, b ≠ d → H b = some o → H' b = some o) (h : SqL K H a xs) : SqL K H' a xs := by
  rcases h with (h | ⟨ob, h⟩) | h
  · exact .inl (.inl (e _ _ (ne_of h hd (fun z => n1 _ z.symm)) h))
  · exact .inl (.inr ⟨ob, e _ _ (ne_of h hd (fun z => n2 _ _ z.symm)) h⟩)
  · exact .inr h
/-- what the top has written of the class and the names -/
structure TxC (K : PySem.W.Frag) (mg : Str → Option Value) (C : Addr) : Prop where
  cl : Cls K C
  nN : NoAttr K C "n"
  nC : NoAttr K C "colours"
  nK : NoAttr K C "known"
  gC : mg "Pattern" = some (.ref C)
  enum : mg "enumerate" = none
  list : mg "list" = none
  many : ∃ t, mg "MANY" = some (.int 8 t)
/-! ### the promises -/
def spLeaves (K : PySem.W.Frag) (C : Addr) : Sp := fun vs H Q _ => ∃ (x dx ca d m : Addr) (n : Nat) (c : List Nat) (a : Nat) (u v : Int), vs = [.ref x, .ref m] ∧ PatI K C H x dx ca d n c ∧ SqT K H m [.int (a : Int), .int u, .int v] ∧ a < 8 ∧
  ∀ H', Same H H' → Q (.bl (symL c n a u v)) H'
def spHas (K : PySem.W.Frag) (C : Addr) : Sp := fun vs H Q _ => ∃ (x : Addr) (n : Nat) (c : List Nat) (a : Nat) (u v : Int), vs = [.ref x, .int (a : Int), .int u, .int v] ∧ PatAt K C H x n c ∧ a < 8 ∧
  ∀ H', Same H H' → Q (.bl (symL c n a u v)) H'
def spSyms (K : PySem.W.Frag) (C : Addr) : Sp := fun vs H Q _ => ∃ (x : Addr) (n : Nat) (c : List Nat), vs = [.ref x] ∧ PatAt K C H x n c ∧
  ∀ (H' : Hp) (p : Addr) (L : List (Addr × Mv)), Same H H' → H p = none → L.map (·.2) = (allM n).filter (sy c n) → H' p = some (.lst (refs L)) → Ts H' L → Q (.ref p) H'
def spInit (K : PySem.W.Frag) (C : Addr) : Sp := fun vs H Q _ => ∃ (x dx ca : Addr) (n : Nat) (c : List Nat), vs = [.ref x, .int (n : Int), .ref ca] ∧ H x = some (.ins C dx []) ∧ SqL K H ca (cV c) ∧ c.length = n * n ∧ 0 < n ∧ n ≤ 6 ∧
  ∀ H', (∀ b o, b ≠ x → H b = some o → H' b = some o) → PatAt K C H' x n c → Q .non H'
section
variable {P : Program} {w : World} {K : PySem.W.Frag} {mg : Str → Option Value} {base : Heap} {W C : Addr} {ws : Nat → Addr}
theorem cV_at {c : List Nat} {k : Nat} (h : k < c.length) : (cV c)[k]? = some (.int ((c.getD k 0 : Nat) : Int)) := by
  unfold cV
  rw [List.getElem?_map, List.getElem?_eq_getElem h, List.getD_eq_getElem?_getD, List.getElem?_eq_getElem h]
  rfl
theorem scLeaves : FnScope ["self", "movement", "place", "other"] ["self", "movement"] (defScope sLeaves) := ⟨rfl, rfl, rfl, by decide +kernel, rfl, by decide +kernel, by decide +kernel⟩
theorem ok_leaves {f f1 : Addr} {fd fd1 : FuncData} (F : Fun K "leaves" "Pattern.leaves" sLeaves f fd) (T : TxC K mg C) (G1 : FnOk P w K mg base CX0 3 f1 fd1 ["n", "movement"] (spImage K)) (m1 : mg "image" = some (.ref f1)) (k1 : PySem.W.keepIn K (.ref f1) = true) (b1 : Binds K fd1 ["n", "movement"] []) :
    FnOk P w K mg base CX0 4 f fd ["self", "movement"] (spLeaves K C) := by
  refine F.ok scLeaves (fun vs H Q E h => ?_) (fun cdv A outer s H vs Q E hr h => ?_)
  · obtain ⟨x, dx, ca, d, m, n, c, a, u, v, rfl, _⟩ := h
    rfl
  · obtain ⟨x, dx, ca, d, m, n, c, a, u, v, rfl, hP, hm, ha, k⟩ := h
    have nd := scLeaves.nd
    refine ⟨_, pss_cons (ps_for PassesOwn.never rfl (pi_enum rfl T.enum (pa_cons (pe_call G1 hr rfl m1 k1 b1 .nil pass0 (pa_cons (pe_fld (pv 0) rfl) (pa_cons (pv 1) pa_nil))) pa_nil))
        (pg_tup rfl (pgs_cons (pg_name (i := 2) nd rfl (Or.inl rfl)) (pgs_cons (pg_name (i := 3) nd rfl (Or.inl rfl)) pgs_nil)))
        (pss_one (ps_if (pt_cmpR op_ne (pe_ix ix_list (pe_fld (pv 0) rfl) (pv 2) (fun _ _ => rfl)) (pe_ix ix_list (pe_fld (pv 0) rfl) (pv 3) (fun _ _ => rfl)) (nomark _)) (pss_one (ps_ret pe_bl)) pss_nil)))
      (pss_one (ps_ret pe_bl)), ?_⟩
    obtain ⟨hx, hca, hlen, h0, h6⟩ := id hP
    refine ⟨_, rfl, x, C, dx, _, _, rfl, hx, T.cl, T.nN, pf_n _ _ _, _, rfl, m, n, a, u, v, rfl, hm, ha, h0, by omega, fun H1 p s1 n1 e1 => ?_⟩
    refine ⟨p, _, rfl, SqL.of e1, for_it walk_enum (fun i σ H' => ∃ vp vo : Option V, σ = [some (.ref x), some (.ref m), vp, vo] ∧ Same H1 H' ∧ ∀ k, k < i → c.getD (pl n a u v k) 0 = c.getD k 0)
      ⟨none, none, rfl, Same.refl _, fun k hk => absurd hk (Nat.not_lt_zero _)⟩ (fun i σ H' _ ⟨_, _, _, s2, _⟩ => s2.seq (SqL.of e1)) ?_ ?_⟩
    · rintro i y σ H2 H3 hi ⟨vp, vo, rfl, s2, hs⟩ ⟨t, yx, yy, rfl, ht, rfl, ex, ey⟩
      rw [List.length_map, List.length_range] at hi
      cases ex
      have ey : ((List.range (n * n)).map fun k => V.int ((pl n a u v k : Nat) : Int))[i]? = some yy := ey
      rw [List.getElem?_map, List.getElem?_range hi] at ey
      cases ey
      have s3 : Same H (L2.upd H2 t (.tup [V.int ((i : Nat) : Int), V.int ((pl n a u v i : Nat) : Int)])) := s1.trans (s2.trans (Same.new ht))
      obtain ⟨hx3, hca3, _⟩ := hP.same s3
      have hpl : pl n a u v i < n * n := pl_lt h0 a u v i
      refine ⟨t, _, rfl, SqT.of upd_same, rfl, _, _, rfl, _, _, rfl, rfl, ?_⟩
      refine ⟨_, rfl, x, C, dx, _, _, rfl, hx3, T.cl, T.nC, pf_c _ _ _, _, rfl, ca, _, _, _, rfl, rfl, hca3, atI_nat (cV_at (by omega)), ?_⟩
      refine ⟨_, rfl, x, C, dx, _, _, rfl, hx3, T.cl, T.nC, pf_c _ _ _, _, rfl, ca, _, _, _, rfl, rfl, hca3, atI_nat (cV_at (by omega)), ?_⟩
      refine ⟨rfl, _, rfl, ?_⟩
      by_cases e : c.getD i 0 = c.getD (pl n a u v i) 0
      · rw [e, decide_eq_true rfl]
        refine iteF ⟨_, _, rfl, s2.trans (Same.new ht), fun k hk => ?_⟩
        by_cases hki : k < i
        · exact hs k hki
        · obtain rfl : k = i := by omega
          exact e.symm
      · rw [decide_eq_false (fun z => e (by injection z with z; omega))]
        refine iteT ?_
        have r : symL c n a u v = false := by
          cases q : symL c n a u v with
          | false => rfl
          | true => exact absurd (symL_iff.mp q i hi).symm e
        have := k _ s3
        rw [r] at this
        exact this
    · rintro σ H2 ⟨vp, vo, rfl, s2, hs⟩
      rw [List.length_map, List.length_range] at hs
      have := k _ (s1.trans s2)
      rw [symL_iff.mpr hs] at this
      exact this
theorem scHas : FnScope ["self", "way", "a", "b"] ["self", "way", "a", "b"] (defScope sHas) := ⟨rfl, rfl, rfl, by decide +kernel, rfl, by decide +kernel, by decide +kernel⟩
theorem ok_has {f : Addr} {fd : FuncData} (F : Fun K "has" "Pattern.has" sHas f fd) (T : TxC K mg C) : FnOk P w K mg base CX0 1 f fd ["self", "way", "a", "b"] (spHas K C) := by
  refine F.ok scHas (fun vs H Q E h => ?_) (fun cdv A outer s H vs Q E hr h => ?_)
  · obtain ⟨x, n, c, a, u, v, rfl, _⟩ := h
    rfl
  · obtain ⟨x, n, c, a, u, v, rfl, ⟨dx, ca, d, hP, hd⟩, ha, k⟩ := h
    have hu := hu_of hr
    refine ⟨_, pss_one (ps_ret (pe_dget hu (pe_fld (pv 0) rfl) (pe_tup (pa_cons (pv 1) (pa_cons (pe_op op_mod (pv 2) (pe_fld (pv 0) rfl)) (pa_cons (pe_op op_mod (pv 3) (pe_fld (pv 0) rfl)) pa_nil)))) (fun _ _ => rfl))), ?_⟩
    obtain ⟨hx, hca, hlen, h0, h6⟩ := id hP
    have hn : (0 : Int) < (n : Int) := by omega
    refine ⟨_, rfl, x, C, dx, _, _, rfl, hx, T.cl, T.nK, pf_k _ _ _, ?_⟩
    refine ⟨_, rfl, _, rfl, _, rfl, x, C, dx, _, _, rfl, hx, T.cl, T.nN, pf_n _ _ _, _, _, rfl, rfl, hn, _, rfl, _, rfl, x, C, dx, _, _, rfl, hx, T.cl, T.nN, pf_n _ _ _, _, _, rfl, rfl, hn, (by show 3 ≤ sizeLine; decide), fun p hp => ?_⟩
    have m1 := Int.emod_nonneg u (show (n : Int) ≠ 0 by omega)
    have m2 := Int.emod_lt_of_pos u hn
    have m3 := Int.emod_nonneg v (show (n : Int) ≠ 0 by omega)
    have m4 := Int.emod_lt_of_pos v hn
    have hm : ((a, u % (n : Int), v % (n : Int)) : Mv) ∈ allM n := mem_moves.mpr ⟨List.mem_range.mpr ha, ⟨(u % (n : Int)).toNat, by omega, (Int.toNat_of_nonneg m1).symm⟩, ⟨(v % (n : Int)).toNat, by omega, (Int.toNat_of_nonneg m3).symm⟩⟩
    refine ⟨d, .bl (symL c n a u v), rfl, ?_, k _ (Same.new hp)⟩
    have hd' : L2.upd H p (.tup [V.int (a : Int), V.int (u % (n : Int)), V.int (v % (n : Int))]) d = some (.dT (known c n)) := by
      rw [upd_ne (ne_of_none hd hp)]
      exact hd
    have g := DGet.t (k := mk (a, u % (n : Int), v % (n : Int))) hd' upd_same
    have e : valV (known c n) (mk (a, u % (n : Int), v % (n : Int))) = some (.bl (symL c n a u v)) := by
      unfold known
      rw [valV_known, if_pos hm]
      show some (V.bl (symL c n a (u % (n : Int)) (v % (n : Int)))) = _
      rw [symL_mod]
    rw [e] at g
    exact g
theorem scSyms : FnScope ["self", "movement"] ["self"] (defScope sSyms) := ⟨rfl, rfl, rfl, by decide +kernel, rfl, by decide +kernel, by decide +kernel⟩
theorem known_at {c : List Nat} {n i : Nat} {key : List Key} {v : V} (h : (known c n)[i]? = some (key, v)) : ∃ m, (allM n)[i]? = some m ∧ key = mk m ∧ v = .bl (sy c n m) := by
  unfold known at h
  obtain ⟨m, h1, h2⟩ := map_at h
  injection h2 with h3 h4
  exact ⟨m, h1, h3, h4⟩
theorem known_len (c : List Nat) (n : Nat) : (known c n).length = (allM n).length := by
  unfold known
  rw [List.length_map]
theorem allM_len (n : Nat) : (allM n).length = 8 * (n * n) := by
  unfold allM
  rw [moves_len, List.length_range]
theorem allM_small {n : Nat} (h : n ≤ 6) : (allM n).length ≤ 288 := by
  rw [allM_len]
  have := Nat.mul_le_mul h h
  omega
theorem ok_syms {f : Addr} {fd : FuncData} (F : Fun K "symmetries" "Pattern.symmetries" sSyms f fd) (T : TxC K mg C) : FnOk P w K mg base CX0 1 f fd ["self"] (spSyms K C) := by
  refine F.ok scSyms (fun vs H Q E h => ?_) (fun cdv A outer s H vs Q E hr h => ?_)
  · obtain ⟨x, n, c, rfl, _⟩ := h
    rfl
  · obtain ⟨x, n, c, rfl, ⟨dx, ca, d, hP, hd⟩, k⟩ := h
    have nd := scSyms.nd
    have hu := hu_of hr
    refine ⟨_, pss_one (ps_ret (pe_lock (pe_lc (own := [("movement", 1)]) (g := gName 1) rfl nd (pi_keys (pe_fld (pv 0) rfl))
      (blkOk_by (own := [("movement", 1)]) (N := ["self", "movement"]) (sc := defScope sSyms) (by decide +kernel)) (fun _ _ _ _ _ => pg_name (i := 1) nd rfl (Or.inl rfl)) (fun _ _ _ _ _ => by refine pts_one (pt_val (t := tDGet (tFld K (tVar 0) "known") (tVar 1)) ?_ ?_); exact pe_dget hu (pe_fld (pv 0) rfl) (pv 1) (fun _ _ => rfl); intro _; rfl)
      (fun _ _ _ _ _ => pv 1)))), ?_⟩
    obtain ⟨hx, hca, hlen, h0, h6⟩ := id hP
    refine ⟨d, _, hd, trivial, fun od => ?_⟩
    have nxd : x ≠ d := ne_of hx hd (by intro z; cases z)
    have hx1 : L2.upd H d (.frz od (.dT (known c n))) x = some (.ins C dx (pf n ca d)) := by
      rw [upd_ne nxd]
      exact hx
    refine ⟨_, rfl, x, C, dx, _, _, rfl, hx1, T.cl, T.nK, pf_k _ _ _, d, od, rfl, .inr ⟨known c n, upd_same, fun D hD => ?_⟩⟩
    have ndD : d ≠ D := fun z => by
      rw [← z, upd_same] at hD
      cases hD
    have hD0 : H D = none := by
      rw [upd_ne (Ne.symm ndD)] at hD
      exact hD
    refine lc_it walk_keysT (fun i H' => ∃ L : List (Addr × Mv), Same (L2.upd H d (.frz od (.dT (known c n)))) H' ∧ H' D = some (.lst (refs L)) ∧ L.map (·.2) = ((allM n).take i).filter (sy c n) ∧ Ts H' L)
      ⟨[], Same.new hD, upd_same, rfl, fun q hq => nomatch hq⟩ (fun i H' _ ⟨_, s1, _⟩ => s1 _ _ upd_same) ?_ ?_
    · rintro i y H1 H2 hi ⟨L, s1, e1, em, t1⟩ ⟨rfl, key, v, q, hk, rfl, hq⟩
      obtain ⟨m, hm, rfl, rfl⟩ := known_at hk
      have hx2 := s1 _ _ hx1
      have hd2 := s1 _ _ (upd_same (H := H) (a := d) (o := .frz od (.dT (known c n))))
      have hmem : m ∈ allM n := List.mem_iff_getElem?.mpr ⟨i, hm⟩
      have e : valV (known c n) (mk m) = some (.bl (sy c n m)) := by
        unfold known
        rw [valV_known, if_pos hmem]
      have hL : L.length ≤ 288 := by
        have q := congrArg List.length em
        rw [List.length_map] at q
        rw [q]
        refine Nat.le_trans (List.length_filter_le _ _) ?_
        rw [List.length_take]
        exact Nat.le_trans (Nat.min_le_right _ _) (allM_small h6)
      refine ⟨rfl, _, rfl, x, C, dx, _, _, rfl, hx2, T.cl, T.nK, pf_k _ _ _, _, rfl, d, .bl (sy c n m), rfl, ?_, _, rfl, ?_⟩
      · exact .inr ⟨known c n, mk m, q, .inr ⟨od, hd2⟩, rfl, hq, e.symm⟩
      · cases hs : sy c n m with
        | true =>
          refine iteT ?_
          refine ⟨_, rfl, _, e1, (by unfold refs; rw [List.length_map]; exact Nat.lt_of_le_of_lt hL (by decide)), L ++ [(q, m)], Same.upd s1 hD, ?_, ?_, ?_⟩
          · rw [upd_same, refs_app]
            rfl
          · rw [List.map_append, em, take_more hm, List.filter_append, List.filter_cons, if_pos hs]
            rfl
          · refine Ts.keep (H := H2) (t1.app fun z hz => ?_) (fun xs z => ?_) rfl
            · obtain rfl := List.mem_singleton.mp hz
              exact hq
            · rw [e1] at z
              cases z
        | false =>
          refine iteF ⟨L, s1, e1, ?_, t1⟩
          rw [em, take_more hm, List.filter_append, List.filter_cons, if_neg (by rw [hs]; exact Bool.false_ne_true), List.filter_nil, List.append_nil]
    · rintro H1 ⟨L, s1, e1, em, t1⟩
      rw [known_len, List.take_length] at em
      have hd2 := s1 _ _ (upd_same (H := H) (a := d) (o := .frz od (.dT (known c n))))
      refine ⟨hd2, k _ D L (fun b o hb => ?_) hD0 em ?_ ?_⟩
      · by_cases hbd : b = d
        · subst hbd
          rw [upd_same]
          exact hd.symm.trans hb
        · rw [upd_ne hbd]
          exact s1 _ _ (by rw [upd_ne hbd]; exact hb)
      · rw [upd_ne (Ne.symm ndD)]
        exact e1
      · refine Ts.keep (H := H1) t1 (fun xs z => ?_) rfl
        rw [hd2] at z
        cases z
theorem scInit : FnScope ["self", "n", "colours", "movement"] ["self", "n", "colours"] (defScope sInit) := ⟨rfl, rfl, rfl, by decide +kernel, rfl, by decide +kernel, by decide +kernel⟩
theorem ok_init {f f1 f2 : Addr} {fd fd1 fd2 : FuncData} (F : Fun K "__init__" "Pattern.__init__" sInit f fd) (T : TxC K mg C) (TW : TxW K mg W ws) (G1 : FnOk P w K mg base CX0 1 f1 fd1 ["n", "ways"] (spMvs K)) (m1 : mg "movements" = some (.ref f1)) (k1 : PySem.W.keepIn K (.ref f1) = true) (b1 : Binds K fd1 ["n", "ways"] [])
    (G2 : FnOk P w K mg base CX0 4 f2 fd2 ["self", "movement"] (spLeaves K C)) (m2 : Meth K C "leaves" f2) (b2 : Binds K fd2 ["self", "movement"] []) :
    FnOk P w K mg base CX0 5 f fd ["self", "n", "colours"] (spInit K C) := by
  refine F.ok scInit (fun vs H Q E h => ?_) (fun cdv A outer s H vs Q E hr h => ?_)
  · obtain ⟨x, dx, ca, n, c, rfl, _⟩ := h
    rfl
  · obtain ⟨x, dx, ca, n, c, rfl, hx, hca, hlen, h0, h6, k⟩ := h
    have nd := scInit.nd
    have hu := hu_of hr
    have hr1 : Room 1 _ := hr.mono (by decide)
    obtain ⟨tM, mgM⟩ := T.many
    refine ⟨_, pss_cons (ps_fld (pv 0) (pv 1) rfl) (pss_cons (ps_fld (pv 0) (pv 2) rfl) (pss_cons (ps_fld (pv 0) pe_dnewT rfl)
      (pss_one (ps_for PassesOwn.never rfl (pi_list (pe_call G1 hr1 rfl m1 k1 b1 .nil pass0 (pa_cons (pv 1) (pa_cons (pe_listRg rfl rfl T.list (prg_1 rfl TW.range (pe_glob (v := .int 8) rfl mgM ⟨_, rfl⟩))) pa_nil)))) (pg_name (i := 3) nd rfl (Or.inl rfl))
        (pss_one (ps_dput hu (pe_fld (pv 0) rfl) (pv 3) (pe_meth (pv 0) T.cl m2 G2 hr b2 .nil pass0 (pa_cons (pv 3) pa_nil)) rfl)))))), ?_⟩
    refine ⟨_, rfl, _, rfl, x, C, dx, [], rfl, hx, T.cl, T.nN, (by show 0 < 1000; decide), ?_⟩
    refine ⟨_, rfl, _, rfl, x, C, dx, _, rfl, upd_same, T.cl, T.nC, (by show 1 < 1000; decide), ?_⟩
    intro d hd
    have nxd : x ≠ d := fun z => by
      rw [← z, upd_same] at hd
      cases hd
    have hd0 : H d = none := by
      rw [upd_ne (Ne.symm nxd), upd_ne (Ne.symm nxd)] at hd
      exact hd
    refine ⟨_, rfl, x, C, dx, _, rfl, (by rw [upd_ne nxd, upd_same]), T.cl, T.nK, ?_, ?_⟩
    · show List.length (putF "colours" (.ref ca) (putF "n" (.int (n : Int)) [])) < 1000
      have e1 : putF "colours" (.ref ca) (putF "n" (.int (n : Int)) []) = ([("n", .int (n : Int)), ("colours", .ref ca)] : List (Str × V)) := (put_past (by decide +kernel)).trans rfl
      rw [e1]
      show 2 < 1000
      decide
    · refine ⟨_, rfl, 8, rfl, (RgOk.of_le (by decide) (by decide) (by decide) (by decide)), fun q hq => ?_⟩
      refine ⟨n, q, List.range 8, rfl, SqL.of (upd_same.trans rfl), by omega, by decide, fun H1 r L s1 n1 em e1 t1 => ?_⟩
      have F1 : H1 x = some (.ins C dx (pf n ca d)) := by
        rw [← pf_new]
        exact s1 _ _ ((upd_ne (ne_of_none upd_same hq)).trans upd_same)
      have hd3 := (upd_ne (H := L2.upd (L2.upd (L2.upd H x (.ins C dx (putF "n" (.int (n : Int)) []))) x (.ins C dx (putF "colours" (.ref ca) (putF "n" (.int (n : Int)) [])))) d (.dT [])) (o := .ins C dx (putF "known" (.ref d) (putF "colours" (.ref ca) (putF "n" (.int (n : Int)) [])))) (Ne.symm nxd)).trans upd_same
      have F2 : H1 d = some (.dT []) := s1 _ _ ((upd_ne (ne_of_none hd3 hq)).trans hd3)
      have F3 : ∀ b o, b ≠ x → H b = some o → H1 b = some o := fun b o hbx hb => by
        have nbd : b ≠ d := ne_of_none hb hd0
        have hb3 := (upd_ne (H := L2.upd (L2.upd (L2.upd H x (.ins C dx (putF "n" (.int (n : Int)) []))) x (.ins C dx (putF "colours" (.ref ca) (putF "n" (.int (n : Int)) [])))) d (.dT [])) (o := .ins C dx (putF "known" (.ref d) (putF "colours" (.ref ca) (putF "n" (.int (n : Int)) [])))) hbx).trans ((upd_ne nbd).trans ((upd_ne hbx).trans ((upd_ne hbx).trans hb)))
        exact s1 _ _ ((upd_ne (ne_of_none hb3 hq)).trans hb3)
      have F4 : SqL K H1 ca (cV c) := off_seq hx (by intro xs z; cases z) (by intro ob xs z; cases z) F3 hca
      have nrd : r ≠ d := ne_of e1 F2 (by intro z; cases z)
      refine ⟨r, rfl, ⟨_, SqL.of e1⟩, for_list (K := K) (a := r) (xs := refs L) (fun i σ H' => ∃ vm : Option V, σ = [some (.ref x), some (.int (n : Int)), some (.ref ca), vm] ∧ (∀ b o, b ≠ d → H1 b = some o → H' b = some o) ∧ H' d = some (.dT (((allM n).take i).map (entry c n))))
        ⟨none, rfl, fun b o _ h => h, F2⟩ (fun i σ H' _ ⟨_, _, s2, _⟩ => SqL.of (s2 _ _ nrd e1)) ?_ ?_⟩
      · rintro i y σ H2 hi ⟨vm, rfl, s2, e2⟩
        obtain ⟨⟨t, m⟩, hLi, rfl⟩ := map_at hi
        have hm : (allM n)[i]? = some m := by
          have q : (L.map (·.2))[i]? = some m := by
            rw [List.getElem?_map, hLi]
            rfl
          rw [em] at q
          exact q
        have hmem : m ∈ allM n := List.mem_iff_getElem?.mpr ⟨i, hm⟩
        have ht1 : H1 t = some (.tup (mv m)) := t1 (t, m) (List.mem_iff_getElem?.mpr ⟨i, hLi⟩)
        have ntd : t ≠ d := ne_of ht1 F2 (by intro z; cases z)
        have ht2 := s2 _ _ ntd ht1
        have hx2 := s2 _ _ nxd F1
        have hca2 : SqL K H2 ca (cV c) := off_seq F2 (by intro xs z; cases z) (by intro ob xs z; cases z) s2 F4
        have ha : m.1 < 8 := List.mem_range.mp (mem_moves.mp hmem).1
        refine ⟨_, rfl, x, dx, _, rfl, hx2, pf_no _ _ _ (by decide +kernel) (by decide +kernel) (by decide +kernel), _, rfl, x, dx, ca, d, t, n, c, m.1, m.2.1, m.2.2, rfl, ⟨hx2, hca2, hlen, h0, h6⟩, SqT.of ht2, ha, fun H5 s5 => ?_⟩
        refine ⟨_, rfl, x, C, dx, _, _, rfl, s5 _ _ hx2, T.cl, T.nK, pf_k _ _ _, _, rfl, d, _, rfl, DPut.t (k := mk m) (s5 _ _ e2) (s5 _ _ ht2) ?_, _, rfl, fun b o hb h1 => (upd_ne hb).trans (s5 _ _ (s2 b o hb h1)), ?_⟩
        · rw [List.length_map, List.length_take]
          exact Nat.lt_of_le_of_lt (Nat.le_trans (Nat.min_le_right _ _) (allM_small h6)) (by decide)
        · rw [upd_same, take_more hm, List.map_append, putK_new]
          · rfl
          · rw [valV_known, if_neg]
            exact not_mem_take (moves_nodup n List.nodup_range) hm
      · rintro σ H2 ⟨vm, rfl, s2, e2⟩
        have hl : (refs L).length = (allM n).length := by
          rw [refs_len, em]
          rfl
        rw [hl, List.take_length] at e2
        refine k _ (fun b o hbx hb => s2 b o (ne_of_none hb hd0) (F3 b o hbx hb)) ⟨dx, ca, d, ⟨s2 _ _ nxd F1, off_seq F2 (by intro xs z; cases z) (by intro ob xs z; cases z) s2 F4, hlen, h0, h6⟩, e2⟩
end
end Pl
/-! ### cell -/
namespace Pl
open PySem PySem.Spec PyProof.Rows L2
/-- what is found of a cell -/
structure CellOk (c : List Nat) (n e f g : Nat) : Prop where
  e0 : 0 < e
  en : e ≤ n
  he : symL c n 0 (e : Int) 0 = true
  le : ∀ j : Nat, 0 < j → j < e → symL c n 0 (j : Int) 0 = false
  g0 : 0 < g
  gn : g ≤ n
  hf : f < e
  hg : symL c n 0 (f : Int) (g : Int) = true
  lf : ∀ j : Nat, j < f → symL c n 0 (j : Int) (g : Int) = false
  lg : ∀ k : Nat, 0 < k → k < g → ∀ j : Nat, j < e → symL c n 0 (j : Int) (k : Int) = false
def rowF (c : List Nat) (n e g : Nat) : Option Nat := (List.range e).find? fun f => symL c n 0 (f : Int) (g : Int)
def rowV (c : List Nat) (n e g : Nat) : V := match rowF c n e g with
  | some f => .int (f : Int)
  | none => .non
theorem rowV_some {c : List Nat} {n e g f : Nat} (h : rowF c n e g = some f) : rowV c n e g = .int (f : Int) := by
  unfold rowV
  rw [h]
theorem rowV_none {c : List Nat} {n e g : Nat} (h : rowF c n e g = none) : rowV c n e g = .non := by
  unfold rowV
  rw [h]
theorem rowF_none {c : List Nat} {n e g : Nat} : rowF c n e g = none ↔ ∀ j : Nat, j < e → symL c n 0 (j : Int) (g : Int) = false := by
  unfold rowF
  rw [List.find?_eq_none]
  constructor
  · intro h j hj
    have := h j (List.mem_range.mpr hj)
    cases q : symL c n 0 (j : Int) (g : Int) with
    | false => rfl
    | true => exact absurd q this
  · intro h j hj z
    rw [h j (List.mem_range.mp hj)] at z
    cases z
theorem rowF_some {c : List Nat} {n e g f : Nat} : rowF c n e g = some f ↔ f < e ∧ symL c n 0 (f : Int) (g : Int) = true ∧ ∀ j : Nat, j < f → symL c n 0 (j : Int) (g : Int) = false := by
  unfold rowF
  rw [List.find?_range_eq_some]
  constructor
  · rintro ⟨h1, h2, h3⟩
    refine ⟨List.mem_range.mp h2, h1, fun j hj => ?_⟩
    have := h3 j hj
    cases q : symL c n 0 (j : Int) (g : Int) with
    | false => rfl
    | true =>
      rw [q] at this
      cases this
  · rintro ⟨h1, h2, h3⟩
    refine ⟨h2, List.mem_range.mpr h1, fun j hj => ?_⟩
    rw [h3 j hj]
    rfl
def spRow (K : PySem.W.Frag) (C : Addr) : Sp := fun vs H Q _ => ∃ (x : Addr) (n : Nat) (c : List Nat) (e g : Nat), vs = [.ref x, .int (e : Int), .int (g : Int)] ∧ PatAt K C H x n c ∧ e ≤ n ∧
  ∀ H', Same H H' → Q (rowV c n e g) H'
def spLeastShift (K : PySem.W.Frag) (C : Addr) : Sp := fun vs H Q _ => ∃ (x : Addr) (n : Nat) (c : List Nat), vs = [.ref x] ∧ PatAt K C H x n c ∧
  ∀ (H' : Hp) (p : Addr) (e f g : Nat), Same H H' → H p = none → CellOk c n e f g → H' p = some (.tup [.int (e : Int), .int (f : Int), .int (g : Int)]) → Q (.ref p) H'
def spCountShifts (K : PySem.W.Frag) (C : Addr) : Sp := fun vs H Q _ => ∃ (x : Addr) (n : Nat) (c : List Nat), vs = [.ref x] ∧ PatAt K C H x n c ∧
  ∀ H' : Hp, Same H H' → Q (.int (((shiftsL c n).length : Nat) : Int)) H'
def spSide : Sp := fun vs H Q _ => ∃ z : Int, vs = [.int z] ∧ Q (.bl (decide (1 ≤ z) && decide (z ≤ 64))) H
def spCell (K : PySem.W.Frag) : Sp := fun vs H Q _ => ∃ (z : Int) (a : Addr) (cs : List Int), vs = [.int z, .ref a] ∧ SqL K H a (cs.map V.int) ∧ PySa48.cell_asked z cs = true ∧
  ∀ (H' : Hp) (p : Addr), H' p = some (.lst ((PySa48.cell z cs).map V.int)) → Q (.ref p) H'
section
variable {P : Program} {w : World} {K : PySem.W.Frag} {mg : Str → Option Value} {base : Heap} {W C : Addr} {ws : Nat → Addr}
theorem scRow : FnScope ["pattern", "e", "g", "f"] ["pattern", "e", "g"] (defScope sRowShift) := ⟨rfl, rfl, rfl, by decide +kernel, rfl, by decide +kernel, by decide +kernel⟩
theorem pf_meth {n : Nat} {ca d : Addr} {m : Str} (h : ((m == ("n" : Str)) || (m == ("colours" : Str)) || (m == ("known" : Str))) = false) : (pf n ca d).lookup m = none := by
  rw [Bool.or_eq_false_iff, Bool.or_eq_false_iff] at h
  exact pf_no n ca d h.1.1 h.1.2 h.2
theorem ok_row {f f1 : Addr} {fd fd1 : FuncData} (F : Fun K "row_shift" "row_shift" sRowShift f fd) (TW : TxW K mg W ws) (T : TxC K mg C) (G1 : FnOk P w K mg base CX0 1 f1 fd1 ["self", "way", "a", "b"] (spHas K C)) (m1 : Meth K C "has" f1) (b1 : Binds K fd1 ["self", "way", "a", "b"] []) :
    FnOk P w K mg base CX0 2 f fd ["pattern", "e", "g"] (spRow K C) := by
  refine F.ok scRow (fun vs H Q E h => ?_) (fun cdv A outer s H vs Q E hr h => ?_)
  · obtain ⟨x, n, c, e, g, rfl, _⟩ := h
    rfl
  · obtain ⟨x, n, c, e, g, rfl, hP, hen, k⟩ := h
    have nd := scRow.nd
    have h6 : n ≤ 6 := by
      obtain ⟨_, _, _, hp, _⟩ := hP
      exact hp.2.2.2.2
    refine ⟨_, pss_cons (ps_for PassesOwn.never rfl (pi_range1 rfl TW.range (pa_cons (pv 1) pa_nil)) (pg_name (i := 3) nd rfl (Or.inl rfl))
        (pss_one (ps_if (pt_val (pe_meth (pv 0) T.cl m1 G1 hr b1 .nil pass0 (pa_cons pe_int (pa_cons (pv 3) (pa_cons (pv 2) pa_nil))))) (pss_one (ps_ret (pv 3))) pss_nil)))
      (pss_one (ps_ret pe_non)), ?_⟩
    refine ⟨_, rfl, (e : Int), rfl, by omega, by omega, for_range (lo := 0) (n := e) (fun i σ H' => ∃ vf : Option V, σ = [some (.ref x), some (.int (e : Int)), some (.int (g : Int)), vf] ∧ Same H H' ∧ ∀ j : Nat, j < i → symL c n 0 (j : Int) (g : Int) = false)
      ⟨none, rfl, Same.refl _, fun j hj => absurd hj (Nat.not_lt_zero _)⟩ ?_ ?_⟩
    · rintro i σ H1 hi ⟨vf, rfl, s1, hl⟩
      have hP1 := hP.same s1
      obtain ⟨dx, ca, d, ⟨hx, _⟩, _⟩ := id hP1
      refine ⟨_, rfl, x, dx, _, rfl, hx, pf_meth (by decide +kernel), _, rfl, _, rfl, x, n, c, 0, ((i : Nat) : Int), (g : Int), (by rw [Int.zero_add]; rfl), hP1, by decide, fun H2 s2 => ⟨_, rfl, ?_⟩⟩
      cases q : symL c n 0 ((i : Nat) : Int) (g : Int) with
      | true =>
        refine iteT ⟨_, rfl, ?_⟩
        have := k _ (s1.trans s2)
        rw [rowV_some (rowF_some.mpr ⟨hi, q, hl⟩)] at this
        rw [Int.zero_add]
        exact this
      | false =>
        refine iteF ⟨_, rfl, s1.trans s2, fun j hj => ?_⟩
        by_cases e : j < i
        · exact hl j e
        · obtain rfl : j = i := by omega
          exact q
    · rintro σ H1 ⟨vf, rfl, s1, hl⟩
      have := k _ s1
      rw [rowV_none (rowF_none.mpr hl)] at this
      exact this
theorem scLeastShift : FnScope ["pattern", "e", "g"] ["pattern"] (defScope sLeastShift) := ⟨rfl, rfl, rfl, by decide +kernel, rfl, by decide +kernel, by decide +kernel⟩
theorem ok_leastShift {f f1 f2 : Addr} {fd fd1 fd2 : FuncData} (F : Fun K "least_shift" "least_shift" sLeastShift f fd) (T : TxC K mg C) (G1 : FnOk P w K mg base CX0 1 f1 fd1 ["self", "way", "a", "b"] (spHas K C)) (m1 : Meth K C "has" f1) (b1 : Binds K fd1 ["self", "way", "a", "b"] [])
    (G2 : FnOk P w K mg base CX0 2 f2 fd2 ["pattern", "e", "g"] (spRow K C)) (m2 : mg "row_shift" = some (.ref f2)) (k2 : PySem.W.keepIn K (.ref f2) = true) (b2 : Binds K fd2 ["pattern", "e", "g"] []) :
    FnOk P w K mg base CX0 3 f fd ["pattern"] (spLeastShift K C) := by
  refine F.ok scLeastShift (fun vs H Q E h => ?_) (fun cdv A outer s H vs Q E hr h => ?_)
  · obtain ⟨x, n, c, rfl, _⟩ := h
    rfl
  · obtain ⟨x, n, c, rfl, hP, k⟩ := h
    have nd := scLeastShift.nd
    have hr1 : Room 1 _ := hr.mono (by decide)
    obtain ⟨h0, h6⟩ : 0 < n ∧ n ≤ 6 := by
      obtain ⟨_, _, _, hp, _⟩ := hP
      exact hp.2.2.2
    refine ⟨_, pss_cons (ps_set (i := 1) nd rfl (Or.inl rfl) pe_int)
      (pss_cons (ps_while PassesOwn.never (pt_not (pt_val (pe_meth (pv 0) T.cl m1 G1 hr1 b1 .nil pass0 (pa_cons pe_int (pa_cons (pv 1) (pa_cons pe_int pa_nil)))))) (pss_one (ps_set (i := 1) nd rfl (Or.inl rfl) (pe_op op_add (pv 1) pe_int))))
      (pss_cons (ps_set (i := 2) nd rfl (Or.inl rfl) pe_int)
      (pss_cons (ps_while PassesOwn.never (pt_cmp (pc_isN (pe_call G2 hr rfl m2 k2 b2 .nil pass0 (pa_cons (pv 0) (pa_cons (pv 1) (pa_cons (pv 2) pa_nil)))))) (pss_one (ps_set (i := 2) nd rfl (Or.inl rfl) (pe_op op_add (pv 2) pe_int))))
      (pss_one (ps_ret (pe_tup (pa_cons (pv 1) (pa_cons (pe_call G2 hr rfl m2 k2 b2 .nil pass0 (pa_cons (pv 0) (pa_cons (pv 1) (pa_cons (pv 2) pa_nil)))) (pa_cons (pv 2) pa_nil))))))))), ?_⟩
    refine ⟨fun m σ H' => ∃ (e : Nat) (vg : Option V), σ = [some (.ref x), some (.int (e : Int)), vg] ∧ Same H H' ∧ 0 < e ∧ e ≤ n ∧ m = n - e ∧ ∀ j : Nat, 0 < j → j < e → symL c n 0 (j : Int) 0 = false, ⟨_, 1, none, rfl, Same.refl _, by decide, h0, rfl, fun j h1 h2 => by omega⟩, ?_⟩
    rintro m σ H1 ⟨e, vg, rfl, s1, e0, en, rfl, le⟩
    have hP1 := hP.same s1
    obtain ⟨dx, ca, d, ⟨hx, _⟩, _⟩ := id hP1
    refine ⟨_, rfl, x, dx, _, rfl, hx, pf_meth (by decide +kernel), _, rfl, x, n, c, 0, (e : Int), 0, rfl, hP1, by decide, fun H2 s2 => ⟨_, rfl, ?_⟩⟩
    cases q : symL c n 0 (e : Int) 0 with
    | false =>
      have hlt : e < n := by
        rcases Nat.lt_or_eq_of_le en with h | h
        · exact h
        · subst h
          rw [sym_full] at q
          cases q
      refine iteT ⟨fun σ H' => ∃ vg : Option V, σ = [some (.ref x), some (.int ((e + 1 : Nat) : Int)), vg] ∧ Same H H' , ?_, ?_⟩
      · rintro σ H' ⟨vg, rfl, s3⟩
        refine ⟨n - (e + 1), by omega, e + 1, vg, rfl, s3, by omega, hlt, rfl, fun j h1 h2 => ?_⟩
        by_cases z : j < e
        · exact le j h1 z
        · obtain rfl : j = e := by omega
          exact q
      · exact ⟨_, rfl, _, _, rfl, rfl, vg, rfl, s1.trans s2⟩
    | true =>
      refine iteF ?_
      refine ⟨fun m σ H' => ∃ (g : Nat), σ = [some (.ref x), some (.int (e : Int)), some (.int (g : Int))] ∧ Same H H' ∧ 0 < g ∧ g ≤ n ∧ m = n - g ∧ ∀ k : Nat, 0 < k → k < g → ∀ j : Nat, j < e → symL c n 0 (j : Int) (k : Int) = false, ⟨_, 1, rfl, s1.trans s2, by decide, h0, rfl, fun k h1 h2 => by omega⟩, ?_⟩
      rintro m σ H3 ⟨g, rfl, s3, g0, gn, rfl, lg⟩
      have hP3 := hP.same s3
      refine ⟨_, rfl, _, rfl, _, rfl, x, n, c, e, g, rfl, hP3, en, fun H4 s4 => ⟨_, rfl, ?_⟩⟩
      cases r : rowF c n e g with
      | none =>
        rw [rowV_none r, decide_eq_true rfl]
        have r' := rowF_none.mp r
        have hlt : g < n := by
          rcases Nat.lt_or_eq_of_le gn with h | h
          · exact h
          · subst h
            have := r' 0 e0
            rw [show ((0 : Nat) : Int) = 0 from rfl, sym_full2] at this
            cases this
        refine iteT ⟨fun σ H' => σ = [some (.ref x), some (.int (e : Int)), some (.int ((g + 1 : Nat) : Int))] ∧ Same H H' , ?_, ?_⟩
        · rintro σ H' ⟨rfl, s5⟩
          refine ⟨n - (g + 1), by omega, g + 1, rfl, s5, by omega, hlt, rfl, fun j h1 h2 => ?_⟩
          by_cases z : j < g
          · exact lg j h1 z
          · obtain rfl : j = g := by omega
            exact r'
        · exact ⟨_, rfl, _, _, rfl, rfl, rfl, s3.trans s4⟩
      | some f =>
        rw [rowV_some r, decide_eq_false (by intro z; cases z)]
        refine iteF ?_
        obtain ⟨hf, hg, lf⟩ := rowF_some.mp r
        have s5 := s3.trans s4
        refine ⟨_, rfl, _, rfl, _, rfl, _, rfl, x, n, c, e, g, rfl, hP.same s5, en, fun H6 s6 => ?_⟩
        refine ⟨_, rfl, (by show 3 ≤ sizeLine; decide), fun p hp => ?_⟩
        have s7 := s5.trans s6
        refine k _ p e f g (Same.upd s7 (s7.free hp)) (s7.free hp) ⟨e0, en, q, le, g0, gn, hf, hg, lf, lg⟩ ?_
        rw [upd_same, rowV_some r]
theorem scCountShifts : FnScope ["pattern", "movement"] ["pattern"] (defScope sCountShifts) := ⟨rfl, rfl, rfl, by decide +kernel, rfl, by decide +kernel, by decide +kernel⟩
theorem refs_at {L : List (Addr × Mv)} {i : Nat} {y : V} (h : (refs L)[i]? = some y) : ∃ t m, L[i]? = some (t, m) ∧ y = .ref t := by
  obtain ⟨⟨t, m⟩, h1, h2⟩ := map_at h
  exact ⟨t, m, h1, h2⟩
theorem ok_countShifts {f f1 : Addr} {fd fd1 : FuncData} (F : Fun K "count_shifts" "count_shifts" sCountShifts f fd) (T : TxC K mg C) (mL : mg "len" = none) (G1 : FnOk P w K mg base CX0 1 f1 fd1 ["self"] (spSyms K C)) (m1 : Meth K C "symmetries" f1) (b1 : Binds K fd1 ["self"] []) :
    FnOk P w K mg base CX0 2 f fd ["pattern"] (spCountShifts K C) := by
  refine F.ok scCountShifts (fun vs H Q E h => ?_) (fun cdv A outer s H vs Q E hr h => ?_)
  · obtain ⟨x, n, c, rfl, _⟩ := h
    rfl
  · obtain ⟨x, n, c, rfl, hP, k⟩ := h
    have nd := scCountShifts.nd
    refine ⟨_, pss_one (ps_ret (pe_callB call_len_seq (by rfl) mL PySem.boot_len (pa_cons (pe_lc (own := [("movement", 1)]) (g := gName 1) rfl nd (pi_list (pe_meth0 (pv 0) T.cl m1 G1 hr b1 .nil pass0))
      (blkOk_by (own := [("movement", 1)]) (N := ["pattern", "movement"]) (sc := defScope sCountShifts) (by decide +kernel)) (fun _ _ _ _ _ => pg_name (i := 1) nd rfl (Or.inl rfl))
      (fun _ _ _ _ _ => pts_one (pt_cmpR op_eq (pe_ix (r := rIxT K) ix_tup (pv 1) pe_int (fun _ _ => rfl)) pe_int (nomark _)))
      (fun _ _ _ _ _ => pv 1)) pa_nil))), ?_⟩
    obtain ⟨dx, ca, d, ⟨hx, _⟩, _⟩ := id hP
    refine ⟨_, rfl, x, dx, _, rfl, hx, pf_meth (by decide +kernel), x, n, c, rfl, hP, fun H1 p L s1 n1 em e1 t1 => ?_⟩
    refine ⟨p, rfl, ⟨_, SqL.of e1⟩, fun D hD => ?_⟩
    have hL : L.length ≤ 288 := by
      have q := congrArg List.length em
      rw [List.length_map] at q
      rw [q]
      obtain ⟨_, _, _, hp, _⟩ := hP
      exact Nat.le_trans (List.length_filter_le _ _) (allM_small hp.2.2.2.2)
    refine lc_list (K := K) (a := p) (xs := refs L) (fun i H' => ∃ ys : List V, Same H1 H' ∧ H' D = some (.lst ys) ∧ ys.length = ((L.take i).filter fun q => q.2.1 == 0).length)
      ⟨[], Same.new hD, upd_same, rfl⟩ (fun i H' _ ⟨_, s2, _⟩ => s2.seq (SqL.of e1)) ?_ ?_
    · rintro i y H2 hi ⟨ys, s2, e2, el⟩
      obtain ⟨t, m, hLi, rfl⟩ := refs_at hi
      have ht : H2 t = some (.tup (mv m)) := s2 _ _ (t1 (t, m) (List.mem_iff_getElem?.mpr ⟨i, hLi⟩))
      refine ⟨rfl, _, rfl, t, _, 0, _, rfl, rfl, SqT.of ht, rfl, rfl, _, rfl, ?_⟩
      have hsz : ys.length < sizeLine := by
        rw [el]
        refine Nat.lt_of_le_of_lt (Nat.le_trans (List.length_filter_le _ _) ?_) (show 288 < sizeLine by decide)
        rw [List.length_take]
        exact Nat.le_trans (Nat.min_le_right _ _) hL
      by_cases e : m.1 = 0
      · rw [e, show decide (V.int ((0 : Nat) : Int) = V.int 0) = true from rfl]
        refine iteT ⟨_, rfl, ys, e2, hsz, ys ++ [.ref t], Same.upd s2 hD, upd_same, ?_⟩
        rw [take_more hLi, List.filter_append, List.filter_cons, if_pos (by show (m.1 == 0) = true; rw [e]; rfl), List.length_append, List.length_append, el]
        rfl
      · rw [show decide (V.int ((m.1 : Nat) : Int) = V.int 0) = false from decide_eq_false (fun z => e (by injection z with z; omega))]
        refine iteF ⟨ys, s2, e2, ?_⟩
        rw [take_more hLi, List.filter_append, List.filter_cons, if_neg (by show ¬ (m.1 == 0) = true; simp [e]), List.filter_nil, List.append_nil, el]
    · rintro H2 ⟨ys, s2, e2, el⟩
      have hl : (refs L).length = L.length := by
        unfold refs
        rw [List.length_map]
      rw [hl, List.take_length] at el
      refine ⟨D, ys, rfl, .inl (SqL.of e2), ?_⟩
      have e3 : ys.length = (shiftsL c n).length := by
        rw [el]
        unfold shiftsL
        have e4 : (allM n).filter (sy c n) = (Sa48Neutral.moves n (List.range 8)).filter fun m => symL c n m.1 m.2.1 m.2.2 := rfl
        rw [← e4, ← em, List.filter_map, List.length_map]
        rfl
      rw [e3]
      refine k _ (fun b o hb => ?_)
      exact s2 _ _ (s1 _ _ hb)
theorem scSide : FnScope ["n"] ["n"] (defScope sIsSide) := ⟨rfl, rfl, rfl, by decide +kernel, rfl, by decide +kernel, by decide +kernel⟩
theorem ok_side {f : Addr} {fd : FuncData} (F : Fun K "is_side" "is_side" sIsSide f fd) (mM : ∃ t, mg "MOST_SIDE" = some (.int 64 t)) : FnOk P w K mg base CX0 1 f fd ["n"] spSide := by
  refine F.ok scSide (fun vs H Q E h => ?_) (fun cdv A outer s H vs Q E hr h => ?_)
  · obtain ⟨z, rfl, _⟩ := h
    rfl
  · obtain ⟨z, rfl, k⟩ := h
    obtain ⟨t, mM⟩ := mM
    refine ⟨_, pss_one (ps_ret (pe_chain op_le op_le pe_int (pv 0) (pe_glob (v := .int 64) rfl mM ⟨_, rfl⟩))), ?_⟩
    refine ⟨_, rfl, _, _, rfl, rfl, _, rfl, ?_⟩
    by_cases h : 1 ≤ z
    · rw [decide_eq_true h] at k ⊢
      exact iteT ⟨_, _, rfl, rfl, k⟩
    · rw [decide_eq_false h] at k ⊢
      exact iteF k
theorem cV_nats {cs : List Int} (h : ∀ z ∈ cs, 0 ≤ z) : cV (Sa48Neutral.nats cs) = cs.map V.int := by
  unfold cV Sa48Neutral.nats
  rw [List.map_map]
  refine List.map_congr_left fun z hz => ?_
  show V.int ((z.toNat : Nat) : Int) = V.int z
  rw [Int.toNat_of_nonneg (h z hz)]
/-- what is asked of a square -/
theorem square_of {z : Int} {cs : List Int} (h : Sa48Neutral.square z cs = true) (h1 : 1 ≤ z) (h2 : z ≤ 64) : ∃ n : Nat, z = (n : Int) ∧ 0 < n ∧ n ≤ 6 ∧ (Sa48Neutral.nats cs).length = n * n ∧ cV (Sa48Neutral.nats cs) = cs.map V.int := by
  unfold Sa48Neutral.square at h
  rw [if_pos ⟨h1, h2⟩, Bool.and_eq_true, Bool.and_eq_true, Bool.and_eq_true, decide_eq_true_eq, decide_eq_true_eq, List.all_eq_true] at h
  obtain ⟨_, ha, h6, hl⟩ := h
  refine ⟨z.toNat, by omega, by omega, by omega, ?_, cV_nats fun y hy => ?_⟩
  · unfold Sa48Neutral.nats
    rw [List.length_map]
    have e : ((z.toNat * z.toNat : Nat) : Int) = z * z := by
      rw [Int.natCast_mul, Int.toNat_of_nonneg (by omega)]
    omega
  · have := ha y hy
    unfold Sa48Neutral.natural at this
    rw [Bool.and_eq_true, decide_eq_true_eq] at this
    exact this.1
theorem scCell : FnScope ["n", "p", "pattern", "e", "f", "g"] ["n", "p"] (defScope sCell) := ⟨rfl, rfl, rfl, by decide +kernel, rfl, by decide +kernel, by decide +kernel⟩
theorem ok_cell {f f1 f2 f3 f4 : Addr} {fd fd1 fd2 fd3 fd4 : FuncData} (F : Fun K "cell" "cell" sCell f fd) (T : TxC K mg C) (mO : ∃ t, mg "OUT" = some (.int (-2) t))
    (G1 : FnOk P w K mg base CX0 1 f1 fd1 ["n"] spSide) (m1 : mg "is_side" = some (.ref f1)) (k1 : PySem.W.keepIn K (.ref f1) = true) (b1 : Binds K fd1 ["n"] [])
    (M : Mk K C f2) (G2 : FnOk P w K mg base CX0 5 f2 fd2 ["self", "n", "colours"] (spInit K C)) (b2 : Binds K fd2 ["self", "n", "colours"] [])
    (G3 : FnOk P w K mg base CX0 3 f3 fd3 ["pattern"] (spLeastShift K C)) (m3 : mg "least_shift" = some (.ref f3)) (k3 : PySem.W.keepIn K (.ref f3) = true) (b3 : Binds K fd3 ["pattern"] [])
    (G4 : FnOk P w K mg base CX0 2 f4 fd4 ["pattern"] (spCountShifts K C)) (m4 : mg "count_shifts" = some (.ref f4)) (k4 : PySem.W.keepIn K (.ref f4) = true) (b4 : Binds K fd4 ["pattern"] []) :
    FnOk P w K mg base CX0 7 f fd ["n", "p"] (spCell K) := by
  refine F.ok scCell (fun vs H Q E h => ?_) (fun cdv A outer s H vs Q E hr h => ?_)
  · obtain ⟨z, a, cs, rfl, _⟩ := h
    rfl
  · obtain ⟨z, a, cs, rfl, hS, hask, k⟩ := h
    have nd := scCell.nd
    obtain ⟨tO, mO⟩ := mO
    have hr1 : Room 1 _ := hr.mono (by decide)
    have hr2 : Room 2 _ := hr.mono (by decide)
    have hr3 : Room 3 _ := hr.mono (by decide)
    refine ⟨_, pss_cons (ps_if (pt_not (pt_val (pe_call G1 hr1 rfl m1 k1 b1 .nil pass0 (pa_cons (pv 0) pa_nil)))) (pss_one (ps_ret (pe_lst (pa_cons (pe_glob (v := .int (-2)) rfl mO ⟨_, rfl⟩) pa_nil)))) pss_nil)
      (pss_cons (ps_set (i := 2) nd rfl (Or.inl rfl) (pe_make M G2 hr rfl T.gC b2 .nil pass0 (pa_cons (pv 0) (pa_cons (pv 1) pa_nil))))
      (pss_cons (ps_asg (pe_call G3 hr3 rfl m3 k3 b3 .nil pass0 (pa_cons (pv 2) pa_nil)) (pg_tup rfl (pgs_cons (pg_name (i := 3) nd rfl (Or.inl rfl)) (pgs_cons (pg_name (i := 4) nd rfl (Or.inl rfl)) (pgs_cons (pg_name (i := 5) nd rfl (Or.inl rfl)) pgs_nil)))))
      (pss_one (ps_ret (pe_lst (pa_cons pe_int (pa_cons (pv 3) (pa_cons (pv 4) (pa_cons (pv 5) (pa_cons (pe_call G4 hr2 rfl m4 k4 b4 .nil pass0 (pa_cons (pv 2) pa_nil)) pa_nil))))))))) ), ?_⟩
    refine ⟨_, rfl, z, rfl, _, rfl, ?_⟩
    by_cases hz : 1 ≤ z ∧ z ≤ 64
    · rw [decide_eq_true hz.1, decide_eq_true hz.2]
      refine iteF ?_
      obtain ⟨n, rfl, h0, h6, hlen, hcV⟩ := square_of (z := z) (cs := cs) hask hz.1 hz.2
      refine ⟨_, rfl, _, rfl, fun x dx nx ndx nex => ?_⟩
      have s0 : Same H (L2.upd (L2.upd H dx (.own x)) x (.ins C dx [])) := Same.upd (Same.new ndx) nx
      refine ⟨x, dx, a, n, Sa48Neutral.nats cs, rfl, upd_same, (by rw [hcV]; exact s0.seq hS), hlen, h0, h6, fun H1 o1 hP => ⟨rfl, ?_⟩⟩
      refine ⟨_, rfl, x, n, _, rfl, hP, fun H2 p e f g s2 n2 ce e2 => ?_⟩
      refine ⟨p, _, rfl, SqT.of e2, rfl, _, _, rfl, _, _, rfl, _, _, rfl, rfl, ?_⟩
      refine ⟨_, rfl, _, rfl, _, rfl, _, rfl, x, n, _, rfl, hP.same s2, fun H3 s3 => ?_⟩
      refine ⟨(by show 5 ≤ sizeLine; decide), fun q hq => k _ q ?_⟩
      rw [upd_same, cell_is rfl rfl h0 (by omega) ce.e0 ce.en ce.he ce.le ce.g0 ce.gn ce.hf ce.hg ce.lf ce.lg]
      rfl
    · have hb : (decide (1 ≤ z) && decide (z ≤ 64)) = false := by
        rw [← Bool.decide_and]
        exact decide_eq_false hz
      rw [hb]
      refine iteT ?_
      refine ⟨(by show 1 ≤ sizeLine; decide), fun q hq => k _ q ?_⟩
      rw [upd_same, cell_out (by omega)]
      rfl
end
end Pl
namespace Pl
open PySem PySem.Spec PyProof.Rows L2
/-! ### the end: what the top has written -/
theorem vals4 {a b c d : Int} {t u v w : Tok} {o : Option Addr} {n : Nat} {sl : Array (Option Value)} {K : PySem.W.Frag} {x : Addr} (h : K.lookup x = some ⟨.type "tuple", o, .seq #[.int a t, .int b u, .int c v, .int d w] n, sl⟩) (H : Hp) : SqT K H x [.int a, .int b, .int c, .int d] :=
  .inr ⟨_, _, _, h, rfl, rfl, (by show 4 ≤ sizeLine; decide), .cons ⟨_, rfl⟩ (.cons ⟨_, rfl⟩ (.cons ⟨_, rfl⟩ (.cons ⟨_, rfl⟩ .nil)))⟩
theorem ways_at {K : PySem.W.Frag} {W w0 w1 w2 w3 w4 w5 w6 w7 : Addr} {o : Option Addr} {n : Nat} {sl : Array (Option Value)} (h : K.lookup W = some ⟨.type "tuple", o, .seq #[.ref w0, .ref w1, .ref w2, .ref w3, .ref w4, .ref w5, .ref w6, .ref w7] n, sl⟩) (H : Hp) :
    SqT K H W ((List.range 8).map fun i => V.ref (([w0, w1, w2, w3, w4, w5, w6, w7] : List Addr).getD i 0)) :=
  .inr ⟨_, _, _, h, rfl, rfl, (by show 8 ≤ sizeLine; decide), .cons rfl (.cons rfl (.cons rfl (.cons rfl (.cons rfl (.cons rfl (.cons rfl (.cons rfl .nil)))))))⟩
theorem ways_in {K : PySem.W.Frag} {w0 w1 w2 w3 w4 w5 w6 w7 : Addr} {ow0 ow1 ow2 ow3 ow4 ow5 ow6 ow7 : Option Addr} {nw0 nw1 nw2 nw3 nw4 nw5 nw6 nw7 : Nat} {sw0 sw1 sw2 sw3 sw4 sw5 sw6 sw7 : Array (Option Value)} {t0_0 t0_1 t0_2 t0_3 t1_0 t1_1 t1_2 t1_3 t2_0 t2_1 t2_2 t2_3 t3_0 t3_1 t3_2 t3_3 t4_0 t4_1 t4_2 t4_3 t5_0 t5_1 t5_2 t5_3 t6_0 t6_1 t6_2 t6_3 t7_0 t7_1 t7_2 t7_3 : Tok}
    (lw0 : K.lookup w0 = some ⟨.type "tuple", ow0, .seq #[.int 1 t0_0, .int 0 t0_1, .int 0 t0_2, .int 1 t0_3] nw0, sw0⟩)
    (lw1 : K.lookup w1 = some ⟨.type "tuple", ow1, .seq #[.int 0 t1_0, .int (-1) t1_1, .int 1 t1_2, .int 0 t1_3] nw1, sw1⟩)
    (lw2 : K.lookup w2 = some ⟨.type "tuple", ow2, .seq #[.int (-1) t2_0, .int 0 t2_1, .int 0 t2_2, .int (-1) t2_3] nw2, sw2⟩)
    (lw3 : K.lookup w3 = some ⟨.type "tuple", ow3, .seq #[.int 0 t3_0, .int 1 t3_1, .int (-1) t3_2, .int 0 t3_3] nw3, sw3⟩)
    (lw4 : K.lookup w4 = some ⟨.type "tuple", ow4, .seq #[.int (-1) t4_0, .int 0 t4_1, .int 0 t4_2, .int 1 t4_3] nw4, sw4⟩)
    (lw5 : K.lookup w5 = some ⟨.type "tuple", ow5, .seq #[.int 1 t5_0, .int 0 t5_1, .int 0 t5_2, .int (-1) t5_3] nw5, sw5⟩)
    (lw6 : K.lookup w6 = some ⟨.type "tuple", ow6, .seq #[.int 0 t6_0, .int 1 t6_1, .int 1 t6_2, .int 0 t6_3] nw6, sw6⟩)
    (lw7 : K.lookup w7 = some ⟨.type "tuple", ow7, .seq #[.int 0 t7_0, .int (-1) t7_1, .int (-1) t7_2, .int 0 t7_3] nw7, sw7⟩)
    (H : Hp) (i : Nat) (hi : i < 8) : SqT K H (([w0, w1, w2, w3, w4, w5, w6, w7] : List Addr).getD i 0) (wayV i) := by
  have q : i = 0 ∨ i = 1 ∨ i = 2 ∨ i = 3 ∨ i = 4 ∨ i = 5 ∨ i = 6 ∨ i = 7 := by omega
  rcases q with rfl | rfl | rfl | rfl | rfl | rfl | rfl | rfl
  · exact vals4 lw0 H
  · exact vals4 lw1 H
  · exact vals4 lw2 H
  · exact vals4 lw3 H
  · exact vals4 lw4 H
  · exact vals4 lw5 H
  · exact vals4 lw6 H
  · exact vals4 lw7 H
theorem all_mk {P : Program} {w : World} {K : PySem.W.Frag} {h : Heap} {mg : Str → Option Value} {fa C W w0 w1 w2 w3 w4 w5 w6 w7 f_turned f_moved f_number_in f_image f_movements f___init__ f_leaves f_has f_symmetries f_row_shift f_least_shift f_count_shifts f_is_side f_cell : Addr} (X : K.In h) (G : h.Ns mainGlobals mg) (hfa : mg "cell" = some (.ref fa))
    {odW ow0 ow1 ow2 ow3 ow4 ow5 ow6 ow7 od_turned an_turned od_moved an_moved od_number_in an_number_in od_image an_image od_movements an_movements od___init__ an___init__ od_leaves an_leaves od_has an_has od_symmetries an_symmetries od_row_shift an_row_shift od_least_shift an_least_shift od_count_shifts an_count_shifts od_is_side an_is_side od_cell an_cell : Option Addr} {slW sw0 sw1 sw2 sw3 sw4 sw5 sw6 sw7 sl_turned sl_moved sl_number_in sl_image sl_movements sl___init__ sl_leaves sl_has sl_symmetries sl_row_shift sl_least_shift sl_count_shifts sl_is_side sl_cell : Array (Option Value)} {nW nw0 nw1 nw2 nw3 nw4 nw5 nw6 nw7 : Nat} {t0_0 t0_1 t0_2 t0_3 t1_0 t1_1 t1_2 t1_3 t2_0 t2_1 t2_2 t2_3 t3_0 t3_1 t3_2 t3_3 t4_0 t4_1 t4_2 t4_3 t5_0 t5_1 t5_2 t5_3 t6_0 t6_1 t6_2 t6_3 t7_0 t7_1 t7_2 t7_3 t_MANY t_MOST_SIDE t_OUT : Tok}
    {oc_turned kV_turned dc_turned pm_turned cd_turned ct_turned oc_moved kV_moved dc_moved pm_moved cd_moved ct_moved oc_number_in kV_number_in dc_number_in pm_number_in cd_number_in ct_number_in oc_image kV_image dc_image pm_image cd_image ct_image oc_movements kV_movements dc_movements pm_movements cd_movements ct_movements oc___init__ kV___init__ dc___init__ pm___init__ cd___init__ ct___init__ oc_leaves kV_leaves dc_leaves pm_leaves cd_leaves ct_leaves oc_has kV_has dc_has pm_has cd_has ct_has oc_symmetries kV_symmetries dc_symmetries pm_symmetries cd_symmetries ct_symmetries oc_row_shift kV_row_shift dc_row_shift pm_row_shift cd_row_shift ct_row_shift oc_least_shift kV_least_shift dc_least_shift pm_least_shift cd_least_shift ct_least_shift oc_count_shifts kV_count_shifts dc_count_shifts pm_count_shifts cd_count_shifts ct_count_shifts oc_is_side kV_is_side dc_is_side pm_is_side cd_is_side ct_is_side oc_cell kV_cell dc_cell pm_cell cd_cell ct_cell : Value}
    (aPattern : PySem.W.nsIn K mainGlobals "Pattern" = some (some (.ref C)))
    (aWAYS : PySem.W.nsIn K mainGlobals "WAYS" = some (some (.ref W)))
    (lW : K.lookup W = some ⟨.type "tuple", odW, .seq #[.ref w0, .ref w1, .ref w2, .ref w3, .ref w4, .ref w5, .ref w6, .ref w7] nW, slW⟩)
    (lw0 : K.lookup w0 = some ⟨.type "tuple", ow0, .seq #[.int 1 t0_0, .int 0 t0_1, .int 0 t0_2, .int 1 t0_3] nw0, sw0⟩)
    (lw1 : K.lookup w1 = some ⟨.type "tuple", ow1, .seq #[.int 0 t1_0, .int (-1) t1_1, .int 1 t1_2, .int 0 t1_3] nw1, sw1⟩)
    (lw2 : K.lookup w2 = some ⟨.type "tuple", ow2, .seq #[.int (-1) t2_0, .int 0 t2_1, .int 0 t2_2, .int (-1) t2_3] nw2, sw2⟩)
    (lw3 : K.lookup w3 = some ⟨.type "tuple", ow3, .seq #[.int 0 t3_0, .int 1 t3_1, .int (-1) t3_2, .int 0 t3_3] nw3, sw3⟩)
    (lw4 : K.lookup w4 = some ⟨.type "tuple", ow4, .seq #[.int (-1) t4_0, .int 0 t4_1, .int 0 t4_2, .int 1 t4_3] nw4, sw4⟩)
    (lw5 : K.lookup w5 = some ⟨.type "tuple", ow5, .seq #[.int 1 t5_0, .int 0 t5_1, .int 0 t5_2, .int (-1) t5_3] nw5, sw5⟩)
    (lw6 : K.lookup w6 = some ⟨.type "tuple", ow6, .seq #[.int 0 t6_0, .int 1 t6_1, .int 1 t6_2, .int 0 t6_3] nw6, sw6⟩)
    (lw7 : K.lookup w7 = some ⟨.type "tuple", ow7, .seq #[.int 0 t7_0, .int (-1) t7_1, .int (-1) t7_2, .int 0 t7_3] nw7, sw7⟩)
    (a_turned : PySem.W.nsIn K mainGlobals "turned" = some (some (.ref f_turned)))
    (l_turned : K.lookup f_turned = some ⟨oc_turned, od_turned, .func (PySem.W.fnOf "turned" "turned" (defArgs sTurned) (defBody sTurned) (defScope sTurned) .none kV_turned dc_turned pm_turned an_turned cd_turned ct_turned), sl_turned⟩)
    (c_turned : PySem.W.codeIn K cd_turned "turned" = true)
    (k_turned : PySem.W.keepIn K (.ref f_turned) = true)
    (a_moved : PySem.W.nsIn K mainGlobals "moved" = some (some (.ref f_moved)))
    (l_moved : K.lookup f_moved = some ⟨oc_moved, od_moved, .func (PySem.W.fnOf "moved" "moved" (defArgs sMoved) (defBody sMoved) (defScope sMoved) .none kV_moved dc_moved pm_moved an_moved cd_moved ct_moved), sl_moved⟩)
    (c_moved : PySem.W.codeIn K cd_moved "moved" = true)
    (k_moved : PySem.W.keepIn K (.ref f_moved) = true)
    (a_number_in : PySem.W.nsIn K mainGlobals "number_in" = some (some (.ref f_number_in)))
    (l_number_in : K.lookup f_number_in = some ⟨oc_number_in, od_number_in, .func (PySem.W.fnOf "number_in" "number_in" (defArgs sNum) (defBody sNum) (defScope sNum) .none kV_number_in dc_number_in pm_number_in an_number_in cd_number_in ct_number_in), sl_number_in⟩)
    (c_number_in : PySem.W.codeIn K cd_number_in "number_in" = true)
    (k_number_in : PySem.W.keepIn K (.ref f_number_in) = true)
    (a_image : PySem.W.nsIn K mainGlobals "image" = some (some (.ref f_image)))
    (l_image : K.lookup f_image = some ⟨oc_image, od_image, .func (PySem.W.fnOf "image" "image" (defArgs sImage) (defBody sImage) (defScope sImage) .none kV_image dc_image pm_image an_image cd_image ct_image), sl_image⟩)
    (c_image : PySem.W.codeIn K cd_image "image" = true)
    (k_image : PySem.W.keepIn K (.ref f_image) = true)
    (a_movements : PySem.W.nsIn K mainGlobals "movements" = some (some (.ref f_movements)))
    (l_movements : K.lookup f_movements = some ⟨oc_movements, od_movements, .func (PySem.W.fnOf "movements" "movements" (defArgs sMvs) (defBody sMvs) (defScope sMvs) .none kV_movements dc_movements pm_movements an_movements cd_movements ct_movements), sl_movements⟩)
    (c_movements : PySem.W.codeIn K cd_movements "movements" = true)
    (k_movements : PySem.W.keepIn K (.ref f_movements) = true)
    (a___init__ : PySem.W.findIn K (.ref C) "__init__" = some (some (.ref f___init__)))
    (i___init__ : PySem.W.isFn K (.ref f___init__) = true)
    (l___init__ : K.lookup f___init__ = some ⟨oc___init__, od___init__, .func (PySem.W.fnOf "__init__" "Pattern.__init__" (defArgs sInit) (defBody sInit) (defScope sInit) .none kV___init__ dc___init__ pm___init__ an___init__ cd___init__ ct___init__), sl___init__⟩)
    (c___init__ : PySem.W.codeIn K cd___init__ "Pattern.__init__" = true)
    (k___init__ : PySem.W.keepIn K (.ref f___init__) = true)
    (a_leaves : PySem.W.findIn K (.ref C) "leaves" = some (some (.ref f_leaves)))
    (i_leaves : PySem.W.isFn K (.ref f_leaves) = true)
    (l_leaves : K.lookup f_leaves = some ⟨oc_leaves, od_leaves, .func (PySem.W.fnOf "leaves" "Pattern.leaves" (defArgs sLeaves) (defBody sLeaves) (defScope sLeaves) .none kV_leaves dc_leaves pm_leaves an_leaves cd_leaves ct_leaves), sl_leaves⟩)
    (c_leaves : PySem.W.codeIn K cd_leaves "Pattern.leaves" = true)
    (k_leaves : PySem.W.keepIn K (.ref f_leaves) = true)
    (a_has : PySem.W.findIn K (.ref C) "has" = some (some (.ref f_has)))
    (i_has : PySem.W.isFn K (.ref f_has) = true)
    (l_has : K.lookup f_has = some ⟨oc_has, od_has, .func (PySem.W.fnOf "has" "Pattern.has" (defArgs sHas) (defBody sHas) (defScope sHas) .none kV_has dc_has pm_has an_has cd_has ct_has), sl_has⟩)
    (c_has : PySem.W.codeIn K cd_has "Pattern.has" = true)
    (k_has : PySem.W.keepIn K (.ref f_has) = true)
    (a_symmetries : PySem.W.findIn K (.ref C) "symmetries" = some (some (.ref f_symmetries)))
    (i_symmetries : PySem.W.isFn K (.ref f_symmetries) = true)
    (l_symmetries : K.lookup f_symmetries = some ⟨oc_symmetries, od_symmetries, .func (PySem.W.fnOf "symmetries" "Pattern.symmetries" (defArgs sSyms) (defBody sSyms) (defScope sSyms) .none kV_symmetries dc_symmetries pm_symmetries an_symmetries cd_symmetries ct_symmetries), sl_symmetries⟩)
    (c_symmetries : PySem.W.codeIn K cd_symmetries "Pattern.symmetries" = true)
    (k_symmetries : PySem.W.keepIn K (.ref f_symmetries) = true)
    (a_row_shift : PySem.W.nsIn K mainGlobals "row_shift" = some (some (.ref f_row_shift)))
    (l_row_shift : K.lookup f_row_shift = some ⟨oc_row_shift, od_row_shift, .func (PySem.W.fnOf "row_shift" "row_shift" (defArgs sRowShift) (defBody sRowShift) (defScope sRowShift) .none kV_row_shift dc_row_shift pm_row_shift an_row_shift cd_row_shift ct_row_shift), sl_row_shift⟩)
    (c_row_shift : PySem.W.codeIn K cd_row_shift "row_shift" = true)
    (k_row_shift : PySem.W.keepIn K (.ref f_row_shift) = true)
    (a_least_shift : PySem.W.nsIn K mainGlobals "least_shift" = some (some (.ref f_least_shift)))
    (l_least_shift : K.lookup f_least_shift = some ⟨oc_least_shift, od_least_shift, .func (PySem.W.fnOf "least_shift" "least_shift" (defArgs sLeastShift) (defBody sLeastShift) (defScope sLeastShift) .none kV_least_shift dc_least_shift pm_least_shift an_least_shift cd_least_shift ct_least_shift), sl_least_shift⟩)
    (c_least_shift : PySem.W.codeIn K cd_least_shift "least_shift" = true)
    (k_least_shift : PySem.W.keepIn K (.ref f_least_shift) = true)
    (a_count_shifts : PySem.W.nsIn K mainGlobals "count_shifts" = some (some (.ref f_count_shifts)))
    (l_count_shifts : K.lookup f_count_shifts = some ⟨oc_count_shifts, od_count_shifts, .func (PySem.W.fnOf "count_shifts" "count_shifts" (defArgs sCountShifts) (defBody sCountShifts) (defScope sCountShifts) .none kV_count_shifts dc_count_shifts pm_count_shifts an_count_shifts cd_count_shifts ct_count_shifts), sl_count_shifts⟩)
    (c_count_shifts : PySem.W.codeIn K cd_count_shifts "count_shifts" = true)
    (k_count_shifts : PySem.W.keepIn K (.ref f_count_shifts) = true)
    (a_is_side : PySem.W.nsIn K mainGlobals "is_side" = some (some (.ref f_is_side)))
    (l_is_side : K.lookup f_is_side = some ⟨oc_is_side, od_is_side, .func (PySem.W.fnOf "is_side" "is_side" (defArgs sIsSide) (defBody sIsSide) (defScope sIsSide) .none kV_is_side dc_is_side pm_is_side an_is_side cd_is_side ct_is_side), sl_is_side⟩)
    (c_is_side : PySem.W.codeIn K cd_is_side "is_side" = true)
    (k_is_side : PySem.W.keepIn K (.ref f_is_side) = true)
    (a_cell : PySem.W.nsIn K mainGlobals "cell" = some (some (.ref f_cell)))
    (l_cell : K.lookup f_cell = some ⟨oc_cell, od_cell, .func (PySem.W.fnOf "cell" "cell" (defArgs sCell) (defBody sCell) (defScope sCell) .none kV_cell dc_cell pm_cell an_cell cd_cell ct_cell), sl_cell⟩)
    (c_cell : PySem.W.codeIn K cd_cell "cell" = true)
    (k_cell : PySem.W.keepIn K (.ref f_cell) = true)
    (pg : PySem.W.plainGet K C Str.empty = true)
    (hd : PySem.W.hasDictIn K C = true)
    (po : PySem.W.plainOver K C = true)
    (sa : PySem.W.findIn K (.ref C) "__setattr__" = some (some (.builtin "object.__setattr__")))
    (mk : PySem.W.makesIn K C = true)
    (kc : PySem.W.keepIn K (.ref C) = true)
    (nN : PySem.W.findIn K (.ref C) "n" = some none)
    (nC : PySem.W.findIn K (.ref C) "colours" = some none)
    (nK : PySem.W.findIn K (.ref C) "known" = some none)
    (n_range : PySem.W.nsIn K mainGlobals "range" = some none)
    (n_enumerate : PySem.W.nsIn K mainGlobals "enumerate" = some none)
    (n_list : PySem.W.nsIn K mainGlobals "list" = some none)
    (n_len : PySem.W.nsIn K mainGlobals "len" = some none)
    (v_MANY : PySem.W.nsIn K mainGlobals "MANY" = some (some (.int 8 t_MANY)))
    (v_MOST_SIDE : PySem.W.nsIn K mainGlobals "MOST_SIDE" = some (some (.int 64 t_MOST_SIDE)))
    (v_OUT : PySem.W.nsIn K mainGlobals "OUT" = some (some (.int (-2) t_OUT)))
    : ∃ fd : FuncData, (∀ (s : Shared) (us : List Value), us.length = (["n", "p"] : List Str).length → BindsTo s fd ⟨us, []⟩ ((["n", "p"] : List Str).zip us)) ∧ ∀ base : Heap, K.In base → base.Ns mainGlobals mg → FnOk P w K mg base CX0 7 fa fd ["n", "p"] (spCell K) := by
  have e := hfa.symm.trans (PySem.W.mg_of X G a_cell)
  cases e
  have g_Pattern := PySem.W.mg_of X G aPattern
  have g_WAYS := PySem.W.mg_of X G aWAYS
  have F_turned := fun_mk (st := sTurned) l_turned c_turned k_turned
  have g_turned := PySem.W.mg_of X G a_turned
  have b_turned := F_turned.binds (ps := ["way", "x", "y"]) fun _ _ _ _ _ _ us hl => match us, hl with | [_, _, _], _ => rfl
  have F_moved := fun_mk (st := sMoved) l_moved c_moved k_moved
  have g_moved := PySem.W.mg_of X G a_moved
  have b_moved := F_moved.binds (ps := ["movement", "x", "y"]) fun _ _ _ _ _ _ us hl => match us, hl with | [_, _, _], _ => rfl
  have F_number_in := fun_mk (st := sNum) l_number_in c_number_in k_number_in
  have g_number_in := PySem.W.mg_of X G a_number_in
  have b_number_in := F_number_in.binds (ps := ["n", "x", "y"]) fun _ _ _ _ _ _ us hl => match us, hl with | [_, _, _], _ => rfl
  have F_image := fun_mk (st := sImage) l_image c_image k_image
  have g_image := PySem.W.mg_of X G a_image
  have b_image := F_image.binds (ps := ["n", "movement"]) fun _ _ _ _ _ _ us hl => match us, hl with | [_, _], _ => rfl
  have F_movements := fun_mk (st := sMvs) l_movements c_movements k_movements
  have g_movements := PySem.W.mg_of X G a_movements
  have b_movements := F_movements.binds (ps := ["n", "ways"]) fun _ _ _ _ _ _ us hl => match us, hl with | [_, _], _ => rfl
  have F___init__ := fun_mk (st := sInit) l___init__ c___init__ k___init__
  have M___init__ : Meth K C "__init__" f___init__ := ⟨a___init__, i___init__, k___init__⟩
  have b___init__ := F___init__.binds (ps := ["self", "n", "colours"]) fun _ _ _ _ _ _ us hl => match us, hl with | [_, _, _], _ => rfl
  have F_leaves := fun_mk (st := sLeaves) l_leaves c_leaves k_leaves
  have M_leaves : Meth K C "leaves" f_leaves := ⟨a_leaves, i_leaves, k_leaves⟩
  have b_leaves := F_leaves.binds (ps := ["self", "movement"]) fun _ _ _ _ _ _ us hl => match us, hl with | [_, _], _ => rfl
  have F_has := fun_mk (st := sHas) l_has c_has k_has
  have M_has : Meth K C "has" f_has := ⟨a_has, i_has, k_has⟩
  have b_has := F_has.binds (ps := ["self", "way", "a", "b"]) fun _ _ _ _ _ _ us hl => match us, hl with | [_, _, _, _], _ => rfl
  have F_symmetries := fun_mk (st := sSyms) l_symmetries c_symmetries k_symmetries
  have M_symmetries : Meth K C "symmetries" f_symmetries := ⟨a_symmetries, i_symmetries, k_symmetries⟩
  have b_symmetries := F_symmetries.binds (ps := ["self"]) fun _ _ _ _ _ _ us hl => match us, hl with | [_], _ => rfl
  have F_row_shift := fun_mk (st := sRowShift) l_row_shift c_row_shift k_row_shift
  have g_row_shift := PySem.W.mg_of X G a_row_shift
  have b_row_shift := F_row_shift.binds (ps := ["pattern", "e", "g"]) fun _ _ _ _ _ _ us hl => match us, hl with | [_, _, _], _ => rfl
  have F_least_shift := fun_mk (st := sLeastShift) l_least_shift c_least_shift k_least_shift
  have g_least_shift := PySem.W.mg_of X G a_least_shift
  have b_least_shift := F_least_shift.binds (ps := ["pattern"]) fun _ _ _ _ _ _ us hl => match us, hl with | [_], _ => rfl
  have F_count_shifts := fun_mk (st := sCountShifts) l_count_shifts c_count_shifts k_count_shifts
  have g_count_shifts := PySem.W.mg_of X G a_count_shifts
  have b_count_shifts := F_count_shifts.binds (ps := ["pattern"]) fun _ _ _ _ _ _ us hl => match us, hl with | [_], _ => rfl
  have F_is_side := fun_mk (st := sIsSide) l_is_side c_is_side k_is_side
  have g_is_side := PySem.W.mg_of X G a_is_side
  have b_is_side := F_is_side.binds (ps := ["n"]) fun _ _ _ _ _ _ us hl => match us, hl with | [_], _ => rfl
  have F_cell := fun_mk (st := sCell) l_cell c_cell k_cell
  have g_cell := PySem.W.mg_of X G a_cell
  have b_cell := F_cell.binds (ps := ["n", "p"]) fun _ _ _ _ _ _ us hl => match us, hl with | [_, _], _ => rfl
  have z_range := PySem.W.mg_none_of X G n_range
  have z_enumerate := PySem.W.mg_none_of X G n_enumerate
  have z_list := PySem.W.mg_none_of X G n_list
  have z_len := PySem.W.mg_none_of X G n_len
  have g_MANY := PySem.W.mg_of X G v_MANY
  have g_MOST_SIDE := PySem.W.mg_of X G v_MOST_SIDE
  have g_OUT := PySem.W.mg_of X G v_OUT
  refine ⟨PySem.W.fnOf "cell" "cell" (defArgs sCell) (defBody sCell) (defScope sCell) .none kV_cell dc_cell pm_cell an_cell cd_cell ct_cell, fun s us hu => match us, hu with | [_, _], _ => .of_eq rfl, fun base _ _ => ?_⟩
  let ws : List Addr := [w0, w1, w2, w3, w4, w5, w6, w7]
  have TW : TxW K mg W (fun i => ws.getD i 0) := ⟨g_WAYS, ways_at lW, ways_in lw0 lw1 lw2 lw3 lw4 lw5 lw6 lw7, z_range⟩
  have Gturned : FnOk P w K mg base CX0 1 f_turned _ ["way", "x", "y"] spTurned := ok_turned F_turned TW
  have Gmoved : FnOk P w K mg base CX0 2 f_moved _ ["movement", "x", "y"] (spMoved K) := ok_moved F_moved Gturned g_turned F_turned.kp b_turned
  have Gnum : FnOk P w K mg base CX0 1 f_number_in _ ["n", "x", "y"] spNum := ok_num F_number_in
  have Gimage : FnOk P w K mg base CX0 3 f_image _ ["n", "movement"] (spImage K) := ok_image F_image TW Gmoved g_moved F_moved.kp b_moved Gnum g_number_in F_number_in.kp b_number_in
  have Gmvs : FnOk P w K mg base CX0 1 f_movements _ ["n", "ways"] (spMvs K) := ok_mvs F_movements TW
  have T : TxC K mg C := ⟨⟨pg, hd, po, sa⟩, nN, nC, nK, g_Pattern, z_enumerate, z_list, ⟨_, g_MANY⟩⟩
  have Gleaves : FnOk P w K mg base CX0 4 f_leaves _ ["self", "movement"] (spLeaves K C) := ok_leaves F_leaves T Gimage g_image F_image.kp b_image
  have Ghas : FnOk P w K mg base CX0 1 f_has _ ["self", "way", "a", "b"] (spHas K C) := ok_has F_has T
  have Gsyms : FnOk P w K mg base CX0 1 f_symmetries _ ["self"] (spSyms K C) := ok_syms F_symmetries T
  have Ginit : FnOk P w K mg base CX0 5 f___init__ _ ["self", "n", "colours"] (spInit K C) := ok_init F___init__ T TW Gmvs g_movements F_movements.kp b_movements Gleaves M_leaves b_leaves
  have Mk0 : Mk K C f___init__ := ⟨mk, a___init__, i___init__, kc⟩
  have Grow : FnOk P w K mg base CX0 2 f_row_shift _ ["pattern", "e", "g"] (spRow K C) := ok_row F_row_shift TW T Ghas M_has b_has
  have Gls : FnOk P w K mg base CX0 3 f_least_shift _ ["pattern"] (spLeastShift K C) := ok_leastShift F_least_shift T Ghas M_has b_has Grow g_row_shift F_row_shift.kp b_row_shift
  have Gcs : FnOk P w K mg base CX0 2 f_count_shifts _ ["pattern"] (spCountShifts K C) := ok_countShifts F_count_shifts T z_len Gsyms M_symmetries b_symmetries
  have Gside : FnOk P w K mg base CX0 1 f_is_side _ ["n"] spSide := ok_side F_is_side ⟨_, g_MOST_SIDE⟩
  exact ok_cell F_cell T ⟨_, g_OUT⟩ Gside g_is_side F_is_side.kp b_is_side Mk0 Ginit b___init__ Gls g_least_shift F_least_shift.kp b_least_shift Gcs g_count_shifts F_count_shifts.kp b_count_shifts
end Pl
open PySem PySem.W PyProof.Rows
set_option maxRecDepth 100000 in
set_option maxHeartbeats 8000000 in
theorem PySem.Challenge.cw_planerepeats_s01_cell_holds : PySem.Challenge.rw_planerepeats_s01_cell.Holds := by
  w_on; k_headS; (case hw => exact ⟨[.int 0, .list []], by decide +kernel, by decide +kernel⟩)
  k_fillS
  refine L2.walk_specK (r := PySem.Challenge.rw_planerepeats_s01_cell) (k := 7) (CX := L2.CX0) (ps := ["n", "p"]) (sp := Pl.spCell) (by decide +kernel) rfl rfl ⟨rfl, by decide, by decide⟩ (fun w h Y => PySem.W.kIn_of Y) ?F ?S (fun _ _ _ _ z => z)
  case F =>
    intro w mg fa h Y KX G hmg
    refine' Pl.all_mk KX G hmg ?aPattern ?aWAYS ?lW ?lw0 ?lw1 ?lw2 ?lw3 ?lw4 ?lw5 ?lw6 ?lw7 ?a_turned ?l_turned ?c_turned ?k_turned ?a_moved ?l_moved ?c_moved ?k_moved ?a_number_in ?l_number_in ?c_number_in ?k_number_in ?a_image ?l_image ?c_image ?k_image ?a_movements ?l_movements ?c_movements ?k_movements ?a___init__ ?i___init__ ?l___init__ ?c___init__ ?k___init__ ?a_leaves ?i_leaves ?l_leaves ?c_leaves ?k_leaves ?a_has ?i_has ?l_has ?c_has ?k_has ?a_symmetries ?i_symmetries ?l_symmetries ?c_symmetries ?k_symmetries ?a_row_shift ?l_row_shift ?c_row_shift ?k_row_shift ?a_least_shift ?l_least_shift ?c_least_shift ?k_least_shift ?a_count_shifts ?l_count_shifts ?c_count_shifts ?k_count_shifts ?a_is_side ?l_is_side ?c_is_side ?k_is_side ?a_cell ?l_cell ?c_cell ?k_cell ?pg ?hd ?po ?sa ?mk ?kc ?nN ?nC ?nK ?n_range ?n_enumerate ?n_list ?n_len ?v_MANY ?v_MOST_SIDE ?v_OUT
    (case aPattern => k_is)
    (case aWAYS => k_is)
    (case lW => k_is)
    (case lw0 => k_is)
    (case lw1 => k_is)
    (case lw2 => k_is)
    (case lw3 => k_is)
    (case lw4 => k_is)
    (case lw5 => k_is)
    (case lw6 => k_is)
    (case lw7 => k_is)
    (case a_turned => k_is)
    (case l_turned => k_is)
    (case c_turned => k_is)
    (case k_turned => k_is)
    (case a_moved => k_is)
    (case l_moved => k_is)
    (case c_moved => k_is)
    (case k_moved => k_is)
    (case a_number_in => k_is)
    (case l_number_in => k_is)
    (case c_number_in => k_is)
    (case k_number_in => k_is)
    (case a_image => k_is)
    (case l_image => k_is)
    (case c_image => k_is)
    (case k_image => k_is)
    (case a_movements => k_is)
    (case l_movements => k_is)
    (case c_movements => k_is)
    (case k_movements => k_is)
    (case a___init__ => k_is)
    (case i___init__ => k_is)
    (case l___init__ => k_is)
    (case c___init__ => k_is)
    (case k___init__ => k_is)
    (case a_leaves => k_is)
    (case i_leaves => k_is)
    (case l_leaves => k_is)
    (case c_leaves => k_is)
    (case k_leaves => k_is)
    (case a_has => k_is)
    (case i_has => k_is)
    (case l_has => k_is)
    (case c_has => k_is)
    (case k_has => k_is)
    (case a_symmetries => k_is)
    (case i_symmetries => k_is)
    (case l_symmetries => k_is)
    (case c_symmetries => k_is)
    (case k_symmetries => k_is)
    (case a_row_shift => k_is)
    (case l_row_shift => k_is)
    (case c_row_shift => k_is)
    (case k_row_shift => k_is)
    (case a_least_shift => k_is)
    (case l_least_shift => k_is)
    (case c_least_shift => k_is)
    (case k_least_shift => k_is)
    (case a_count_shifts => k_is)
    (case l_count_shifts => k_is)
    (case c_count_shifts => k_is)
    (case k_count_shifts => k_is)
    (case a_is_side => k_is)
    (case l_is_side => k_is)
    (case c_is_side => k_is)
    (case k_is_side => k_is)
    (case a_cell => k_is)
    (case l_cell => k_is)
    (case c_cell => k_is)
    (case k_cell => k_is)
    (case pg => k_is)
    (case hd => k_is)
    (case po => k_is)
    (case sa => k_is)
    (case mk => k_is)
    (case kc => k_is)
    (case nN => k_is)
    (case nC => k_is)
    (case nK => k_is)
    (case n_range => k_is)
    (case n_enumerate => k_is)
    (case n_list => k_is)
    (case n_len => k_is)
    (case v_MANY => k_is)
    (case v_MOST_SIDE => k_is)
    (case v_OUT => k_is)
  case S =>
    intro K H xs a hO hwi hask hx
    obtain ⟨z, cs, u⟩ := a
    cases hx with
    | cons h1 h2 =>
      cases h2 with
      | cons h2 h3 =>
        cases h3
        cases h1
        cases h2 with
        | lst hs ha =>
          have e := L2.ints_dw cs _ ha
          subst e
          exact ⟨z, _, cs, rfl, hs, hask, fun H' p hp => .lst (L2.SqL.of hp) (L2.dw_ints _)⟩
#print axioms PySem.Challenge.cw_planerepeats_s01_cell_holds
