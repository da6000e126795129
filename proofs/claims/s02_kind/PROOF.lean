import PyProof.Rows.All
import Wide.All
import OpenK.AllK
import Wide.FinOn
import Open.SpecLaws
import KE.OsGo
import HandS.ForSpec
import HandS.Comp
import HandS.Dict
import HandS.Iter
import HandS.Conv
import HandS.WordsDict
import HandS.Walk
import PySem.Challenge.RW_planerepeats_s02_kind
set_option Elab.async false
set_option maxRecDepth 100000
set_option maxHeartbeats 4000000
/-! ### the text by places -/
namespace Pl
open PySem PySem.Spec PyProof.Rows L2
def top (i : Nat) : Stmt := PySem.Challenge.pw_planerepeats_s02_kind.main.body.getD i (.Pass ⟨0, 0, 0, 0⟩)
abbrev sTurned : Stmt := top 5
abbrev sMoved : Stmt := top 6
abbrev sNum : Stmt := top 7
abbrev sImage : Stmt := top 8
abbrev sMvs : Stmt := top 9
abbrev sInit : Stmt := inClass (top 10) 0
abbrev sLeaves : Stmt := inClass (top 10) 1
abbrev sHas : Stmt := inClass (top 10) 2
abbrev sSyms : Stmt := inClass (top 10) 3
abbrev sHasWay : Stmt := inClass (top 10) 4
abbrev sMirrorShift : Stmt := top 14
abbrev sHasMirror : Stmt := top 15
abbrev sOn : Stmt := top 16
abbrev sAre : Stmt := top 17
abbrev sMeets : Stmt := top 18
abbrev sTurns : Stmt := top 19
abbrev sCounts : Stmt := top 20
abbrev sKwt : Stmt := top 21
abbrev sKh : Stmt := top 22
abbrev sKindOf : Stmt := top 23
abbrev sIsSide : Stmt := top 27
abbrev sKind : Stmt := top 28
end Pl
namespace Pl
open Sa48 Sa48Neutral
/-! ### places by their numbers -/
/-- the number of a place of the square, for any place -/
def num (n : Nat) (x y : Int) : Nat := (y % (n : Int)).toNat * n + (x % (n : Int)).toNat
/-- the number of the place to which a movement takes the place numbered k -/
def pl (n a : Nat) (u v : Int) (k : Nat) : Nat := num n ((turned a ((k % n : Nat) : Int) ((k / n : Nat) : Int)).1 + u) ((turned a ((k % n : Nat) : Int) ((k / n : Nat) : Int)).2 + v)
theorem place_pl (p : Pat) (a : Nat) (u v : Int) (k : Nat) : place p a u v k = pl p.n a u v k := rfl
theorem at_num (p : Pat) (x y : Int) : p.at_ x y = p.c.getD (num p.n x y) 0 := rfl
theorem num_lt {n : Nat} (hn : 0 < n) (x y : Int) : num n x y < n * n := by
  have h1 := Int.emod_nonneg x (show (n : Int) ≠ 0 by omega)
  have h2 := Int.emod_lt_of_pos x (show (0 : Int) < n by omega)
  have h3 := Int.emod_nonneg y (show (n : Int) ≠ 0 by omega)
  have h4 := Int.emod_lt_of_pos y (show (0 : Int) < n by omega)
  have hx : (x % (n : Int)).toNat < n := by omega
  have hy : (y % (n : Int)).toNat + 1 ≤ n := by omega
  have hm := Nat.mul_le_mul_right n hy
  rw [Nat.add_mul, Nat.one_mul] at hm
  unfold num
  omega
theorem pl_lt {n : Nat} (hn : 0 < n) (a : Nat) (u v : Int) (k : Nat) : pl n a u v k < n * n := num_lt hn _ _
theorem num_nat {n x y : Nat} (hx : x < n) (hy : y < n) : num n (x : Int) (y : Int) = y * n + x := by
  unfold num
  rw [Int.emod_eq_of_lt (by omega) (by omega), Int.emod_eq_of_lt (by omega) (by omega)]
  rfl
theorem num_self {n k : Nat} (hk : k < n * n) : num n ((k % n : Nat) : Int) ((k / n : Nat) : Int) = k := by
  have hn : 0 < n := by
    rcases Nat.eq_zero_or_pos n with h | h
    · subst h; simp at hk
    · exact h
  rw [num_nat (Nat.mod_lt _ hn) (Nat.div_lt_of_lt_mul hk), Nat.mul_comm]
  exact Nat.div_add_mod k n
theorem num_mod (n : Nat) (x y x' y' : Int) (h1 : x % (n : Int) = x' % (n : Int)) (h2 : y % (n : Int) = y' % (n : Int)) : num n x y = num n x' y' := by
  unfold num
  rw [h1, h2]
theorem pl_congr (n a : Nat) (u v u' v' : Int) (k : Nat) (h1 : u % (n : Int) = u' % (n : Int)) (h2 : v % (n : Int) = v' % (n : Int)) : pl n a u v k = pl n a u' v' k := by
  unfold pl
  refine num_mod n _ _ _ _ ?_ ?_
  · rw [Int.add_emod, h1, ← Int.add_emod]
  · rw [Int.add_emod, h2, ← Int.add_emod]
theorem pl_mod (n a : Nat) (u v : Int) (k : Nat) : pl n a (u % (n : Int)) (v % (n : Int)) k = pl n a u v k :=
  pl_congr n a _ _ _ _ k (Int.emod_emod_of_dvd _ (Int.dvd_refl _)) (Int.emod_emod_of_dvd _ (Int.dvd_refl _))
/-! ### symmetries by numbers -/
theorem mem_rg {n : Nat} {z : Int} : z ∈ rg n ↔ ∃ i : Nat, i < n ∧ z = (i : Int) := by
  unfold rg
  rw [List.mem_map]
  constructor
  · rintro ⟨i, h, rfl⟩
    exact ⟨i, List.mem_range.mp h, rfl⟩
  · rintro ⟨i, h, rfl⟩
    exact ⟨i, List.mem_range.mpr h, rfl⟩
/-- each place and where it's taken have one colour, by numbers -/
def symL (c : List Nat) (n a : Nat) (u v : Int) : Bool := (List.range (n * n)).all fun k => c.getD (pl n a u v k) 0 == c.getD k 0
theorem symL_iff {c : List Nat} {n a : Nat} {u v : Int} : symL c n a u v = true ↔ ∀ k, k < n * n → c.getD (pl n a u v k) 0 = c.getD k 0 := by
  unfold symL
  rw [List.all_eq_true]
  constructor
  · intro h k hk
    exact eq_of_beq (h k (List.mem_range.mpr hk))
  · intro h k hk
    exact beq_iff_eq.mpr (h k (List.mem_range.mp hk))
theorem sym_iff {p : Pat} {a : Nat} {u v : Int} : sym p a u v = true ↔ ∀ x y : Nat, x < p.n → y < p.n → p.at_ ((turned a x y).1 + u) ((turned a x y).2 + v) = p.at_ x y := by
  unfold sym
  rw [List.all_eq_true]
  constructor
  · intro h x y hx hy
    have q := List.all_eq_true.mp (h x (mem_rg.mpr ⟨x, hx, rfl⟩)) y (mem_rg.mpr ⟨y, hy, rfl⟩)
    exact eq_of_beq q
  · intro h x hx
    obtain ⟨i, hi, rfl⟩ := mem_rg.mp hx
    refine List.all_eq_true.mpr fun y hy => ?_
    obtain ⟨j, hj, rfl⟩ := mem_rg.mp hy
    exact beq_iff_eq.mpr (h i j hi hj)
theorem sym_symL (p : Pat) (a : Nat) (u v : Int) : sym p a u v = symL p.c p.n a u v := by
  rw [Bool.eq_iff_iff, sym_iff, symL_iff]
  constructor
  · intro h k hk
    have hn : 0 < p.n := by
      rcases Nat.eq_zero_or_pos p.n with h | h
      · rw [h] at hk; simp at hk
      · exact h
    have q := h (k % p.n) (k / p.n) (Nat.mod_lt _ hn) (Nat.div_lt_of_lt_mul hk)
    rw [at_num, at_num, num_self hk] at q
    exact q
  · intro h x y hx hy
    have hk : y * p.n + x < p.n * p.n := by
      have hm := Nat.mul_le_mul_right p.n (show y + 1 ≤ p.n from hy)
      rw [Nat.add_mul, Nat.one_mul] at hm
      omega
    have q := h _ hk
    have e1 : (y * p.n + x) % p.n = x := by
      rw [Nat.add_comm, Nat.add_mul_mod_self_right]
      exact Nat.mod_eq_of_lt hx
    have e2 : (y * p.n + x) / p.n = y := by
      rw [Nat.add_comm, Nat.add_mul_div_right _ _ (by omega), Nat.div_eq_of_lt hx, Nat.zero_add]
    unfold pl at q
    rw [e1, e2] at q
    rw [at_num, at_num, num_nat hx hy]
    exact q
theorem symL_congr {c : List Nat} {n a : Nat} {u v u' v' : Int} (h1 : u % (n : Int) = u' % (n : Int)) (h2 : v % (n : Int) = v' % (n : Int)) : symL c n a u v = symL c n a u' v' := by
  unfold symL
  have e : (fun k => c.getD (pl n a u v k) 0 == c.getD k 0) = fun k => c.getD (pl n a u' v' k) 0 == c.getD k 0 := by
    funext k
    rw [pl_congr n a u v u' v' k h1 h2]
  rw [e]
theorem symL_mod (c : List Nat) (n a : Nat) (u v : Int) : symL c n a (u % (n : Int)) (v % (n : Int)) = symL c n a u v :=
  symL_congr (Int.emod_emod_of_dvd _ (Int.dvd_refl _)) (Int.emod_emod_of_dvd _ (Int.dvd_refl _))
end Pl
/-! ### heaps, short words -/
namespace Pl
open PySem PySem.Spec PyProof.Rows L2
theorem Same.upd {H H' : Hp} {p : Addr} {o : HO} (s : Same H H') (h : H p = none) : Same H (L2.upd H' p o) := fun b ob e => by
  rw [upd_ne (ne_of_none e h)]
  exact s b ob e
theorem Same.new {H : Hp} {p : Addr} {o : HO} (h : H p = none) : Same H (L2.upd H p o) := Same.upd (Same.refl H) h
theorem tup_same {K : PySem.W.Frag} {H H' : Hp} {a : Addr} {xs : List V} (e : Same H H') (h : SqT K H a xs) : SqT K H' a xs := by
  rcases h with (h | ⟨o, h⟩) | h
  · exact .inl (.inl (e _ _ h))
  · exact .inl (.inr ⟨o, e _ _ h⟩)
  · exact .inr h
/-- a part of a way, one more -/
theorem take_more {α : Type} : ∀ {l : List α} {i : Nat} {x : α}, l[i]? = some x → l.take (i + 1) = l.take i ++ [x]
  | [], i, x, h => by simp at h
  | a :: l, 0, x, h => by
    have e : a = x := Option.some.inj h
    subst e
    rfl
  | a :: l, i + 1, x, h => by
    have ih := take_more (l := l) (i := i) (x := x) h
    show a :: l.take (i + 1) = a :: l.take i ++ [x]
    rw [ih]
    rfl
theorem map_at {α β : Type} {f : α → β} {l : List α} {i : Nat} {y : β} (h : (l.map f)[i]? = some y) : ∃ z, l[i]? = some z ∧ y = f z := by
  rw [List.getElem?_map] at h
  cases e : l[i]? with
  | none =>
    rw [e] at h
    cases h
  | some z =>
    rw [e] at h
    exact ⟨z, rfl, (Option.some.inj h).symm⟩
/-! ### what the eight ways are -/
def wayC (a : Nat) : Int × Int × Int × Int := ([(1, 0, 0, 1), (0, -1, 1, 0), (-1, 0, 0, -1), (0, 1, -1, 0), (-1, 0, 0, 1), (1, 0, 0, -1), (0, 1, 1, 0), (0, -1, -1, 0)] : List (Int × Int × Int × Int)).getD a (0, 0, 0, 0)
def wayV (a : Nat) : List V := [.int (wayC a).1, .int (wayC a).2.1, .int (wayC a).2.2.1, .int (wayC a).2.2.2]
theorem way_small : ∀ a, a < 8 → ((-1 ≤ (wayC a).1 ∧ (wayC a).1 ≤ 1) ∧ (-1 ≤ (wayC a).2.1 ∧ (wayC a).2.1 ≤ 1) ∧ (-1 ≤ (wayC a).2.2.1 ∧ (wayC a).2.2.1 ≤ 1) ∧ (-1 ≤ (wayC a).2.2.2 ∧ (wayC a).2.2.2 ≤ 1)) := by decide
theorem way_turned {a : Nat} (h : a < 8) (x y : Int) : Sa48.turned a x y = ((wayC a).1 * x + (wayC a).2.1 * y, (wayC a).2.2.1 * x + (wayC a).2.2.2 * y) := by
  have q : a = 0 ∨ a = 1 ∨ a = 2 ∨ a = 3 ∨ a = 4 ∨ a = 5 ∨ a = 6 ∨ a = 7 := by omega
  rcases q with rfl | rfl | rfl | rfl | rfl | rfl | rfl | rfl <;> simp [Sa48.turned, wayC]
/-- what the top has written: the ways, the names of the first module -/
structure TxW (K : PySem.W.Frag) (mg : Str → Option Value) (W : Addr) (ws : Nat → Addr) : Prop where
  mgW : mg "WAYS" = some (.ref W)
  tW : ∀ H, SqT K H W ((List.range 8).map fun i => V.ref (ws i))
  tw : ∀ H i, i < 8 → SqT K H (ws i) (wayV i)
  range : mg "range" = none
/-! ### the promises -/
def spTurned : Sp := fun vs H Q _ => ∃ (a : Nat) (x y : Int), vs = [.int (a : Int), .int x, .int y] ∧ a < 8 ∧
  ∀ H' p, Same H H' → H p = none → H' p = some (.tup [.int (Sa48.turned a x y).1, .int (Sa48.turned a x y).2]) → Q (.ref p) H'
def spMoved (K : PySem.W.Frag) : Sp := fun vs H Q _ => ∃ (m : Addr) (a : Nat) (u v x y : Int), vs = [.ref m, .int x, .int y] ∧ SqT K H m [.int (a : Int), .int u, .int v] ∧ a < 8 ∧
  ∀ H' p, Same H H' → H p = none → H' p = some (.tup [.int ((Sa48.turned a x y).1 + u), .int ((Sa48.turned a x y).2 + v)]) → Q (.ref p) H'
def spNum : Sp := fun vs H Q _ => ∃ (n : Nat) (x y : Int), vs = [.int (n : Int), .int x, .int y] ∧ 0 < n ∧ n ≤ 64 ∧ Q (.int ((num n x y : Nat) : Int)) H
def spImage (K : PySem.W.Frag) : Sp := fun vs H Q _ => ∃ (m : Addr) (n a : Nat) (u v : Int), vs = [.int (n : Int), .ref m] ∧ SqT K H m [.int (a : Int), .int u, .int v] ∧ a < 8 ∧ 0 < n ∧ n ≤ 64 ∧
  ∀ H' p, Same H H' → H p = none → H' p = some (.lst ((List.range (n * n)).map fun k => V.int ((pl n a u v k : Nat) : Int))) → Q (.ref p) H'
section
variable {P : Program} {w : World} {K : PySem.W.Frag} {mg : Str → Option Value} {base : Heap} {W : Addr} {ws : Nat → Addr}
theorem scTurned : FnScope ["way", "x", "y", "a", "b", "c", "d"] ["way", "x", "y"] (defScope sTurned) := ⟨rfl, rfl, rfl, by decide +kernel, rfl, by decide +kernel, by decide +kernel⟩
theorem ok_turned {f : Addr} {fd : FuncData} (F : Fun K "turned" "turned" sTurned f fd) (T : TxW K mg W ws) : FnOk P w K mg base CX0 1 f fd ["way", "x", "y"] spTurned := by
  refine F.ok scTurned (fun vs H Q E h => ?_) (fun cdv A outer s H vs Q E hr h => ?_)
  · obtain ⟨a, x, y, rfl, _⟩ := h
    rfl
  · obtain ⟨a, x, y, rfl, ha, k⟩ := h
    have nd := scTurned.nd
    refine ⟨_, pss_cons (ps_asg (pe_ix ix_tup (pe_glob (v := .ref W) rfl T.mgW rfl) (pv 0) (fun _ _ => rfl)) (pg_tup rfl (pgs_cons (pg_name (i := 3) nd rfl (Or.inl rfl)) (pgs_cons (pg_name (i := 4) nd rfl (Or.inl rfl)) (pgs_cons (pg_name (i := 5) nd rfl (Or.inl rfl)) (pgs_cons (pg_name (i := 6) nd rfl (Or.inl rfl)) pgs_nil))))))
      (pss_one (ps_ret (pe_tup (pa_cons (pe_op op_add (pe_op op_mul (pv 3) (pv 1)) (pe_op op_mul (pv 4) (pv 2))) (pa_cons (pe_op op_add (pe_op op_mul (pv 5) (pv 1)) (pe_op op_mul (pv 6) (pv 2))) pa_nil))))), ?_⟩
    obtain ⟨⟨b1, b2⟩, ⟨b3, b4⟩, ⟨b5, b6⟩, b7, b8⟩ := way_small a ha
    have hw : ((List.range 8).map fun i => V.ref (ws i))[a]? = some (V.ref (ws a)) := by
      rw [List.getElem?_map, List.getElem?_range ha]
      rfl
    refine ⟨_, rfl, W, _, _, _, rfl, rfl, T.tW _, atI_nat hw, ws a, wayV a, rfl, T.tw _ a ha, rfl, _, _, rfl, _, _, rfl, _, _, rfl, _, _, rfl, rfl, ?_⟩
    refine ⟨_, rfl, _, rfl, _, _, rfl, rfl, .inl ⟨by omega, by omega⟩, _, rfl, _, rfl, _, _, rfl, rfl, .inl ⟨by omega, by omega⟩, _, _, rfl, rfl, ?_⟩
    refine ⟨_, rfl, _, rfl, _, _, rfl, rfl, .inl ⟨by omega, by omega⟩, _, rfl, _, rfl, _, _, rfl, rfl, .inl ⟨by omega, by omega⟩, _, _, rfl, rfl, (by show 2 ≤ sizeLine; decide), fun p hp => ?_⟩
    refine k _ p (Same.new hp) hp ?_
    rw [upd_same, way_turned ha]
theorem scMoved : FnScope ["movement", "x", "y", "way", "a", "b", "u", "v"] ["movement", "x", "y"] (defScope sMoved) := ⟨rfl, rfl, rfl, by decide +kernel, rfl, by decide +kernel, by decide +kernel⟩
theorem ok_moved {f f1 : Addr} {fd fd1 : FuncData} (F : Fun K "moved" "moved" sMoved f fd) (G : FnOk P w K mg base CX0 1 f1 fd1 ["way", "x", "y"] spTurned) (m1 : mg "turned" = some (.ref f1)) (k1 : PySem.W.keepIn K (.ref f1) = true) (b1 : Binds K fd1 ["way", "x", "y"] []) :
    FnOk P w K mg base CX0 2 f fd ["movement", "x", "y"] (spMoved K) := by
  refine F.ok scMoved (fun vs H Q E h => ?_) (fun cdv A outer s H vs Q E hr h => ?_)
  · obtain ⟨m, a, u, v, x, y, rfl, _⟩ := h
    rfl
  · obtain ⟨m, a, u, v, x, y, rfl, hm, ha, k⟩ := h
    have nd := scMoved.nd
    refine ⟨_, pss_cons (ps_asg (pv 0) (pg_tup rfl (pgs_cons (pg_name (i := 3) nd rfl (Or.inl rfl)) (pgs_cons (pg_name (i := 4) nd rfl (Or.inl rfl)) (pgs_cons (pg_name (i := 5) nd rfl (Or.inl rfl)) pgs_nil)))))
      (pss_cons (ps_asg (pe_call G hr rfl m1 k1 b1 .nil pass0 (pa_cons (pv 3) (pa_cons (pv 1) (pa_cons (pv 2) pa_nil)))) (pg_tup rfl (pgs_cons (pg_name (i := 6) nd rfl (Or.inl rfl)) (pgs_cons (pg_name (i := 7) nd rfl (Or.inl rfl)) pgs_nil))))
      (pss_one (ps_ret (pe_tup (pa_cons (pe_op op_add (pv 6) (pv 4)) (pa_cons (pe_op op_add (pv 7) (pv 5)) pa_nil)))))), ?_⟩
    refine ⟨_, rfl, m, _, rfl, hm, rfl, _, _, rfl, _, _, rfl, _, _, rfl, rfl, ?_⟩
    refine ⟨_, rfl, _, rfl, _, rfl, a, x, y, rfl, ha, fun H1 p1 s1 n1 e1 => ?_⟩
    refine ⟨p1, _, rfl, SqT.of e1, rfl, _, _, rfl, _, _, rfl, rfl, ?_⟩
    refine ⟨_, rfl, _, rfl, _, _, rfl, rfl, _, rfl, _, rfl, _, _, rfl, rfl, (by show 2 ≤ sizeLine; decide), fun p hp => ?_⟩
    exact k _ p (Same.upd s1 (s1.free hp)) (s1.free hp) upd_same
theorem scNum : FnScope ["n", "x", "y"] ["n", "x", "y"] (defScope sNum) := ⟨rfl, rfl, rfl, by decide +kernel, rfl, by decide +kernel, by decide +kernel⟩
theorem ok_num {f : Addr} {fd : FuncData} (F : Fun K "number_in" "number_in" sNum f fd) : FnOk P w K mg base CX0 1 f fd ["n", "x", "y"] spNum := by
  refine F.ok scNum (fun vs H Q E h => ?_) (fun cdv A outer s H vs Q E hr h => ?_)
  · obtain ⟨n, x, y, rfl, _⟩ := h
    rfl
  · obtain ⟨n, x, y, rfl, h0, h1, k⟩ := h
    refine ⟨_, pss_one (ps_ret (pe_op op_add (pe_op op_mul (pe_op op_mod (pv 2) (pv 0)) (pv 0)) (pe_op op_mod (pv 1) (pv 0)))), ?_⟩
    refine ⟨_, rfl, _, rfl, _, _, rfl, rfl, (by show (0 : Int) < (n : Int); omega), _, rfl, _, _, rfl, rfl, .inr ⟨by omega, by omega⟩, _, rfl, _, rfl, _, _, rfl, rfl, (by show (0 : Int) < (n : Int); omega), _, _, rfl, rfl, ?_⟩
    have e : y % (n : Int) * (n : Int) + x % (n : Int) = ((num n x y : Nat) : Int) := by
      have h1 := Int.emod_nonneg x (show (n : Int) ≠ 0 by omega)
      have h3 := Int.emod_nonneg y (show (n : Int) ≠ 0 by omega)
      unfold num
      rw [Int.natCast_add, Int.natCast_mul, Int.toNat_of_nonneg h1, Int.toNat_of_nonneg h3]
    show Q (.int (y % (n : Int) * (n : Int) + x % (n : Int))) H
    rw [e]
    exact k
theorem scImage : FnScope ["n", "movement", "found", "y", "x", "u", "v"] ["n", "movement"] (defScope sImage) := ⟨rfl, rfl, rfl, by decide +kernel, rfl, by decide +kernel, by decide +kernel⟩
theorem range_more {α : Type} (f : Nat → α) (k : Nat) : (List.range (k + 1)).map f = (List.range k).map f ++ [f k] := by
  rw [List.range_succ, List.map_append]
  rfl
theorem ok_image {f f1 f2 : Addr} {fd fd1 fd2 : FuncData} (F : Fun K "image" "image" sImage f fd) (T : TxW K mg W ws) (G1 : FnOk P w K mg base CX0 2 f1 fd1 ["movement", "x", "y"] (spMoved K)) (m1 : mg "moved" = some (.ref f1)) (k1 : PySem.W.keepIn K (.ref f1) = true) (b1 : Binds K fd1 ["movement", "x", "y"] [])
    (G2 : FnOk P w K mg base CX0 1 f2 fd2 ["n", "x", "y"] spNum) (m2 : mg "number_in" = some (.ref f2)) (k2 : PySem.W.keepIn K (.ref f2) = true) (b2 : Binds K fd2 ["n", "x", "y"] []) :
    FnOk P w K mg base CX0 3 f fd ["n", "movement"] (spImage K) := by
  refine F.ok scImage (fun vs H Q E h => ?_) (fun cdv A outer s H vs Q E hr h => ?_)
  · obtain ⟨m, n, a, u, v, rfl, _⟩ := h
    rfl
  · obtain ⟨m, n, a, u, v, rfl, hm, ha, h0, h64, k⟩ := h
    have nd := scImage.nd
    have hr1 : Room 1 _ := hr.mono (by decide)
    refine ⟨_, pss_cons (ps_set (i := 2) nd rfl (Or.inl rfl) (pe_lst pa_nil))
      (pss_cons (ps_for PassesOwn.never rfl (pi_range1 rfl T.range (pa_cons (pv 0) pa_nil)) (pg_name (i := 3) nd rfl (Or.inl rfl))
        (pss_one (ps_for PassesOwn.never rfl (pi_range1 rfl T.range (pa_cons (pv 0) pa_nil)) (pg_name (i := 4) nd rfl (Or.inl rfl))
          (pss_cons (ps_asg (pe_call G1 hr rfl m1 k1 b1 .nil pass0 (pa_cons (pv 1) (pa_cons (pv 4) (pa_cons (pv 3) pa_nil)))) (pg_tup rfl (pgs_cons (pg_name (i := 5) nd rfl (Or.inl rfl)) (pgs_cons (pg_name (i := 6) nd rfl (Or.inl rfl)) pgs_nil))))
          (pss_one (ps_expr (pe_bm PySem.F.plainAttrs_list PySem.F.slot_list_append PySem.F.type_list_append mt_append (pv 2) (pa_cons (pe_call G2 hr1 rfl m2 k2 b2 .nil pass0 (pa_cons (pv 0) (pa_cons (pv 5) (pa_cons (pv 6) pa_nil)))) pa_nil))))))))
      (pss_one (ps_ret (pv 2)))), ?_⟩
    have hsz : n * n ≤ 4096 := Nat.mul_le_mul h64 h64
    refine ⟨Nat.zero_le _, fun l hl => ?_⟩
    refine ⟨_, rfl, (n : Int), rfl, by omega, by omega, for_range (lo := 0) (n := n) (fun i σ H' => ∃ vy vx vu vv : Option V, σ = [some (.int (n : Int)), some (.ref m), some (.ref l), vy, vx, vu, vv] ∧ Same H H' ∧ H' l = some (.lst ((List.range (i * n)).map fun k => V.int ((pl n a u v k : Nat) : Int))))
      ⟨none, none, none, none, rfl, Same.new hl, by rw [upd_same, Nat.zero_mul]; rfl⟩ ?_ ?_⟩
    · rintro i σ H' hi ⟨vy, vx, vu, vv, rfl, s1, e1⟩
      refine ⟨_, rfl, (n : Int), rfl, by omega, by omega, for_range (lo := 0) (n := n) (fun j σ H' => ∃ vx vu vv : Option V, σ = [some (.int (n : Int)), some (.ref m), some (.ref l), some (.int (i : Int)), vx, vu, vv] ∧ Same H H' ∧ H' l = some (.lst ((List.range (i * n + j)).map fun k => V.int ((pl n a u v k : Nat) : Int))))
        ⟨vx, vu, vv, by rw [Int.zero_add]; rfl, s1, e1⟩ ?_ ?_⟩
      · rintro j σ H2 hj ⟨vx, vu, vv, rfl, s2, e2⟩
        have hk : i * n + j < n * n := by
          have hm := Nat.mul_le_mul_right n (show i + 1 ≤ n from hi)
          rw [Nat.add_mul, Nat.one_mul] at hm
          omega
        refine ⟨_, rfl, _, rfl, _, rfl, m, a, u, v, _, _, rfl, tup_same s2 hm, ha, fun H3 p s3 n3 e3 => ?_⟩
        refine ⟨p, _, rfl, SqT.of e3, rfl, _, _, rfl, _, _, rfl, rfl, ?_⟩
        have e2' := s3 _ _ e2
        refine ⟨_, rfl, .inl ⟨rfl, _, SqL.of e2'⟩, _, rfl, _, rfl, _, rfl, n, _, _, rfl, h0, h64, ?_⟩
        refine ⟨l, _, _, rfl, rfl, e2', (by rw [List.length_map, List.length_range]; exact Nat.lt_of_lt_of_le (Nat.lt_of_lt_of_le hk hsz) (by decide)), ?_⟩
        refine ⟨_, _, _, rfl, Same.upd (s2.trans s3) hl, ?_⟩
        rw [upd_same, ← Nat.add_assoc (i * n) j 1, range_more]
        have e1 : (i * n + j) % n = j := by
          rw [Nat.add_comm, Nat.add_mul_mod_self_right]
          exact Nat.mod_eq_of_lt hj
        have e2 : (i * n + j) / n = i := by
          rw [Nat.add_comm, Nat.add_mul_div_right _ _ (by omega), Nat.div_eq_of_lt hj, Nat.zero_add]
        unfold pl
        rw [e1, e2, Int.zero_add]
      · rintro σ H2 ⟨vx, vu, vv, rfl, s2, e2⟩
        refine ⟨_, vx, vu, vv, rfl, s2, ?_⟩
        rw [e2, Nat.add_mul, Nat.one_mul]
    · rintro σ H' ⟨vy, vx, vu, vv, rfl, s1, e1⟩
      exact ⟨_, rfl, k _ l s1 hl e1⟩
end
end Pl
/-! ### movements: tuples of a way and a shift -/
namespace Pl
open PySem PySem.Spec PyProof.Rows L2
abbrev Mv : Type := Nat × Int × Int
def mv (m : Mv) : List V := [.int (m.1 : Int), .int m.2.1, .int m.2.2]
def mk (m : Mv) : List Key := [.inl (m.1 : Int), .inl m.2.1, .inl m.2.2]
theorem mk_mv (m : Mv) : (mk m).map kV = mv m := rfl
theorem mk_inj {m m' : Mv} (h : mk m = mk m') : m = m' := by
  obtain ⟨a, u, v⟩ := m
  obtain ⟨a', u', v'⟩ := m'
  have h : ([.inl (a : Int), .inl u, .inl v] : List Key) = [.inl (a' : Int), .inl u', .inl v'] := h
  injection h with h1 h
  injection h with h2 h
  injection h with h3 _
  have h1 := Sum.inl.inj h1
  have h2 := Sum.inl.inj h2
  have h3 := Sum.inl.inj h3
  have h1 : a = a' := by omega
  rw [h1, h2, h3]
/-- at each of these addresses stands the tuple of its movement -/
def Ts (H : Hp) (L : List (Addr × Mv)) : Prop := ∀ q ∈ L, H q.1 = some (.tup (mv q.2))
def refs (L : List (Addr × Mv)) : List V := L.map fun q => V.ref q.1
theorem Ts.same {H H' : Hp} {L : List (Addr × Mv)} (t : Ts H L) (s : Same H H') : Ts H' L := fun q hq => s _ _ (t q hq)
theorem Ts.app {H : Hp} {L M : List (Addr × Mv)} (t : Ts H L) (u : Ts H M) : Ts H (L ++ M) := fun q hq => by
  rcases List.mem_append.mp hq with h | h
  · exact t q h
  · exact u q h
theorem refs_app (L M : List (Addr × Mv)) : refs (L ++ M) = refs L ++ refs M := List.map_append
theorem refs_len (L : List (Addr × Mv)) : (refs L).length = (L.map (·.2)).length := by
  unfold refs
  rw [List.length_map, List.length_map]
theorem Ts.keep {H H' : Hp} {L : List (Addr × Mv)} (t : Ts H L) {p : Addr} {o : HO} (np : ∀ xs, H p ≠ some (.tup xs)) (e : H' = upd H p o) : Ts H' L := fun q hq => by
  rw [e, upd_ne]
  · exact t q hq
  · intro z
    exact np _ (z ▸ t q hq)
/-- the movements of one way with one first part -/
def mvRow (n : Nat) (a : Nat) (u : Int) : List Mv := (Sa48Neutral.rg n).map fun v => (a, u, v)
def mvWay (n : Nat) (a : Nat) : List Mv := (Sa48Neutral.rg n).flatMap fun u => mvRow n a u
theorem moves_more (n : Nat) (l : List Nat) (a : Nat) : Sa48Neutral.moves n (l ++ [a]) = Sa48Neutral.moves n l ++ mvWay n a := by
  unfold Sa48Neutral.moves
  rw [List.flatMap_append, List.flatMap_cons, List.flatMap_nil, List.append_nil]
  rfl
theorem rg_more (n : Nat) : Sa48Neutral.rg (n + 1) = Sa48Neutral.rg n ++ [(n : Int)] := by
  unfold Sa48Neutral.rg
  rw [List.range_succ, List.map_append]
  rfl
theorem rg_len (n : Nat) : (Sa48Neutral.rg n).length = n := by
  unfold Sa48Neutral.rg
  rw [List.length_map, List.length_range]
theorem flat_len {α β : Type} {f : α → List β} {k : Nat} : ∀ l : List α, (∀ x ∈ l, (f x).length = k) → (l.flatMap f).length = l.length * k
  | [], _ => by simp
  | x :: r, h => by
    rw [List.flatMap_cons, List.length_append, h x (List.mem_cons_self ..), flat_len r fun y hy => h y (List.mem_cons_of_mem _ hy), List.length_cons, Nat.add_mul, Nat.one_mul, Nat.add_comm]
theorem mvRow_len (n a : Nat) (u : Int) : (mvRow n a u).length = n := by
  unfold mvRow
  rw [List.length_map, rg_len]
theorem mvWay_len (n a : Nat) : (mvWay n a).length = n * n := by
  unfold mvWay
  rw [flat_len _ fun x _ => mvRow_len n a x, rg_len]
theorem moves_len (n : Nat) (l : List Nat) : (Sa48Neutral.moves n l).length = l.length * (n * n) := by
  unfold Sa48Neutral.moves
  exact flat_len _ fun x _ => mvWay_len n x
/-! ### the promise of movements -/
def spMvs (K : PySem.W.Frag) : Sp := fun vs H Q _ => ∃ (n : Nat) (l : Addr) (ways : List Nat), vs = [.int (n : Int), .ref l] ∧ SqL K H l (ways.map fun a => V.int ((a : Nat) : Int)) ∧ n ≤ 8 ∧ ways.length ≤ 8 ∧
  ∀ (H' : Hp) (p : Addr) (L : List (Addr × Mv)), Same H H' → H p = none → L.map (·.2) = Sa48Neutral.moves n ways → H' p = some (.lst (refs L)) → Ts H' L → Q (.ref p) H'
section
variable {P : Program} {w : World} {K : PySem.W.Frag} {mg : Str → Option Value} {base : Heap} {W : Addr} {ws : Nat → Addr}
theorem scMvs : FnScope ["n", "ways", "found", "way", "a", "b"] ["n", "ways"] (defScope sMvs) := ⟨rfl, rfl, rfl, by decide +kernel, rfl, by decide +kernel, by decide +kernel⟩
theorem ok_mvs {f : Addr} {fd : FuncData} (F : Fun K "movements" "movements" sMvs f fd) (T : TxW K mg W ws) : FnOk P w K mg base CX0 1 f fd ["n", "ways"] (spMvs K) := by
  refine F.ok scMvs (fun vs H Q E h => ?_) (fun cdv A outer s H vs Q E hr h => ?_)
  · obtain ⟨n, l, ways, rfl, _⟩ := h
    rfl
  · obtain ⟨n, l, ways, rfl, hl, hn, hw, k⟩ := h
    have nd := scMvs.nd
    refine ⟨_, pss_cons (ps_set (i := 2) nd rfl (Or.inl rfl) (pe_lst pa_nil))
      (pss_cons (ps_for PassesOwn.never rfl (pi_list (pv 1)) (pg_name (i := 3) nd rfl (Or.inr rfl))
        (pss_one (ps_for PassesOwn.never rfl (pi_range1 rfl T.range (pa_cons (pv 0) pa_nil)) (pg_name (i := 4) nd rfl (Or.inr rfl))
          (pss_one (ps_expr (pe_bm PySem.F.plainAttrs_list PySem.F.slot_list_extend PySem.F.type_list_extend mt_extend (pv 2) (pa_cons (pe_lc (own := [("b", 5)]) (g := gName 5) (tt := tYes) rfl nd (pi_range1 rfl T.range (pa_cons (pv 0) pa_nil))
            (blkOk_by (own := [("b", 5)]) (N := ["n", "ways", "found", "way", "a", "b"]) (sc := defScope sMvs) (by decide +kernel)) (fun _ _ _ _ _ => pg_name (i := 5) nd rfl (Or.inl rfl)) (fun _ _ _ _ _ => pts_nil)
            (fun _ _ _ _ _ => pe_tup (pa_cons (pv 3) (pa_cons (pv 4) (pa_cons (pv 5) pa_nil))))) pa_nil)))))))
      (pss_one (ps_ret (pv 2)))), ?_⟩
    refine ⟨Nat.zero_le _, fun r hr0 => ?_⟩
    refine ⟨_, rfl, l, rfl, ⟨_, (Same.new hr0).seq hl⟩, for_list (K := K) (a := l) (xs := ways.map fun a => V.int ((a : Nat) : Int)) (fun i σ H' => ∃ (vw va vb : Option V) (L : List (Addr × Mv)), σ = [some (.int (n : Int)), some (.ref l), some (.ref r), vw, va, vb] ∧ Same H H' ∧
        H' r = some (.lst (refs L)) ∧ L.map (·.2) = Sa48Neutral.moves n (ways.take i) ∧ Ts H' L)
      ⟨none, none, none, [], rfl, Same.new hr0, upd_same, rfl, fun q hq => nomatch hq⟩ (fun i σ H' _ ⟨_, _, _, _, _, s1, _⟩ => s1.seq hl) ?_ ?_⟩
    · rintro i y σ H' hi ⟨vw, va, vb, L, rfl, s1, e1, em, t1⟩
      obtain ⟨a, ha, rfl⟩ := map_at hi
      have hi8 : i < ways.length := (List.getElem?_eq_some_iff.mp ha).1
      have hil : (ways.take i).length = i := by
        rw [List.length_take]
        omega
      refine ⟨_, rfl, (n : Int), rfl, by omega, by omega, for_range (lo := 0) (n := n) (fun j σ H' => ∃ (va vb : Option V) (L : List (Addr × Mv)), σ = [some (.int (n : Int)), some (.ref l), some (.ref r), some (.int (a : Int)), va, vb] ∧ Same H H' ∧
          H' r = some (.lst (refs L)) ∧ L.map (·.2) = Sa48Neutral.moves n (ways.take i) ++ (Sa48Neutral.rg j).flatMap (fun u => mvRow n a u) ∧ Ts H' L)
        ⟨va, vb, L, rfl, s1, e1, by rw [em]; exact (List.append_nil _).symm, t1⟩ ?_ ?_⟩
      · rintro j σ H2 hj ⟨va, vb, L, rfl, s2, e2, em, t2⟩
        have hL : L.length = i * (n * n) + j * n := by
          have q := congrArg List.length em
          rw [List.length_map, List.length_append, moves_len, hil, flat_len _ fun x _ => mvRow_len n a x, rg_len] at q
          exact q
        have hsz : L.length + n ≤ 1000 := by
          have q1 : i * (n * n) ≤ 7 * (8 * 8) := Nat.mul_le_mul (by omega) (Nat.mul_le_mul hn hn)
          have q2 : j * n ≤ 8 * 8 := Nat.mul_le_mul (by omega) hn
          omega
        refine ⟨_, rfl, .inl ⟨rfl, _, SqL.of e2⟩, _, rfl, (n : Int), rfl, by omega, by omega, fun D hD => ?_⟩
        have nrD : r ≠ D := ne_of_none e2 hD
        refine lc_range (lo := 0) (n := n) (fun m H3 => ∃ M : List (Addr × Mv), Same H2 H3 ∧ H3 D = some (.lst (refs M)) ∧ M.map (·.2) = (Sa48Neutral.rg m).map (fun v => ((a, (j : Int), v) : Mv)) ∧ Ts H3 M)
          ⟨[], Same.new hD, upd_same, rfl, fun q hq => nomatch hq⟩ ?_ ?_
        · rintro m H3 hm ⟨M, s3, e3, em3, t3⟩
          refine ⟨rfl, iteT (B := True) ?_⟩
          refine ⟨_, rfl, _, rfl, _, rfl, (by show 3 ≤ sizeLine; decide), fun p hp => ?_⟩
          have npD : D ≠ p := ne_of_none e3 hp
          refine ⟨_, (upd_ne npD).trans e3, ?_, M ++ [(p, ((a, (j : Int), (m : Int)) : Mv))], ?_, ?_, ?_, ?_⟩
          · have q := congrArg List.length em3
            rw [List.length_map, List.length_map, rg_len] at q
            unfold refs
            rw [List.length_map, q]
            exact Nat.lt_of_lt_of_le (Nat.lt_of_lt_of_le hm hn) (by decide)
          · exact Same.upd (Same.upd s3 (s3.free hp)) hD
          · rw [upd_same, refs_app]
            rfl
          · rw [List.map_append, em3, rg_more, List.map_append]
            rfl
          · refine Ts.app ?_ ?_
            · intro q hq
              have h1 := t3 q hq
              rw [upd_ne (ne_of h1 e3 (by intro z; cases z)), upd_ne (ne_of_none h1 hp)]
              exact h1
            · intro q hq
              obtain rfl := List.mem_singleton.mp hq
              rw [upd_ne (Ne.symm npD), upd_same, Int.zero_add, Int.zero_add]
              rfl
        · rintro H3 ⟨M, s3, e3, em3, t3⟩
          have e2' := s3 _ _ e2
          have hM : M.length = n := by
            have q := congrArg List.length em3
            rw [List.length_map, List.length_map, rg_len] at q
            exact q
          refine ⟨r, D, _, _, rfl, rfl, e2', e3, ?_, ?_⟩
          · unfold refs
            rw [List.length_map, List.length_map, hM]
            exact Nat.le_trans hsz (by decide)
          · refine ⟨_, vb, L ++ M, rfl, Same.upd (s2.trans s3) hr0, ?_, ?_, ?_⟩
            · rw [upd_same, refs_app]
            · rw [List.map_append, em, em3, rg_more, List.flatMap_append, List.append_assoc, List.flatMap_cons, List.flatMap_nil, List.append_nil]
              rfl
            · refine Ts.keep (H := H3) ((t2.same s3).app t3) (fun xs z => ?_) rfl
              rw [e2'] at z
              cases z
      · rintro σ H2 ⟨va, vb, L, rfl, s2, e2, em, t2⟩
        refine ⟨_, _, _, L, rfl, s2, e2, ?_, t2⟩
        rw [em, take_more ha, moves_more]
        rfl
    · rintro σ H' ⟨vw, va, vb, L, rfl, s1, e1, em, t1⟩
      rw [List.length_map, List.take_length] at em
      exact ⟨_, rfl, k _ r L s1 hr0 em e1 t1⟩
end
end Pl
namespace Pl
open Sa48 Sa48Neutral
/-! ### all movements, in their order -/
theorem moves_filter (n : Nat) (q : Nat → Bool) : ∀ l : List Nat, (moves n l).filter (fun m => q m.1) = moves n (l.filter q)
  | [] => rfl
  | a :: r => by
    have ih := moves_filter n q r
    have e1 : ∀ s : List Nat, moves n (a :: s) = ((rg n).flatMap fun u => (rg n).map fun v => (a, u, v)) ++ moves n s := fun s => rfl
    rw [e1, List.filter_append, ih, List.filter_cons]
    cases h : q a with
    | true =>
      rw [if_pos rfl, e1]
      congr 1
      refine List.filter_eq_self.mpr fun m hm => ?_
      obtain ⟨u, _, h2⟩ := List.mem_flatMap.mp hm
      obtain ⟨v, _, rfl⟩ := List.mem_map.mp h2
      exact h
    | false =>
      rw [if_neg Bool.false_ne_true]
      have e : ((rg n).flatMap fun u => (rg n).map fun v => (a, u, v)).filter (fun m => q m.1) = [] := by
        refine List.filter_eq_nil_iff.mpr fun m hm => ?_
        obtain ⟨u, _, h2⟩ := List.mem_flatMap.mp hm
        obtain ⟨v, _, rfl⟩ := List.mem_map.mp h2
        rw [h]
        exact Bool.false_ne_true
      rw [e]
      rfl
theorem mem_moves {n : Nat} {l : List Nat} {m : Nat × Int × Int} : m ∈ moves n l ↔ m.1 ∈ l ∧ (∃ i : Nat, i < n ∧ m.2.1 = (i : Int)) ∧ ∃ i : Nat, i < n ∧ m.2.2 = (i : Int) := by
  unfold moves
  constructor
  · intro h
    obtain ⟨a, ha, h⟩ := List.mem_flatMap.mp h
    obtain ⟨u, hu, h⟩ := List.mem_flatMap.mp h
    obtain ⟨v, hv, rfl⟩ := List.mem_map.mp h
    exact ⟨ha, mem_rg.mp hu, mem_rg.mp hv⟩
  · rintro ⟨ha, hu, hv⟩
    exact List.mem_flatMap.mpr ⟨m.1, ha, List.mem_flatMap.mpr ⟨m.2.1, mem_rg.mpr hu, List.mem_map.mpr ⟨m.2.2, mem_rg.mpr hv, rfl⟩⟩⟩
/-! ### shifts -/
theorem shift_iff {p : Pat} (hn : 0 < p.n) {u v : Int} : sym p 0 u v = true ↔ ∀ x y : Int, p.at_ (x + u) (y + v) = p.at_ x y := by
  rw [sym_iff]
  constructor
  · intro h x y
    have h1 := Int.emod_nonneg x (show (p.n : Int) ≠ 0 by omega)
    have h2 := Int.emod_lt_of_pos x (show (0 : Int) < p.n by omega)
    have h3 := Int.emod_nonneg y (show (p.n : Int) ≠ 0 by omega)
    have h4 := Int.emod_lt_of_pos y (show (0 : Int) < p.n by omega)
    have q := h (x % (p.n : Int)).toNat (y % (p.n : Int)).toNat (by omega) (by omega)
    rw [Int.toNat_of_nonneg h1, Int.toNat_of_nonneg h3] at q
    have q : p.at_ (x % (p.n : Int) + u) (y % (p.n : Int) + v) = p.at_ (x % (p.n : Int)) (y % (p.n : Int)) := q
    rw [at_num, at_num] at q ⊢
    rw [num_mod p.n (x + u) (y + v) (x % (p.n : Int) + u) (y % (p.n : Int) + v) (by rw [Int.emod_add_emod]) (by rw [Int.emod_add_emod]), q]
    rw [num_mod p.n x y (x % (p.n : Int)) (y % (p.n : Int)) (by rw [Int.emod_emod_of_dvd _ (Int.dvd_refl _)]) (by rw [Int.emod_emod_of_dvd _ (Int.dvd_refl _)])]
  · intro h x y _ _
    exact h x y
theorem shift_sub {p : Pat} (hn : 0 < p.n) {u v u' v' : Int} (h : sym p 0 u v = true) (h' : sym p 0 u' v' = true) : sym p 0 (u - u') (v - v') = true := by
  rw [shift_iff hn] at h h' ⊢
  intro x y
  have q := h' (x + (u - u')) (y + (v - v'))
  have r := h x y
  rw [show x + (u - u') + u' = x + u by omega, show y + (v - v') + v' = y + v by omega] at q
  rw [← q, r]
theorem shift_mul {p : Pat} (hn : 0 < p.n) {u : Int} (h : sym p 0 u 0 = true) : ∀ k : Nat, sym p 0 ((k : Int) * u) 0 = true
  | 0 => by
    rw [shift_iff hn]
    intro x y
    simp
  | k + 1 => by
    have ih := shift_mul hn h k
    rw [shift_iff hn] at h ih ⊢
    intro x y
    have q := h (x + (k : Int) * u) y
    have r := ih x y
    rw [Int.add_zero] at q r ⊢
    rw [← r, ← q]
    congr 1
    rw [Int.natCast_add, Int.add_mul]
    omega
/-- a shift may be brought below e along a row -/
theorem shift_low {p : Pat} (hn : 0 < p.n) {e u g : Nat} (_ : 0 < e) (h : sym p 0 (e : Int) 0 = true) (q : sym p 0 (u : Int) (g : Int) = true) : sym p 0 ((u % e : Nat) : Int) (g : Int) = true := by
  have r := shift_sub hn q (shift_mul hn h (u / e))
  have e1 : (u : Int) - ((u / e : Nat) : Int) * (e : Int) = ((u % e : Nat) : Int) := by
    have := Nat.div_add_mod u e
    rw [Nat.mul_comm] at this
    have : ((u / e * e + u % e : Nat) : Int) = (u : Int) := by rw [this]
    rw [Int.natCast_add, Int.natCast_mul] at this
    omega
  rw [e1, Int.sub_zero] at r
  exact r
/-! ### cell -/
theorem find_range {n i : Nat} {q : Nat → Bool} (hi : i < n) (h : q i = true) (l : ∀ j, j < i → q j = false) : (List.range n).find? q = some i := by
  rw [List.find?_range_eq_some]
  refine ⟨h, List.mem_range.mpr hi, fun j hj => ?_⟩
  rw [l j hj]
  rfl
theorem any_range {n : Nat} {q : Nat → Bool} : (List.range n).any q = true ↔ ∃ i, i < n ∧ q i = true := by
  rw [List.any_eq_true]
  constructor
  · rintro ⟨i, h, q⟩
    exact ⟨i, List.mem_range.mp h, q⟩
  · rintro ⟨i, h, q⟩
    exact ⟨i, List.mem_range.mpr h, q⟩
def shiftsL (c : List Nat) (n : Nat) : List (Nat × Int × Int) := ((moves n (List.range 8)).filter fun m => symL c n m.1 m.2.1 m.2.2).filter fun m => m.1 == 0
theorem shiftsL_length (c : List Nat) (n : Nat) : (shiftsL c n).length = (((List.range n).flatMap fun (u : Nat) => (List.range n).map fun (v : Nat) => sym ⟨n, c⟩ 0 (u : Int) (v : Int)).filter fun b => b).length := by
  unfold shiftsL
  rw [List.filter_filter]
  have e1 : (fun m : Nat × Int × Int => (m.1 == 0) && symL c n m.1 m.2.1 m.2.2) = fun m => symL c n m.1 m.2.1 m.2.2 && (fun a : Nat => a == 0) m.1 := by
    funext m
    exact Bool.and_comm _ _
  rw [e1, ← List.filter_filter (p := fun m : Nat × Int × Int => symL c n m.1 m.2.1 m.2.2) (q := fun m => (fun a : Nat => a == 0) m.1), moves_filter n (fun a => a == 0)]
  have e2 : (List.range 8).filter (fun a => a == 0) = [0] := by decide
  rw [e2]
  have e3 : ((List.range n).flatMap fun (u : Nat) => (List.range n).map fun (v : Nat) => sym ⟨n, c⟩ 0 (u : Int) (v : Int)) = (moves n [0]).map fun m => symL c n m.1 m.2.1 m.2.2 := by
    unfold moves
    rw [List.flatMap_cons, List.flatMap_nil, List.append_nil, List.map_flatMap]
    unfold rg
    rw [List.flatMap_map]
    congr 1
    funext u
    rw [List.map_map, List.map_map]
    congr 1
    funext v
    exact sym_symL ⟨n, c⟩ 0 u v
  rw [e3, List.filter_map, List.length_map]
  rfl
theorem cell_is {z : Int} {n : Nat} {cs : List Int} {c : List Nat} {e f g : Nat} (hz : z = (n : Int)) (hc : nats cs = c) (hn : 0 < n) (h64 : n ≤ 64) (e0 : 0 < e) (en : e ≤ n) (he : symL c n 0 (e : Int) 0 = true) (le : ∀ j, 0 < j → j < e → symL c n 0 (j : Int) 0 = false)
    (g0 : 0 < g) (gn : g ≤ n) (hf : f < e) (hg : symL c n 0 (f : Int) (g : Int) = true) (lf : ∀ j, j < f → symL c n 0 (j : Int) (g : Int) = false)
    (lg : ∀ k, 0 < k → k < g → ∀ j, j < e → symL c n 0 (j : Int) (k : Int) = false) :
    PySa48.cell z cs = [0, (e : Int), (f : Int), (g : Int), ((shiftsL c n).length : Int)] := by
  subst hz hc
  have hs : ∀ u v : Int, sym ⟨n, nats cs⟩ 0 u v = symL (nats cs) n 0 u v := fun u v => sym_symL ⟨n, nats cs⟩ 0 u v
  have r1 : ((List.range n).find? fun (u : Nat) => sym ⟨n, nats cs⟩ 0 ((u + 1 : Nat) : Int) ((0 : Nat) : Int)) = some (e - 1) := by
    refine find_range (by omega) ?_ fun j hj => ?_
    · show sym ⟨n, nats cs⟩ 0 ((e - 1 + 1 : Nat) : Int) ((0 : Nat) : Int) = true
      rw [hs, show e - 1 + 1 = e by omega]
      exact he
    · show sym ⟨n, nats cs⟩ 0 ((j + 1 : Nat) : Int) ((0 : Nat) : Int) = false
      rw [hs]
      exact le _ (by omega) (by omega)
  have r2 : ((List.range n).find? fun v => (List.range n).any fun u => sym ⟨n, nats cs⟩ 0 (u : Int) ((v + 1 : Nat) : Int)) = some (g - 1) := by
    refine find_range (by omega) ?_ fun j hj => ?_
    · rw [any_range]
      refine ⟨f, by omega, ?_⟩
      rw [hs, show g - 1 + 1 = g by omega]
      exact hg
    · cases q : (List.range n).any fun u => sym ⟨n, nats cs⟩ 0 (u : Int) ((j + 1 : Nat) : Int) with
      | false => rfl
      | true =>
        obtain ⟨u, hu, q⟩ := any_range.mp q
        have r := shift_low (p := ⟨n, nats cs⟩) hn e0 (by rw [hs]; exact he) q
        rw [hs, lg (j + 1) (by omega) (by omega) _ (Nat.mod_lt _ e0)] at r
        cases r
  have r3 : ((List.range e).find? fun (u : Nat) => sym ⟨n, nats cs⟩ 0 (u : Int) (g : Int)) = some f := by
    refine find_range hf ?_ fun j hj => ?_
    · show sym ⟨n, nats cs⟩ 0 (f : Int) (g : Int) = true
      rw [hs]
      exact hg
    · show sym ⟨n, nats cs⟩ 0 (j : Int) (g : Int) = false
      rw [hs]
      exact lf j hj
  have hin : ¬ (n < 1 ∨ 64 < n) := by omega
  show (if (n : Int).toNat < 1 ∨ 64 < (n : Int).toNat then [-2] else _) = _
  rw [Int.toNat_natCast, if_neg hin]
  show told 0 [((List.range n).find? fun (u : Nat) => sym ⟨n, nats cs⟩ 0 ((u + 1 : Nat) : Int) ((0 : Nat) : Int)).getD 0 + 1,
    ((List.range (((List.range n).find? fun (u : Nat) => sym ⟨n, nats cs⟩ 0 ((u + 1 : Nat) : Int) ((0 : Nat) : Int)).getD 0 + 1)).find? fun (u : Nat) => sym ⟨n, nats cs⟩ 0 (u : Int) ((((List.range n).find? fun v => (List.range n).any fun u => sym ⟨n, nats cs⟩ 0 (u : Int) ((v + 1 : Nat) : Int)).getD 0 + 1 : Nat) : Int)).getD 0,
    ((List.range n).find? fun v => (List.range n).any fun u => sym ⟨n, nats cs⟩ 0 (u : Int) ((v + 1 : Nat) : Int)).getD 0 + 1,
    (((List.range n).flatMap fun (u : Nat) => (List.range n).map fun (v : Nat) => sym ⟨n, nats cs⟩ 0 (u : Int) (v : Int)).filter fun b => b).length] = _
  rw [r1, r2, ← shiftsL_length]
  show told 0 [e - 1 + 1, ((List.range (e - 1 + 1)).find? fun (u : Nat) => sym ⟨n, nats cs⟩ 0 (u : Int) ((g - 1 + 1 : Nat) : Int)).getD 0, g - 1 + 1, (shiftsL (nats cs) n).length] = _
  rw [show e - 1 + 1 = e by omega, show g - 1 + 1 = g by omega, r3]
  rfl
theorem cell_out {z : Int} {cs : List Int} (h : z < 1 ∨ 64 < z) : PySa48.cell z cs = [-2] := by
  have hin : z.toNat < 1 ∨ 64 < z.toNat := by omega
  show (if z.toNat < 1 ∨ 64 < z.toNat then [-2] else _) = _
  rw [if_pos hin]
/-- there is a shift along a row, and one along a column -/
theorem sym_full (c : List Nat) (n : Nat) : symL c n 0 (n : Int) 0 = true := by
  rw [symL_congr (u' := 0) (v' := 0) (by simp) rfl, symL_iff]
  intro k hk
  have e : pl n 0 0 0 k = k := by
    unfold pl
    show num n (((k % n : Nat) : Int) + 0) (((k / n : Nat) : Int) + 0) = k
    rw [Int.add_zero, Int.add_zero]
    exact num_self hk
  rw [e]
theorem sym_full2 (c : List Nat) (n : Nat) : symL c n 0 0 (n : Int) = true := by
  rw [symL_congr (u' := (n : Int)) (v' := 0) (by simp) (by simp)]
  exact sym_full c n
end Pl
/-! ### patterns -/
namespace Pl
open PySem PySem.Spec PyProof.Rows L2
def cV (c : List Nat) : List V := c.map fun z => V.int ((z : Nat) : Int)
def pf (n : Nat) (ca d : Addr) : List (Str × V) := [("n", .int (n : Int)), ("colours", .ref ca), ("known", .ref d)]
theorem lk_here {k : Str} {v : V} {r : List (Str × V)} : List.lookup k ((k, v) :: r) = some v := by
  have e : (k == k) = true := beq_self_eq_true k
  simp only [List.lookup, e]
theorem lk_past {k g : Str} {v : V} {r : List (Str × V)} (h : (k == g) = false) : List.lookup k ((g, v) :: r) = List.lookup k r := by
  simp only [List.lookup, h]
theorem put_past {f g : Str} {v x : V} {r : List (Str × V)} (h : ¬ g = f) : putF f v ((g, x) :: r) = (g, x) :: putF f v r := if_neg h
theorem pf_n (n : Nat) (ca d : Addr) : (pf n ca d).lookup ("n" : Str) = some (.int (n : Int)) := lk_here
theorem pf_c (n : Nat) (ca d : Addr) : (pf n ca d).lookup ("colours" : Str) = some (.ref ca) := (lk_past (by decide +kernel)).trans lk_here
theorem pf_k (n : Nat) (ca d : Addr) : (pf n ca d).lookup ("known" : Str) = some (.ref d) := (lk_past (by decide +kernel)).trans ((lk_past (by decide +kernel)).trans lk_here)
theorem pf_no (n : Nat) (ca d : Addr) {m : Str} (h1 : (m == ("n" : Str)) = false) (h2 : (m == ("colours" : Str)) = false) (h3 : (m == ("known" : Str)) = false) : (pf n ca d).lookup m = none :=
  (lk_past h1).trans ((lk_past h2).trans ((lk_past h3).trans rfl))
theorem pf_new (n : Nat) (ca d : Addr) : putF "known" (.ref d) (putF "colours" (.ref ca) (putF "n" (.int (n : Int)) [])) = pf n ca d := by
  have e1 : putF "colours" (.ref ca) (putF "n" (.int (n : Int)) []) = ([("n", .int (n : Int)), ("colours", .ref ca)] : List (Str × V)) := (put_past (by decide +kernel)).trans rfl
  rw [e1]
  exact (put_past (by decide +kernel)).trans (congrArg _ ((put_past (by decide +kernel)).trans rfl))
/-- all movements by all ways -/
def allM (n : Nat) : List Mv := Sa48Neutral.moves n (List.range 8)
def sy (c : List Nat) (n : Nat) (m : Mv) : Bool := symL c n m.1 m.2.1 m.2.2
def entry (c : List Nat) (n : Nat) (m : Mv) : List Key × V := (mk m, .bl (sy c n m))
def known (c : List Nat) (n : Nat) : List (List Key × V) := (allM n).map (entry c n)
theorem valV_known (c : List Nat) (n : Nat) (m : Mv) : ∀ l : List Mv, valV (l.map (entry c n)) (mk m) = if m ∈ l then some (.bl (sy c n m)) else none
  | [] => rfl
  | a :: r => by
    have ih := valV_known c n m r
    rw [List.map_cons]
    by_cases e : a = m
    · subst e
      rw [if_pos (List.mem_cons_self ..)]
      exact valV_pos (p := entry c n a) rfl
    · rw [valV_neg (p := entry c n a) (fun z => e (mk_inj z)), ih]
      by_cases hm : m ∈ r
      · rw [if_pos hm, if_pos (List.mem_cons_of_mem _ hm)]
      · rw [if_neg hm, if_neg]
        intro z
        rcases List.mem_cons.mp z with z | z
        · exact e z.symm
        · exact hm z
theorem nodup_app {α : Type} {l r : List α} (hl : l.Nodup) (hr : r.Nodup) (hd : ∀ x ∈ l, ∀ y ∈ r, x ≠ y) : (l ++ r).Nodup := List.nodup_append.mpr ⟨hl, hr, hd⟩
theorem nodup_flat {α β : Type} {f : α → List β} : ∀ {l : List α}, l.Nodup → (∀ a ∈ l, (f a).Nodup) → (∀ a b x, x ∈ f a → x ∈ f b → a = b) → (l.flatMap f).Nodup
  | [], _, _, _ => List.nodup_nil
  | a :: r, h, h1, h2 => by
    obtain ⟨na, nr⟩ := List.nodup_cons.mp h
    rw [List.flatMap_cons]
    refine nodup_app (h1 a (List.mem_cons_self ..)) (nodup_flat nr (fun b hb => h1 b (List.mem_cons_of_mem _ hb)) h2) fun x hx y hy e => ?_
    subst e
    obtain ⟨b, hb, hxb⟩ := List.mem_flatMap.mp hy
    exact na ((h2 a b x hx hxb) ▸ hb)
theorem nodup_map {α β : Type} {f : α → β} (hf : ∀ a b, f a = f b → a = b) : ∀ {l : List α}, l.Nodup → (l.map f).Nodup
  | [], _ => List.nodup_nil
  | a :: r, h => by
    obtain ⟨na, nr⟩ := List.nodup_cons.mp h
    rw [List.map_cons]
    refine List.nodup_cons.mpr ⟨fun z => ?_, nodup_map hf nr⟩
    obtain ⟨b, hb, e⟩ := List.mem_map.mp z
    exact na (hf _ _ e ▸ hb)
theorem rg_nodup (n : Nat) : (Sa48Neutral.rg n).Nodup := nodup_map (fun a b h => by omega) List.nodup_range
theorem moves_nodup (n : Nat) {l : List Nat} (h : l.Nodup) : (Sa48Neutral.moves n l).Nodup := by
  unfold Sa48Neutral.moves
  refine nodup_flat h (fun a _ => nodup_flat (rg_nodup n) (fun u _ => nodup_map (fun v v' e => by injection e with _ e; injection e) (rg_nodup n)) fun u u' x hx hx' => ?_) fun a b x hx hx' => ?_
  · obtain ⟨v, _, rfl⟩ := List.mem_map.mp hx
    obtain ⟨v', _, e⟩ := List.mem_map.mp hx'
    injection e with _ e
    injection e with e _
    exact e.symm
  · obtain ⟨u, _, hx⟩ := List.mem_flatMap.mp hx
    obtain ⟨v, _, rfl⟩ := List.mem_map.mp hx
    obtain ⟨u', _, hx'⟩ := List.mem_flatMap.mp hx'
    obtain ⟨v', _, e⟩ := List.mem_map.mp hx'
    injection e with e _
    exact e.symm
theorem not_mem_take {α : Type} : ∀ {l : List α} {i : Nat} {x : α}, l.Nodup → l[i]? = some x → ¬ x ∈ l.take i
  | [], i, x, _, h => by simp at h
  | a :: l, 0, x, _, h => by simp
  | a :: l, i + 1, x, hn, h => by
    obtain ⟨na, nr⟩ := List.nodup_cons.mp hn
    have h : l[i]? = some x := h
    rw [List.take_succ_cons]
    intro z
    rcases List.mem_cons.mp z with z | z
    · subst z
      exact na (List.mem_iff_getElem?.mpr ⟨i, h⟩)
    · exact not_mem_take nr h z
/-- a pattern stands at x: its colours c (at ca), what is known (at d) -/
def PatI (K : PySem.W.Frag) (C : Addr) (H : Hp) (x dx ca d : Addr) (n : Nat) (c : List Nat) : Prop := H x = some (.ins C dx (pf n ca d)) ∧ SqL K H ca (cV c) ∧ c.length = n * n ∧ 0 < n ∧ n ≤ 6
def PatAt (K : PySem.W.Frag) (C : Addr) (H : Hp) (x : Addr) (n : Nat) (c : List Nat) : Prop := ∃ dx ca d, PatI K C H x dx ca d n c ∧ H d = some (.dT (known c n))
theorem PatI.same {K : PySem.W.Frag} {C : Addr} {H H' : Hp} {x dx ca d : Addr} {n : Nat} {c : List Nat} (p : PatI K C H x dx ca d n c) (s : Same H H') : PatI K C H' x dx ca d n c := ⟨s _ _ p.1, s.seq p.2.1, p.2.2⟩
theorem PatAt.same {K : PySem.W.Frag} {C : Addr} {H H' : Hp} {x : Addr} {n : Nat} {c : List Nat} (p : PatAt K C H x n c) (s : Same H H') : PatAt K C H' x n c := by
  obtain ⟨dx, ca, d, h, k⟩ := p
  exact ⟨dx, ca, d, h.same s, s _ _ k⟩
theorem off_seq {K : PySem.W.Frag} {H H' : Hp} {a d : Addr} {xs : List V} {o : HO} (hd : H d = some o) (n1 : ∀ xs, o ≠ .lst xs) (n2 : ∀ ob xs, o ≠ .frz ob (.lst xs)) (e : ∀ b o, b ≠ d → H b = some o → H' b = some o) (h : SqL K H a xs) : SqL K H' a xs := by
  rcases h with (h | ⟨ob, h⟩) | h
  · exact .inl (.inl (e _ _ (ne_of h hd (fun z => n1 _ z.symm)) h))
  · exact .inl (.inr ⟨ob, e _ _ (ne_of h hd (fun z => n2 _ _ z.symm)) h⟩)
  · exact .inr h
/-- what the top has written of the class and the names -/
structure TxC (K : PySem.W.Frag) (mg : Str → Option Value) (C : Addr) : Prop where
  cl : Cls K C
  nN : NoAttr K C "n"
  nC : NoAttr K C "colours"
  nK : NoAttr K C "known"
  gC : mg "Pattern" = some (.ref C)
  enum : mg "enumerate" = none
  list : mg "list" = none
  many : ∃ t, mg "MANY" = some (.int 8 t)
/-! ### the promises -/
def spLeaves (K : PySem.W.Frag) (C : Addr) : Sp := fun vs H Q _ => ∃ (x dx ca d m : Addr) (n : Nat) (c : List Nat) (a : Nat) (u v : Int), vs = [.ref x, .ref m] ∧ PatI K C H x dx ca d n c ∧ SqT K H m [.int (a : Int), .int u, .int v] ∧ a < 8 ∧
  ∀ H', Same H H' → Q (.bl (symL c n a u v)) H'
def spHas (K : PySem.W.Frag) (C : Addr) : Sp := fun vs H Q _ => ∃ (x : Addr) (n : Nat) (c : List Nat) (a : Nat) (u v : Int), vs = [.ref x, .int (a : Int), .int u, .int v] ∧ PatAt K C H x n c ∧ a < 8 ∧
  ∀ H', Same H H' → Q (.bl (symL c n a u v)) H'
def spSyms (K : PySem.W.Frag) (C : Addr) : Sp := fun vs H Q _ => ∃ (x : Addr) (n : Nat) (c : List Nat), vs = [.ref x] ∧ PatAt K C H x n c ∧
  ∀ (H' : Hp) (p : Addr) (L : List (Addr × Mv)), Same H H' → H p = none → L.map (·.2) = (allM n).filter (sy c n) → H' p = some (.lst (refs L)) → Ts H' L → Q (.ref p) H'
def spInit (K : PySem.W.Frag) (C : Addr) : Sp := fun vs H Q _ => ∃ (x dx ca : Addr) (n : Nat) (c : List Nat), vs = [.ref x, .int (n : Int), .ref ca] ∧ H x = some (.ins C dx []) ∧ SqL K H ca (cV c) ∧ c.length = n * n ∧ 0 < n ∧ n ≤ 6 ∧
  ∀ H', (∀ b o, b ≠ x → H b = some o → H' b = some o) → PatAt K C H' x n c → Q .non H'
section
variable {P : Program} {w : World} {K : PySem.W.Frag} {mg : Str → Option Value} {base : Heap} {W C : Addr} {ws : Nat → Addr}
theorem cV_at {c : List Nat} {k : Nat} (h : k < c.length) : (cV c)[k]? = some (.int ((c.getD k 0 : Nat) : Int)) := by
  unfold cV
  rw [List.getElem?_map, List.getElem?_eq_getElem h, List.getD_eq_getElem?_getD, List.getElem?_eq_getElem h]
  rfl
theorem scLeaves : FnScope ["self", "movement", "place", "other"] ["self", "movement"] (defScope sLeaves) := ⟨rfl, rfl, rfl, by decide +kernel, rfl, by decide +kernel, by decide +kernel⟩
theorem ok_leaves {f f1 : Addr} {fd fd1 : FuncData} (F : Fun K "leaves" "Pattern.leaves" sLeaves f fd) (T : TxC K mg C) (G1 : FnOk P w K mg base CX0 3 f1 fd1 ["n", "movement"] (spImage K)) (m1 : mg "image" = some (.ref f1)) (k1 : PySem.W.keepIn K (.ref f1) = true) (b1 : Binds K fd1 ["n", "movement"] []) :
    FnOk P w K mg base CX0 4 f fd ["self", "movement"] (spLeaves K C) := by
  refine F.ok scLeaves (fun vs H Q E h => ?_) (fun cdv A outer s H vs Q E hr h => ?_)
  · obtain ⟨x, dx, ca, d, m, n, c, a, u, v, rfl, _⟩ := h
    rfl
  · obtain ⟨x, dx, ca, d, m, n, c, a, u, v, rfl, hP, hm, ha, k⟩ := h
    have nd := scLeaves.nd
    refine ⟨_, pss_cons (ps_for PassesOwn.never rfl (pi_enum rfl T.enum (pa_cons (pe_call G1 hr rfl m1 k1 b1 .nil pass0 (pa_cons (pe_fld (pv 0) rfl) (pa_cons (pv 1) pa_nil))) pa_nil))
        (pg_tup rfl (pgs_cons (pg_name (i := 2) nd rfl (Or.inl rfl)) (pgs_cons (pg_name (i := 3) nd rfl (Or.inl rfl)) pgs_nil)))
        (pss_one (ps_if (pt_cmpR op_ne (pe_ix ix_list (pe_fld (pv 0) rfl) (pv 2) (fun _ _ => rfl)) (pe_ix ix_list (pe_fld (pv 0) rfl) (pv 3) (fun _ _ => rfl)) (nomark _)) (pss_one (ps_ret pe_bl)) pss_nil)))
      (pss_one (ps_ret pe_bl)), ?_⟩
    obtain ⟨hx, hca, hlen, h0, h6⟩ := id hP
    refine ⟨_, rfl, x, C, dx, _, _, rfl, hx, T.cl, T.nN, pf_n _ _ _, _, rfl, m, n, a, u, v, rfl, hm, ha, h0, by omega, fun H1 p s1 n1 e1 => ?_⟩
    refine ⟨p, _, rfl, SqL.of e1, for_it walk_enum (fun i σ H' => ∃ vp vo : Option V, σ = [some (.ref x), some (.ref m), vp, vo] ∧ Same H1 H' ∧ ∀ k, k < i → c.getD (pl n a u v k) 0 = c.getD k 0)
      ⟨none, none, rfl, Same.refl _, fun k hk => absurd hk (Nat.not_lt_zero _)⟩ (fun i σ H' _ ⟨_, _, _, s2, _⟩ => s2.seq (SqL.of e1)) ?_ ?_⟩
    · rintro i y σ H2 H3 hi ⟨vp, vo, rfl, s2, hs⟩ ⟨t, yx, yy, rfl, ht, rfl, ex, ey⟩
      rw [List.length_map, List.length_range] at hi
      cases ex
      have ey : ((List.range (n * n)).map fun k => V.int ((pl n a u v k : Nat) : Int))[i]? = some yy := ey
      rw [List.getElem?_map, List.getElem?_range hi] at ey
      cases ey
      have s3 : Same H (L2.upd H2 t (.tup [V.int ((i : Nat) : Int), V.int ((pl n a u v i : Nat) : Int)])) := s1.trans (s2.trans (Same.new ht))
      obtain ⟨hx3, hca3, _⟩ := hP.same s3
      have hpl : pl n a u v i < n * n := pl_lt h0 a u v i
      refine ⟨t, _, rfl, SqT.of upd_same, rfl, _, _, rfl, _, _, rfl, rfl, ?_⟩
      refine ⟨_, rfl, x, C, dx, _, _, rfl, hx3, T.cl, T.nC, pf_c _ _ _, _, rfl, ca, _, _, _, rfl, rfl, hca3, atI_nat (cV_at (by omega)), ?_⟩
      refine ⟨_, rfl, x, C, dx, _, _, rfl, hx3, T.cl, T.nC, pf_c _ _ _, _, rfl, ca, _, _, _, rfl, rfl, hca3, atI_nat (cV_at (by omega)), ?_⟩
      refine ⟨rfl, _, rfl, ?_⟩
      by_cases e : c.getD i 0 = c.getD (pl n a u v i) 0
      · rw [e, decide_eq_true rfl]
        refine iteF ⟨_, _, rfl, s2.trans (Same.new ht), fun k hk => ?_⟩
        by_cases hki : k < i
        · exact hs k hki
        · obtain rfl : k = i := by omega
          exact e.symm
      · rw [decide_eq_false (fun z => e (by injection z with z; omega))]
        refine iteT ?_
        have r : symL c n a u v = false := by
          cases q : symL c n a u v with
          | false => rfl
          | true => exact absurd (symL_iff.mp q i hi).symm e
        have := k _ s3
        rw [r] at this
        exact this
    · rintro σ H2 ⟨vp, vo, rfl, s2, hs⟩
      rw [List.length_map, List.length_range] at hs
      have := k _ (s1.trans s2)
      rw [symL_iff.mpr hs] at this
      exact this
theorem scHas : FnScope ["self", "way", "a", "b"] ["self", "way", "a", "b"] (defScope sHas) := ⟨rfl, rfl, rfl, by decide +kernel, rfl, by decide +kernel, by decide +kernel⟩
theorem ok_has {f : Addr} {fd : FuncData} (F : Fun K "has" "Pattern.has" sHas f fd) (T : TxC K mg C) : FnOk P w K mg base CX0 1 f fd ["self", "way", "a", "b"] (spHas K C) := by
  refine F.ok scHas (fun vs H Q E h => ?_) (fun cdv A outer s H vs Q E hr h => ?_)
  · obtain ⟨x, n, c, a, u, v, rfl, _⟩ := h
    rfl
  · obtain ⟨x, n, c, a, u, v, rfl, ⟨dx, ca, d, hP, hd⟩, ha, k⟩ := h
    have hu := hu_of hr
    refine ⟨_, pss_one (ps_ret (pe_dget hu (pe_fld (pv 0) rfl) (pe_tup (pa_cons (pv 1) (pa_cons (pe_op op_mod (pv 2) (pe_fld (pv 0) rfl)) (pa_cons (pe_op op_mod (pv 3) (pe_fld (pv 0) rfl)) pa_nil)))) (fun _ _ => rfl))), ?_⟩
    obtain ⟨hx, hca, hlen, h0, h6⟩ := id hP
    have hn : (0 : Int) < (n : Int) := by omega
    refine ⟨_, rfl, x, C, dx, _, _, rfl, hx, T.cl, T.nK, pf_k _ _ _, ?_⟩
    refine ⟨_, rfl, _, rfl, _, rfl, x, C, dx, _, _, rfl, hx, T.cl, T.nN, pf_n _ _ _, _, _, rfl, rfl, hn, _, rfl, _, rfl, x, C, dx, _, _, rfl, hx, T.cl, T.nN, pf_n _ _ _, _, _, rfl, rfl, hn, (by show 3 ≤ sizeLine; decide), fun p hp => ?_⟩
    have m1 := Int.emod_nonneg u (show (n : Int) ≠ 0 by omega)
    have m2 := Int.emod_lt_of_pos u hn
    have m3 := Int.emod_nonneg v (show (n : Int) ≠ 0 by omega)
    have m4 := Int.emod_lt_of_pos v hn
    have hm : ((a, u % (n : Int), v % (n : Int)) : Mv) ∈ allM n := mem_moves.mpr ⟨List.mem_range.mpr ha, ⟨(u % (n : Int)).toNat, by omega, (Int.toNat_of_nonneg m1).symm⟩, ⟨(v % (n : Int)).toNat, by omega, (Int.toNat_of_nonneg m3).symm⟩⟩
    refine ⟨d, .bl (symL c n a u v), rfl, ?_, k _ (Same.new hp)⟩
    have hd' : L2.upd H p (.tup [V.int (a : Int), V.int (u % (n : Int)), V.int (v % (n : Int))]) d = some (.dT (known c n)) := by
      rw [upd_ne (ne_of_none hd hp)]
      exact hd
    have g := DGet.t (k := mk (a, u % (n : Int), v % (n : Int))) hd' upd_same
    have e : valV (known c n) (mk (a, u % (n : Int), v % (n : Int))) = some (.bl (symL c n a u v)) := by
      unfold known
      rw [valV_known, if_pos hm]
      show some (V.bl (symL c n a (u % (n : Int)) (v % (n : Int)))) = _
      rw [symL_mod]
    rw [e] at g
    exact g
theorem scSyms : FnScope ["self", "movement"] ["self"] (defScope sSyms) := ⟨rfl, rfl, rfl, by decide +kernel, rfl, by decide +kernel, by decide +kernel⟩
theorem known_at {c : List Nat} {n i : Nat} {key : List Key} {v : V} (h : (known c n)[i]? = some (key, v)) : ∃ m, (allM n)[i]? = some m ∧ key = mk m ∧ v = .bl (sy c n m) := by
  unfold known at h
  obtain ⟨m, h1, h2⟩ := map_at h
  injection h2 with h3 h4
  exact ⟨m, h1, h3, h4⟩
theorem known_len (c : List Nat) (n : Nat) : (known c n).length = (allM n).length := by
  unfold known
  rw [List.length_map]
theorem allM_len (n : Nat) : (allM n).length = 8 * (n * n) := by
  unfold allM
  rw [moves_len, List.length_range]
theorem allM_small {n : Nat} (h : n ≤ 6) : (allM n).length ≤ 288 := by
  rw [allM_len]
  have := Nat.mul_le_mul h h
  omega
theorem ok_syms {f : Addr} {fd : FuncData} (F : Fun K "symmetries" "Pattern.symmetries" sSyms f fd) (T : TxC K mg C) : FnOk P w K mg base CX0 1 f fd ["self"] (spSyms K C) := by
  refine F.ok scSyms (fun vs H Q E h => ?_) (fun cdv A outer s H vs Q E hr h => ?_)
  · obtain ⟨x, n, c, rfl, _⟩ := h
    rfl
  · obtain ⟨x, n, c, rfl, ⟨dx, ca, d, hP, hd⟩, k⟩ := h
    have nd := scSyms.nd
    have hu := hu_of hr
    refine ⟨_, pss_one (ps_ret (pe_lock (pe_lc (own := [("movement", 1)]) (g := gName 1) rfl nd (pi_keys (pe_fld (pv 0) rfl))
      (blkOk_by (own := [("movement", 1)]) (N := ["self", "movement"]) (sc := defScope sSyms) (by decide +kernel)) (fun _ _ _ _ _ => pg_name (i := 1) nd rfl (Or.inl rfl)) (fun _ _ _ _ _ => by refine pts_one (pt_val (t := tDGet (tFld K (tVar 0) "known") (tVar 1)) ?_ ?_); exact pe_dget hu (pe_fld (pv 0) rfl) (pv 1) (fun _ _ => rfl); intro _; rfl)
      (fun _ _ _ _ _ => pv 1)))), ?_⟩
    obtain ⟨hx, hca, hlen, h0, h6⟩ := id hP
    refine ⟨d, _, hd, trivial, fun od => ?_⟩
    have nxd : x ≠ d := ne_of hx hd (by intro z; cases z)
    have hx1 : L2.upd H d (.frz od (.dT (known c n))) x = some (.ins C dx (pf n ca d)) := by
      rw [upd_ne nxd]
      exact hx
    refine ⟨_, rfl, x, C, dx, _, _, rfl, hx1, T.cl, T.nK, pf_k _ _ _, d, od, rfl, .inr ⟨known c n, upd_same, fun D hD => ?_⟩⟩
    have ndD : d ≠ D := fun z => by
      rw [← z, upd_same] at hD
      cases hD
    have hD0 : H D = none := by
      rw [upd_ne (Ne.symm ndD)] at hD
      exact hD
    refine lc_it walk_keysT (fun i H' => ∃ L : List (Addr × Mv), Same (L2.upd H d (.frz od (.dT (known c n)))) H' ∧ H' D = some (.lst (refs L)) ∧ L.map (·.2) = ((allM n).take i).filter (sy c n) ∧ Ts H' L)
      ⟨[], Same.new hD, upd_same, rfl, fun q hq => nomatch hq⟩ (fun i H' _ ⟨_, s1, _⟩ => s1 _ _ upd_same) ?_ ?_
    · rintro i y H1 H2 hi ⟨L, s1, e1, em, t1⟩ ⟨rfl, key, v, q, hk, rfl, hq⟩
      obtain ⟨m, hm, rfl, rfl⟩ := known_at hk
      have hx2 := s1 _ _ hx1
      have hd2 := s1 _ _ (upd_same (H := H) (a := d) (o := .frz od (.dT (known c n))))
      have hmem : m ∈ allM n := List.mem_iff_getElem?.mpr ⟨i, hm⟩
      have e : valV (known c n) (mk m) = some (.bl (sy c n m)) := by
        unfold known
        rw [valV_known, if_pos hmem]
      have hL : L.length ≤ 288 := by
        have q := congrArg List.length em
        rw [List.length_map] at q
        rw [q]
        refine Nat.le_trans (List.length_filter_le _ _) ?_
        rw [List.length_take]
        exact Nat.le_trans (Nat.min_le_right _ _) (allM_small h6)
      refine ⟨rfl, _, rfl, x, C, dx, _, _, rfl, hx2, T.cl, T.nK, pf_k _ _ _, _, rfl, d, .bl (sy c n m), rfl, ?_, _, rfl, ?_⟩
      · exact .inr ⟨known c n, mk m, q, .inr ⟨od, hd2⟩, rfl, hq, e.symm⟩
      · cases hs : sy c n m with
        | true =>
          refine iteT ?_
          refine ⟨_, rfl, _, e1, (by unfold refs; rw [List.length_map]; exact Nat.lt_of_le_of_lt hL (by decide)), L ++ [(q, m)], Same.upd s1 hD, ?_, ?_, ?_⟩
          · rw [upd_same, refs_app]
            rfl
          · rw [List.map_append, em, take_more hm, List.filter_append, List.filter_cons, if_pos hs]
            rfl
          · refine Ts.keep (H := H2) (t1.app fun z hz => ?_) (fun xs z => ?_) rfl
            · obtain rfl := List.mem_singleton.mp hz
              exact hq
            · rw [e1] at z
              cases z
        | false =>
          refine iteF ⟨L, s1, e1, ?_, t1⟩
          rw [em, take_more hm, List.filter_append, List.filter_cons, if_neg (by rw [hs]; exact Bool.false_ne_true), List.filter_nil, List.append_nil]
    · rintro H1 ⟨L, s1, e1, em, t1⟩
      rw [known_len, List.take_length] at em
      have hd2 := s1 _ _ (upd_same (H := H) (a := d) (o := .frz od (.dT (known c n))))
      refine ⟨hd2, k _ D L (fun b o hb => ?_) hD0 em ?_ ?_⟩
      · by_cases hbd : b = d
        · subst hbd
          rw [upd_same]
          exact hd.symm.trans hb
        · rw [upd_ne hbd]
          exact s1 _ _ (by rw [upd_ne hbd]; exact hb)
      · rw [upd_ne (Ne.symm ndD)]
        exact e1
      · refine Ts.keep (H := H1) t1 (fun xs z => ?_) rfl
        rw [hd2] at z
        cases z
theorem scInit : FnScope ["self", "n", "colours", "movement"] ["self", "n", "colours"] (defScope sInit) := ⟨rfl, rfl, rfl, by decide +kernel, rfl, by decide +kernel, by decide +kernel⟩
theorem ok_init {f f1 f2 : Addr} {fd fd1 fd2 : FuncData} (F : Fun K "__init__" "Pattern.__init__" sInit f fd) (T : TxC K mg C) (TW : TxW K mg W ws) (G1 : FnOk P w K mg base CX0 1 f1 fd1 ["n", "ways"] (spMvs K)) (m1 : mg "movements" = some (.ref f1)) (k1 : PySem.W.keepIn K (.ref f1) = true) (b1 : Binds K fd1 ["n", "ways"] [])
    (G2 : FnOk P w K mg base CX0 4 f2 fd2 ["self", "movement"] (spLeaves K C)) (m2 : Meth K C "leaves" f2) (b2 : Binds K fd2 ["self", "movement"] []) :
    FnOk P w K mg base CX0 5 f fd ["self", "n", "colours"] (spInit K C) := by
  refine F.ok scInit (fun vs H Q E h => ?_) (fun cdv A outer s H vs Q E hr h => ?_)
  · obtain ⟨x, dx, ca, n, c, rfl, _⟩ := h
    rfl
  · obtain ⟨x, dx, ca, n, c, rfl, hx, hca, hlen, h0, h6, k⟩ := h
    have nd := scInit.nd
    have hu := hu_of hr
    have hr1 : Room 1 _ := hr.mono (by decide)
    obtain ⟨tM, mgM⟩ := T.many
    refine ⟨_, pss_cons (ps_fld (pv 0) (pv 1) rfl) (pss_cons (ps_fld (pv 0) (pv 2) rfl) (pss_cons (ps_fld (pv 0) pe_dnewT rfl)
      (pss_one (ps_for PassesOwn.never rfl (pi_list (pe_call G1 hr1 rfl m1 k1 b1 .nil pass0 (pa_cons (pv 1) (pa_cons (pe_listRg rfl rfl T.list (prg_1 rfl TW.range (pe_glob (v := .int 8) rfl mgM ⟨_, rfl⟩))) pa_nil)))) (pg_name (i := 3) nd rfl (Or.inl rfl))
        (pss_one (ps_dput hu (pe_fld (pv 0) rfl) (pv 3) (pe_meth (pv 0) T.cl m2 G2 hr b2 .nil pass0 (pa_cons (pv 3) pa_nil)) rfl)))))), ?_⟩
    refine ⟨_, rfl, _, rfl, x, C, dx, [], rfl, hx, T.cl, T.nN, (by show 0 < 1000; decide), ?_⟩
    refine ⟨_, rfl, _, rfl, x, C, dx, _, rfl, upd_same, T.cl, T.nC, (by show 1 < 1000; decide), ?_⟩
    intro d hd
    have nxd : x ≠ d := fun z => by
      rw [← z, upd_same] at hd
      cases hd
    have hd0 : H d = none := by
      rw [upd_ne (Ne.symm nxd), upd_ne (Ne.symm nxd)] at hd
      exact hd
    refine ⟨_, rfl, x, C, dx, _, rfl, (by rw [upd_ne nxd, upd_same]), T.cl, T.nK, ?_, ?_⟩
    · show List.length (putF "colours" (.ref ca) (putF "n" (.int (n : Int)) [])) < 1000
      have e1 : putF "colours" (.ref ca) (putF "n" (.int (n : Int)) []) = ([("n", .int (n : Int)), ("colours", .ref ca)] : List (Str × V)) := (put_past (by decide +kernel)).trans rfl
      rw [e1]
      show 2 < 1000
      decide
    · refine ⟨_, rfl, 8, rfl, (RgOk.of_le (by decide) (by decide) (by decide) (by decide)), fun q hq => ?_⟩
      refine ⟨n, q, List.range 8, rfl, SqL.of (upd_same.trans rfl), by omega, by decide, fun H1 r L s1 n1 em e1 t1 => ?_⟩
      have F1 : H1 x = some (.ins C dx (pf n ca d)) := by
        rw [← pf_new]
        exact s1 _ _ ((upd_ne (ne_of_none upd_same hq)).trans upd_same)
      have hd3 := (upd_ne (H := L2.upd (L2.upd (L2.upd H x (.ins C dx (putF "n" (.int (n : Int)) []))) x (.ins C dx (putF "colours" (.ref ca) (putF "n" (.int (n : Int)) [])))) d (.dT [])) (o := .ins C dx (putF "known" (.ref d) (putF "colours" (.ref ca) (putF "n" (.int (n : Int)) [])))) (Ne.symm nxd)).trans upd_same
      have F2 : H1 d = some (.dT []) := s1 _ _ ((upd_ne (ne_of_none hd3 hq)).trans hd3)
      have F3 : ∀ b o, b ≠ x → H b = some o → H1 b = some o := fun b o hbx hb => by
        have nbd : b ≠ d := ne_of_none hb hd0
        have hb3 := (upd_ne (H := L2.upd (L2.upd (L2.upd H x (.ins C dx (putF "n" (.int (n : Int)) []))) x (.ins C dx (putF "colours" (.ref ca) (putF "n" (.int (n : Int)) [])))) d (.dT [])) (o := .ins C dx (putF "known" (.ref d) (putF "colours" (.ref ca) (putF "n" (.int (n : Int)) [])))) hbx).trans ((upd_ne nbd).trans ((upd_ne hbx).trans ((upd_ne hbx).trans hb)))
        exact s1 _ _ ((upd_ne (ne_of_none hb3 hq)).trans hb3)
      have F4 : SqL K H1 ca (cV c) := off_seq hx (by intro xs z; cases z) (by intro ob xs z; cases z) F3 hca
      have nrd : r ≠ d := ne_of e1 F2 (by intro z; cases z)
      refine ⟨r, rfl, ⟨_, SqL.of e1⟩, for_list (K := K) (a := r) (xs := refs L) (fun i σ H' => ∃ vm : Option V, σ = [some (.ref x), some (.int (n : Int)), some (.ref ca), vm] ∧ (∀ b o, b ≠ d → H1 b = some o → H' b = some o) ∧ H' d = some (.dT (((allM n).take i).map (entry c n))))
        ⟨none, rfl, fun b o _ h => h, F2⟩ (fun i σ H' _ ⟨_, _, s2, _⟩ => SqL.of (s2 _ _ nrd e1)) ?_ ?_⟩
      · rintro i y σ H2 hi ⟨vm, rfl, s2, e2⟩
        obtain ⟨⟨t, m⟩, hLi, rfl⟩ := map_at hi
        have hm : (allM n)[i]? = some m := by
          have q : (L.map (·.2))[i]? = some m := by
            rw [List.getElem?_map, hLi]
            rfl
          rw [em] at q
          exact q
        have hmem : m ∈ allM n := List.mem_iff_getElem?.mpr ⟨i, hm⟩
        have ht1 : H1 t = some (.tup (mv m)) := t1 (t, m) (List.mem_iff_getElem?.mpr ⟨i, hLi⟩)
        have ntd : t ≠ d := ne_of ht1 F2 (by intro z; cases z)
        have ht2 := s2 _ _ ntd ht1
        have hx2 := s2 _ _ nxd F1
        have hca2 : SqL K H2 ca (cV c) := off_seq F2 (by intro xs z; cases z) (by intro ob xs z; cases z) s2 F4
        have ha : m.1 < 8 := List.mem_range.mp (mem_moves.mp hmem).1
        refine ⟨_, rfl, x, dx, _, rfl, hx2, pf_no _ _ _ (by decide +kernel) (by decide +kernel) (by decide +kernel), _, rfl, x, dx, ca, d, t, n, c, m.1, m.2.1, m.2.2, rfl, ⟨hx2, hca2, hlen, h0, h6⟩, SqT.of ht2, ha, fun H5 s5 => ?_⟩
        refine ⟨_, rfl, x, C, dx, _, _, rfl, s5 _ _ hx2, T.cl, T.nK, pf_k _ _ _, _, rfl, d, _, rfl, DPut.t (k := mk m) (s5 _ _ e2) (s5 _ _ ht2) ?_, _, rfl, fun b o hb h1 => (upd_ne hb).trans (s5 _ _ (s2 b o hb h1)), ?_⟩
        · rw [List.length_map, List.length_take]
          exact Nat.lt_of_le_of_lt (Nat.le_trans (Nat.min_le_right _ _) (allM_small h6)) (by decide)
        · rw [upd_same, take_more hm, List.map_append, putK_new]
          · rfl
          · rw [valV_known, if_neg]
            exact not_mem_take (moves_nodup n List.nodup_range) hm
      · rintro σ H2 ⟨vm, rfl, s2, e2⟩
        have hl : (refs L).length = (allM n).length := by
          rw [refs_len, em]
          rfl
        rw [hl, List.take_length] at e2
        refine k _ (fun b o hbx hb => s2 b o (ne_of_none hb hd0) (F3 b o hbx hb)) ⟨dx, ca, d, ⟨s2 _ _ nxd F1, off_seq F2 (by intro xs z; cases z) (by intro ob xs z; cases z) s2 F4, hlen, h0, h6⟩, e2⟩
end
end Pl
/-! ### sides, what is asked of a square -/
namespace Pl
open PySem PySem.Spec PyProof.Rows L2
def spSide : Sp := fun vs H Q _ => ∃ z : Int, vs = [.int z] ∧ Q (.bl (decide (1 ≤ z) && decide (z ≤ 64))) H
theorem pf_meth {n : Nat} {ca d : Addr} {m : Str} (h : ((m == ("n" : Str)) || (m == ("colours" : Str)) || (m == ("known" : Str))) = false) : (pf n ca d).lookup m = none := by
  rw [Bool.or_eq_false_iff, Bool.or_eq_false_iff] at h
  exact pf_no n ca d h.1.1 h.1.2 h.2
theorem refs_at {L : List (Addr × Mv)} {i : Nat} {y : V} (h : (refs L)[i]? = some y) : ∃ t m, L[i]? = some (t, m) ∧ y = .ref t := by
  obtain ⟨⟨t, m⟩, h1, h2⟩ := map_at h
  exact ⟨t, m, h1, h2⟩
section
variable {P : Program} {w : World} {K : PySem.W.Frag} {mg : Str → Option Value} {base : Heap}
theorem scSide : FnScope ["n"] ["n"] (defScope sIsSide) := ⟨rfl, rfl, rfl, by decide +kernel, rfl, by decide +kernel, by decide +kernel⟩
theorem ok_side {f : Addr} {fd : FuncData} (F : Fun K "is_side" "is_side" sIsSide f fd) (mM : ∃ t, mg "MOST_SIDE" = some (.int 64 t)) : FnOk P w K mg base CX0 1 f fd ["n"] spSide := by
  refine F.ok scSide (fun vs H Q E h => ?_) (fun cdv A outer s H vs Q E hr h => ?_)
  · obtain ⟨z, rfl, _⟩ := h
    rfl
  · obtain ⟨z, rfl, k⟩ := h
    obtain ⟨t, mM⟩ := mM
    refine ⟨_, pss_one (ps_ret (pe_chain op_le op_le pe_int (pv 0) (pe_glob (v := .int 64) rfl mM ⟨_, rfl⟩))), ?_⟩
    refine ⟨_, rfl, _, _, rfl, rfl, _, rfl, ?_⟩
    by_cases h : 1 ≤ z
    · rw [decide_eq_true h] at k ⊢
      exact iteT ⟨_, _, rfl, rfl, k⟩
    · rw [decide_eq_false h] at k ⊢
      exact iteF k
theorem cV_nats {cs : List Int} (h : ∀ z ∈ cs, 0 ≤ z) : cV (Sa48Neutral.nats cs) = cs.map V.int := by
  unfold cV Sa48Neutral.nats
  rw [List.map_map]
  refine List.map_congr_left fun z hz => ?_
  show V.int ((z.toNat : Nat) : Int) = V.int z
  rw [Int.toNat_of_nonneg (h z hz)]
/-- what is asked of a square -/
theorem square_of {z : Int} {cs : List Int} (h : Sa48Neutral.square z cs = true) (h1 : 1 ≤ z) (h2 : z ≤ 64) : ∃ n : Nat, z = (n : Int) ∧ 0 < n ∧ n ≤ 6 ∧ (Sa48Neutral.nats cs).length = n * n ∧ cV (Sa48Neutral.nats cs) = cs.map V.int := by
  unfold Sa48Neutral.square at h
  rw [if_pos ⟨h1, h2⟩, Bool.and_eq_true, Bool.and_eq_true, Bool.and_eq_true, decide_eq_true_eq, decide_eq_true_eq, List.all_eq_true] at h
  obtain ⟨_, ha, h6, hl⟩ := h
  refine ⟨z.toNat, by omega, by omega, by omega, ?_, cV_nats fun y hy => ?_⟩
  · unfold Sa48Neutral.nats
    rw [List.length_map]
    have e : ((z.toNat * z.toNat : Nat) : Int) = z * z := by
      rw [Int.natCast_mul, Int.toNat_of_nonneg (by omega)]
    omega
  · have := ha y hy
    unfold Sa48Neutral.natural at this
    rw [Bool.and_eq_true, decide_eq_true_eq] at this
    exact this.1
end
end Pl
namespace Pl
open Sa48 Sa48Neutral
/-! ### the kinds -/
/-- whether some symmetry has a way -/
def hasW (c : List Nat) (n a : Nat) : Bool := !(((moves n (List.range 8)).filter fun m => symL c n m.1 m.2.1 m.2.2).filter fun m => m.1 == a).isEmpty
theorem hasW_iff {c : List Nat} {n a : Nat} (ha : a < 8) : hasW c n a = true ↔ ∃ i j : Nat, i < n ∧ j < n ∧ symL c n a (i : Int) (j : Int) = true := by
  unfold hasW
  rw [Bool.not_eq_true', Bool.eq_false_iff, ne_eq, List.isEmpty_iff, List.filter_eq_nil_iff]
  constructor
  · intro h
    apply Classical.byContradiction
    intro q
    refine h fun m hm => ?_
    obtain ⟨hm1, hm2⟩ := List.mem_filter.mp hm
    obtain ⟨_, ⟨i, hi, ei⟩, ⟨j, hj, ej⟩⟩ := mem_moves.mp hm1
    intro e
    have e : m.1 = a := eq_of_beq e
    exact q ⟨i, j, hi, hj, by rw [← e, ← ei, ← ej]; exact hm2⟩
  · rintro ⟨i, j, hi, hj, h⟩ q
    have hm : ((a, (i : Int), (j : Int)) : Nat × Int × Int) ∈ moves n (List.range 8) := mem_moves.mpr ⟨List.mem_range.mpr ha, ⟨i, hi, rfl⟩, ⟨j, hj, rfl⟩⟩
    exact q _ (List.mem_filter.mpr ⟨hm, h⟩) (beq_self_eq_true a)
theorem hasW_has {c : List Nat} {n a : Nat} (ha : a < 8) : has ⟨n, c⟩ a = hasW c n a := by
  rw [Bool.eq_iff_iff, hasW_iff ha]
  unfold has
  rw [List.any_eq_true]
  constructor
  · rintro ⟨u, hu, h⟩
    obtain ⟨v, hv, h⟩ := List.any_eq_true.mp h
    obtain ⟨i, hi, rfl⟩ := mem_rg.mp hu
    obtain ⟨j, hj, rfl⟩ := mem_rg.mp hv
    rw [sym_symL] at h
    exact ⟨i, j, hi, hj, h⟩
  · rintro ⟨i, j, hi, hj, h⟩
    refine ⟨(i : Int), mem_rg.mpr ⟨i, hi, rfl⟩, List.any_eq_true.mpr ⟨(j : Int), mem_rg.mpr ⟨j, hj, rfl⟩, ?_⟩⟩
    rw [sym_symL]
    exact h
/-- the line along which a way's mirrors are shifted -/
def al (a : Nat) : Int × Int := ([(1, 0), (0, 1), (1, -1), (1, 1)] : List (Int × Int)).getD (a - 4) (0, 0)
def hasM (c : List Nat) (n a : Nat) : Bool := (List.range n).any fun (i : Nat) => symL c n a ((al a).1 * (i : Int)) ((al a).2 * (i : Int))
theorem hasM_has {c : List Nat} {n a : Nat} (h4 : 4 ≤ a) (h8 : a < 8) : hasMirror ⟨n, c⟩ a = hasM c n a := by
  unfold hasMirror hasM rg
  rw [List.any_map]
  congr 1
  funext i
  have q : a = 4 ∨ a = 5 ∨ a = 6 ∨ a = 7 := by omega
  rcases q with rfl | rfl | rfl | rfl
  · exact (sym_symL ⟨n, c⟩ 4 (i : Int) 0).trans (by show symL c n 4 (i : Int) 0 = symL c n 4 (1 * (i : Int)) (0 * (i : Int)); rw [Int.one_mul, Int.zero_mul])
  · exact (sym_symL ⟨n, c⟩ 5 0 (i : Int)).trans (by show symL c n 5 0 (i : Int) = symL c n 5 (0 * (i : Int)) (1 * (i : Int)); rw [Int.one_mul, Int.zero_mul])
  · exact (sym_symL ⟨n, c⟩ 6 (i : Int) (-(i : Int))).trans (by show symL c n 6 (i : Int) (-(i : Int)) = symL c n 6 (1 * (i : Int)) (-1 * (i : Int)); rw [Int.one_mul, Int.neg_one_mul])
  · exact (sym_symL ⟨n, c⟩ 7 (i : Int) (i : Int)).trans (by show symL c n 7 (i : Int) (i : Int) = symL c n 7 (1 * (i : Int)) (1 * (i : Int)); rw [Int.one_mul])
theorem sym_low {c : List Nat} {n a : Nat} (hn : 0 < n) (ha : a < 8) {u v : Int} (h : symL c n a u v = true) : hasW c n a = true := by
  have h1 := Int.emod_nonneg u (show (n : Int) ≠ 0 by omega)
  have h2 := Int.emod_lt_of_pos u (show (0 : Int) < n by omega)
  have h3 := Int.emod_nonneg v (show (n : Int) ≠ 0 by omega)
  have h4 := Int.emod_lt_of_pos v (show (0 : Int) < n by omega)
  refine (hasW_iff ha).mpr ⟨(u % (n : Int)).toNat, (v % (n : Int)).toNat, by omega, by omega, ?_⟩
  rw [Int.toNat_of_nonneg h1, Int.toNat_of_nonneg h3, symL_mod]
  exact h
theorem hasM_W {c : List Nat} {n a : Nat} (ha : a < 8) (h : hasM c n a = true) : hasW c n a = true := by
  unfold hasM at h
  obtain ⟨i, hi, h⟩ := any_range.mp h
  exact sym_low (by omega) ha h
/-- whether a symmetry that is turned over is on a mirror -/
def onM (c : List Nat) (n a : Nat) (u v : Int) : Bool :=
  if ((u + (turned a u v).1) % 2 = 1 ∨ (v + (turned a u v).2) % 2 = 1) then false else symL c n a (u - (u + (turned a u v).1) / 2) (v - (v + (turned a u v).2) / 2)
theorem on_is (c : List Nat) (n a : Nat) (u v : Int) : (let w := twice ⟨a, u, v⟩
   let s := 2 * u - w.1
   let t := 2 * v - w.2
   s % 2 == 0 && (t % 2 == 0 && sym ⟨n, c⟩ a (s / 2) (t / 2))) = onM c n a u v := by
  show (((2 * u - ((turned a u v).1 + u)) % 2 == 0) && (((2 * v - ((turned a u v).2 + v)) % 2 == 0) && sym ⟨n, c⟩ a ((2 * u - ((turned a u v).1 + u)) / 2) ((2 * v - ((turned a u v).2 + v)) / 2))) = onM c n a u v
  unfold onM
  by_cases h1 : (u + (turned a u v).1) % 2 = 1
  · rw [if_pos (Or.inl h1)]
    have e : ((2 * u - ((turned a u v).1 + u)) % 2 == 0) = false := by
      refine beq_eq_false_iff_ne.mpr ?_
      omega
    rw [e]
    rfl
  · by_cases h2 : (v + (turned a u v).2) % 2 = 1
    · rw [if_pos (Or.inr h2)]
      have e : ((2 * v - ((turned a u v).2 + v)) % 2 == 0) = false := by
        refine beq_eq_false_iff_ne.mpr ?_
        omega
      rw [e]
      exact Bool.and_false _
    · rw [if_neg (by rintro (h | h) <;> contradiction)]
      have e1 : ((2 * u - ((turned a u v).1 + u)) % 2 == 0) = true := beq_iff_eq.mpr (by omega)
      have e2 : ((2 * v - ((turned a u v).2 + v)) % 2 == 0) = true := beq_iff_eq.mpr (by omega)
      rw [e1, e2, sym_symL, Bool.true_and, Bool.true_and]
      have e3 : (2 * u - ((turned a u v).1 + u)) / 2 = u - (u + (turned a u v).1) / 2 := by omega
      have e4 : (2 * v - ((turned a u v).2 + v)) / 2 = v - (v + (turned a u v).2) / 2 := by omega
      rw [e3, e4]
def areOn (c : List Nat) (n : Nat) : Bool := [4, 5, 6, 7].all fun a => (List.range (2 * n)).all fun (u : Nat) => (List.range (2 * n)).all fun (v : Nat) => !symL c n a (u : Int) (v : Int) || onM c n a (u : Int) (v : Int)
theorem are_is (c : List Nat) (n : Nat) : allOn ⟨n, c⟩ = areOn c n := by
  unfold allOn areOn rg
  congr 1
  funext a
  rw [List.all_map]
  congr 1
  funext u
  show (List.all (List.map (fun (i : Nat) => (i : Int)) (List.range (2 * n))) _) = _
  rw [List.all_map]
  congr 1
  funext v
  show (!sym ⟨n, c⟩ a (u : Int) (v : Int) || _) = _
  rw [sym_symL]
  exact congrArg _ (on_is c n a u v)
def meets (c : List Nat) (n : Nat) (u v : Int) : Bool := symL c n 4 (u - v) 0 || (symL c n 5 0 (u + v) || (symL c n 6 (-v) v || symL c n 7 u u))
def turnsOn (c : List Nat) (n : Nat) : Bool := (List.range n).any fun (u : Nat) => (List.range n).any fun (v : Nat) => symL c n 1 (u : Int) (v : Int) && meets c n (u : Int) (v : Int)
theorem turns_is (c : List Nat) (n : Nat) : ((rg n).any fun u => (rg n).any fun v => sym ⟨n, c⟩ 1 u v && (sym ⟨n, c⟩ 4 (u - v) 0 || (sym ⟨n, c⟩ 5 0 (u + v) || (sym ⟨n, c⟩ 6 (-v) v || sym ⟨n, c⟩ 7 u u)))) = turnsOn c n := by
  unfold turnsOn rg meets
  rw [List.any_map]
  congr 1
  funext u
  show (List.any (List.map (fun (i : Nat) => (i : Int)) (List.range n)) _) = _
  rw [List.any_map]
  congr 1
  funext v
  show (sym ⟨n, c⟩ 1 (u : Int) (v : Int) && _) = _
  simp only [sym_symL]
/-- what is told of a way -/
def mark (c : List Nat) (n a : Nat) : Int := if 4 ≤ a ∧ hasM c n a = true then 2 else if hasW c n a = true then 1 else 0
def marks (c : List Nat) (n : Nat) : List Int := (List.range 8).map fun (a : Nat) => mark c n a
def over (c : List Nat) (n : Nat) : Bool := [4, 5, 6, 7].any (hasW c n)
def mirr (c : List Nat) (n : Nat) : Nat := ([4, 5, 6, 7].filter (hasM c n)).length
def kindK (c : List Nat) (n : Nat) : Nat :=
  if hasW c n 1 = true then (if over c n = false then 9 else if turnsOn c n = true then 10 else 11)
  else if hasW c n 2 = true then (if over c n = false then 4 else if mirr c n = 0 then 8 else if mirr c n = 1 then 7 else if areOn c n = true then 5 else 6)
  else if over c n = false then 0 else if mirr c n = 0 then 3 else if areOn c n = true then 1 else 2
theorem kind_is {z : Int} {n : Nat} {cs : List Int} {c : List Nat} (hz : z = (n : Int)) (hc : nats cs = c) (hn : 0 < n) (h64 : n ≤ 64) : PySa48.kind z cs = ((kindK c n : Nat) : Int) :: marks c n := by
  subst hz hc
  have hin : ¬ (n < 1 ∨ 64 < n) := by omega
  have ew : ∀ a, a < 8 → has ⟨n, nats cs⟩ a = hasW (nats cs) n a := fun a h => hasW_has h
  have em : ∀ a, 4 ≤ a → a < 8 → hasMirror ⟨n, nats cs⟩ a = hasM (nats cs) n a := fun a h4 h8 => hasM_has h4 h8
  show (if (n : Int).toNat < 1 ∨ 64 < (n : Int).toNat then [-2] else told (kind ⟨(n : Int).toNat, nats cs⟩) ((List.range 8).map fun a => if has ⟨(n : Int).toNat, nats cs⟩ a = false then 0 else if 4 ≤ a ∧ hasMirror ⟨(n : Int).toNat, nats cs⟩ a = true then 2 else 1)) = _
  rw [Int.toNat_natCast, if_neg hin]
  unfold told «ints»
  refine congr (congrArg List.cons (congrArg Int.ofNat ?_)) ?_
  · unfold kind kindK
    have e1 : [4, 5, 6, 7].any (has ⟨n, nats cs⟩) = over (nats cs) n := by
      unfold over
      simp only [List.any_cons, List.any_nil, ew 4 (by decide), ew 5 (by decide), ew 6 (by decide), ew 7 (by decide)]
    have e2 : [4, 5, 6, 7].filter (hasMirror ⟨n, nats cs⟩) = [4, 5, 6, 7].filter (hasM (nats cs) n) := by
      simp only [List.filter_cons, List.filter_nil, em 4 (by decide) (by decide), em 5 (by decide) (by decide), em 6 (by decide) (by decide), em 7 (by decide) (by decide)]
    have e3 : (([4, 5, 6, 7].filter (hasM (nats cs) n)).isEmpty = true) = (mirr (nats cs) n = 0) := by
      unfold mirr
      rw [List.isEmpty_iff, List.length_eq_zero_iff]
    have e4 : (([4, 5, 6, 7].filter (hasM (nats cs) n)).length = 1) = (mirr (nats cs) n = 1) := rfl
    simp only [e1, e2, e3, e4, ew 1 (by decide), ew 2 (by decide), are_is, turns_is]
  · unfold marks
    rw [List.map_map]
    refine List.map_congr_left fun a ha => ?_
    have h8 := List.mem_range.mp ha
    show (((if has ⟨n, nats cs⟩ a = false then 0 else if 4 ≤ a ∧ hasMirror ⟨n, nats cs⟩ a = true then 2 else 1 : Nat)) : Int) = mark (nats cs) n a
    unfold mark
    rw [ew a h8]
    by_cases h4 : 4 ≤ a ∧ hasM (nats cs) n a = true
    · rw [hasM_W h8 h4.2, if_neg (by decide), if_pos ⟨h4.1, (em a h4.1 h8).trans h4.2⟩, if_pos h4]
      rfl
    · rw [if_neg h4]
      cases q : hasW (nats cs) n a with
      | false =>
        rw [if_pos rfl, if_neg Bool.false_ne_true]
        rfl
      | true =>
        rw [if_neg (by decide), if_neg (fun z => h4 ⟨z.1, (em a z.1 h8).symm.trans z.2⟩), if_pos rfl]
        rfl
theorem kind_out {z : Int} {cs : List Int} (h : z < 1 ∨ 64 < z) : PySa48.kind z cs = [-2] := by
  have hin : z.toNat < 1 ∨ 64 < z.toNat := by omega
  show (if z.toNat < 1 ∨ 64 < z.toNat then [-2] else _) = _
  rw [if_pos hin]
theorem marks_four (c : List Nat) (n : Nat) : (marks c n).drop 4 = [mark c n 4, mark c n 5, mark c n 6, mark c n 7] := rfl
theorem mark_ge (c : List Nat) (n a : Nat) : 0 ≤ mark c n a := by
  unfold mark
  split
  · decide
  · split <;> decide
theorem mark_zero {c : List Nat} {n a : Nat} (ha : a < 8) : mark c n a = 0 ↔ hasW c n a = false := by
  unfold mark
  by_cases h : 4 ≤ a ∧ hasM c n a = true
  · rw [if_pos h, hasM_W ha h.2]
    simp
  · rw [if_neg h]
    cases q : hasW c n a <;> simp
theorem mark_two {c : List Nat} {n a : Nat} (h4 : 4 ≤ a) : mark c n a = 2 ↔ hasM c n a = true := by
  unfold mark
  by_cases h : hasM c n a = true
  · rw [if_pos ⟨h4, h⟩, h]
    simp
  · rw [if_neg (fun z => h z.2)]
    cases q : hasW c n a <;> simp [h]
theorem over_zero {c : List Nat} {n : Nat} {m : Int} (hm : m ∈ (marks c n).drop 4) (hle : ∀ y, y ∈ (marks c n).drop 4 → y ≤ m) : m = 0 ↔ over c n = false := by
  rw [marks_four] at hm hle
  have h4 := hle (mark c n 4) (by simp)
  have h5 := hle (mark c n 5) (by simp)
  have h6 := hle (mark c n 6) (by simp)
  have h7 := hle (mark c n 7) (by simp)
  have g4 := mark_ge c n 4
  have g5 := mark_ge c n 5
  have g6 := mark_ge c n 6
  have g7 := mark_ge c n 7
  unfold over
  simp only [List.any_cons, List.any_nil, Bool.or_false, Bool.or_eq_false_iff]
  rw [← mark_zero (c := c) (n := n) (a := 4) (by decide), ← mark_zero (c := c) (n := n) (a := 5) (by decide), ← mark_zero (c := c) (n := n) (a := 6) (by decide), ← mark_zero (c := c) (n := n) (a := 7) (by decide)]
  simp only [List.mem_cons, List.not_mem_nil, or_false] at hm
  constructor
  · intro e
    subst e
    omega
  · intro ⟨e4, e5, e6, e7⟩
    rcases hm with e | e | e | e <;> rw [e] <;> assumption
theorem mirr_is (c : List Nat) (n : Nat) : (((marks c n).drop 4).filter fun y => decide (y = 2)).length = mirr c n := by
  rw [marks_four]
  unfold mirr
  have e : ∀ a, 4 ≤ a → decide (mark c n a = 2) = hasM c n a := fun a h => by
    rw [Bool.eq_iff_iff, decide_eq_true_eq]
    exact mark_two h
  simp only [List.filter_cons, List.filter_nil, e 4 (by decide), e 5 (by decide), e 6 (by decide), e 7 (by decide)]
  cases hasM c n 4 <;> cases hasM c n 5 <;> cases hasM c n 6 <;> cases hasM c n 7 <;> rfl
end Pl
/-! ### the kinds: the walk -/
namespace Pl
open PySem PySem.Spec PyProof.Rows L2
/-- the tuple of a movement, as a datum -/
def pdM (m : Mv) : PyData := .tuple [.int (m.1 : Int), .int m.2.1, .int m.2.2]
theorem dp_refs {K : PySem.W.Frag} {H : Hp} : ∀ {L : List (Addr × Mv)}, Ts H L → DpAll K H (refs L) (L.map fun q => pdM q.2)
  | [], _ => .nil
  | q :: r, t => .cons (.tup (SqT.of (t q (List.mem_cons_self ..))) (.cons (.int _) (.cons (.int _) (.cons (.int _) .nil)))) (dp_refs fun z hz => t z (List.mem_cons_of_mem _ hz))
theorem lay_refs : ∀ L : List (Addr × Mv), PyData.canLayAll0 (L.map fun q => pdM q.2) = true
  | [] => by rw [List.map_nil, PyData.canLayAll0]
  | q :: r => by
    rw [List.map_cons, PyData.canLayAll0, lay_refs r]
    simp only [pdM, PyData.canLay0, PyData.canLayAll0, Bool.and_self]
theorem depth_refs : ∀ L : List (Addr × Mv), PyData.depthAll (L.map fun q => pdM q.2) ≤ 1
  | [] => by
    rw [List.map_nil, PyData.depthAll]
    decide
  | q :: r => by
    rw [List.map_cons, PyData.depthAll]
    refine Nat.max_le.mpr ⟨?_, depth_refs r⟩
    simp only [pdM, PyData.depth, PyData.depthAll]
    decide
theorem shaped_refs (L : List (Addr × Mv)) : SeqAt.shaped (.list (L.map fun q => pdM q.2)) = true := by
  show ((PyData.list (L.map fun q => pdM q.2)).canLay0 && decide ((PyData.list (L.map fun q => pdM q.2)).depth ≤ 64)) = true
  rw [PyData.canLay0, lay_refs, PyData.depth, Bool.true_and, decide_eq_true_eq]
  have := depth_refs L
  omega
theorem eqv_refs (L : List (Addr × Mv)) : PyData.eqv (.list (L.map fun q => pdM q.2)) (.list []) = L.isEmpty := by
  rw [PyData.eqv]
  cases L with
  | nil => rw [List.map_nil, PyData.eqvAll]; rfl
  | cons q r => rw [List.map_cons, PyData.eqvAll]; rfl
/-- what the top has written of the kinds -/
structure TxK (K : PySem.W.Frag) (mg : Str → Option Value) (AL MI : Addr) (as : Nat → Addr) : Prop where
  mgL : mg "ALONG_LINE" = some (.ref AL)
  tL : ∀ H, SqT K H AL ((List.range 4).map fun i => V.ref (as i))
  tl : ∀ H i, i < 4 → SqT K H (as i) [.int (al (i + 4)).1, .int (al (i + 4)).2]
  mgM : mg "MIRRORED" = some (.ref MI)
  tM : ∀ H, SqT K H MI [.int 4, .int 5, .int 6, .int 7]
  ov : ∃ t, mg "TURNED_OVER" = some (.int 4 t)
  int : mg "int" = none
  max : mg "max" = none
  len : mg "len" = none
theorem al_small : ∀ i, i < 4 → (-1 ≤ (al (i + 4)).1 ∧ (al (i + 4)).1 ≤ 1) ∧ -1 ≤ (al (i + 4)).2 ∧ (al (i + 4)).2 ≤ 1 := by decide
/-! ### the promises -/
def spHasWay (K : PySem.W.Frag) (C : Addr) : Sp := fun vs H Q _ => ∃ (x : Addr) (n : Nat) (c : List Nat) (a : Nat), vs = [.ref x, .int (a : Int)] ∧ PatAt K C H x n c ∧ ∀ H', Same H H' → Q (.bl (hasW c n a)) H'
def spMirrorShift : Sp := fun vs H Q _ => ∃ (a : Nat) (z : Int), vs = [.int (a : Int), .int z] ∧ 4 ≤ a ∧ a < 8 ∧ ∀ H' p, Same H H' → H p = none → H' p = some (.tup [.int ((al a).1 * z), .int ((al a).2 * z)]) → Q (.ref p) H'
def spHasMirror (K : PySem.W.Frag) (C : Addr) : Sp := fun vs H Q _ => ∃ (x : Addr) (n : Nat) (c : List Nat) (a : Nat), vs = [.ref x, .int (a : Int)] ∧ PatAt K C H x n c ∧ 4 ≤ a ∧ a < 8 ∧ ∀ H', Same H H' → Q (.bl (hasM c n a)) H'
def spOn (K : PySem.W.Frag) (C : Addr) : Sp := fun vs H Q _ => ∃ (x : Addr) (n : Nat) (c : List Nat) (a : Nat) (u v : Int), vs = [.ref x, .int (a : Int), .int u, .int v] ∧ PatAt K C H x n c ∧ a < 8 ∧ ∀ H', Same H H' → Q (.bl (onM c n a u v)) H'
def spAre (K : PySem.W.Frag) (C : Addr) : Sp := fun vs H Q _ => ∃ (x : Addr) (n : Nat) (c : List Nat), vs = [.ref x] ∧ PatAt K C H x n c ∧ ∀ H', Same H H' → Q (.bl (areOn c n)) H'
def spMeets (K : PySem.W.Frag) (C : Addr) : Sp := fun vs H Q _ => ∃ (x : Addr) (n : Nat) (c : List Nat) (u v : Int), vs = [.ref x, .int u, .int v] ∧ PatAt K C H x n c ∧ ∀ H', Same H H' → Q (.bl (meets c n u v)) H'
def spTurns (K : PySem.W.Frag) (C : Addr) : Sp := fun vs H Q _ => ∃ (x : Addr) (n : Nat) (c : List Nat), vs = [.ref x] ∧ PatAt K C H x n c ∧ ∀ H', Same H H' → Q (.bl (turnsOn c n)) H'
def spCounts (K : PySem.W.Frag) (C : Addr) : Sp := fun vs H Q _ => ∃ (x : Addr) (n : Nat) (c : List Nat), vs = [.ref x] ∧ PatAt K C H x n c ∧ ∀ H' p, Same H H' → H p = none → H' p = some (.lst ((marks c n).map V.int)) → Q (.ref p) H'
def kwt (c : List Nat) (n m : Nat) : Nat := if m = 0 then 3 else if areOn c n = true then 1 else 2
def khf (c : List Nat) (n m : Nat) : Nat := if m = 0 then 8 else if m = 1 then 7 else if areOn c n = true then 5 else 6
def spKwt (K : PySem.W.Frag) (C : Addr) : Sp := fun vs H Q _ => ∃ (x : Addr) (n : Nat) (c : List Nat) (m : Nat), vs = [.ref x, .int (m : Int)] ∧ PatAt K C H x n c ∧ ∀ H', Same H H' → Q (.int ((kwt c n m : Nat) : Int)) H'
def spKh (K : PySem.W.Frag) (C : Addr) : Sp := fun vs H Q _ => ∃ (x : Addr) (n : Nat) (c : List Nat) (m : Nat), vs = [.ref x, .int (m : Int)] ∧ PatAt K C H x n c ∧ ∀ H', Same H H' → Q (.int ((khf c n m : Nat) : Int)) H'
def spKindOf (K : PySem.W.Frag) (C : Addr) : Sp := fun vs H Q _ => ∃ (x : Addr) (n : Nat) (c : List Nat), vs = [.ref x] ∧ PatAt K C H x n c ∧ ∀ H' p, Same H H' → H p = none → H' p = some (.lst ((((kindK c n : Nat) : Int) :: marks c n).map V.int)) → Q (.ref p) H'
def spKind (K : PySem.W.Frag) : Sp := fun vs H Q _ => ∃ (z : Int) (a : Addr) (cs : List Int), vs = [.int z, .ref a] ∧ SqL K H a (cs.map V.int) ∧ PySa48.kind_asked z cs = true ∧
  ∀ (H' : Hp) (p : Addr), H' p = some (.lst ((PySa48.kind z cs).map V.int)) → Q (.ref p) H'
section
variable {P : Program} {w : World} {K : PySem.W.Frag} {mg : Str → Option Value} {base : Heap} {W C AL MI : Addr} {ws as : Nat → Addr}
theorem scHasWay : FnScope ["self", "way", "movement"] ["self", "way"] (defScope sHasWay) := ⟨rfl, rfl, rfl, by decide +kernel, rfl, by decide +kernel, by decide +kernel⟩
theorem ok_hasWay {f f1 : Addr} {fd fd1 : FuncData} (F : Fun K "has_way" "Pattern.has_way" sHasWay f fd) (T : TxC K mg C) (G1 : FnOk P w K mg base CX0 1 f1 fd1 ["self"] (spSyms K C)) (m1 : Meth K C "symmetries" f1) (b1 : Binds K fd1 ["self"] []) :
    FnOk P w K mg base CX0 2 f fd ["self", "way"] (spHasWay K C) := by
  refine F.ok scHasWay (fun vs H Q E h => ?_) (fun cdv A outer s H vs Q E hr h => ?_)
  · obtain ⟨x, n, c, a, rfl, _⟩ := h
    rfl
  · obtain ⟨x, n, c, a, rfl, hP, k⟩ := h
    have nd := scHasWay.nd
    refine ⟨_, pss_one (ps_ret (pe_cmpR (op_neD hr.units) (pe_lc (own := [("movement", 2)]) (g := gName 2) rfl nd (pi_list (pe_meth0 (pv 0) T.cl m1 G1 hr b1 .nil pass0))
      (blkOk_by (own := [("movement", 2)]) (N := ["self", "way", "movement"]) (sc := defScope sHasWay) (by decide +kernel)) (fun _ _ _ _ _ => pg_name (i := 2) nd rfl (Or.inl rfl))
      (fun _ _ _ _ _ => pts_one (pt_cmpR op_eq (pe_ix (r := rIxT K) ix_tup (pv 2) pe_int (fun _ _ => rfl)) (pv 1) (nomark _)))
      (fun _ _ _ _ _ => pv 2)) (pe_lst pa_nil) (nomark _))), ?_⟩
    obtain ⟨dx, ca, d, ⟨hx, _⟩, _⟩ := id hP
    refine ⟨_, rfl, x, dx, _, rfl, hx, pf_meth (by decide +kernel), x, n, c, rfl, hP, fun H1 p L s1 n1 em e1 t1 => ?_⟩
    refine ⟨p, rfl, ⟨_, SqL.of e1⟩, fun D hD => ?_⟩
    have hL : L.length ≤ 288 := by
      have q := congrArg List.length em
      rw [List.length_map] at q
      rw [q]
      obtain ⟨_, _, _, hp, _⟩ := hP
      exact Nat.le_trans (List.length_filter_le _ _) (allM_small hp.2.2.2.2)
    refine lc_list (K := K) (a := p) (xs := refs L) (fun i H' => Same H1 H' ∧ H' D = some (.lst (refs ((L.take i).filter fun q => q.2.1 == a))))
      ⟨Same.new hD, upd_same⟩ (fun i H' _ ⟨s2, _⟩ => s2.seq (SqL.of e1)) ?_ ?_
    · rintro i y H2 hi ⟨s2, e2⟩
      obtain ⟨t, m, hLi, rfl⟩ := refs_at hi
      have ht : H2 t = some (.tup (mv m)) := s2 _ _ (t1 (t, m) (List.mem_iff_getElem?.mpr ⟨i, hLi⟩))
      refine ⟨rfl, _, rfl, t, _, 0, _, rfl, rfl, SqT.of ht, rfl, _, rfl, rfl, _, rfl, ?_⟩
      have hsz : (refs ((L.take i).filter fun q => q.2.1 == a)).length < sizeLine := by
        unfold refs
        rw [List.length_map]
        refine Nat.lt_of_le_of_lt (Nat.le_trans (List.length_filter_le _ _) ?_) (show 288 < sizeLine by decide)
        rw [List.length_take]
        exact Nat.le_trans (Nat.min_le_right _ _) hL
      by_cases e : m.1 = a
      · rw [e, decide_eq_true rfl]
        refine iteT ⟨_, rfl, _, e2, hsz, Same.upd s2 hD, ?_⟩
        rw [upd_same, take_more hLi, List.filter_append, List.filter_cons, if_pos (by show (m.1 == a) = true; rw [e]; exact beq_self_eq_true a), refs_app]
        rfl
      · rw [decide_eq_false (fun z => e (by injection z with z; omega))]
        refine iteF ⟨s2, ?_⟩
        rw [take_more hLi, List.filter_append, List.filter_cons, if_neg (by show ¬ (m.1 == a) = true; simp [e]), List.filter_nil, List.append_nil, e2]
    · rintro H2 ⟨s2, e2⟩
      have hl : (refs L).length = L.length := by
        unfold refs
        rw [List.length_map]
      rw [hl, List.take_length] at e2
      refine ⟨Nat.zero_le _, fun q hq => ?_⟩
      have t2 : Ts (L2.upd H2 q (.lst [])) (L.filter fun q => q.2.1 == a) := fun z hz => (Same.new hq) _ _ (s2 _ _ (t1 z (List.mem_filter.mp hz).1))
      refine ⟨_, .list [], .lst (SqL.of ((Same.new hq) _ _ e2)) (dp_refs t2), .lst (SqL.of upd_same) .nil, shaped_refs _, shaped_refs [], ?_⟩
      rw [eqv_refs]
      have e3 : (!(L.filter fun q => q.2.1 == a).isEmpty) = hasW c n a := by
        unfold hasW
        have e4 : (allM n).filter (sy c n) = (Sa48Neutral.moves n (List.range 8)).filter fun m => symL c n m.1 m.2.1 m.2.2 := rfl
        rw [← e4, ← em, List.filter_map, List.isEmpty_map]
        rfl
      rw [e3]
      exact k _ ((s1.trans s2).trans (Same.new hq))
theorem scMirrorShift : FnScope ["way", "by", "a", "b"] ["way", "by"] (defScope sMirrorShift) := ⟨rfl, rfl, rfl, by decide +kernel, rfl, by decide +kernel, by decide +kernel⟩
theorem ok_mirrorShift {f : Addr} {fd : FuncData} (F : Fun K "mirror_shift" "mirror_shift" sMirrorShift f fd) (T : TxK K mg AL MI as) : FnOk P w K mg base CX0 1 f fd ["way", "by"] spMirrorShift := by
  refine F.ok scMirrorShift (fun vs H Q E h => ?_) (fun cdv A outer s H vs Q E hr h => ?_)
  · obtain ⟨a, z, rfl, _⟩ := h
    rfl
  · obtain ⟨a, z, rfl, h4, h8, k⟩ := h
    have nd := scMirrorShift.nd
    obtain ⟨tO, mgO⟩ := T.ov
    refine ⟨_, pss_cons (ps_asg (pe_ix ix_tup (pe_glob (v := .ref AL) rfl T.mgL rfl) (pe_op op_sub (pv 0) (pe_glob (v := .int 4) rfl mgO ⟨_, rfl⟩)) (fun _ _ => rfl)) (pg_tup rfl (pgs_cons (pg_name (i := 2) nd rfl (Or.inl rfl)) (pgs_cons (pg_name (i := 3) nd rfl (Or.inl rfl)) pgs_nil))))
      (pss_one (ps_ret (pe_tup (pa_cons (pe_op op_mul (pv 2) (pv 1)) (pa_cons (pe_op op_mul (pv 3) (pv 1)) pa_nil))))), ?_⟩
    have hi : a - 4 < 4 := by omega
    obtain ⟨⟨b1, b2⟩, b3, b4⟩ := al_small (a - 4) hi
    rw [show a - 4 + 4 = a by omega] at b1 b2 b3 b4
    have hw : ((List.range 4).map fun i => V.ref (as i))[a - 4]? = some (V.ref (as (a - 4))) := by
      rw [List.getElem?_map, List.getElem?_range hi]
      rfl
    have ht := T.tl H (a - 4) hi
    rw [show a - 4 + 4 = a by omega] at ht
    refine ⟨_, rfl, _, _, rfl, rfl, AL, _, _, _, rfl, rfl, T.tL _, L2.at_of (j := a - 4) (by omega) hw, as (a - 4), _, rfl, ht, rfl, _, _, rfl, _, _, rfl, rfl, ?_⟩
    refine ⟨_, rfl, _, rfl, _, _, rfl, rfl, .inl ⟨by omega, by omega⟩, _, rfl, _, rfl, _, _, rfl, rfl, .inl ⟨by omega, by omega⟩, (by show 2 ≤ sizeLine; decide), fun p hp => ?_⟩
    exact k _ p (Same.new hp) hp upd_same
theorem scHasMirror : FnScope ["pattern", "way", "by", "a", "b"] ["pattern", "way"] (defScope sHasMirror) := ⟨rfl, rfl, rfl, by decide +kernel, rfl, by decide +kernel, by decide +kernel⟩
theorem ok_hasMirror {f f1 f2 : Addr} {fd fd1 fd2 : FuncData} (F : Fun K "has_mirror" "has_mirror" sHasMirror f fd) (TW : TxW K mg W ws) (T : TxC K mg C) (G1 : FnOk P w K mg base CX0 1 f1 fd1 ["self", "way", "a", "b"] (spHas K C)) (m1 : Meth K C "has" f1) (b1 : Binds K fd1 ["self", "way", "a", "b"] [])
    (G2 : FnOk P w K mg base CX0 1 f2 fd2 ["way", "by"] spMirrorShift) (m2 : mg "mirror_shift" = some (.ref f2)) (k2 : PySem.W.keepIn K (.ref f2) = true) (b2 : Binds K fd2 ["way", "by"] []) :
    FnOk P w K mg base CX0 2 f fd ["pattern", "way"] (spHasMirror K C) := by
  refine F.ok scHasMirror (fun vs H Q E h => ?_) (fun cdv A outer s H vs Q E hr h => ?_)
  · obtain ⟨x, n, c, a, rfl, _⟩ := h
    rfl
  · obtain ⟨x, n, c, a, rfl, hP, h4, h8, k⟩ := h
    have nd := scHasMirror.nd
    refine ⟨_, pss_cons (ps_for PassesOwn.never rfl (pi_range1 rfl TW.range (pa_cons (pe_fld (pv 0) rfl) pa_nil)) (pg_name (i := 2) nd rfl (Or.inl rfl))
        (pss_cons (ps_asg (pe_call G2 hr rfl m2 k2 b2 .nil pass0 (pa_cons (pv 1) (pa_cons (pv 2) pa_nil))) (pg_tup rfl (pgs_cons (pg_name (i := 3) nd rfl (Or.inl rfl)) (pgs_cons (pg_name (i := 4) nd rfl (Or.inl rfl)) pgs_nil))))
        (pss_one (ps_if (pt_val (pe_meth (pv 0) T.cl m1 G1 hr b1 .nil pass0 (pa_cons (pv 1) (pa_cons (pv 3) (pa_cons (pv 4) pa_nil))))) (pss_one (ps_ret pe_bl)) pss_nil))))
      (pss_one (ps_ret pe_bl)), ?_⟩
    obtain ⟨dx, ca, d, ⟨hx, _, _, h0, h6⟩, _⟩ := id hP
    refine ⟨_, rfl, x, C, dx, _, _, rfl, hx, T.cl, T.nN, pf_n _ _ _, (n : Int), rfl, by omega, by omega, for_range (lo := 0) (n := n) (fun i σ H' => ∃ vb va vv : Option V, σ = [some (.ref x), some (.int (a : Int)), vb, va, vv] ∧ Same H H' ∧ ∀ j : Nat, j < i → symL c n a ((al a).1 * (j : Int)) ((al a).2 * (j : Int)) = false)
      ⟨none, none, none, rfl, Same.refl _, fun j hj => absurd hj (Nat.not_lt_zero _)⟩ ?_ ?_⟩
    · rintro i σ H1 hi ⟨vb, va, vv, rfl, s1, hl⟩
      refine ⟨_, rfl, _, rfl, a, (i : Int), (by rw [Int.zero_add]; rfl), h4, h8, fun H2 p s2 n2 e2 => ?_⟩
      refine ⟨p, _, rfl, SqT.of e2, rfl, _, _, rfl, _, _, rfl, rfl, ?_⟩
      have hP2 := hP.same (s1.trans s2)
      obtain ⟨dx2, ca2, d2, ⟨hx2, _⟩, _⟩ := id hP2
      refine ⟨_, rfl, x, dx2, _, rfl, hx2, pf_meth (by decide +kernel), _, rfl, _, rfl, _, rfl, x, n, c, a, _, _, rfl, hP2, h8, fun H3 s3 => ⟨_, rfl, ?_⟩⟩
      cases q : symL c n a ((al a).1 * (i : Int)) ((al a).2 * (i : Int)) with
      | true =>
        refine iteT ?_
        have := k _ ((s1.trans s2).trans s3)
        rw [show hasM c n a = true from any_range.mpr ⟨i, hi, q⟩] at this
        exact this
      | false =>
        refine iteF ⟨_, _, _, rfl, (s1.trans s2).trans s3, fun j hj => ?_⟩
        by_cases e : j < i
        · exact hl j e
        · obtain rfl : j = i := by omega
          exact q
    · rintro σ H1 ⟨vb, va, vv, rfl, s1, hl⟩
      have := k _ s1
      have e : hasM c n a = false := by
        cases q : hasM c n a with
        | false => rfl
        | true =>
          obtain ⟨i, hi, z⟩ := any_range.mp q
          rw [hl i hi] at z
          cases z
      rw [e] at this
      exact this
theorem scOn : FnScope ["pattern", "way", "a", "b", "u", "v"] ["pattern", "way", "a", "b"] (defScope sOn) := ⟨rfl, rfl, rfl, by decide +kernel, rfl, by decide +kernel, by decide +kernel⟩
theorem dec_v (i j : Int) : decide (V.int i = V.int j) = decide (i = j) := by
  by_cases h : i = j
  · subst h
    simp
  · rw [decide_eq_false h, decide_eq_false (fun z => h (by injection z))]
theorem ok_on {f f1 f2 : Addr} {fd fd1 fd2 : FuncData} (F : Fun K "is_on_mirror" "is_on_mirror" sOn f fd) (T : TxC K mg C) (G1 : FnOk P w K mg base CX0 1 f1 fd1 ["self", "way", "a", "b"] (spHas K C)) (m1 : Meth K C "has" f1) (b1 : Binds K fd1 ["self", "way", "a", "b"] [])
    (G2 : FnOk P w K mg base CX0 1 f2 fd2 ["way", "x", "y"] spTurned) (m2 : mg "turned" = some (.ref f2)) (k2 : PySem.W.keepIn K (.ref f2) = true) (b2 : Binds K fd2 ["way", "x", "y"] []) :
    FnOk P w K mg base CX0 2 f fd ["pattern", "way", "a", "b"] (spOn K C) := by
  refine F.ok scOn (fun vs H Q E h => ?_) (fun cdv A outer s H vs Q E hr h => ?_)
  · obtain ⟨x, n, c, a, u, v, rfl, _⟩ := h
    rfl
  · obtain ⟨x, n, c, a, u, v, rfl, hP, h8, k⟩ := h
    have nd := scOn.nd
    refine ⟨_, pss_cons (ps_asg (pe_call G2 hr rfl m2 k2 b2 .nil pass0 (pa_cons (pv 1) (pa_cons (pv 2) (pa_cons (pv 3) pa_nil)))) (pg_tup rfl (pgs_cons (pg_name (i := 4) nd rfl (Or.inl rfl)) (pgs_cons (pg_name (i := 5) nd rfl (Or.inl rfl)) pgs_nil))))
      (pss_cons (ps_if (PW.pt (pw_or (pt_cmpR op_eq (pe_op op_mod (pe_op op_add (pv 2) (pv 4)) pe_int) pe_int (nomark _)) (pw_or1 (pt_cmpR op_eq (pe_op op_mod (pe_op op_add (pv 3) (pv 5)) pe_int) pe_int (nomark _))))) (pss_one (ps_ret pe_bl)) pss_nil)
      (pss_one (ps_ret (pe_meth (pv 0) T.cl m1 G1 hr b1 .nil pass0 (pa_cons (pv 1) (pa_cons (pe_op op_sub (pv 2) (pe_op op_fdiv (pe_op op_add (pv 2) (pv 4)) pe_int)) (pa_cons (pe_op op_sub (pv 3) (pe_op op_fdiv (pe_op op_add (pv 3) (pv 5)) pe_int)) pa_nil))))))), ?_⟩
    refine ⟨_, rfl, _, rfl, _, rfl, a, u, v, rfl, h8, fun H1 p s1 n1 e1 => ?_⟩
    refine ⟨p, _, rfl, SqT.of e1, rfl, _, _, rfl, _, _, rfl, rfl, ?_⟩
    refine ⟨_, rfl, _, rfl, _, _, rfl, rfl, _, _, rfl, rfl, (by show (0 : Int) < 2; decide), rfl, _, rfl, ?_⟩
    have kk := k _ s1
    by_cases h1 : (u + (Sa48.turned a u v).1) % 2 = 1
    · rw [dec_v, decide_eq_true h1]
      refine iteT (B := True) (iteT (B := True) ?_)
      unfold onM at kk
      rw [if_pos (Or.inl h1)] at kk
      exact kk
    · rw [dec_v, decide_eq_false h1]
      refine iteF ?_
      refine ⟨_, rfl, _, rfl, _, _, rfl, rfl, _, _, rfl, rfl, (by show (0 : Int) < 2; decide), rfl, _, rfl, ?_⟩
      by_cases h2 : (v + (Sa48.turned a u v).2) % 2 = 1
      · rw [dec_v, decide_eq_true h2]
        refine iteT ?_
        unfold onM at kk
        rw [if_pos (Or.inr h2)] at kk
        exact kk
      · rw [dec_v, decide_eq_false h2]
        refine iteF ?_
        have hP1 := hP.same s1
        obtain ⟨dx, ca, d, ⟨hx, _⟩, _⟩ := id hP1
        refine ⟨_, rfl, x, dx, _, rfl, hx, pf_meth (by decide +kernel), _, rfl, _, rfl, _, rfl, _, rfl, _, _, rfl, rfl, _, _, rfl, rfl, ⟨by decide, by decide⟩, _, _, rfl, rfl, _, rfl, _, rfl, _, rfl, _, _, rfl, rfl, _, _, rfl, rfl, ⟨by decide, by decide⟩, _, _, rfl, rfl, x, n, c, a, _, _, rfl, hP1, h8, fun H3 s3 => ?_⟩
        have kk := k _ (s1.trans s3)
        unfold onM at kk
        rw [if_neg (by rintro (h | h) <;> contradiction)] at kk
        exact kk
theorem scAre : FnScope ["pattern", "way", "a", "b"] ["pattern"] (defScope sAre) := ⟨rfl, rfl, rfl, by decide +kernel, rfl, by decide +kernel, by decide +kernel⟩
theorem all_range {n : Nat} {q : Nat → Bool} : (List.range n).all q = true ↔ ∀ i, i < n → q i = true := by
  rw [List.all_eq_true]
  constructor
  · intro h i hi
    exact h i (List.mem_range.mpr hi)
  · intro h i hi
    exact h i (List.mem_range.mp hi)
theorem are_iff {c : List Nat} {n : Nat} : areOn c n = true ↔ ∀ a : Nat, 4 ≤ a → a < 8 → ∀ i : Nat, i < 2 * n → ∀ j : Nat, j < 2 * n → symL c n a (i : Int) (j : Int) = true → onM c n a (i : Int) (j : Int) = true := by
  unfold areOn
  rw [List.all_eq_true]
  constructor
  · intro h a h4 h8 i hi j hj hs
    have hm : a ∈ ([4, 5, 6, 7] : List Nat) := by
      simp only [List.mem_cons, List.not_mem_nil, or_false]
      omega
    have q := all_range.mp (all_range.mp (h a hm) i hi) j hj
    rw [hs] at q
    exact q
  · intro h a hm
    simp only [List.mem_cons, List.not_mem_nil, or_false] at hm
    refine all_range.mpr fun i hi => all_range.mpr fun j hj => ?_
    cases hs : symL c n a (i : Int) (j : Int) with
    | false => rfl
    | true => rw [h a (by omega) (by omega) i hi j hj hs]; rfl
theorem ok_are {f f1 f2 : Addr} {fd fd1 fd2 : FuncData} (F : Fun K "are_on_mirrors" "are_on_mirrors" sAre f fd) (TW : TxW K mg W ws) (T : TxC K mg C) (TK : TxK K mg AL MI as) (G1 : FnOk P w K mg base CX0 1 f1 fd1 ["self", "way", "a", "b"] (spHas K C)) (m1 : Meth K C "has" f1) (b1 : Binds K fd1 ["self", "way", "a", "b"] [])
    (G2 : FnOk P w K mg base CX0 2 f2 fd2 ["pattern", "way", "a", "b"] (spOn K C)) (m2 : mg "is_on_mirror" = some (.ref f2)) (k2 : PySem.W.keepIn K (.ref f2) = true) (b2 : Binds K fd2 ["pattern", "way", "a", "b"] []) :
    FnOk P w K mg base CX0 3 f fd ["pattern"] (spAre K C) := by
  refine F.ok scAre (fun vs H Q E h => ?_) (fun cdv A outer s H vs Q E hr h => ?_)
  · obtain ⟨x, n, c, rfl, _⟩ := h
    rfl
  · obtain ⟨x, n, c, rfl, hP, k⟩ := h
    have nd := scAre.nd
    have hr1 : Room 1 _ := hr.mono (by decide)
    refine ⟨_, pss_cons (ps_for PassesOwn.never rfl (pi_tup (pe_glob (v := .ref MI) rfl TK.mgM rfl)) (pg_name (i := 1) nd rfl (Or.inl rfl))
        (pss_one (ps_for PassesOwn.never rfl (pi_range1 rfl TW.range (pa_cons (pe_op op_mul pe_int (pe_fld (pv 0) rfl)) pa_nil)) (pg_name (i := 2) nd rfl (Or.inl rfl))
          (pss_one (ps_for PassesOwn.never rfl (pi_range1 rfl TW.range (pa_cons (pe_op op_mul pe_int (pe_fld (pv 0) rfl)) pa_nil)) (pg_name (i := 3) nd rfl (Or.inl rfl))
            (pss_one (ps_if (PW.pt (pw_and (pt_val (pe_meth (pv 0) T.cl m1 G1 hr1 b1 .nil pass0 (pa_cons (pv 1) (pa_cons (pv 2) (pa_cons (pv 3) pa_nil))))) (pw_and1 (pt_not (pt_val (pe_call G2 hr rfl m2 k2 b2 .nil pass0 (pa_cons (pv 0) (pa_cons (pv 1) (pa_cons (pv 2) (pa_cons (pv 3) pa_nil)))))))))) (pss_one (ps_ret pe_bl)) pss_nil)))))))
      (pss_one (ps_ret pe_bl)), ?_⟩
    obtain ⟨dx, ca, d, ⟨hx, _, _, h0, h6⟩, _⟩ := id hP
    have e2n : (2 : Int) * (n : Int) = ((2 * n : Nat) : Int) := by omega
    refine ⟨MI, rfl, ⟨_, TK.tM _⟩, for_tup (K := K) (a := MI) (xs := [.int 4, .int 5, .int 6, .int 7]) (fun r σ H' => ∃ vw va vb : Option V, σ = [some (.ref x), vw, va, vb] ∧ Same H H' ∧ ∀ a : Nat, 4 ≤ a → a < 4 + r → ∀ i : Nat, i < 2 * n → ∀ j : Nat, j < 2 * n → symL c n a (i : Int) (j : Int) = true → onM c n a (i : Int) (j : Int) = true)
      ⟨none, none, none, rfl, Same.refl _, fun a h1 h2 => by omega⟩ (fun _ _ _ _ _ => TK.tM _) ?_ ?_⟩
    · rintro r y σ H1 hy ⟨vw, va, vb, rfl, s1, hl1⟩
      have hr4 : r < 4 := (List.getElem?_eq_some_iff.mp hy).1
      obtain rfl : y = V.int ((4 + r : Nat) : Int) := by
        have q : r = 0 ∨ r = 1 ∨ r = 2 ∨ r = 3 := by omega
        rcases q with rfl | rfl | rfl | rfl <;> exact (Option.some.inj hy).symm
      have hx1 := s1 _ _ hx
      refine ⟨_, rfl, x, C, dx, _, _, rfl, hx1, T.cl, T.nN, pf_n _ _ _, _, _, rfl, rfl, .inl ⟨by decide, by decide⟩, ?_⟩
      refine ⟨((2 * n : Nat) : Int), congrArg (fun z => [V.int z]) e2n, by omega, by omega, for_range (lo := 0) (n := 2 * n) (fun i' σ H' => ∃ va vb : Option V, σ = [some (.ref x), some (.int ((4 + r : Nat) : Int)), va, vb] ∧ Same H H' ∧ ∀ i : Nat, i < i' → ∀ j : Nat, j < 2 * n → symL c n (4 + r) (i : Int) (j : Int) = true → onM c n (4 + r) (i : Int) (j : Int) = true)
        ⟨va, vb, rfl, s1, fun i h => absurd h (Nat.not_lt_zero _)⟩ ?_ ?_⟩
      · rintro i σ H2 hi ⟨va, vb, rfl, s2, hl2⟩
        have hx2 := s2 _ _ hx
        refine ⟨_, rfl, x, C, dx, _, _, rfl, hx2, T.cl, T.nN, pf_n _ _ _, _, _, rfl, rfl, .inl ⟨by decide, by decide⟩, ?_⟩
        refine ⟨((2 * n : Nat) : Int), congrArg (fun z => [V.int z]) e2n, by omega, by omega, for_range (lo := 0) (n := 2 * n) (fun j' σ H' => ∃ vb : Option V, σ = [some (.ref x), some (.int ((4 + r : Nat) : Int)), some (.int (i : Int)), vb] ∧ Same H H' ∧ ∀ j : Nat, j < j' → symL c n (4 + r) (i : Int) (j : Int) = true → onM c n (4 + r) (i : Int) (j : Int) = true)
          ⟨vb, by rw [Int.zero_add]; rfl, s2, fun j h => absurd h (Nat.not_lt_zero _)⟩ ?_ ?_⟩
        · rintro j σ H3 hj ⟨vb, rfl, s3, hl3⟩
          have hP3 := hP.same s3
          refine ⟨_, rfl, x, dx, _, rfl, s3 _ _ hx, pf_meth (by decide +kernel), _, rfl, _, rfl, _, rfl, x, n, c, 4 + r, (i : Int), (j : Int), (by rw [Int.zero_add]; rfl), hP3, by omega, fun H4 s4 => ⟨_, rfl, ?_⟩⟩
          cases q : symL c n (4 + r) (i : Int) (j : Int) with
          | false =>
            refine iteF (iteF ⟨_, rfl, s3.trans s4, fun j2 h2 hs => ?_⟩)
            by_cases e : j2 < j
            · exact hl3 j2 e hs
            · obtain rfl : j2 = j := by omega
              rw [q] at hs
              cases hs
          | true =>
            refine iteT (B := True) ?_
            refine ⟨_, rfl, _, rfl, _, rfl, _, rfl, x, n, c, 4 + r, (i : Int), (j : Int), (by rw [Int.zero_add]; rfl), hP.same (s3.trans s4), by omega, fun H5 s5 => ⟨_, rfl, ?_⟩⟩
            cases q2 : onM c n (4 + r) (i : Int) (j : Int) with
            | true =>
              refine iteF ⟨_, rfl, (s3.trans s4).trans s5, fun j2 h2 hs => ?_⟩
              by_cases e : j2 < j
              · exact hl3 j2 e hs
              · obtain rfl : j2 = j := by omega
                exact q2
            | false =>
              refine iteT (B := True) ?_
              have kk := k _ ((s3.trans s4).trans s5)
              have e : areOn c n = false := by
                cases z : areOn c n with
                | false => rfl
                | true =>
                  rw [are_iff.mp z (4 + r) (by omega) (by omega) i hi j hj q] at q2
                  cases q2
              rw [e] at kk
              exact kk
        · rintro σ H3 ⟨vb, rfl, s3, hl3⟩
          refine ⟨_, _, rfl, s3, fun i2 h2 j hj hs => ?_⟩
          by_cases e : i2 < i
          · exact hl2 i2 e j hj hs
          · obtain rfl : i2 = i := by omega
            exact hl3 j hj hs
      · rintro σ H2 ⟨va, vb, rfl, s2, hl2⟩
        refine ⟨_, _, _, rfl, s2, fun a h4 h5 i hi j hj hs => ?_⟩
        by_cases e : a < 4 + r
        · exact hl1 a h4 e i hi j hj hs
        · obtain rfl : a = 4 + r := by omega
          exact hl2 i hi j hj hs
    · rintro σ H1 ⟨vw, va, vb, rfl, s1, hl1⟩
      have kk := k _ s1
      rw [are_iff.mpr hl1] at kk
      exact kk
theorem scMeets : FnScope ["pattern", "a", "b"] ["pattern", "a", "b"] (defScope sMeets) := ⟨rfl, rfl, rfl, by decide +kernel, rfl, by decide +kernel, by decide +kernel⟩
theorem ok_meets {f f1 : Addr} {fd fd1 : FuncData} (F : Fun K "meets_mirror" "meets_mirror" sMeets f fd) (T : TxC K mg C) (G1 : FnOk P w K mg base CX0 1 f1 fd1 ["self", "way", "a", "b"] (spHas K C)) (m1 : Meth K C "has" f1) (b1 : Binds K fd1 ["self", "way", "a", "b"] []) :
    FnOk P w K mg base CX0 2 f fd ["pattern", "a", "b"] (spMeets K C) := by
  refine F.ok scMeets (fun vs H Q E h => ?_) (fun cdv A outer s H vs Q E hr h => ?_)
  · obtain ⟨x, n, c, u, v, rfl, _⟩ := h
    rfl
  · obtain ⟨x, n, c, u, v, rfl, hP, k⟩ := h
    have nd := scMeets.nd
    refine ⟨_, pss_cons (ps_if (PW.pt (pw_or (pt_val (pe_meth (pv 0) T.cl m1 G1 hr b1 .nil pass0 (pa_cons pe_int (pa_cons (pe_op op_sub (pv 1) (pv 2)) (pa_cons pe_int pa_nil))))) (pw_or1 (pt_val (pe_meth (pv 0) T.cl m1 G1 hr b1 .nil pass0 (pa_cons pe_int (pa_cons pe_int (pa_cons (pe_op op_add (pv 1) (pv 2)) pa_nil)))))))) (pss_one (ps_ret pe_bl)) pss_nil)
      (pss_one (ps_ret (pe_or (pe_meth (pv 0) T.cl m1 G1 hr b1 .nil pass0 (pa_cons pe_int (pa_cons (pe_op op_sub pe_int (pv 2)) (pa_cons (pv 2) pa_nil)))) (pe_one (pe_meth (pv 0) T.cl m1 G1 hr b1 .nil pass0 (pa_cons pe_int (pa_cons (pv 1) (pa_cons (pv 1) pa_nil)))))))), ?_⟩
    obtain ⟨dx, ca, d, ⟨hx, _⟩, _⟩ := id hP
    unfold meets at k
    refine ⟨_, rfl, x, dx, _, rfl, hx, pf_meth (by decide +kernel), _, rfl, _, rfl, _, _, rfl, rfl, x, n, c, 4, u - v, 0, rfl, hP, by decide, fun H1 s1 => ⟨_, rfl, ?_⟩⟩
    cases q1 : symL c n 4 (u - v) 0 with
    | true =>
      refine iteT (B := True) (iteT (B := True) ?_)
      have kk := k _ s1
      rw [q1, Bool.true_or] at kk
      exact kk
    | false =>
      refine iteF ?_
      refine ⟨_, rfl, x, dx, _, rfl, s1 _ _ hx, pf_meth (by decide +kernel), _, rfl, _, rfl, _, _, rfl, rfl, x, n, c, 5, 0, u + v, rfl, hP.same s1, by decide, fun H2 s2 => ⟨_, rfl, ?_⟩⟩
      have s12 := s1.trans s2
      cases q2 : symL c n 5 0 (u + v) with
      | true =>
        refine iteT (B := True) ?_
        have kk := k _ s12
        rw [q1, q2, Bool.true_or, Bool.or_true] at kk
        exact kk
      | false =>
        refine iteF ?_
        refine ⟨_, rfl, x, dx, _, rfl, s12 _ _ hx, pf_meth (by decide +kernel), _, rfl, _, _, rfl, rfl, _, rfl, x, n, c, 6, 0 - v, v, rfl, hP.same s12, by decide, fun H3 s3 => ⟨_, rfl, ?_⟩⟩
        have s13 := s12.trans s3
        cases q3 : symL c n 6 (0 - v) v with
        | true =>
          refine iteT (B := True) ?_
          have kk := k _ s13
          rw [Int.zero_sub] at q3
          rw [q1, q2, q3, Bool.true_or, Bool.or_true, Bool.or_true] at kk
          exact kk
        | false =>
          refine iteF ?_
          refine ⟨_, rfl, x, dx, _, rfl, s13 _ _ hx, pf_meth (by decide +kernel), _, rfl, _, rfl, x, n, c, 7, u, u, rfl, hP.same s13, by decide, fun H4 s4 => ?_⟩
          have kk := k _ (s13.trans s4)
          rw [Int.zero_sub] at q3
          rw [q1, q2, q3, Bool.false_or, Bool.false_or, Bool.false_or] at kk
          exact kk
theorem scTurns : FnScope ["pattern", "a", "b"] ["pattern"] (defScope sTurns) := ⟨rfl, rfl, rfl, by decide +kernel, rfl, by decide +kernel, by decide +kernel⟩
theorem ok_turns {f f1 f2 : Addr} {fd fd1 fd2 : FuncData} (F : Fun K "turns_on_mirror" "turns_on_mirror" sTurns f fd) (TW : TxW K mg W ws) (T : TxC K mg C) (G1 : FnOk P w K mg base CX0 1 f1 fd1 ["self", "way", "a", "b"] (spHas K C)) (m1 : Meth K C "has" f1) (b1 : Binds K fd1 ["self", "way", "a", "b"] [])
    (G2 : FnOk P w K mg base CX0 2 f2 fd2 ["pattern", "a", "b"] (spMeets K C)) (m2 : mg "meets_mirror" = some (.ref f2)) (k2 : PySem.W.keepIn K (.ref f2) = true) (b2 : Binds K fd2 ["pattern", "a", "b"] []) :
    FnOk P w K mg base CX0 3 f fd ["pattern"] (spTurns K C) := by
  refine F.ok scTurns (fun vs H Q E h => ?_) (fun cdv A outer s H vs Q E hr h => ?_)
  · obtain ⟨x, n, c, rfl, _⟩ := h
    rfl
  · obtain ⟨x, n, c, rfl, hP, k⟩ := h
    have nd := scTurns.nd
    have hr1 : Room 1 _ := hr.mono (by decide)
    refine ⟨_, pss_cons (ps_for PassesOwn.never rfl (pi_range1 rfl TW.range (pa_cons (pe_fld (pv 0) rfl) pa_nil)) (pg_name (i := 1) nd rfl (Or.inl rfl))
        (pss_one (ps_for PassesOwn.never rfl (pi_range1 rfl TW.range (pa_cons (pe_fld (pv 0) rfl) pa_nil)) (pg_name (i := 2) nd rfl (Or.inl rfl))
          (pss_one (ps_if (PW.pt (pw_and (pt_val (pe_meth (pv 0) T.cl m1 G1 hr1 b1 .nil pass0 (pa_cons pe_int (pa_cons (pv 1) (pa_cons (pv 2) pa_nil))))) (pw_and1 (pt_val (pe_call G2 hr rfl m2 k2 b2 .nil pass0 (pa_cons (pv 0) (pa_cons (pv 1) (pa_cons (pv 2) pa_nil)))))))) (pss_one (ps_ret pe_bl)) pss_nil)))))
      (pss_one (ps_ret pe_bl)), ?_⟩
    obtain ⟨dx, ca, d, ⟨hx, _, _, h0, h6⟩, _⟩ := id hP
    refine ⟨_, rfl, x, C, dx, _, _, rfl, hx, T.cl, T.nN, pf_n _ _ _, (n : Int), rfl, by omega, by omega, for_range (lo := 0) (n := n) (fun i' σ H' => ∃ va vb : Option V, σ = [some (.ref x), va, vb] ∧ Same H H' ∧ ∀ i : Nat, i < i' → ∀ j : Nat, j < n → (symL c n 1 (i : Int) (j : Int) && meets c n (i : Int) (j : Int)) = false)
      ⟨none, none, rfl, Same.refl _, fun i h => absurd h (Nat.not_lt_zero _)⟩ ?_ ?_⟩
    · rintro i σ H2 hi ⟨va, vb, rfl, s2, hl2⟩
      refine ⟨_, rfl, x, C, dx, _, _, rfl, s2 _ _ hx, T.cl, T.nN, pf_n _ _ _, (n : Int), rfl, by omega, by omega, for_range (lo := 0) (n := n) (fun j' σ H' => ∃ vb : Option V, σ = [some (.ref x), some (.int (i : Int)), vb] ∧ Same H H' ∧ ∀ j : Nat, j < j' → (symL c n 1 (i : Int) (j : Int) && meets c n (i : Int) (j : Int)) = false)
        ⟨vb, by rw [Int.zero_add]; rfl, s2, fun j h => absurd h (Nat.not_lt_zero _)⟩ ?_ ?_⟩
      · rintro j σ H3 hj ⟨vb, rfl, s3, hl3⟩
        refine ⟨_, rfl, x, dx, _, rfl, s3 _ _ hx, pf_meth (by decide +kernel), _, rfl, _, rfl, x, n, c, 1, (i : Int), (j : Int), (by rw [Int.zero_add]; rfl), hP.same s3, by decide, fun H4 s4 => ⟨_, rfl, ?_⟩⟩
        have more : (symL c n 1 (i : Int) (j : Int) && meets c n (i : Int) (j : Int)) = false → ∀ j2 : Nat, j2 < j + 1 → (symL c n 1 (i : Int) (j2 : Int) && meets c n (i : Int) (j2 : Int)) = false := fun q j2 h2 => by
          by_cases e : j2 < j
          · exact hl3 j2 e
          · obtain rfl : j2 = j := by omega
            exact q
        cases q : symL c n 1 (i : Int) (j : Int) with
        | false =>
          exact iteF (iteF ⟨_, rfl, s3.trans s4, more (by rw [q]; rfl)⟩)
        | true =>
          refine iteT (B := True) ?_
          refine ⟨_, rfl, _, rfl, _, rfl, x, n, c, (i : Int), (j : Int), (by rw [Int.zero_add]; rfl), hP.same (s3.trans s4), fun H5 s5 => ⟨_, rfl, ?_⟩⟩
          have s35 := (s3.trans s4).trans s5
          cases q2 : meets c n (i : Int) (j : Int) with
          | false => exact iteF ⟨_, rfl, s35, more (by rw [q, q2]; rfl)⟩
          | true =>
            refine iteT (B := True) ?_
            have kk := k _ s35
            rw [show turnsOn c n = true from any_range.mpr ⟨i, hi, any_range.mpr ⟨j, hj, by rw [q, q2]; rfl⟩⟩] at kk
            exact kk
      · rintro σ H3 ⟨vb, rfl, s3, hl3⟩
        refine ⟨_, _, rfl, s3, fun i2 h2 j hj => ?_⟩
        by_cases e : i2 < i
        · exact hl2 i2 e j hj
        · obtain rfl : i2 = i := by omega
          exact hl3 j hj
    · rintro σ H1 ⟨va, vb, rfl, s1, hl1⟩
      have kk := k _ s1
      have e : turnsOn c n = false := by
        cases z : turnsOn c n with
        | false => rfl
        | true =>
          obtain ⟨i, hi, z⟩ := any_range.mp z
          obtain ⟨j, hj, z⟩ := any_range.mp z
          rw [hl1 i hi j hj] at z
          cases z
      rw [e] at kk
      exact kk
end
end Pl
/-! ### the kinds: counts and the kind -/
namespace Pl
open PySem PySem.Spec PyProof.Rows L2
section
variable {P : Program} {w : World} {K : PySem.W.Frag} {mg : Str → Option Value} {base : Heap} {W C AL MI : Addr} {ws as : Nat → Addr}
theorem scCounts : FnScope ["pattern", "found", "way", "many"] ["pattern"] (defScope sCounts) := ⟨rfl, rfl, rfl, by decide +kernel, rfl, by decide +kernel, by decide +kernel⟩
theorem ok_counts {f f1 f2 : Addr} {fd fd1 fd2 : FuncData} (F : Fun K "counts_of" "counts_of" sCounts f fd) (TW : TxW K mg W ws) (T : TxC K mg C) (TK : TxK K mg AL MI as) (G1 : FnOk P w K mg base CX0 2 f1 fd1 ["self", "way"] (spHasWay K C)) (m1 : Meth K C "has_way" f1) (b1 : Binds K fd1 ["self", "way"] [])
    (G2 : FnOk P w K mg base CX0 2 f2 fd2 ["pattern", "way"] (spHasMirror K C)) (m2 : mg "has_mirror" = some (.ref f2)) (k2 : PySem.W.keepIn K (.ref f2) = true) (b2 : Binds K fd2 ["pattern", "way"] []) :
    FnOk P w K mg base CX0 3 f fd ["pattern"] (spCounts K C) := by
  refine F.ok scCounts (fun vs H Q E h => ?_) (fun cdv A outer s H vs Q E hr h => ?_)
  · obtain ⟨x, n, c, rfl, _⟩ := h
    rfl
  · obtain ⟨x, n, c, rfl, hP, k⟩ := h
    have nd := scCounts.nd
    obtain ⟨tO, mgO⟩ := TK.ov
    obtain ⟨tM, mgM⟩ := T.many
    refine ⟨_, pss_cons (ps_set (i := 1) nd rfl (Or.inl rfl) (pe_lst pa_nil))
      (pss_cons (ps_for PassesOwn.never rfl (pi_range1 rfl TW.range (pa_cons (pe_glob (v := .int 8) rfl mgM ⟨_, rfl⟩) pa_nil)) (pg_name (i := 2) nd rfl (Or.inl rfl))
        (pss_cons (ps_set (i := 3) nd rfl (Or.inl rfl) (pe_callTy call_int1 (by rfl) TK.int (by decide +kernel) (pa_cons (pe_meth (pv 0) T.cl m1 G1 hr b1 .nil pass0 (pa_cons (pv 2) pa_nil)) pa_nil)))
        (pss_cons (ps_if (PW.pt (pw_and (pt_cmpR op_ge (pv 2) (pe_glob (v := .int 4) rfl mgO ⟨_, rfl⟩) (nomark _)) (pw_and1 (pt_val (pe_call G2 hr rfl m2 k2 b2 .nil pass0 (pa_cons (pv 0) (pa_cons (pv 2) pa_nil))))))) (pss_one (ps_set (i := 3) nd rfl (Or.inl rfl) pe_int)) pss_nil)
        (pss_one (ps_expr (pe_bm PySem.F.plainAttrs_list PySem.F.slot_list_append PySem.F.type_list_append mt_append (pv 1) (pa_cons (pv 3) pa_nil)))))))
      (pss_one (ps_ret (pv 1)))), ?_⟩
    obtain ⟨dx, ca, d, ⟨hx, _, _, h0, h6⟩, _⟩ := id hP
    refine ⟨Nat.zero_le _, fun l hl => ?_⟩
    refine ⟨8, rfl, by decide, by decide, for_range (lo := 0) (n := 8) (fun i σ H' => ∃ vw vm : Option V, σ = [some (.ref x), some (.ref l), vw, vm] ∧ Same H H' ∧ H' l = some (.lst ((List.range i).map fun (a : Nat) => V.int (mark c n a))))
      ⟨none, none, rfl, Same.new hl, upd_same⟩ ?_ ?_⟩
    · rintro i σ H1 hi ⟨vw, vm, rfl, s1, e1⟩
      refine ⟨_, rfl, x, dx, _, rfl, s1 _ _ hx, pf_meth (by decide +kernel), _, rfl, x, n, c, i, (by rw [Int.zero_add]; rfl), hP.same s1, fun H2 s2 => .inr ⟨_, rfl, ?_⟩⟩
      have s12 := s1.trans s2
      have fin : ∀ (z : Int) (H3 : Hp), Same H2 H3 → z = mark c n i → rAppend (.ref l) [.int z] H3 fun _ H4 => ∃ vw vm : Option V, [some (V.ref x), some (.ref l), some (.int (0 + (i : Int))), some (.int z)] = [some (.ref x), some (.ref l), vw, vm] ∧ Same H H4 ∧ H4 l = some (.lst ((List.range (i + 1)).map fun (a : Nat) => V.int (mark c n a))) := fun z H3 s3 e => by
        have e3 := s3 _ _ (s2 _ _ e1)
        refine ⟨l, _, _, rfl, rfl, e3, (by rw [List.length_map, List.length_range]; exact Nat.lt_trans hi (by decide)), _, _, rfl, Same.upd (s12.trans s3) hl, ?_⟩
        rw [upd_same, range_more, e]
      have e2 := s2 _ _ e1
      refine ⟨_, rfl, _, _, rfl, rfl, _, rfl, ?_⟩
      by_cases h4 : 4 ≤ i
      · rw [decide_eq_true (show (4 : Int) ≤ 0 + (i : Int) by omega)]
        refine iteT (B := True) ?_
        refine ⟨_, rfl, _, rfl, x, n, c, i, (by rw [Int.zero_add]; rfl), hP.same s12, h4, hi, fun H3 s3 => ⟨_, rfl, ?_⟩⟩
        cases q : hasM c n i with
        | true =>
          refine iteT (B := True) ?_
          refine ⟨_, rfl, .inl ⟨rfl, _, SqL.of (s3 _ _ e2)⟩, _, rfl, ?_⟩
          exact fin 2 H3 s3 (by unfold mark; rw [if_pos ⟨h4, q⟩])
        | false =>
          refine iteF ?_
          refine ⟨_, rfl, .inl ⟨rfl, _, SqL.of (s3 _ _ e2)⟩, _, rfl, ?_⟩
          refine fin _ H3 s3 ?_
          unfold mark
          rw [if_neg (show ¬ (4 ≤ i ∧ hasM c n i = true) from fun z => by rw [q] at z; exact Bool.false_ne_true z.2)]
      · rw [decide_eq_false (show ¬ (4 : Int) ≤ 0 + (i : Int) by omega)]
        refine iteF (iteF ?_)
        refine ⟨_, rfl, .inl ⟨rfl, _, SqL.of e2⟩, _, rfl, ?_⟩
        refine fin _ H2 (Same.refl _) ?_
        unfold mark
        rw [if_neg (show ¬ (4 ≤ i ∧ hasM c n i = true) from fun z => h4 z.1)]
    · rintro σ H1 ⟨vw, vm, rfl, s1, e1⟩
      refine ⟨_, rfl, k _ l s1 hl ?_⟩
      rw [e1]
      unfold marks
      rw [List.map_map]
      rfl
theorem scKwt : FnScope ["pattern", "mirrors"] ["pattern", "mirrors"] (defScope sKwt) := ⟨rfl, rfl, rfl, by decide +kernel, rfl, by decide +kernel, by decide +kernel⟩
theorem ok_kwt {f f1 : Addr} {fd fd1 : FuncData} (F : Fun K "kind_without_turn" "kind_without_turn" sKwt f fd) (G1 : FnOk P w K mg base CX0 3 f1 fd1 ["pattern"] (spAre K C)) (m1 : mg "are_on_mirrors" = some (.ref f1)) (k1 : PySem.W.keepIn K (.ref f1) = true) (b1 : Binds K fd1 ["pattern"] []) :
    FnOk P w K mg base CX0 4 f fd ["pattern", "mirrors"] (spKwt K C) := by
  refine F.ok scKwt (fun vs H Q E h => ?_) (fun cdv A outer s H vs Q E hr h => ?_)
  · obtain ⟨x, n, c, m, rfl, _⟩ := h
    rfl
  · obtain ⟨x, n, c, m, rfl, hP, k⟩ := h
    refine ⟨_, pss_cons (ps_if (pt_cmpR op_eq (pv 1) pe_int (nomark _)) (pss_one (ps_ret pe_int)) pss_nil) (pss_one (ps_ret (pe_ifExp (pt_val (pe_call G1 hr rfl m1 k1 b1 .nil pass0 (pa_cons (pv 0) pa_nil))) pe_int pe_int))), ?_⟩
    refine ⟨_, rfl, rfl, _, rfl, ?_⟩
    rw [dec_v]
    by_cases h : m = 0
    · rw [decide_eq_true (show ((m : Nat) : Int) = 0 by omega)]
      have kk := k H (Same.refl _)
      unfold kwt at kk
      rw [if_pos h] at kk
      exact iteT (B := True) kk
    · rw [decide_eq_false (show ¬ ((m : Nat) : Int) = 0 by omega)]
      refine iteF ⟨_, rfl, x, n, c, rfl, hP, fun H1 s1 => ⟨_, rfl, ?_⟩⟩
      have kk := k H1 s1
      unfold kwt at kk
      rw [if_neg h] at kk
      cases q : areOn c n with
      | true =>
        rw [q, if_pos rfl] at kk
        exact iteT (B := True) kk
      | false =>
        rw [q, if_neg Bool.false_ne_true] at kk
        exact iteF kk
theorem scKh : FnScope ["pattern", "mirrors"] ["pattern", "mirrors"] (defScope sKh) := ⟨rfl, rfl, rfl, by decide +kernel, rfl, by decide +kernel, by decide +kernel⟩
theorem ok_kh {f f1 : Addr} {fd fd1 : FuncData} (F : Fun K "kind_of_half" "kind_of_half" sKh f fd) (G1 : FnOk P w K mg base CX0 3 f1 fd1 ["pattern"] (spAre K C)) (m1 : mg "are_on_mirrors" = some (.ref f1)) (k1 : PySem.W.keepIn K (.ref f1) = true) (b1 : Binds K fd1 ["pattern"] []) :
    FnOk P w K mg base CX0 4 f fd ["pattern", "mirrors"] (spKh K C) := by
  refine F.ok scKh (fun vs H Q E h => ?_) (fun cdv A outer s H vs Q E hr h => ?_)
  · obtain ⟨x, n, c, m, rfl, _⟩ := h
    rfl
  · obtain ⟨x, n, c, m, rfl, hP, k⟩ := h
    refine ⟨_, pss_cons (ps_if (pt_cmpR op_eq (pv 1) pe_int (nomark _)) (pss_one (ps_ret pe_int)) pss_nil) (pss_cons (ps_if (pt_cmpR op_eq (pv 1) pe_int (nomark _)) (pss_one (ps_ret pe_int)) pss_nil) (pss_one (ps_ret (pe_ifExp (pt_val (pe_call G1 hr rfl m1 k1 b1 .nil pass0 (pa_cons (pv 0) pa_nil))) pe_int pe_int)))), ?_⟩
    refine ⟨_, rfl, rfl, _, rfl, ?_⟩
    rw [dec_v]
    by_cases h : m = 0
    · rw [decide_eq_true (show ((m : Nat) : Int) = 0 by omega)]
      have kk := k H (Same.refl _)
      unfold khf at kk
      rw [if_pos h] at kk
      exact iteT (B := True) kk
    · rw [decide_eq_false (show ¬ ((m : Nat) : Int) = 0 by omega)]
      refine iteF ⟨_, rfl, rfl, _, rfl, ?_⟩
      rw [dec_v]
      by_cases h1 : m = 1
      · rw [decide_eq_true (show ((m : Nat) : Int) = 1 by omega)]
        have kk := k H (Same.refl _)
        unfold khf at kk
        rw [if_neg h, if_pos h1] at kk
        exact iteT (B := True) kk
      · rw [decide_eq_false (show ¬ ((m : Nat) : Int) = 1 by omega)]
        refine iteF ⟨_, rfl, x, n, c, rfl, hP, fun H1 s1 => ⟨_, rfl, ?_⟩⟩
        have kk := k H1 s1
        unfold khf at kk
        rw [if_neg h, if_neg h1] at kk
        cases q : areOn c n with
        | true =>
          rw [q, if_pos rfl] at kk
          exact iteT (B := True) kk
        | false =>
          rw [q, if_neg Bool.false_ne_true] at kk
          exact iteF kk
theorem scKindOf : FnScope ["pattern", "counts", "over", "mirrors", "found", "count"] ["pattern"] (defScope sKindOf) := ⟨rfl, rfl, rfl, by decide +kernel, rfl, by decide +kernel, by decide +kernel⟩
theorem marks_cut (c : List Nat) (n : Nat) : cutV ((marks c n).map V.int) (some 4) none = ((marks c n).drop 4).map V.int := rfl
theorem mark_pos {c : List Nat} {n a : Nat} (h4 : a < 4) : decide ((0 : Int) < mark c n a) = hasW c n a := by
  unfold mark
  rw [if_neg (show ¬ (4 ≤ a ∧ hasM c n a = true) from fun z => by omega)]
  cases hasW c n a <;> rfl
theorem ok_kindOf {f f1 f2 f3 f4 : Addr} {fd fd1 fd2 fd3 fd4 : FuncData} (F : Fun K "kind_of" "kind_of" sKindOf f fd) (TK : TxK K mg AL MI as)
    (G1 : FnOk P w K mg base CX0 3 f1 fd1 ["pattern"] (spCounts K C)) (m1 : mg "counts_of" = some (.ref f1)) (k1 : PySem.W.keepIn K (.ref f1) = true) (b1 : Binds K fd1 ["pattern"] [])
    (G2 : FnOk P w K mg base CX0 3 f2 fd2 ["pattern"] (spTurns K C)) (m2 : mg "turns_on_mirror" = some (.ref f2)) (k2 : PySem.W.keepIn K (.ref f2) = true) (b2 : Binds K fd2 ["pattern"] [])
    (G3 : FnOk P w K mg base CX0 4 f3 fd3 ["pattern", "mirrors"] (spKh K C)) (m3 : mg "kind_of_half" = some (.ref f3)) (k3 : PySem.W.keepIn K (.ref f3) = true) (b3 : Binds K fd3 ["pattern", "mirrors"] [])
    (G4 : FnOk P w K mg base CX0 4 f4 fd4 ["pattern", "mirrors"] (spKwt K C)) (m4 : mg "kind_without_turn" = some (.ref f4)) (k4 : PySem.W.keepIn K (.ref f4) = true) (b4 : Binds K fd4 ["pattern", "mirrors"] []) :
    FnOk P w K mg base CX0 5 f fd ["pattern"] (spKindOf K C) := by
  refine F.ok scKindOf (fun vs H Q E h => ?_) (fun cdv A outer s H vs Q E hr h => ?_)
  · obtain ⟨x, n, c, rfl, _⟩ := h
    rfl
  · obtain ⟨x, n, c, rfl, hP, k⟩ := h
    have nd := scKindOf.nd
    obtain ⟨tO, mgO⟩ := TK.ov
    have hr3 : Room 3 _ := hr.mono (by decide)
    refine ⟨_, pss_cons (ps_set (i := 1) nd rfl (Or.inl rfl) (pe_call G1 hr3 rfl m1 k1 b1 .nil pass0 (pa_cons (pv 0) pa_nil)))
      (pss_cons (ps_set (i := 2) nd rfl (Or.inl rfl) (pe_callB (cr_max rfl) (by rfl) TK.max (by decide +kernel) (pa_cons (pe_slice sl_list (pv 1) (po_some (pe_glob (v := .int 4) rfl mgO ⟨_, rfl⟩)) po_none) pa_nil)))
      (pss_cons (ps_set (i := 3) nd rfl (Or.inl rfl) (pe_callB call_len_seq (by rfl) TK.len PySem.boot_len (pa_cons (pe_lc (own := [("count", 5)]) (g := gName 5) rfl nd (pi_list (pe_slice sl_list (pv 1) (po_some (pe_glob (v := .int 4) rfl mgO ⟨_, rfl⟩)) po_none))
        (blkOk_by (own := [("count", 5)]) (N := ["pattern", "counts", "over", "mirrors", "found", "count"]) (sc := defScope sKindOf) (by decide +kernel)) (fun _ _ _ _ _ => pg_name (i := 5) nd rfl (Or.inl rfl))
        (fun _ _ _ _ _ => pts_one (pt_cmpR op_eq (pv 5) pe_int (nomark _))) (fun _ _ _ _ _ => pv 5)) pa_nil)))
      (pss_cons (ps_if (pt_cmpR op_gt (pe_ix ix_list (pv 1) pe_int (fun _ _ => rfl)) pe_int (nomark _))
          (pss_one (ps_set (i := 4) nd rfl (Or.inl rfl) (pe_ifExp (pt_cmpR op_eq (pv 2) pe_int (nomark _)) pe_int (pe_op op_sub pe_int (pe_callTy call_int1 (by rfl) TK.int (by decide +kernel) (pa_cons (pe_call G2 hr3 rfl m2 k2 b2 .nil pass0 (pa_cons (pv 0) pa_nil)) pa_nil))))))
          (pss_one (ps_if (pt_cmpR op_gt (pe_ix ix_list (pv 1) pe_int (fun _ _ => rfl)) pe_int (nomark _))
            (pss_one (ps_set (i := 4) nd rfl (Or.inl rfl) (pe_ifExp (pt_cmpR op_eq (pv 2) pe_int (nomark _)) pe_int (pe_call G3 hr rfl m3 k3 b3 .nil pass0 (pa_cons (pv 0) (pa_cons (pv 3) pa_nil))))))
            (pss_one (ps_set (i := 4) nd rfl (Or.inl rfl) (pe_ifExp (pt_cmpR op_eq (pv 2) pe_int (nomark _)) pe_int (pe_call G4 hr rfl m4 k4 b4 .nil pass0 (pa_cons (pv 0) (pa_cons (pv 3) pa_nil)))))))))
      (pss_one (ps_ret (pe_op op_cat (pe_lst (pa_cons (pv 4) pa_nil)) (pv 1))))))), ?_⟩
    refine ⟨_, rfl, x, n, c, rfl, hP, fun H1 l s1 n1 e1 => ?_⟩
    refine ⟨_, rfl, 4, rfl, l, _, rfl, SqL.of e1, fun l2 h2 => ?_⟩
    rw [marks_cut]
    refine ⟨l2, _, rfl, SqL.of upd_same, (by decide : 0 < 4), fun m hm hle => ?_⟩
    have s2 := s1.trans (Same.new (o := .lst (((marks c n).drop 4).map V.int)) h2)
    have e2 := (Same.new (o := .lst (((marks c n).drop 4).map V.int)) h2) _ _ e1
    have hov := over_zero hm hle
    refine ⟨_, rfl, 4, rfl, l, _, rfl, SqL.of e2, fun l3 h3 => ?_⟩
    rw [marks_cut]
    refine ⟨l3, rfl, ⟨_, SqL.of upd_same⟩, fun D hD => ?_⟩
    have s3 := s2.trans (Same.new (o := .lst (((marks c n).drop 4).map V.int)) h3)
    have e3 := (Same.new (o := .lst (((marks c n).drop 4).map V.int)) h3) _ _ e2
    refine lc_list (K := K) (a := l3) (xs := ((marks c n).drop 4).map V.int) (fun i H' => Same (L2.upd (L2.upd H1 l2 (.lst (((marks c n).drop 4).map V.int))) l3 (.lst (((marks c n).drop 4).map V.int))) H' ∧ H' D = some (.lst (((((marks c n).drop 4).take i).filter fun y => decide (y = 2)).map V.int)))
      ⟨Same.new hD, upd_same⟩ (fun i H' _ ⟨s4, _⟩ => s4.seq (SqL.of upd_same)) ?_ ?_
    · rintro i y H2 hi ⟨s4, e4⟩
      obtain ⟨z, hz, rfl⟩ := map_at hi
      refine ⟨rfl, _, rfl, rfl, _, rfl, ?_⟩
      rw [dec_v]
      have hsz : (((((marks c n).drop 4).take i).filter fun y => decide (y = 2)).map V.int).length < sizeLine := by
        rw [List.length_map]
        refine Nat.lt_of_le_of_lt (Nat.le_trans (List.length_filter_le _ _) ?_) (show 4 < sizeLine by decide)
        rw [List.length_take]
        exact Nat.min_le_right _ _
      by_cases e : z = 2
      · rw [decide_eq_true e]
        refine iteT ⟨_, rfl, _, e4, hsz, Same.upd s4 hD, ?_⟩
        rw [upd_same, take_more hz, List.filter_append, List.filter_cons, if_pos (decide_eq_true e), List.map_append]
        rfl
      · rw [decide_eq_false e]
        refine iteF ⟨s4, ?_⟩
        rw [e4, take_more hz, List.filter_append, List.filter_cons, if_neg (by rw [decide_eq_false e]; exact Bool.false_ne_true), List.filter_nil, List.append_nil]
    · rintro H2 ⟨s4, e4⟩
      rw [List.length_map, List.take_length] at e4
      refine ⟨D, _, rfl, .inl (SqL.of e4), ?_⟩
      rw [List.length_map, mirr_is]
      have s5 := s3.trans s4
      have e5 := s4 _ _ e3
      have hP5 := hP.same s5
      have fin : ∀ (v : Nat) (H3 : Hp) (mi : V), Same H2 H3 → v = kindK c n → ∀ p, H3 p = none → rCat (.ref p) (.ref l) (L2.upd H3 p (.lst [.int (v : Int)])) Q := fun v H3 mi s6 e p hp => by
        have s7 : Same H3 (L2.upd H3 p (.lst [.int (v : Int)])) := Same.new hp
        refine ⟨p, l, _, _, rfl, rfl, upd_same, s7 _ _ (s6 _ _ e5), (by show 1 + 8 ≤ sizeLine; decide), fun q hq => ?_⟩
        have s8 := (s5.trans s6).trans s7
        refine k _ q (Same.upd s8 (s8.free hq)) (s8.free hq) ?_
        rw [upd_same, e]
        rfl
      have one1 : atI ((marks c n).map V.int) 1 = some (.int (mark c n 1)) := rfl
      have one2 : atI ((marks c n).map V.int) 2 = some (.int (mark c n 2)) := rfl
      unfold kindK at fin
      refine ⟨_, rfl, l, _, _, _, rfl, rfl, SqL.of e5, one1, _, _, rfl, rfl, _, rfl, ?_⟩
      rw [mark_pos (by decide)]
      cases w1 : hasW c n 1 with
      | true =>
        rw [w1, if_pos rfl] at fin
        refine iteT (B := True) ?_
        refine ⟨_, rfl, rfl, _, rfl, ?_⟩
        rw [dec_v]
        by_cases hm0 : m = 0
        · rw [if_pos (hov.mp hm0)] at fin
          rw [decide_eq_true hm0]
          exact iteT (B := True) ⟨_, rfl, (by show 1 ≤ sizeLine; decide), fun p hp => ⟨_, rfl, fin 9 H2 .non (Same.refl _) rfl p hp⟩⟩
        · rw [if_neg (fun z => hm0 (hov.mpr z))] at fin
          rw [decide_eq_false hm0]
          refine iteF ⟨_, rfl, x, n, c, rfl, hP5, fun H3 s6 => .inr ⟨_, rfl, _, _, rfl, rfl, ?_⟩⟩
          refine ⟨_, rfl, (by show 1 ≤ sizeLine; decide), fun p hp => ⟨_, rfl, ?_⟩⟩
          cases t : turnsOn c n with
          | true =>
            rw [t, if_pos rfl] at fin
            exact fin 10 H3 .non s6 rfl p hp
          | false =>
            rw [t, if_neg Bool.false_ne_true] at fin
            exact fin 11 H3 .non s6 rfl p hp
      | false =>
        rw [w1, if_neg Bool.false_ne_true] at fin
        refine iteF ?_
        refine ⟨_, rfl, l, _, _, _, rfl, rfl, SqL.of e5, one2, _, _, rfl, rfl, _, rfl, ?_⟩
        rw [mark_pos (by decide)]
        cases w2 : hasW c n 2 with
        | true =>
          rw [w2, if_pos rfl] at fin
          refine iteT (B := True) ?_
          refine ⟨_, rfl, rfl, _, rfl, ?_⟩
          rw [dec_v]
          by_cases hm0 : m = 0
          · rw [if_pos (hov.mp hm0)] at fin
            rw [decide_eq_true hm0]
            exact iteT (B := True) ⟨_, rfl, (by show 1 ≤ sizeLine; decide), fun p hp => ⟨_, rfl, fin 4 H2 .non (Same.refl _) rfl p hp⟩⟩
          · rw [if_neg (fun z => hm0 (hov.mpr z))] at fin
            rw [decide_eq_false hm0]
            refine iteF ⟨_, rfl, _, rfl, x, n, c, mirr c n, rfl, hP5, fun H3 s6 => ⟨_, rfl, (by show 1 ≤ sizeLine; decide), fun p hp => ⟨_, rfl, ?_⟩⟩⟩
            exact fin (khf c n (mirr c n)) H3 .non s6 rfl p hp
        | false =>
          rw [w2, if_neg Bool.false_ne_true] at fin
          refine iteF ?_
          refine ⟨_, rfl, rfl, _, rfl, ?_⟩
          rw [dec_v]
          by_cases hm0 : m = 0
          · rw [if_pos (hov.mp hm0)] at fin
            rw [decide_eq_true hm0]
            exact iteT (B := True) ⟨_, rfl, (by show 1 ≤ sizeLine; decide), fun p hp => ⟨_, rfl, fin 0 H2 .non (Same.refl _) rfl p hp⟩⟩
          · rw [if_neg (fun z => hm0 (hov.mpr z))] at fin
            rw [decide_eq_false hm0]
            refine iteF ⟨_, rfl, _, rfl, x, n, c, mirr c n, rfl, hP5, fun H3 s6 => ⟨_, rfl, (by show 1 ≤ sizeLine; decide), fun p hp => ⟨_, rfl, ?_⟩⟩⟩
            exact fin (kwt c n (mirr c n)) H3 .non s6 rfl p hp
theorem scKind : FnScope ["n", "p"] ["n", "p"] (defScope sKind) := ⟨rfl, rfl, rfl, by decide +kernel, rfl, by decide +kernel, by decide +kernel⟩
theorem ok_kind {f f1 f2 f3 : Addr} {fd fd1 fd2 fd3 : FuncData} (F : Fun K "kind" "kind" sKind f fd) (T : TxC K mg C) (mO : ∃ t, mg "OUT" = some (.int (-2) t))
    (G1 : FnOk P w K mg base CX0 1 f1 fd1 ["n"] spSide) (m1 : mg "is_side" = some (.ref f1)) (k1 : PySem.W.keepIn K (.ref f1) = true) (b1 : Binds K fd1 ["n"] [])
    (M : Mk K C f2) (G2 : FnOk P w K mg base CX0 5 f2 fd2 ["self", "n", "colours"] (spInit K C)) (b2 : Binds K fd2 ["self", "n", "colours"] [])
    (G3 : FnOk P w K mg base CX0 5 f3 fd3 ["pattern"] (spKindOf K C)) (m3 : mg "kind_of" = some (.ref f3)) (k3 : PySem.W.keepIn K (.ref f3) = true) (b3 : Binds K fd3 ["pattern"] []) :
    FnOk P w K mg base CX0 7 f fd ["n", "p"] (spKind K) := by
  refine F.ok scKind (fun vs H Q E h => ?_) (fun cdv A outer s H vs Q E hr h => ?_)
  · obtain ⟨z, a, cs, rfl, _⟩ := h
    rfl
  · obtain ⟨z, a, cs, rfl, hS, hask, k⟩ := h
    obtain ⟨tO, mO⟩ := mO
    have hr1 : Room 1 _ := hr.mono (by decide)
    have hr5 : Room 5 _ := hr.mono (by decide)
    refine ⟨_, pss_cons (ps_if (pt_not (pt_val (pe_call G1 hr1 rfl m1 k1 b1 .nil pass0 (pa_cons (pv 0) pa_nil)))) (pss_one (ps_ret (pe_lst (pa_cons (pe_glob (v := .int (-2)) rfl mO ⟨_, rfl⟩) pa_nil)))) pss_nil)
      (pss_one (ps_ret (pe_call G3 hr5 rfl m3 k3 b3 .nil pass0 (pa_cons (pe_make M G2 hr rfl T.gC b2 .nil pass0 (pa_cons (pv 0) (pa_cons (pv 1) pa_nil))) pa_nil)))), ?_⟩
    refine ⟨_, rfl, z, rfl, _, rfl, ?_⟩
    by_cases hz : 1 ≤ z ∧ z ≤ 64
    · rw [decide_eq_true hz.1, decide_eq_true hz.2]
      refine iteF ?_
      obtain ⟨n, rfl, h0, h6, hlen, hcV⟩ := square_of (z := z) (cs := cs) hask hz.1 hz.2
      refine ⟨_, rfl, _, rfl, fun x dx nx ndx nex => ?_⟩
      have s0 : Same H (L2.upd (L2.upd H dx (.own x)) x (.ins C dx [])) := Same.upd (Same.new ndx) nx
      refine ⟨x, dx, a, n, Sa48Neutral.nats cs, rfl, upd_same, (by rw [hcV]; exact s0.seq hS), hlen, h0, h6, fun H1 o1 hP => ⟨rfl, ?_⟩⟩
      refine ⟨x, n, _, rfl, hP, fun H2 p s2 n2 e2 => k _ p ?_⟩
      rw [e2, kind_is rfl rfl h0 (by omega)]
    · have hb : (decide (1 ≤ z) && decide (z ≤ 64)) = false := by
        rw [← Bool.decide_and]
        exact decide_eq_false hz
      rw [hb]
      refine iteT ?_
      refine ⟨(by show 1 ≤ sizeLine; decide), fun q hq => k _ q ?_⟩
      rw [upd_same, kind_out (by omega)]
      rfl
end
end Pl
namespace Pl
open PySem PySem.Spec PyProof.Rows L2
/-! ### the end: what the top has written -/
theorem vals4 {a b c d : Int} {t u v w : Tok} {o : Option Addr} {n : Nat} {sl : Array (Option Value)} {K : PySem.W.Frag} {x : Addr} (h : K.lookup x = some ⟨.type "tuple", o, .seq #[.int a t, .int b u, .int c v, .int d w] n, sl⟩) (H : Hp) : SqT K H x [.int a, .int b, .int c, .int d] :=
  .inr ⟨_, _, _, h, rfl, rfl, (by show 4 ≤ sizeLine; decide), .cons ⟨_, rfl⟩ (.cons ⟨_, rfl⟩ (.cons ⟨_, rfl⟩ (.cons ⟨_, rfl⟩ .nil)))⟩
theorem ways_at {K : PySem.W.Frag} {W w0 w1 w2 w3 w4 w5 w6 w7 : Addr} {o : Option Addr} {n : Nat} {sl : Array (Option Value)} (h : K.lookup W = some ⟨.type "tuple", o, .seq #[.ref w0, .ref w1, .ref w2, .ref w3, .ref w4, .ref w5, .ref w6, .ref w7] n, sl⟩) (H : Hp) :
    SqT K H W ((List.range 8).map fun i => V.ref (([w0, w1, w2, w3, w4, w5, w6, w7] : List Addr).getD i 0)) :=
  .inr ⟨_, _, _, h, rfl, rfl, (by show 8 ≤ sizeLine; decide), .cons rfl (.cons rfl (.cons rfl (.cons rfl (.cons rfl (.cons rfl (.cons rfl (.cons rfl .nil)))))))⟩
theorem ways_in {K : PySem.W.Frag} {w0 w1 w2 w3 w4 w5 w6 w7 : Addr} {ow0 ow1 ow2 ow3 ow4 ow5 ow6 ow7 : Option Addr} {nw0 nw1 nw2 nw3 nw4 nw5 nw6 nw7 : Nat} {sw0 sw1 sw2 sw3 sw4 sw5 sw6 sw7 : Array (Option Value)} {t0_0 t0_1 t0_2 t0_3 t1_0 t1_1 t1_2 t1_3 t2_0 t2_1 t2_2 t2_3 t3_0 t3_1 t3_2 t3_3 t4_0 t4_1 t4_2 t4_3 t5_0 t5_1 t5_2 t5_3 t6_0 t6_1 t6_2 t6_3 t7_0 t7_1 t7_2 t7_3 : Tok}
    (lw0 : K.lookup w0 = some ⟨.type "tuple", ow0, .seq #[.int 1 t0_0, .int 0 t0_1, .int 0 t0_2, .int 1 t0_3] nw0, sw0⟩)
    (lw1 : K.lookup w1 = some ⟨.type "tuple", ow1, .seq #[.int 0 t1_0, .int (-1) t1_1, .int 1 t1_2, .int 0 t1_3] nw1, sw1⟩)
    (lw2 : K.lookup w2 = some ⟨.type "tuple", ow2, .seq #[.int (-1) t2_0, .int 0 t2_1, .int 0 t2_2, .int (-1) t2_3] nw2, sw2⟩)
    (lw3 : K.lookup w3 = some ⟨.type "tuple", ow3, .seq #[.int 0 t3_0, .int 1 t3_1, .int (-1) t3_2, .int 0 t3_3] nw3, sw3⟩)
    (lw4 : K.lookup w4 = some ⟨.type "tuple", ow4, .seq #[.int (-1) t4_0, .int 0 t4_1, .int 0 t4_2, .int 1 t4_3] nw4, sw4⟩)
    (lw5 : K.lookup w5 = some ⟨.type "tuple", ow5, .seq #[.int 1 t5_0, .int 0 t5_1, .int 0 t5_2, .int (-1) t5_3] nw5, sw5⟩)
    (lw6 : K.lookup w6 = some ⟨.type "tuple", ow6, .seq #[.int 0 t6_0, .int 1 t6_1, .int 1 t6_2, .int 0 t6_3] nw6, sw6⟩)
    (lw7 : K.lookup w7 = some ⟨.type "tuple", ow7, .seq #[.int 0 t7_0, .int (-1) t7_1, .int (-1) t7_2, .int 0 t7_3] nw7, sw7⟩)
    (H : Hp) (i : Nat) (hi : i < 8) : SqT K H (([w0, w1, w2, w3, w4, w5, w6, w7] : List Addr).getD i 0) (wayV i) := by
  have q : i = 0 ∨ i = 1 ∨ i = 2 ∨ i = 3 ∨ i = 4 ∨ i = 5 ∨ i = 6 ∨ i = 7 := by omega
  rcases q with rfl | rfl | rfl | rfl | rfl | rfl | rfl | rfl
  · exact vals4 lw0 H
  · exact vals4 lw1 H
  · exact vals4 lw2 H
  · exact vals4 lw3 H
  · exact vals4 lw4 H
  · exact vals4 lw5 H
  · exact vals4 lw6 H
  · exact vals4 lw7 H
theorem vals2 {a b : Int} {t u : Tok} {o : Option Addr} {n : Nat} {sl : Array (Option Value)} {K : PySem.W.Frag} {x : Addr} (h : K.lookup x = some ⟨.type "tuple", o, .seq #[.int a t, .int b u] n, sl⟩) (H : Hp) : SqT K H x [.int a, .int b] :=
  .inr ⟨_, _, _, h, rfl, rfl, (by show 2 ≤ sizeLine; decide), .cons ⟨_, rfl⟩ (.cons ⟨_, rfl⟩ .nil)⟩
theorem along_at {K : PySem.W.Frag} {W w0 w1 w2 w3 : Addr} {o : Option Addr} {n : Nat} {sl : Array (Option Value)} (h : K.lookup W = some ⟨.type "tuple", o, .seq #[.ref w0, .ref w1, .ref w2, .ref w3] n, sl⟩) (H : Hp) :
    SqT K H W ((List.range 4).map fun i => V.ref (([w0, w1, w2, w3] : List Addr).getD i 0)) :=
  .inr ⟨_, _, _, h, rfl, rfl, (by show 4 ≤ sizeLine; decide), .cons rfl (.cons rfl (.cons rfl (.cons rfl .nil)))⟩
theorem along_in {K : PySem.W.Frag} {a0 a1 a2 a3 : Addr} (h0 : ∀ H, SqT K H a0 [.int 1, .int 0]) (h1 : ∀ H, SqT K H a1 [.int 0, .int 1]) (h2 : ∀ H, SqT K H a2 [.int 1, .int (-1)]) (h3 : ∀ H, SqT K H a3 [.int 1, .int 1])
    (H : Hp) (i : Nat) (hi : i < 4) : SqT K H (([a0, a1, a2, a3] : List Addr).getD i 0) [.int (al (i + 4)).1, .int (al (i + 4)).2] := by
  have q : i = 0 ∨ i = 1 ∨ i = 2 ∨ i = 3 := by omega
  rcases q with rfl | rfl | rfl | rfl
  · exact h0 H
  · exact h1 H
  · exact h2 H
  · exact h3 H
theorem all_mk {P : Program} {w : World} {K : PySem.W.Frag} {h : Heap} {mg : Str → Option Value} {fa C W w0 w1 w2 w3 w4 w5 w6 w7 f_turned f_moved f_number_in f_image f_movements f___init__ f_leaves f_has f_symmetries f_has_way f_mirror_shift f_has_mirror f_is_on_mirror f_are_on_mirrors f_meets_mirror f_turns_on_mirror f_counts_of f_kind_without_turn f_kind_of_half f_kind_of f_is_side f_kind : Addr} {AL MI a0 a1 a2 a3 : Addr} {odAL odMI oa0 oa1 oa2 oa3 : Option Addr} {nAL nMI na0 na1 na2 na3 : Nat} {slAL slMI sa0 sa1 sa2 sa3 : Array (Option Value)} {u0_0 u0_1 u1_0 u1_1 u2_0 u2_1 u3_0 u3_1 m0 m1 m2 m3 : Tok} (X : K.In h) (G : h.Ns mainGlobals mg) (hfa : mg "kind" = some (.ref fa))
    {odW ow0 ow1 ow2 ow3 ow4 ow5 ow6 ow7 od_turned an_turned od_moved an_moved od_number_in an_number_in od_image an_image od_movements an_movements od___init__ an___init__ od_leaves an_leaves od_has an_has od_symmetries an_symmetries od_has_way an_has_way od_mirror_shift an_mirror_shift od_has_mirror an_has_mirror od_is_on_mirror an_is_on_mirror od_are_on_mirrors an_are_on_mirrors od_meets_mirror an_meets_mirror od_turns_on_mirror an_turns_on_mirror od_counts_of an_counts_of od_kind_without_turn an_kind_without_turn od_kind_of_half an_kind_of_half od_kind_of an_kind_of od_is_side an_is_side od_kind an_kind : Option Addr} {slW sw0 sw1 sw2 sw3 sw4 sw5 sw6 sw7 sl_turned sl_moved sl_number_in sl_image sl_movements sl___init__ sl_leaves sl_has sl_symmetries sl_has_way sl_mirror_shift sl_has_mirror sl_is_on_mirror sl_are_on_mirrors sl_meets_mirror sl_turns_on_mirror sl_counts_of sl_kind_without_turn sl_kind_of_half sl_kind_of sl_is_side sl_kind : Array (Option Value)} {nW nw0 nw1 nw2 nw3 nw4 nw5 nw6 nw7 : Nat} {t0_0 t0_1 t0_2 t0_3 t1_0 t1_1 t1_2 t1_3 t2_0 t2_1 t2_2 t2_3 t3_0 t3_1 t3_2 t3_3 t4_0 t4_1 t4_2 t4_3 t5_0 t5_1 t5_2 t5_3 t6_0 t6_1 t6_2 t6_3 t7_0 t7_1 t7_2 t7_3 t_MANY t_MOST_SIDE t_OUT t_TURNED_OVER : Tok}
    {oc_turned kV_turned dc_turned pm_turned cd_turned ct_turned oc_moved kV_moved dc_moved pm_moved cd_moved ct_moved oc_number_in kV_number_in dc_number_in pm_number_in cd_number_in ct_number_in oc_image kV_image dc_image pm_image cd_image ct_image oc_movements kV_movements dc_movements pm_movements cd_movements ct_movements oc___init__ kV___init__ dc___init__ pm___init__ cd___init__ ct___init__ oc_leaves kV_leaves dc_leaves pm_leaves cd_leaves ct_leaves oc_has kV_has dc_has pm_has cd_has ct_has oc_symmetries kV_symmetries dc_symmetries pm_symmetries cd_symmetries ct_symmetries oc_has_way kV_has_way dc_has_way pm_has_way cd_has_way ct_has_way oc_mirror_shift kV_mirror_shift dc_mirror_shift pm_mirror_shift cd_mirror_shift ct_mirror_shift oc_has_mirror kV_has_mirror dc_has_mirror pm_has_mirror cd_has_mirror ct_has_mirror oc_is_on_mirror kV_is_on_mirror dc_is_on_mirror pm_is_on_mirror cd_is_on_mirror ct_is_on_mirror oc_are_on_mirrors kV_are_on_mirrors dc_are_on_mirrors pm_are_on_mirrors cd_are_on_mirrors ct_are_on_mirrors oc_meets_mirror kV_meets_mirror dc_meets_mirror pm_meets_mirror cd_meets_mirror ct_meets_mirror oc_turns_on_mirror kV_turns_on_mirror dc_turns_on_mirror pm_turns_on_mirror cd_turns_on_mirror ct_turns_on_mirror oc_counts_of kV_counts_of dc_counts_of pm_counts_of cd_counts_of ct_counts_of oc_kind_without_turn kV_kind_without_turn dc_kind_without_turn pm_kind_without_turn cd_kind_without_turn ct_kind_without_turn oc_kind_of_half kV_kind_of_half dc_kind_of_half pm_kind_of_half cd_kind_of_half ct_kind_of_half oc_kind_of kV_kind_of dc_kind_of pm_kind_of cd_kind_of ct_kind_of oc_is_side kV_is_side dc_is_side pm_is_side cd_is_side ct_is_side oc_kind kV_kind dc_kind pm_kind cd_kind ct_kind : Value}
    (aPattern : PySem.W.nsIn K mainGlobals "Pattern" = some (some (.ref C)))
    (aWAYS : PySem.W.nsIn K mainGlobals "WAYS" = some (some (.ref W)))
    (lW : K.lookup W = some ⟨.type "tuple", odW, .seq #[.ref w0, .ref w1, .ref w2, .ref w3, .ref w4, .ref w5, .ref w6, .ref w7] nW, slW⟩)
    (lw0 : K.lookup w0 = some ⟨.type "tuple", ow0, .seq #[.int 1 t0_0, .int 0 t0_1, .int 0 t0_2, .int 1 t0_3] nw0, sw0⟩)
    (lw1 : K.lookup w1 = some ⟨.type "tuple", ow1, .seq #[.int 0 t1_0, .int (-1) t1_1, .int 1 t1_2, .int 0 t1_3] nw1, sw1⟩)
    (lw2 : K.lookup w2 = some ⟨.type "tuple", ow2, .seq #[.int (-1) t2_0, .int 0 t2_1, .int 0 t2_2, .int (-1) t2_3] nw2, sw2⟩)
    (lw3 : K.lookup w3 = some ⟨.type "tuple", ow3, .seq #[.int 0 t3_0, .int 1 t3_1, .int (-1) t3_2, .int 0 t3_3] nw3, sw3⟩)
    (lw4 : K.lookup w4 = some ⟨.type "tuple", ow4, .seq #[.int (-1) t4_0, .int 0 t4_1, .int 0 t4_2, .int 1 t4_3] nw4, sw4⟩)
    (lw5 : K.lookup w5 = some ⟨.type "tuple", ow5, .seq #[.int 1 t5_0, .int 0 t5_1, .int 0 t5_2, .int (-1) t5_3] nw5, sw5⟩)
    (lw6 : K.lookup w6 = some ⟨.type "tuple", ow6, .seq #[.int 0 t6_0, .int 1 t6_1, .int 1 t6_2, .int 0 t6_3] nw6, sw6⟩)
    (lw7 : K.lookup w7 = some ⟨.type "tuple", ow7, .seq #[.int 0 t7_0, .int (-1) t7_1, .int (-1) t7_2, .int 0 t7_3] nw7, sw7⟩)
    (a_turned : PySem.W.nsIn K mainGlobals "turned" = some (some (.ref f_turned)))
    (l_turned : K.lookup f_turned = some ⟨oc_turned, od_turned, .func (PySem.W.fnOf "turned" "turned" (defArgs sTurned) (defBody sTurned) (defScope sTurned) .none kV_turned dc_turned pm_turned an_turned cd_turned ct_turned), sl_turned⟩)
    (c_turned : PySem.W.codeIn K cd_turned "turned" = true)
    (k_turned : PySem.W.keepIn K (.ref f_turned) = true)
    (a_moved : PySem.W.nsIn K mainGlobals "moved" = some (some (.ref f_moved)))
    (l_moved : K.lookup f_moved = some ⟨oc_moved, od_moved, .func (PySem.W.fnOf "moved" "moved" (defArgs sMoved) (defBody sMoved) (defScope sMoved) .none kV_moved dc_moved pm_moved an_moved cd_moved ct_moved), sl_moved⟩)
    (c_moved : PySem.W.codeIn K cd_moved "moved" = true)
    (k_moved : PySem.W.keepIn K (.ref f_moved) = true)
    (a_number_in : PySem.W.nsIn K mainGlobals "number_in" = some (some (.ref f_number_in)))
    (l_number_in : K.lookup f_number_in = some ⟨oc_number_in, od_number_in, .func (PySem.W.fnOf "number_in" "number_in" (defArgs sNum) (defBody sNum) (defScope sNum) .none kV_number_in dc_number_in pm_number_in an_number_in cd_number_in ct_number_in), sl_number_in⟩)
    (c_number_in : PySem.W.codeIn K cd_number_in "number_in" = true)
    (k_number_in : PySem.W.keepIn K (.ref f_number_in) = true)
    (a_image : PySem.W.nsIn K mainGlobals "image" = some (some (.ref f_image)))
    (l_image : K.lookup f_image = some ⟨oc_image, od_image, .func (PySem.W.fnOf "image" "image" (defArgs sImage) (defBody sImage) (defScope sImage) .none kV_image dc_image pm_image an_image cd_image ct_image), sl_image⟩)
    (c_image : PySem.W.codeIn K cd_image "image" = true)
    (k_image : PySem.W.keepIn K (.ref f_image) = true)
    (a_movements : PySem.W.nsIn K mainGlobals "movements" = some (some (.ref f_movements)))
    (l_movements : K.lookup f_movements = some ⟨oc_movements, od_movements, .func (PySem.W.fnOf "movements" "movements" (defArgs sMvs) (defBody sMvs) (defScope sMvs) .none kV_movements dc_movements pm_movements an_movements cd_movements ct_movements), sl_movements⟩)
    (c_movements : PySem.W.codeIn K cd_movements "movements" = true)
    (k_movements : PySem.W.keepIn K (.ref f_movements) = true)
    (a___init__ : PySem.W.findIn K (.ref C) "__init__" = some (some (.ref f___init__)))
    (i___init__ : PySem.W.isFn K (.ref f___init__) = true)
    (l___init__ : K.lookup f___init__ = some ⟨oc___init__, od___init__, .func (PySem.W.fnOf "__init__" "Pattern.__init__" (defArgs sInit) (defBody sInit) (defScope sInit) .none kV___init__ dc___init__ pm___init__ an___init__ cd___init__ ct___init__), sl___init__⟩)
    (c___init__ : PySem.W.codeIn K cd___init__ "Pattern.__init__" = true)
    (k___init__ : PySem.W.keepIn K (.ref f___init__) = true)
    (a_leaves : PySem.W.findIn K (.ref C) "leaves" = some (some (.ref f_leaves)))
    (i_leaves : PySem.W.isFn K (.ref f_leaves) = true)
    (l_leaves : K.lookup f_leaves = some ⟨oc_leaves, od_leaves, .func (PySem.W.fnOf "leaves" "Pattern.leaves" (defArgs sLeaves) (defBody sLeaves) (defScope sLeaves) .none kV_leaves dc_leaves pm_leaves an_leaves cd_leaves ct_leaves), sl_leaves⟩)
    (c_leaves : PySem.W.codeIn K cd_leaves "Pattern.leaves" = true)
    (k_leaves : PySem.W.keepIn K (.ref f_leaves) = true)
    (a_has : PySem.W.findIn K (.ref C) "has" = some (some (.ref f_has)))
    (i_has : PySem.W.isFn K (.ref f_has) = true)
    (l_has : K.lookup f_has = some ⟨oc_has, od_has, .func (PySem.W.fnOf "has" "Pattern.has" (defArgs sHas) (defBody sHas) (defScope sHas) .none kV_has dc_has pm_has an_has cd_has ct_has), sl_has⟩)
    (c_has : PySem.W.codeIn K cd_has "Pattern.has" = true)
    (k_has : PySem.W.keepIn K (.ref f_has) = true)
    (a_symmetries : PySem.W.findIn K (.ref C) "symmetries" = some (some (.ref f_symmetries)))
    (i_symmetries : PySem.W.isFn K (.ref f_symmetries) = true)
    (l_symmetries : K.lookup f_symmetries = some ⟨oc_symmetries, od_symmetries, .func (PySem.W.fnOf "symmetries" "Pattern.symmetries" (defArgs sSyms) (defBody sSyms) (defScope sSyms) .none kV_symmetries dc_symmetries pm_symmetries an_symmetries cd_symmetries ct_symmetries), sl_symmetries⟩)
    (c_symmetries : PySem.W.codeIn K cd_symmetries "Pattern.symmetries" = true)
    (k_symmetries : PySem.W.keepIn K (.ref f_symmetries) = true)
    (a_has_way : PySem.W.findIn K (.ref C) "has_way" = some (some (.ref f_has_way)))
    (i_has_way : PySem.W.isFn K (.ref f_has_way) = true)
    (l_has_way : K.lookup f_has_way = some ⟨oc_has_way, od_has_way, .func (PySem.W.fnOf "has_way" "Pattern.has_way" (defArgs sHasWay) (defBody sHasWay) (defScope sHasWay) .none kV_has_way dc_has_way pm_has_way an_has_way cd_has_way ct_has_way), sl_has_way⟩)
    (c_has_way : PySem.W.codeIn K cd_has_way "Pattern.has_way" = true)
    (k_has_way : PySem.W.keepIn K (.ref f_has_way) = true)
    (a_mirror_shift : PySem.W.nsIn K mainGlobals "mirror_shift" = some (some (.ref f_mirror_shift)))
    (l_mirror_shift : K.lookup f_mirror_shift = some ⟨oc_mirror_shift, od_mirror_shift, .func (PySem.W.fnOf "mirror_shift" "mirror_shift" (defArgs sMirrorShift) (defBody sMirrorShift) (defScope sMirrorShift) .none kV_mirror_shift dc_mirror_shift pm_mirror_shift an_mirror_shift cd_mirror_shift ct_mirror_shift), sl_mirror_shift⟩)
    (c_mirror_shift : PySem.W.codeIn K cd_mirror_shift "mirror_shift" = true)
    (k_mirror_shift : PySem.W.keepIn K (.ref f_mirror_shift) = true)
    (a_has_mirror : PySem.W.nsIn K mainGlobals "has_mirror" = some (some (.ref f_has_mirror)))
    (l_has_mirror : K.lookup f_has_mirror = some ⟨oc_has_mirror, od_has_mirror, .func (PySem.W.fnOf "has_mirror" "has_mirror" (defArgs sHasMirror) (defBody sHasMirror) (defScope sHasMirror) .none kV_has_mirror dc_has_mirror pm_has_mirror an_has_mirror cd_has_mirror ct_has_mirror), sl_has_mirror⟩)
    (c_has_mirror : PySem.W.codeIn K cd_has_mirror "has_mirror" = true)
    (k_has_mirror : PySem.W.keepIn K (.ref f_has_mirror) = true)
    (a_is_on_mirror : PySem.W.nsIn K mainGlobals "is_on_mirror" = some (some (.ref f_is_on_mirror)))
    (l_is_on_mirror : K.lookup f_is_on_mirror = some ⟨oc_is_on_mirror, od_is_on_mirror, .func (PySem.W.fnOf "is_on_mirror" "is_on_mirror" (defArgs sOn) (defBody sOn) (defScope sOn) .none kV_is_on_mirror dc_is_on_mirror pm_is_on_mirror an_is_on_mirror cd_is_on_mirror ct_is_on_mirror), sl_is_on_mirror⟩)
    (c_is_on_mirror : PySem.W.codeIn K cd_is_on_mirror "is_on_mirror" = true)
    (k_is_on_mirror : PySem.W.keepIn K (.ref f_is_on_mirror) = true)
    (a_are_on_mirrors : PySem.W.nsIn K mainGlobals "are_on_mirrors" = some (some (.ref f_are_on_mirrors)))
    (l_are_on_mirrors : K.lookup f_are_on_mirrors = some ⟨oc_are_on_mirrors, od_are_on_mirrors, .func (PySem.W.fnOf "are_on_mirrors" "are_on_mirrors" (defArgs sAre) (defBody sAre) (defScope sAre) .none kV_are_on_mirrors dc_are_on_mirrors pm_are_on_mirrors an_are_on_mirrors cd_are_on_mirrors ct_are_on_mirrors), sl_are_on_mirrors⟩)
    (c_are_on_mirrors : PySem.W.codeIn K cd_are_on_mirrors "are_on_mirrors" = true)
    (k_are_on_mirrors : PySem.W.keepIn K (.ref f_are_on_mirrors) = true)
    (a_meets_mirror : PySem.W.nsIn K mainGlobals "meets_mirror" = some (some (.ref f_meets_mirror)))
    (l_meets_mirror : K.lookup f_meets_mirror = some ⟨oc_meets_mirror, od_meets_mirror, .func (PySem.W.fnOf "meets_mirror" "meets_mirror" (defArgs sMeets) (defBody sMeets) (defScope sMeets) .none kV_meets_mirror dc_meets_mirror pm_meets_mirror an_meets_mirror cd_meets_mirror ct_meets_mirror), sl_meets_mirror⟩)
    (c_meets_mirror : PySem.W.codeIn K cd_meets_mirror "meets_mirror" = true)
    (k_meets_mirror : PySem.W.keepIn K (.ref f_meets_mirror) = true)
    (a_turns_on_mirror : PySem.W.nsIn K mainGlobals "turns_on_mirror" = some (some (.ref f_turns_on_mirror)))
    (l_turns_on_mirror : K.lookup f_turns_on_mirror = some ⟨oc_turns_on_mirror, od_turns_on_mirror, .func (PySem.W.fnOf "turns_on_mirror" "turns_on_mirror" (defArgs sTurns) (defBody sTurns) (defScope sTurns) .none kV_turns_on_mirror dc_turns_on_mirror pm_turns_on_mirror an_turns_on_mirror cd_turns_on_mirror ct_turns_on_mirror), sl_turns_on_mirror⟩)
    (c_turns_on_mirror : PySem.W.codeIn K cd_turns_on_mirror "turns_on_mirror" = true)
    (k_turns_on_mirror : PySem.W.keepIn K (.ref f_turns_on_mirror) = true)
    (a_counts_of : PySem.W.nsIn K mainGlobals "counts_of" = some (some (.ref f_counts_of)))
    (l_counts_of : K.lookup f_counts_of = some ⟨oc_counts_of, od_counts_of, .func (PySem.W.fnOf "counts_of" "counts_of" (defArgs sCounts) (defBody sCounts) (defScope sCounts) .none kV_counts_of dc_counts_of pm_counts_of an_counts_of cd_counts_of ct_counts_of), sl_counts_of⟩)
    (c_counts_of : PySem.W.codeIn K cd_counts_of "counts_of" = true)
    (k_counts_of : PySem.W.keepIn K (.ref f_counts_of) = true)
    (a_kind_without_turn : PySem.W.nsIn K mainGlobals "kind_without_turn" = some (some (.ref f_kind_without_turn)))
    (l_kind_without_turn : K.lookup f_kind_without_turn = some ⟨oc_kind_without_turn, od_kind_without_turn, .func (PySem.W.fnOf "kind_without_turn" "kind_without_turn" (defArgs sKwt) (defBody sKwt) (defScope sKwt) .none kV_kind_without_turn dc_kind_without_turn pm_kind_without_turn an_kind_without_turn cd_kind_without_turn ct_kind_without_turn), sl_kind_without_turn⟩)
    (c_kind_without_turn : PySem.W.codeIn K cd_kind_without_turn "kind_without_turn" = true)
    (k_kind_without_turn : PySem.W.keepIn K (.ref f_kind_without_turn) = true)
    (a_kind_of_half : PySem.W.nsIn K mainGlobals "kind_of_half" = some (some (.ref f_kind_of_half)))
    (l_kind_of_half : K.lookup f_kind_of_half = some ⟨oc_kind_of_half, od_kind_of_half, .func (PySem.W.fnOf "kind_of_half" "kind_of_half" (defArgs sKh) (defBody sKh) (defScope sKh) .none kV_kind_of_half dc_kind_of_half pm_kind_of_half an_kind_of_half cd_kind_of_half ct_kind_of_half), sl_kind_of_half⟩)
    (c_kind_of_half : PySem.W.codeIn K cd_kind_of_half "kind_of_half" = true)
    (k_kind_of_half : PySem.W.keepIn K (.ref f_kind_of_half) = true)
    (a_kind_of : PySem.W.nsIn K mainGlobals "kind_of" = some (some (.ref f_kind_of)))
    (l_kind_of : K.lookup f_kind_of = some ⟨oc_kind_of, od_kind_of, .func (PySem.W.fnOf "kind_of" "kind_of" (defArgs sKindOf) (defBody sKindOf) (defScope sKindOf) .none kV_kind_of dc_kind_of pm_kind_of an_kind_of cd_kind_of ct_kind_of), sl_kind_of⟩)
    (c_kind_of : PySem.W.codeIn K cd_kind_of "kind_of" = true)
    (k_kind_of : PySem.W.keepIn K (.ref f_kind_of) = true)
    (a_is_side : PySem.W.nsIn K mainGlobals "is_side" = some (some (.ref f_is_side)))
    (l_is_side : K.lookup f_is_side = some ⟨oc_is_side, od_is_side, .func (PySem.W.fnOf "is_side" "is_side" (defArgs sIsSide) (defBody sIsSide) (defScope sIsSide) .none kV_is_side dc_is_side pm_is_side an_is_side cd_is_side ct_is_side), sl_is_side⟩)
    (c_is_side : PySem.W.codeIn K cd_is_side "is_side" = true)
    (k_is_side : PySem.W.keepIn K (.ref f_is_side) = true)
    (a_kind : PySem.W.nsIn K mainGlobals "kind" = some (some (.ref f_kind)))
    (l_kind : K.lookup f_kind = some ⟨oc_kind, od_kind, .func (PySem.W.fnOf "kind" "kind" (defArgs sKind) (defBody sKind) (defScope sKind) .none kV_kind dc_kind pm_kind an_kind cd_kind ct_kind), sl_kind⟩)
    (c_kind : PySem.W.codeIn K cd_kind "kind" = true)
    (k_kind : PySem.W.keepIn K (.ref f_kind) = true)
    (pg : PySem.W.plainGet K C Str.empty = true)
    (hd : PySem.W.hasDictIn K C = true)
    (po : PySem.W.plainOver K C = true)
    (sa : PySem.W.findIn K (.ref C) "__setattr__" = some (some (.builtin "object.__setattr__")))
    (mk : PySem.W.makesIn K C = true)
    (kc : PySem.W.keepIn K (.ref C) = true)
    (nN : PySem.W.findIn K (.ref C) "n" = some none)
    (nC : PySem.W.findIn K (.ref C) "colours" = some none)
    (nK : PySem.W.findIn K (.ref C) "known" = some none)
    (n_range : PySem.W.nsIn K mainGlobals "range" = some none)
    (n_enumerate : PySem.W.nsIn K mainGlobals "enumerate" = some none)
    (n_list : PySem.W.nsIn K mainGlobals "list" = some none)
    (n_len : PySem.W.nsIn K mainGlobals "len" = some none)
    (n_int : PySem.W.nsIn K mainGlobals "int" = some none)
    (n_max : PySem.W.nsIn K mainGlobals "max" = some none)
    (v_MANY : PySem.W.nsIn K mainGlobals "MANY" = some (some (.int 8 t_MANY)))
    (v_MOST_SIDE : PySem.W.nsIn K mainGlobals "MOST_SIDE" = some (some (.int 64 t_MOST_SIDE)))
    (v_OUT : PySem.W.nsIn K mainGlobals "OUT" = some (some (.int (-2) t_OUT)))
    (v_TURNED_OVER : PySem.W.nsIn K mainGlobals "TURNED_OVER" = some (some (.int 4 t_TURNED_OVER)))
    (aAL : PySem.W.nsIn K mainGlobals "ALONG_LINE" = some (some (.ref AL)))
    (aMI : PySem.W.nsIn K mainGlobals "MIRRORED" = some (some (.ref MI)))
    (lAL : K.lookup AL = some ⟨.type "tuple", odAL, .seq #[.ref a0, .ref a1, .ref a2, .ref a3] nAL, slAL⟩)
    (lMI : K.lookup MI = some ⟨.type "tuple", odMI, .seq #[.int 4 m0, .int 5 m1, .int 6 m2, .int 7 m3] nMI, slMI⟩)
    (la0 : K.lookup a0 = some ⟨.type "tuple", oa0, .seq #[.int 1 u0_0, .int 0 u0_1] na0, sa0⟩)
    (la1 : K.lookup a1 = some ⟨.type "tuple", oa1, .seq #[.int 0 u1_0, .int 1 u1_1] na1, sa1⟩)
    (la2 : K.lookup a2 = some ⟨.type "tuple", oa2, .seq #[.int 1 u2_0, .int (-1) u2_1] na2, sa2⟩)
    (la3 : K.lookup a3 = some ⟨.type "tuple", oa3, .seq #[.int 1 u3_0, .int 1 u3_1] na3, sa3⟩)
    : ∃ fd : FuncData, (∀ (s : Shared) (us : List Value), us.length = (["n", "p"] : List Str).length → BindsTo s fd ⟨us, []⟩ ((["n", "p"] : List Str).zip us)) ∧ ∀ base : Heap, K.In base → base.Ns mainGlobals mg → FnOk P w K mg base CX0 7 fa fd ["n", "p"] (spKind K) := by
  have e := hfa.symm.trans (PySem.W.mg_of X G a_kind)
  cases e
  have g_Pattern := PySem.W.mg_of X G aPattern
  have g_WAYS := PySem.W.mg_of X G aWAYS
  have F_turned := fun_mk (st := sTurned) l_turned c_turned k_turned
  have g_turned := PySem.W.mg_of X G a_turned
  have b_turned := F_turned.binds (ps := ["way", "x", "y"]) fun _ _ _ _ _ _ us hl => match us, hl with | [_, _, _], _ => rfl
  have F_moved := fun_mk (st := sMoved) l_moved c_moved k_moved
  have g_moved := PySem.W.mg_of X G a_moved
  have b_moved := F_moved.binds (ps := ["movement", "x", "y"]) fun _ _ _ _ _ _ us hl => match us, hl with | [_, _, _], _ => rfl
  have F_number_in := fun_mk (st := sNum) l_number_in c_number_in k_number_in
  have g_number_in := PySem.W.mg_of X G a_number_in
  have b_number_in := F_number_in.binds (ps := ["n", "x", "y"]) fun _ _ _ _ _ _ us hl => match us, hl with | [_, _, _], _ => rfl
  have F_image := fun_mk (st := sImage) l_image c_image k_image
  have g_image := PySem.W.mg_of X G a_image
  have b_image := F_image.binds (ps := ["n", "movement"]) fun _ _ _ _ _ _ us hl => match us, hl with | [_, _], _ => rfl
  have F_movements := fun_mk (st := sMvs) l_movements c_movements k_movements
  have g_movements := PySem.W.mg_of X G a_movements
  have b_movements := F_movements.binds (ps := ["n", "ways"]) fun _ _ _ _ _ _ us hl => match us, hl with | [_, _], _ => rfl
  have F___init__ := fun_mk (st := sInit) l___init__ c___init__ k___init__
  have M___init__ : Meth K C "__init__" f___init__ := ⟨a___init__, i___init__, k___init__⟩
  have b___init__ := F___init__.binds (ps := ["self", "n", "colours"]) fun _ _ _ _ _ _ us hl => match us, hl with | [_, _, _], _ => rfl
  have F_leaves := fun_mk (st := sLeaves) l_leaves c_leaves k_leaves
  have M_leaves : Meth K C "leaves" f_leaves := ⟨a_leaves, i_leaves, k_leaves⟩
  have b_leaves := F_leaves.binds (ps := ["self", "movement"]) fun _ _ _ _ _ _ us hl => match us, hl with | [_, _], _ => rfl
  have F_has := fun_mk (st := sHas) l_has c_has k_has
  have M_has : Meth K C "has" f_has := ⟨a_has, i_has, k_has⟩
  have b_has := F_has.binds (ps := ["self", "way", "a", "b"]) fun _ _ _ _ _ _ us hl => match us, hl with | [_, _, _, _], _ => rfl
  have F_symmetries := fun_mk (st := sSyms) l_symmetries c_symmetries k_symmetries
  have M_symmetries : Meth K C "symmetries" f_symmetries := ⟨a_symmetries, i_symmetries, k_symmetries⟩
  have b_symmetries := F_symmetries.binds (ps := ["self"]) fun _ _ _ _ _ _ us hl => match us, hl with | [_], _ => rfl
  have F_has_way := fun_mk (st := sHasWay) l_has_way c_has_way k_has_way
  have M_has_way : Meth K C "has_way" f_has_way := ⟨a_has_way, i_has_way, k_has_way⟩
  have b_has_way := F_has_way.binds (ps := ["self", "way"]) fun _ _ _ _ _ _ us hl => match us, hl with | [_, _], _ => rfl
  have F_mirror_shift := fun_mk (st := sMirrorShift) l_mirror_shift c_mirror_shift k_mirror_shift
  have g_mirror_shift := PySem.W.mg_of X G a_mirror_shift
  have b_mirror_shift := F_mirror_shift.binds (ps := ["way", "by"]) fun _ _ _ _ _ _ us hl => match us, hl with | [_, _], _ => rfl
  have F_has_mirror := fun_mk (st := sHasMirror) l_has_mirror c_has_mirror k_has_mirror
  have g_has_mirror := PySem.W.mg_of X G a_has_mirror
  have b_has_mirror := F_has_mirror.binds (ps := ["pattern", "way"]) fun _ _ _ _ _ _ us hl => match us, hl with | [_, _], _ => rfl
  have F_is_on_mirror := fun_mk (st := sOn) l_is_on_mirror c_is_on_mirror k_is_on_mirror
  have g_is_on_mirror := PySem.W.mg_of X G a_is_on_mirror
  have b_is_on_mirror := F_is_on_mirror.binds (ps := ["pattern", "way", "a", "b"]) fun _ _ _ _ _ _ us hl => match us, hl with | [_, _, _, _], _ => rfl
  have F_are_on_mirrors := fun_mk (st := sAre) l_are_on_mirrors c_are_on_mirrors k_are_on_mirrors
  have g_are_on_mirrors := PySem.W.mg_of X G a_are_on_mirrors
  have b_are_on_mirrors := F_are_on_mirrors.binds (ps := ["pattern"]) fun _ _ _ _ _ _ us hl => match us, hl with | [_], _ => rfl
  have F_meets_mirror := fun_mk (st := sMeets) l_meets_mirror c_meets_mirror k_meets_mirror
  have g_meets_mirror := PySem.W.mg_of X G a_meets_mirror
  have b_meets_mirror := F_meets_mirror.binds (ps := ["pattern", "a", "b"]) fun _ _ _ _ _ _ us hl => match us, hl with | [_, _, _], _ => rfl
  have F_turns_on_mirror := fun_mk (st := sTurns) l_turns_on_mirror c_turns_on_mirror k_turns_on_mirror
  have g_turns_on_mirror := PySem.W.mg_of X G a_turns_on_mirror
  have b_turns_on_mirror := F_turns_on_mirror.binds (ps := ["pattern"]) fun _ _ _ _ _ _ us hl => match us, hl with | [_], _ => rfl
  have F_counts_of := fun_mk (st := sCounts) l_counts_of c_counts_of k_counts_of
  have g_counts_of := PySem.W.mg_of X G a_counts_of
  have b_counts_of := F_counts_of.binds (ps := ["pattern"]) fun _ _ _ _ _ _ us hl => match us, hl with | [_], _ => rfl
  have F_kind_without_turn := fun_mk (st := sKwt) l_kind_without_turn c_kind_without_turn k_kind_without_turn
  have g_kind_without_turn := PySem.W.mg_of X G a_kind_without_turn
  have b_kind_without_turn := F_kind_without_turn.binds (ps := ["pattern", "mirrors"]) fun _ _ _ _ _ _ us hl => match us, hl with | [_, _], _ => rfl
  have F_kind_of_half := fun_mk (st := sKh) l_kind_of_half c_kind_of_half k_kind_of_half
  have g_kind_of_half := PySem.W.mg_of X G a_kind_of_half
  have b_kind_of_half := F_kind_of_half.binds (ps := ["pattern", "mirrors"]) fun _ _ _ _ _ _ us hl => match us, hl with | [_, _], _ => rfl
  have F_kind_of := fun_mk (st := sKindOf) l_kind_of c_kind_of k_kind_of
  have g_kind_of := PySem.W.mg_of X G a_kind_of
  have b_kind_of := F_kind_of.binds (ps := ["pattern"]) fun _ _ _ _ _ _ us hl => match us, hl with | [_], _ => rfl
  have F_is_side := fun_mk (st := sIsSide) l_is_side c_is_side k_is_side
  have g_is_side := PySem.W.mg_of X G a_is_side
  have b_is_side := F_is_side.binds (ps := ["n"]) fun _ _ _ _ _ _ us hl => match us, hl with | [_], _ => rfl
  have F_kind := fun_mk (st := sKind) l_kind c_kind k_kind
  have g_kind := PySem.W.mg_of X G a_kind
  have b_kind := F_kind.binds (ps := ["n", "p"]) fun _ _ _ _ _ _ us hl => match us, hl with | [_, _], _ => rfl
  have z_range := PySem.W.mg_none_of X G n_range
  have z_enumerate := PySem.W.mg_none_of X G n_enumerate
  have z_list := PySem.W.mg_none_of X G n_list
  have z_len := PySem.W.mg_none_of X G n_len
  have z_int := PySem.W.mg_none_of X G n_int
  have z_max := PySem.W.mg_none_of X G n_max
  have g_MANY := PySem.W.mg_of X G v_MANY
  have g_MOST_SIDE := PySem.W.mg_of X G v_MOST_SIDE
  have g_OUT := PySem.W.mg_of X G v_OUT
  have g_TURNED_OVER := PySem.W.mg_of X G v_TURNED_OVER
  have g_AL := PySem.W.mg_of X G aAL
  have g_MI := PySem.W.mg_of X G aMI
  refine ⟨PySem.W.fnOf "kind" "kind" (defArgs sKind) (defBody sKind) (defScope sKind) .none kV_kind dc_kind pm_kind an_kind cd_kind ct_kind, fun s us hu => match us, hu with | [_, _], _ => .of_eq rfl, fun base _ _ => ?_⟩
  let ws : List Addr := [w0, w1, w2, w3, w4, w5, w6, w7]
  have TW : TxW K mg W (fun i => ws.getD i 0) := ⟨g_WAYS, ways_at lW, ways_in lw0 lw1 lw2 lw3 lw4 lw5 lw6 lw7, z_range⟩
  have Gturned : FnOk P w K mg base CX0 1 f_turned _ ["way", "x", "y"] spTurned := ok_turned F_turned TW
  have Gmoved : FnOk P w K mg base CX0 2 f_moved _ ["movement", "x", "y"] (spMoved K) := ok_moved F_moved Gturned g_turned F_turned.kp b_turned
  have Gnum : FnOk P w K mg base CX0 1 f_number_in _ ["n", "x", "y"] spNum := ok_num F_number_in
  have Gimage : FnOk P w K mg base CX0 3 f_image _ ["n", "movement"] (spImage K) := ok_image F_image TW Gmoved g_moved F_moved.kp b_moved Gnum g_number_in F_number_in.kp b_number_in
  have Gmvs : FnOk P w K mg base CX0 1 f_movements _ ["n", "ways"] (spMvs K) := ok_mvs F_movements TW
  have T : TxC K mg C := ⟨⟨pg, hd, po, sa⟩, nN, nC, nK, g_Pattern, z_enumerate, z_list, ⟨_, g_MANY⟩⟩
  have Gleaves : FnOk P w K mg base CX0 4 f_leaves _ ["self", "movement"] (spLeaves K C) := ok_leaves F_leaves T Gimage g_image F_image.kp b_image
  have Ghas : FnOk P w K mg base CX0 1 f_has _ ["self", "way", "a", "b"] (spHas K C) := ok_has F_has T
  have Gsyms : FnOk P w K mg base CX0 1 f_symmetries _ ["self"] (spSyms K C) := ok_syms F_symmetries T
  have Ginit : FnOk P w K mg base CX0 5 f___init__ _ ["self", "n", "colours"] (spInit K C) := ok_init F___init__ T TW Gmvs g_movements F_movements.kp b_movements Gleaves M_leaves b_leaves
  have Mk0 : Mk K C f___init__ := ⟨mk, a___init__, i___init__, kc⟩
  have TK : TxK K mg AL MI (fun i => ([a0, a1, a2, a3] : List Addr).getD i 0) := ⟨g_AL, along_at lAL, along_in (vals2 la0) (vals2 la1) (vals2 la2) (vals2 la3), g_MI, vals4 lMI, ⟨_, g_TURNED_OVER⟩, z_int, z_max, z_len⟩
  have Ghw : FnOk P w K mg base CX0 2 f_has_way _ ["self", "way"] (spHasWay K C) := ok_hasWay F_has_way T Gsyms M_symmetries b_symmetries
  have Gms : FnOk P w K mg base CX0 1 f_mirror_shift _ ["way", "by"] spMirrorShift := ok_mirrorShift F_mirror_shift TK
  have Ghm : FnOk P w K mg base CX0 2 f_has_mirror _ ["pattern", "way"] (spHasMirror K C) := ok_hasMirror F_has_mirror TW T Ghas M_has b_has Gms g_mirror_shift F_mirror_shift.kp b_mirror_shift
  have Gon : FnOk P w K mg base CX0 2 f_is_on_mirror _ ["pattern", "way", "a", "b"] (spOn K C) := ok_on F_is_on_mirror T Ghas M_has b_has Gturned g_turned F_turned.kp b_turned
  have Gare : FnOk P w K mg base CX0 3 f_are_on_mirrors _ ["pattern"] (spAre K C) := ok_are F_are_on_mirrors TW T TK Ghas M_has b_has Gon g_is_on_mirror F_is_on_mirror.kp b_is_on_mirror
  have Gme : FnOk P w K mg base CX0 2 f_meets_mirror _ ["pattern", "a", "b"] (spMeets K C) := ok_meets F_meets_mirror T Ghas M_has b_has
  have Gtu : FnOk P w K mg base CX0 3 f_turns_on_mirror _ ["pattern"] (spTurns K C) := ok_turns F_turns_on_mirror TW T Ghas M_has b_has Gme g_meets_mirror F_meets_mirror.kp b_meets_mirror
  have Gco : FnOk P w K mg base CX0 3 f_counts_of _ ["pattern"] (spCounts K C) := ok_counts F_counts_of TW T TK Ghw M_has_way b_has_way Ghm g_has_mirror F_has_mirror.kp b_has_mirror
  have Gkw : FnOk P w K mg base CX0 4 f_kind_without_turn _ ["pattern", "mirrors"] (spKwt K C) := ok_kwt F_kind_without_turn Gare g_are_on_mirrors F_are_on_mirrors.kp b_are_on_mirrors
  have Gkh : FnOk P w K mg base CX0 4 f_kind_of_half _ ["pattern", "mirrors"] (spKh K C) := ok_kh F_kind_of_half Gare g_are_on_mirrors F_are_on_mirrors.kp b_are_on_mirrors
  have Gko : FnOk P w K mg base CX0 5 f_kind_of _ ["pattern"] (spKindOf K C) := ok_kindOf F_kind_of TK Gco g_counts_of F_counts_of.kp b_counts_of Gtu g_turns_on_mirror F_turns_on_mirror.kp b_turns_on_mirror Gkh g_kind_of_half F_kind_of_half.kp b_kind_of_half Gkw g_kind_without_turn F_kind_without_turn.kp b_kind_without_turn
  have Gside : FnOk P w K mg base CX0 1 f_is_side _ ["n"] spSide := ok_side F_is_side ⟨_, g_MOST_SIDE⟩
  exact ok_kind F_kind T ⟨_, g_OUT⟩ Gside g_is_side F_is_side.kp b_is_side Mk0 Ginit b___init__ Gko g_kind_of F_kind_of.kp b_kind_of
end Pl
open PySem PySem.W PyProof.Rows
set_option maxRecDepth 100000 in
set_option maxHeartbeats 8000000 in
theorem PySem.Challenge.cw_planerepeats_s02_kind_holds : PySem.Challenge.rw_planerepeats_s02_kind.Holds := by
  w_on; k_headS; (case hw => exact ⟨[.int 0, .list []], by decide +kernel, by decide +kernel⟩)
  k_fillS
  refine L2.walk_specK (r := PySem.Challenge.rw_planerepeats_s02_kind) (k := 7) (CX := L2.CX0) (ps := ["n", "p"]) (sp := Pl.spKind) (by decide +kernel) rfl rfl ⟨rfl, by decide, by decide⟩ (fun w h Y => PySem.W.kIn_of Y) ?F ?S (fun _ _ _ _ z => z)
  case F =>
    intro w mg fa h Y KX G hmg
    refine' Pl.all_mk KX G hmg ?aPattern ?aWAYS ?lW ?lw0 ?lw1 ?lw2 ?lw3 ?lw4 ?lw5 ?lw6 ?lw7 ?a_turned ?l_turned ?c_turned ?k_turned ?a_moved ?l_moved ?c_moved ?k_moved ?a_number_in ?l_number_in ?c_number_in ?k_number_in ?a_image ?l_image ?c_image ?k_image ?a_movements ?l_movements ?c_movements ?k_movements ?a___init__ ?i___init__ ?l___init__ ?c___init__ ?k___init__ ?a_leaves ?i_leaves ?l_leaves ?c_leaves ?k_leaves ?a_has ?i_has ?l_has ?c_has ?k_has ?a_symmetries ?i_symmetries ?l_symmetries ?c_symmetries ?k_symmetries ?a_has_way ?i_has_way ?l_has_way ?c_has_way ?k_has_way ?a_mirror_shift ?l_mirror_shift ?c_mirror_shift ?k_mirror_shift ?a_has_mirror ?l_has_mirror ?c_has_mirror ?k_has_mirror ?a_is_on_mirror ?l_is_on_mirror ?c_is_on_mirror ?k_is_on_mirror ?a_are_on_mirrors ?l_are_on_mirrors ?c_are_on_mirrors ?k_are_on_mirrors ?a_meets_mirror ?l_meets_mirror ?c_meets_mirror ?k_meets_mirror ?a_turns_on_mirror ?l_turns_on_mirror ?c_turns_on_mirror ?k_turns_on_mirror ?a_counts_of ?l_counts_of ?c_counts_of ?k_counts_of ?a_kind_without_turn ?l_kind_without_turn ?c_kind_without_turn ?k_kind_without_turn ?a_kind_of_half ?l_kind_of_half ?c_kind_of_half ?k_kind_of_half ?a_kind_of ?l_kind_of ?c_kind_of ?k_kind_of ?a_is_side ?l_is_side ?c_is_side ?k_is_side ?a_kind ?l_kind ?c_kind ?k_kind ?pg ?hd ?po ?sa ?mk ?kc ?nN ?nC ?nK ?n_range ?n_enumerate ?n_list ?n_len ?n_int ?n_max ?v_MANY ?v_MOST_SIDE ?v_OUT ?v_TURNED_OVER ?aAL ?aMI ?lAL ?lMI ?la0 ?la1 ?la2 ?la3
    (case aPattern => k_is)
    (case aWAYS => k_is)
    (case lW => k_is)
    (case lw0 => k_is)
    (case lw1 => k_is)
    (case lw2 => k_is)
    (case lw3 => k_is)
    (case lw4 => k_is)
    (case lw5 => k_is)
    (case lw6 => k_is)
    (case lw7 => k_is)
    (case a_turned => k_is)
    (case l_turned => k_is)
    (case c_turned => k_is)
    (case k_turned => k_is)
    (case a_moved => k_is)
    (case l_moved => k_is)
    (case c_moved => k_is)
    (case k_moved => k_is)
    (case a_number_in => k_is)
    (case l_number_in => k_is)
    (case c_number_in => k_is)
    (case k_number_in => k_is)
    (case a_image => k_is)
    (case l_image => k_is)
    (case c_image => k_is)
    (case k_image => k_is)
    (case a_movements => k_is)
    (case l_movements => k_is)
    (case c_movements => k_is)
    (case k_movements => k_is)
    (case a___init__ => k_is)
    (case i___init__ => k_is)
    (case l___init__ => k_is)
    (case c___init__ => k_is)
    (case k___init__ => k_is)
    (case a_leaves => k_is)
    (case i_leaves => k_is)
    (case l_leaves => k_is)
    (case c_leaves => k_is)
    (case k_leaves => k_is)
    (case a_has => k_is)
    (case i_has => k_is)
    (case l_has => k_is)
    (case c_has => k_is)
    (case k_has => k_is)
    (case a_symmetries => k_is)
    (case i_symmetries => k_is)
    (case l_symmetries => k_is)
    (case c_symmetries => k_is)
    (case k_symmetries => k_is)
    (case a_has_way => k_is)
    (case i_has_way => k_is)
    (case l_has_way => k_is)
    (case c_has_way => k_is)
    (case k_has_way => k_is)
    (case a_mirror_shift => k_is)
    (case l_mirror_shift => k_is)
    (case c_mirror_shift => k_is)
    (case k_mirror_shift => k_is)
    (case a_has_mirror => k_is)
    (case l_has_mirror => k_is)
    (case c_has_mirror => k_is)
    (case k_has_mirror => k_is)
    (case a_is_on_mirror => k_is)
    (case l_is_on_mirror => k_is)
    (case c_is_on_mirror => k_is)
    (case k_is_on_mirror => k_is)
    (case a_are_on_mirrors => k_is)
    (case l_are_on_mirrors => k_is)
    (case c_are_on_mirrors => k_is)
    (case k_are_on_mirrors => k_is)
    (case a_meets_mirror => k_is)
    (case l_meets_mirror => k_is)
    (case c_meets_mirror => k_is)
    (case k_meets_mirror => k_is)
    (case a_turns_on_mirror => k_is)
    (case l_turns_on_mirror => k_is)
    (case c_turns_on_mirror => k_is)
    (case k_turns_on_mirror => k_is)
    (case a_counts_of => k_is)
    (case l_counts_of => k_is)
    (case c_counts_of => k_is)
    (case k_counts_of => k_is)
    (case a_kind_without_turn => k_is)
    (case l_kind_without_turn => k_is)
    (case c_kind_without_turn => k_is)
    (case k_kind_without_turn => k_is)
    (case a_kind_of_half => k_is)
    (case l_kind_of_half => k_is)
    (case c_kind_of_half => k_is)
    (case k_kind_of_half => k_is)
    (case a_kind_of => k_is)
    (case l_kind_of => k_is)
    (case c_kind_of => k_is)
    (case k_kind_of => k_is)
    (case a_is_side => k_is)
    (case l_is_side => k_is)
    (case c_is_side => k_is)
    (case k_is_side => k_is)
    (case a_kind => k_is)
    (case l_kind => k_is)
    (case c_kind => k_is)
    (case k_kind => k_is)
    (case pg => k_is)
    (case hd => k_is)
    (case po => k_is)
    (case sa => k_is)
    (case mk => k_is)
    (case kc => k_is)
    (case nN => k_is)
    (case nC => k_is)
    (case nK => k_is)
    (case n_range => k_is)
    (case n_enumerate => k_is)
    (case n_list => k_is)
    (case n_len => k_is)
    (case n_int => k_is)
    (case n_max => k_is)
    (case v_MANY => k_is)
    (case v_MOST_SIDE => k_is)
    (case v_OUT => k_is)
    (case v_TURNED_OVER => k_is)
    (case aAL => k_is)
    (case aMI => k_is)
    (case lAL => k_is)
    (case lMI => k_is)
    (case la0 => k_is)
    (case la1 => k_is)
    (case la2 => k_is)
    (case la3 => k_is)
  case S =>
    intro K H xs a hO hwi hask hx
    obtain ⟨z, cs, u⟩ := a
    cases hx with
    | cons h1 h2 =>
      cases h2 with
      | cons h2 h3 =>
        cases h3
        cases h1
        cases h2 with
        | lst hs ha =>
          have e := L2.ints_dw cs _ ha
          subst e
          exact ⟨z, _, cs, rfl, hs, hask, fun H' p hp => .lst (L2.SqL.of hp) (L2.dw_ints _)⟩
#print axioms PySem.Challenge.cw_planerepeats_s02_kind_holds
