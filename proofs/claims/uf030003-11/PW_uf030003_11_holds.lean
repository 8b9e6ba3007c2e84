import PyProof.Rows.All
import OpenK.AllK
import Wide.All
import PyProof.Rows.SortLt
import PyProof.Rows.SortIns
import PyProof.Rows.Walk
import PyProof.Rows.SortRuns
import PyProof.Rows.SortShell
import PyProof.StationsW
import PyProof.Rows.Many
import PyProof.Rows.Tup
import PyProof.Walks
import PyProof.Cells
import PyProof.Rows.Nodes
import PyProof.Rows.Chain
import PyProof.Rows.TupSub
import PyProof.Rules3
import PyProof.ExcClass
import PyProof.Raises
import PyProof.Rows.TupAssign
import PyProof.WalksMore
import PyProof.StrWalks
import PyProof.Rows.Globals
import PyProof.Rows.Method
import PyProof.Rows.Exc
import PyProof.CompFree
import PyProof.IsiNone
import PyProof.Conv_int_bool
import PyProof.TupleOfSeq
import PyProof.WalkInts
import PyProof.ConsumeWalk
import PyProof.LetGo
import KE.KRevIter
import KE.KRevSl
import PyProof.DictTruth
import PyProof.Rows.TupMore
import PyProof.Rows.SortWalk
import KE.KDictSum
import PyProof.EnumMake
import PyProof.DictDisplay
import Wide.FinOn
import PySem.Challenge.RW_uf030003_11
set_option Elab.async false
set_option linter.all false
namespace Mine
theorem z0 {a b : Nat} (h0 : a < b) : ((a + 0) < b) := by omega
theorem z1 {a b c : Nat} (h0 : ((max 0 a) + 1) ≤ b) : ((a - c) ≤ b) := by simp; lia
theorem z2 {a b c : Nat} (h0 : ¬ (a ≥ (b - c))) : ((c + a) < b) := by omega
theorem z3 {a : Nat} : (a < ((2 * a) + 1)) := by lia
theorem z4 {a b : Nat} (h0 : (a + 1) ≤ b) : (((a + 1) + 1) ≤ ((2 * b) + 1)) := by lia
theorem z5 {a : Nat} : (0 ≤ a) := Nat.zero_le a
theorem z6 {a b c : Nat} (h0 : a < b) (h1 : ((max 0 b) + 1) ≤ c) : ((a + 1) ≤ c) := by lia
theorem z7 {a b c : Nat} (h0 : a < (min b c)) : (a < b) := by grind
theorem z8 {a b c : Nat} (h0 : a < (min b c)) : (a < c) := by grind
theorem z9 {a b : Nat} : (a ≤ (a + b)) := Nat.le_add_right a b
theorem z10 {a b : Nat} : (((a + b) - a) = b) := Nat.add_sub_self_left a b
theorem z11 {a b c : Int} (h0 : a < b) (h1 : b ≤ c) : (a ≤ c) := by lia
theorem z12 {a b c d : Nat} (h0 : ((a + 1) + b) ≤ (c + d)) : ((a + 2) ≤ (c + (d + 1))) := by lia
theorem z13 {a b c : Int} (h0 : ¬ (a < b)) (h1 : a ≤ c) : (b ≤ c) := by lia
theorem z14 {a b c d : Nat} (h0 : ((a + 1) + b) ≤ (c + d)) : ((a + 2) ≤ ((c + 1) + d)) := by lia
theorem z15 {a b c d : Nat} (h0 : ((a + 1) + b) ≤ (c + d)) : (((a + 1) + (b + 1)) ≤ ((c + 1) + d)) := by lia
theorem z16 {a b c : Nat} (h0 : (a + 2) ≤ (b + c)) : (((a + 1) + 1) ≤ (b + c)) := by omega
theorem z17 {a b : Nat} (h0 : (a + 1) < b) : (0 < (b - a)) := by grind
theorem z18 {a b c : Nat} (h0 : (a + 2) ≤ (b + c)) : ((a + 2) ≤ ((b + 1) + c)) := by lia
theorem z19 {a b c d : Nat} (h0 : (a + 2) ≤ (b + c)) : ((a + 2) ≤ (b + (c + d))) := by lia
theorem z20 {a b c d : Nat} (h0 : (a + 2) ≤ (b + c)) : ((a + 2) ≤ ((b + d) + c)) := by lia
theorem z21 {a b c : Nat} (h0 : (a + 2) ≤ (b + c)) : ((a + 2) ≤ (b + c)) := by omega
theorem z22 {a b : Nat} (h0 : a = b) : ((min (b - 1) a) = (b - 1)) := by lia
theorem z23 {a b c : Int} (h0 : a < b) (h1 : c ≤ a) : (c ≤ b) := by lia
theorem z24 {a b : Nat} (h0 : a ≤ b) : ((a - 1) ≤ b) := by simp; lia
theorem z25 {a b c d e f : Nat} (h0 : (((a + b) + ((c + 1) + d)) ≤ (e + f))) (h1 : ¬ ((a - 1) = 0)) : ((((a - 1) + b) + (c + 2)) ≤ (e + f)) := by lia
theorem z26 {a b c d e f : Nat} (h0 : (((a + b) + ((c + 1) + d)) ≤ (e + f))) (h1 : ¬ ((a - 1) = 0)) : ((((a - 1) + b) + ((c + 1) + (d + 1))) ≤ (e + f)) := by lia
theorem z27 {a b c : Int} (h0 : ¬ (a < b)) (h1 : c ≤ b) : (c ≤ a) := by lia
theorem z28 {a : Nat} (h0 : 2 ≤ a) (h1 : ¬ ((a - 1) = 1)) : (2 ≤ (a - 1)) := by lia
theorem z29 {a b c d e f : Nat} (h0 : 2 ≤ a) (h1 : (((b + a) + ((c + 1) + d)) ≤ (e + f))) : (((b + (a - 1)) + (c + 2)) ≤ (e + f)) := by lia
theorem z30 {a b c d e f : Nat} (h0 : 2 ≤ a) (h1 : (((b + a) + ((c + 1) + d)) ≤ (e + f))) : (((b + (a - 1)) + ((c + 1) + (d + 1))) ≤ (e + f)) := by lia
theorem z31 {a b c d e : Nat} (h0 : ((a + b) + (c + 2)) ≤ (d + e)) : (((a + b) + ((c + 1) + 1)) ≤ (d + e)) := by omega
theorem z32 {a b c : Nat} (h0 : a = b) (h1 : c ≤ b) : ((min c a) = c) := by lia
theorem z33 {a b c d e : Nat} (h0 : ((a + b) + (c + 2)) ≤ (d + e)) (h1 : 2 ≤ (b - 1)) : ((((a + (b - 1)) + c) + 3) ≤ (d + e)) := by lia
theorem z34 {a b c d e : Nat} (h0 : ((a + b) + (c + 3)) ≤ (d + e)) : ((((a - 1) + b) + (c + 2)) ≤ (d + e)) := by lia
theorem z35 {a : Nat} (h0 : ¬ (a = 1)) (h1 : ¬ (a = 0)) : (2 ≤ a) := by lia
theorem z36 {a b c d e f : Nat} (h0 : ((((a + b) + c) + 3) ≤ (d + e))) (h1 : f ≤ b) : (((a + f) + (c + 3)) ≤ (d + e)) := by lia
theorem z37 {a b c : Nat} (h0 : a ≤ b) (h1 : (b - a) = c) (h2 : ¬ (c > 0)) : (a = b) := by grind
theorem z38 {a b c d : Nat} (h0 : a ≤ b) (h1 : (a - c) = d) (h2 : d > 0) : (c ≤ b) := by grind
theorem z39 {a b c d e f g : Nat} (h0 : ((a + b) + (c + 2)) ≤ (d + e)) (h1 : (a - f) = g) (h2 : g > 0) : (((f + b) + (c + 2)) ≤ (d + e)) := by lia
theorem z40 {a b c d e : Nat} (h0 : ((a + b) + (c + 2)) ≤ (d + e)) : (((a + b) + (c + 2)) ≤ (d + e)) := by omega
theorem z41 {a b c d : Nat} (h0 : a ≤ b) (h1 : c < a) : (¬ ((b ≤ c) ∧ (c < d))) := by lia
theorem z42 {a b c d : Nat} (h0 : (a + b) ≤ c) (h1 : d < a) : (¬ (d = (c - b))) := by lia
theorem z43 {a b c d : Nat} (h0 : (a + b) ≤ c) (h1 : d < a) : (¬ (((c - b) < d) ∧ (d ≤ c))) := by lia
theorem z44 {a b : Nat} (h0 : a ≤ b) (h1 : b < 1) : (a = b) := by lia
theorem z45 {a : Nat} : ((0 + 1) ≤ (a + 1)) := Nat.le_add_left (0 + 1) a
theorem z46 {a b c d e : Nat} (h0 : (a + b) ≤ c) (h1 : d < b) (h2 : e = c) : ((a + d) < e) := by lia
theorem z47 {a b c d e : Nat} (h0 : (a + b) ≤ c) (h1 : d < b) (h2 : e = c) : (((a + d) - 1) < e) := by lia
theorem z48 {a b c d e : Nat} (h0 : (a + b) ≤ c) (h1 : d < b) (h2 : e = c) : ((a + d) ≤ e) := by lia
theorem z49 {a b c : Nat} (h0 : (a + 1) ≤ b) : (c ≤ ((c + b) - (a + 1))) := by omega
theorem z50 {a : Nat} : (((a + 1) - 1) = a) := by simp
theorem z51 {a b c : Nat} (h0 : (((a + 1) - ((b + 1) + 1)) ≤ c)) : ((a - (b + 1)) ≤ c) := by lia
theorem z52 {a b : Int} (h0 : ¬ (a < b)) (h1 : ¬ (b < a)) : (b = a) := by lia
theorem z53 {a b c d e : Nat} (h0 : (a + b) ≤ c) (h1 : d ≤ b) (h2 : e = c) : ((a + d) ≤ e) := by lia
theorem z54 {a b c d : Nat} (h0 : a ≤ b) (h1 : b < c) : ((d ≤ (d + a)) ∧ ((d + a) < (d + c))) := by simp; lia
theorem z55 {a b c : Nat} (h0 : a < b) : ((c ≤ (c + a)) ∧ ((c + a) < (c + b))) := by simp; lia
theorem z56 {a b c : Nat} (h0 : a ≤ b) : (((c - 1) - b) ≤ ((c - 1) - a)) := Nat.sub_le_sub_left h0 (c - 1)
theorem z57 {a b c : Nat} (h0 : a < b) : (((b - 1) - c) < b) := by omega
theorem z58 {a b c : Nat} (h0 : (a + 1) ≤ b) (h1 : b ≤ c) : (1 ≤ c) := by lia
theorem z59 {a b c : Nat} (h0 : (a + b) ≤ c) (h1 : 1 ≤ b) : (a < c) := by lia
theorem z60 {a b c d : Nat} (h0 : (a + b) ≤ c) (h1 : 1 ≤ d) (h2 : d ≤ b) : (((a + d) - 1) < c) := by lia
theorem z61 {a b c : Int} (h0 : ¬ (a < b)) (h1 : a ≤ c) (h2 : c ≤ b) : (c = b) := by grind
theorem z62 {a b c d : Nat} (h0 : (a + b) ≤ c) (h1 : d ≤ b) : ((a + d) ≤ c) := by lia
theorem z63 {a : Nat} (h0 : 1 ≤ a) (h1 : ¬ (a > 1)) : (a = 1) := by lia
theorem z64 {a b : Nat} (h0 : a < (1 + 1)) (h1 : b < a) : (b = 0) := by lia
theorem z65 {a b : Nat} (h0 : a < (1 + 1)) (h1 : b < a) : (a = 1) := by lia
theorem z66 {a b : Nat} (h0 : a < b) : ((a ≤ ((a + b) / 2)) ∧ (((a + b) / 2) < b)) := by lia
theorem z67 {a b c d : Nat} (h0 : a ≤ b) (h1 : b < (min (max c 1) d)) (h2 : c = 0) : (a = b) := by lia
theorem z68 {a b c : Nat} (h0 : a < (min (max b 1) c)) (h1 : b > 0) : (a < b) := by grind
theorem z69 {a b c d e f g : Nat} (h0 : (a + b) ≤ c) (h1 : d < b) (h2 : e = c) (h3 : f ≤ g) (h4 : g ≤ d) : ((a + ((f + g) / 2)) < e) := by lia
theorem z70 {a b c : Nat} : ((a + ((a + b) - (a + c))) ≤ (a + b)) := by simp; lia
theorem z71 {a b c : Nat} : ((a - b) ≤ (c + a)) := by simp; lia
theorem z72 {a b c d : Nat} (h0 : ((a + b) + (c + 1)) ≤ d) : (((a + (b + 1)) + c) ≤ d) := by lia
theorem z73 {a b c : Nat} : ((a + b) < (((a + b) + 1) + c)) := by lia
theorem z74 {a b c : Nat} (h0 : (a = (b + ((c + 1) + 1)))) : ((b < a) ∧ ((b + 1) < a)) := by lia
theorem z75 {a b : Nat} (h0 : 0 < a) (h1 : 0 = (b + a)) : False := by lia
theorem z76 {a : Nat} (h0 : 0 < a) : (0 < a) := by omega
theorem z77 {a b : Nat} (h0 : a ≤ b) (h1 : (b - a) = 0) : (a = b) := by grind
theorem z78 {a b : Nat} (h0 : ¬ ((a - b) = 0)) : (b ≤ a) := by grind
theorem z79 {a b c : Nat} : ((a + (b + 1)) ≤ (((b + 1) - c) + (a + c))) := by omega
theorem z80 {a b c : Nat} : ((a + 1) ≤ (((b + (a + 1)) - (b + c)) + c)) := by omega
theorem z81 {a b c d e f g : Nat} (h0 : a = (b + 1)) (h1 : c ≤ b) (h2 : d ≤ e) : ((((f + c) + 0) + ((a - c) + d)) ≤ (f + (a + (e + g)))) := by grind
theorem z82 {a b c : Nat} (h0 : (a + b) ≤ c) : ((min b (c - a)) = b) := by lia
theorem z83 {a b c d : Nat} (h0 : a < (min b (c - d))) : (a < b) := by grind
theorem z84 {a b c d : Nat} (h0 : a < (min b (c - d))) : ((d + a) < c) := by grind
theorem z85 {a b c d : Nat} (h0 : a = b) (h1 : ((max 0 c) ≤ a) ∨ (c ≤ a)) (h2 : (b + d) = c) : (d = 0) := by lia
theorem z86 {a b c d : Nat} (h0 : a = b) (h1 : (b + c) = d) (h2 : a ≥ d) : (c = 0) := by lia
theorem z87 {a b c : Nat} (h0 : a = b) (h1 : ¬ (c ≥ b)) : ((c + (b - c)) ≤ a) := by grind
theorem z88 {a b : Nat} (h0 : ¬ (a ≥ b)) : (1 ≤ (b - a)) := by grind
theorem z89 {a : Nat} (h0 : 1 ≤ a) (h1 : 0 = a) : False := by lia
theorem z90 {a b c d : Nat} (h0 : (a ≤ b) ∨ (c ≤ b)) (h1 : 1 ≤ d) : (((a + 1) ≤ (b + d)) ∨ (c ≤ (b + d))) := by grind
theorem z91 {a : Nat} (h0 : a > 1) : ((a - 2) < a) := by omega
theorem z92 {a b : Nat} (h0 : a = b) (h1 : a > 1) : (((a - 2) + 1) < b) := by lia
theorem z93 {a b c d e : Nat} (h0 : a = b) (h1 : (c + d) = e) (h2 : (b + d) = e) : (c = a) := by lia
theorem z94 {a b c d e : Nat} (h0 : a = b) (h1 : 1 ≤ c) (h2 : c ≤ (b - d)) (h3 : e = a) : ((d + c) ≤ e) := by lia
theorem z95 {a b : Nat} (h0 : a ≤ b) : ((a + 0) ≤ b) := by omega
theorem z96 {a b : Nat} (h0 : (((a + (max 0 b)) ≤ b) ∨ (a ≤ 1))) : (a ≤ 1) := by lia
theorem z97 {a b c : Nat} (h0 : a = b) (h1 : ¬ (a ≤ 1)) (h2 : c ≤ (a - 2)) : ((c + 1) < b) := by grind
theorem z98 {a b c d : Nat} (h0 : ((((a + ((b + 1) + 1)) + c) ≤ d) ∨ ((a + ((b + 1) + 1)) ≤ 1))) : (((a + (b + 1)) + (c + 1)) ≤ d) := by lia
theorem z99 {a b : Nat} (h0 : a ≤ 100000) (h1 : b = 16777216) : (a ≤ b) := by lia
theorem z100 {a b : Nat} (h0 : a ≤ 100000) (h1 : b = 16777216) : (a ≤ (b + 1)) := by lia
theorem z101 {a b : Nat} (h0 : ¬ (a < b)) (h1 : (a - b) = 0) : (a = b) := by grind
theorem z102 {a : Nat} (h0 : a < 128) : (a < 1114112) := by lia
theorem z103 {a b c : Nat} (h0 : (((a + (8 * (b + 1))) + 200) < c)) : ((((a + 3) + (8 * b)) + 200) < c) := by lia
theorem z104 {a b c d e : Nat} (h0 : a ≤ 100) (h1 : (((b + (8 * c)) + 200) < d)) : ((b + (min a e)) < d) := by lia
theorem z105 {a : Nat} {b : Int} (h0 : a < (2 ^ 62)) (h1 : (Int.toNat b) < a) : (b < (2 ^ 63)) := by simp; lia
theorem z106 {a b c d e : Nat} (h0 : a ≤ 100) (h1 : (((b + (8 * c)) + 200) < d)) : (((b + 1) + (min e a)) < d) := by lia
theorem z107 {a b : Nat} (h0 : a < (2 ^ 62)) (h1 : (b : Int) = (a : Int)) : ((b : Int) < (2 ^ 63)) := by simp; lia
theorem z108 {a : Int} (h0 : a < (2 ^ 62)) : (a < (2 ^ 63)) := by omega
theorem z109 : (((((2 : Nat) ^ (24 : Nat)) : Nat) : Int) < ((2 : Int) ^ (62 : Nat))) := by simp
theorem z110 {a b : Nat} {c : Int} (h0 : a ≤ b) (h1 : c ≤ (a : Int)) (h2 : (b : Int) < (2 ^ 62)) : (c < (2 ^ 62)) := by simp; lia
theorem z111 {b : Nat} {a : Int} (h0 : a ≤ (b : Int)) : ((min (Int.toNat a) b) = (Int.toNat a)) := by grind
theorem z112 : ((1000000 : Nat) ≤ ((2 : Nat) ^ (24 : Nat))) := by simp
theorem z113 {a b c d : Nat} (h0 : (a + b) ≤ 1000000) (h1 : 1000000 ≤ c) (h2 : d = a) : (d ≤ c) := by lia
theorem z114 {a b c d e : Nat} (h0 : (a + b) ≤ 1000000) (h1 : 1000000 ≤ c) (h2 : d = a) (h3 : e = b) : ((d + e) ≤ (c + 1)) := by grind
theorem z115 {a b c : Nat} (h0 : (a + b) ≤ 1000000) (h1 : 1000000 ≤ c) : (¬ ((a + b) > c)) := by lia
theorem z116 {a : Nat} {b c : Int} (h0 : a < (Int.toNat (b - c))) : (0 < ((((Int.toNat (b - c)) : Nat) : Int) - (a : Int))) := by lia
theorem z117 {b : Nat} {a : Int} : ((a + (((b + 1) : Nat) : Int)) = ((a + (b : Int)) + 1)) := by simp; lia
theorem z118 {c : Nat} {a b : Int} : (((((Int.toNat (a - b)) : Nat) : Int) - (((c + 1) : Nat) : Int)) = (((((Int.toNat (a - b)) : Nat) : Int) - (c : Int)) - 1)) := by grind
theorem z119 {a : Int} : ((a + ((0 : Nat) : Int)) = a) := by simp
theorem z120 : ((0 : Int) < ((2 : Int) ^ (62 : Nat))) := by simp
theorem z121 {a b : Nat} (h0 : a < b) : ((((b : Int) - 1) - (a : Int)) = ((((b - 1) - a) : Nat) : Int)) := by omega
theorem z122 {a b : Nat} (h0 : ((((a : Int) - 1) - (b : Int)) = ((((a - 1) - b) : Nat) : Int))) : ((((a : Int) - 1) - (((b + 1) : Nat) : Int)) = (((((a - 1) - b) : Nat) : Int) - 1)) := by simp; lia
theorem z123 {a : Nat} {b : Int} (h0 : a < (2 ^ 62)) (h1 : 0 ≤ (b + (a : Int))) : ((-(2 ^ 63)) ≤ b) := by simp; lia
theorem z124 {a : Nat} {b : Int} (h0 : a < (2 ^ 62)) (h1 : b < (a : Int)) : (b < (2 ^ 63)) := by simp; lia
theorem z125 {a b c : Nat} (h0 : a = b) (h1 : (c : Int) < (b : Int)) : (c < a) := by lia
theorem z126 {a b : Nat} (h0 : a < (2 ^ 62)) (h1 : b = a) : ((b : Int) < (2 ^ 63)) := by simp; lia
theorem z127 {a b c : Nat} (h0 : a ≤ b) (h1 : c < a) (h2 : c = b) : False := by lia
theorem z128 {a b : Nat} : ((Int.toNat ((a : Int) + ((b : Int) * 1))) = (a + b)) := by simp; lia
theorem z129 {a b c d : Nat} (h0 : a ≤ b) : ((min (c - d) (a - d)) ≤ b) := by grind
theorem z130 {a : Nat} (h0 : a < 5000) : (a ≤ 100000) := by lia
theorem z131 {a b : Nat} (h0 : a < 5000) (h1 : b = a) : (b ≤ (2 ^ 24)) := by simp; lia
theorem z132 {a : Nat} (h0 : a < 5000) : (a ≤ (2 ^ 24)) := by simp; lia
theorem z133 {a b c : Nat} (h0 : (a + 1) = b) (h1 : a = c) : (b ≠ c) := by lia
theorem z134 {a b : Nat} : ((a + (Nat.succ b)) = ((a + (0 + 1)) + b)) := Eq.symm (Nat.succ_add_eq_add_succ a b)
theorem z135 {a : Nat} (h0 : a < 200) : (((1 + 300) + a) < 1000) := by simp; lia
theorem z136 {a : Nat} (h0 : a < 200) : (((4 + (8 * a)) + 200) < 9900) := by lia
theorem z137 {a : Nat} (h0 : 300 < ((a / 30) + 1)) (h1 : a < 9000) : False := by lia
theorem z138 {a : Nat} (h0 : a ≤ 63) : (a < 4611686018427387904) := by lia
theorem z139 {a : Nat} {b : Int} (h0 : (a : Int) ≤ b) : (a ≤ (Int.toNat b)) := by grind
theorem z140 {a b : Int} (h0 : 0 ≤ a) (h1 : a < b) (h2 : b ≤ (10 ^ 32)) : ((Int.natAbs a) < (10 ^ 32)) := by simp; lia
theorem z141 {a : Nat} : (a = ((2 * (a / 2)) + (a % 2))) := Eq.symm (Nat.div_add_mod a 2)
theorem z142 {a : Nat} : (((a : Int) / 2) = (((a / 2) : Nat) : Int)) := by simp
theorem z143 {a : Nat} (h0 : 0 < (a : Int)) : ((a / 2) < a) := by lia
theorem z144 {a b : Int} (h0 : 0 ≤ a) (h1 : a < b) : (b ≠ 0) := by lia
theorem z145 {a b : Int} (h0 : 0 ≤ a) (h1 : a < b) : (0 ≤ b) := by lia
theorem z146 {a : Nat} (h0 : ¬ (0 < (a : Int))) : (a = 0) := by lia
theorem z147 {a : Int} (h0 : (0 ≤ a) ∧ (a < 2147483647)) : ((0 ≤ a) ∧ (a < 4294967296)) := by lia
theorem z148 {a : Nat} : ((-(2 ^ 62)) ≤ (a : Int)) := Int.neg_ofNat_le_natCast (2 ^ 62) a
theorem z149 {a : Nat} (h0 : a ≤ 1000) : ((a : Int) < (2 ^ 62)) := by simp; lia
theorem z150 {a : Int} (h0 : 0 ≤ a) (h1 : a < 2147483647) : ((Int.natAbs a) ≤ 2147483647) := by lia
theorem z151 {b : Nat} {a : Int} (h0 : 0 ≤ a) : (0 ≤ (a + (b : Int))) := by lia
theorem z152 {a b : Nat} (h0 : a ≤ 1000) (h1 : b < a) : (b ≤ (2 ^ 24)) := by simp; lia
theorem z153 {a : Nat} (h0 : a ≤ 1000) : (a ≤ (2 ^ 24)) := by simp; lia
theorem z154 {a : Nat} (h0 : a ≤ 100000) : (a ≤ (2 ^ 24)) := by simp; lia
theorem z155 {a : Int} (h0 : a < (10 ^ 32)) : ((Int.toNat a) < (10 ^ 32)) := by simp; lia
theorem z156 {a c : Nat} {b : Int} (h0 : a ≤ (Int.toNat b)) (h1 : (2 ^ 200) ≤ c) (h2 : c ≤ a) (h3 : (Int.toNat b) < (10 ^ 32)) : False := by lia
theorem z157 {a : Nat} (h0 : a ≤ 200) : (a ≤ 1000) := by lia
theorem z158 {a : Nat} : ((((a : Int) % 2) = 0) ∨ (((a : Int) % 2) = 1)) := Int.emod_two_eq ↑a
theorem z159 {a : Nat} : (((2 * (a / 2)) + (Int.toNat ((a : Int) % 2))) = a) := by lia
theorem z160 {a : Nat} : (((a / 2) * 2) ≤ a) := Nat.div_mul_le_self a 2
theorem z161 {a : Nat} : ((a + a) = (2 * a)) := Eq.symm (Nat.two_mul a)
theorem z162 {a : Int} (h0 : 2 ≤ a) : (0 ≤ (a - 1)) := by lia
theorem z163 {a : Int} (h0 : (1 ≤ a) ∧ ((Int.natAbs a) < (2 ^ 200))) : (a ≠ 0) := by omega
theorem z164 {a : Int} (h0 : (1 ≤ a) ∧ ((Int.natAbs a) < (2 ^ 200))) : (0 ≤ a) := by lia
theorem z165 {a b : Int} (h0 : a ≤ (10 ^ 32)) (h1 : b ≤ (a - 1)) : (b < (10 ^ 32)) := by omega
theorem z166 {a b : Int} (h0 : 0 ≤ a) (h1 : a ≤ (b - 1)) : (1 ≤ b) := by lia
theorem z167 {a b : Nat} (h0 : 2 ≤ a) (h1 : a < 2) : (b ≠ 0) := by lia
theorem z168 {a b : Nat} (h0 : a ≤ 1000000) (h1 : b ≤ a) : ((Int.natAbs (b : Int)) < (2 ^ 64)) := by simp; lia
theorem z169 {a b c : Nat} (h0 : 2 ≤ a) (h1 : b ≤ c) (h2 : (2 * a) ≤ b) : (a < c) := by lia
theorem z170 {a : Nat} (h0 : 2 ≤ a) : ((a : Int) ≠ 0) := by lia
theorem z171 {a : Nat} : (0 ≤ (a : Int)) := Int.natCast_nonneg a
theorem z172 {a b : Nat} (h0 : a < b) : ((b - (a + 1)) < (b - a)) := Nat.sub_succ_lt_self b a h0
theorem z173 {a b : Nat} (h0 : ¬ ((a : Int) ≤ (b : Int))) : (b < a) := by lia
theorem z174 {a b : Nat} (h0 : 2 ≤ a) (h1 : a ≤ b) : (1 < (b : Int)) := by lia
theorem z175 {a b c d : Nat} (h0 : a < b) (h1 : b = c) (h2 : c ≤ (a * 1)) : (2 ≤ d) := by grind
theorem z176 {a b c d e : Nat} (h0 : a < b) (h1 : a = c) (h2 : b ≤ c) : (d < e) := by grind
theorem z177 {a b : Nat} (h0 : a ≤ b) : ((1 * a) ≤ b) := by simp; lia
theorem z178 {a b c : Nat} (h0 : a ≤ (b + 1)) (h1 : c < a) : (c ≤ b) := by lia
theorem z179 {a b c d : Nat} (h0 : a ≤ b) (h1 : (b + 2) = (c + d)) (h2 : d ≤ a) : (c = ((c - 1) + 1)) := by lia
theorem z180 {a : Nat} (h0 : 1 < (a : Int)) : (¬ (a ≤ 1)) := by lia
theorem z181 {a : Nat} : ((0 + a) ≤ a) := by simp
theorem z182 {a : Nat} : ((a + 0) = a) := by simp
theorem z183 {a b : Nat} (h0 : (a + 2) ≤ b) : ((b : Int) ≠ 0) := by lia
theorem z184 {a b : Nat} (h0 : 1 ≤ a) (h1 : a ≤ b) : (b = ((b - 1) + 1)) := by lia
theorem z185 {a b c : Nat} (h0 : a ≤ 20000) (h1 : (a + 2) = ((b + 1) + c)) : ((Int.natAbs (c : Int)) < (2 ^ 64)) := by simp; lia
theorem z186 {a : Nat} : (a < (a + 1)) := Nat.lt_add_one a
theorem z187 {a b c : Nat} (h0 : (a + (b + 1)) ≤ c) : (b ≤ c) := by lia
theorem z188 {a b c : Nat} (h0 : (a + (b + 1)) ≤ c) : (((a + 1) + b) ≤ c) := by lia
theorem z189 {a b c : Nat} (h0 : ((a + 1) + b) = c) : ((a + (b + 1)) = c) := by lia
theorem z190 {a b : Nat} (h0 : (0 + a) = b) : (b = a) := by lia
theorem z191 {a b c d : Nat} (h0 : a ≤ 20000) (h1 : (b + 2) ≤ c) (h2 : (a + 2) = ((d + 1) + c)) : (b ≤ 100000) := by lia
theorem z192 {a b : Nat} (h0 : (a + 2) ≤ b) : (2 ≤ (b + 1)) := by lia
theorem z193 {a b c : Nat} (h0 : (a + 2) = ((b + 1) + c)) : ((a + 2) = (b + (c + 1))) := by lia
theorem z194 {a b : Nat} (h0 : (a + 2) ≤ b) : ((a + 2) ≤ b) := by omega
theorem z195 {a : Nat} (h0 : ¬ (0 < (a : Int))) : (¬ (0 < a)) := by simp; lia
theorem z196 {a : Nat} (h0 : 1 ≤ a) (h1 : ¬ (1 < (a : Int))) : (a = 1) := by lia
theorem z197 {a b c d : Nat} (h0 : a ≤ 20000) (h1 : (a + 2) = (b + c)) (h2 : (d + 2) ≤ c) : (d ≤ 100000) := by lia
theorem z198 {a : Nat} (h0 : a ≤ 1000) : (a < (2 ^ 62)) := by simp; lia
theorem z199 {a b : Nat} (h0 : a ≤ 1000) (h1 : b = a) : (b ≤ 1000) := by lia
theorem z200 {a b : Int} (h0 : a ≤ b) (h1 : 1 ≤ a) : (0 ≤ b) := by lia
theorem z201 {a : Nat} (h0 : 1 ≤ a) : (((a : Int) - 1) = (((a - 1) : Nat) : Int)) := by lia
theorem z202 {a b : Int} (h0 : ((2 ≤ a) ∧ ((a < 402) ∧ ((1 ≤ b) ∧ (b ≤ 100))))) : (0 ≤ a) := by lia
theorem z203 {a : Nat} : (1 ≤ (a + 1)) := Nat.le_add_left 1 a
theorem z204 {a b : Nat} (h0 : a < b) (h1 : a ≥ (b - 1)) : (a = (b - 1)) := by lia
theorem z205 {a b c : Nat} (h0 : a < b) (h1 : c ≠ a) (h2 : c = (b - 1)) : ((0 + 1) < b) := by grind
theorem z206 {a : Nat} (h0 : 2 ≤ a) (h1 : ¬ ((a : Int) = 2)) : (3 ≤ a) := by lia
theorem z207 {a : Nat} (h0 : 3 ≤ a) : (((a : Int) - 1) = (((a - 1) : Nat) : Int)) := by lia
theorem z208 {a b : Nat} (h0 : 1 ≤ a) (h1 : a < b) : (1 ≤ (b - 1)) := by lia
theorem z209 {a : Nat} (h0 : a ≤ 401) : ((a - 1) ≤ 20000) := by simp; lia
theorem z210 {a b : Nat} (h0 : 1 ≤ a) (h1 : a < b) : ((((b - 1) : Nat) : Int) ≠ 0) := by lia
theorem z211 {a : Nat} : (0 ≤ (((a - 1) : Nat) : Int)) := Int.natCast_nonneg (a - 1)
theorem z212 {a b : Nat} (h0 : 1 ≤ a) (h1 : a < b) : (0 < (((b - 1) : Nat) : Int)) := by simp; lia
theorem z213 {a : Int} (h0 : 0 ≤ a) : (1 ≤ (Int.toNat (1 + a))) := by lia
theorem z214 {b : Nat} {a : Int} (h0 : 0 ≤ a) (h1 : (a < (((b - 1) : Nat) : Int))) : ((Int.toNat (1 + a)) < b) := by omega
theorem z215 {a : Int} (h0 : 0 ≤ a) : (0 ≤ (1 + a)) := by lia
theorem z216 {b : Nat} {a : Int} (h0 : 0 ≤ a) (h1 : (a < (((b - 1) : Nat) : Int))) : (2 ≤ (b : Int)) := by grind
theorem z217 {a : Nat} (h0 : a ≤ 401) : ((a : Int) ≤ (10 ^ 32)) := by simp; lia
theorem z218 {a b : Nat} (h0 : a ≤ 401) (h1 : b < a) : ((Int.natAbs (b : Int)) < (2 ^ 200)) := by simp; lia
theorem z219 {a b : Int} (h0 : ((2 ≤ a) ∧ ((a < 402) ∧ ((1 ≤ b) ∧ (b ≤ 100))))) : ((1 ≤ a) ∧ ((Int.natAbs a) < (2 ^ 200))) := by grind
theorem z220 {b : Nat} {a : Int} (h0 : 0 ≤ a) (h1 : (a < (((b - 1) : Nat) : Int))) : ((((b - 1) : Nat) : Int) ≠ 0) := by lia
theorem z221 {a : Nat} (h0 : a ≤ 401) : ((a : Int) < ((10 ^ 30) - 2000)) := by simp; lia
theorem z222 {a b : Nat} (h0 : a < b) : ((a : Int) ≤ (b : Int)) := by simp; lia
theorem z223 {a b : Int} (h0 : ((2 ≤ a) ∧ ((a < 402) ∧ ((1 ≤ b) ∧ (b ≤ 100))))) : ((2 ≤ a) ∧ ((a ≤ 20000) ∧ ((1 ≤ b) ∧ (b ≤ 100)))) := by lia
theorem z224 {a : Nat} : (2 ≤ (2 + (a : Int))) := Int.le.intro a rfl
theorem z225 {a b : Nat} (h0 : a < b) : ((2 + (a : Int)) < (2 + (b : Int))) := by simp; lia
theorem z226 {b : Nat} {a : Int} (h0 : 2 ≤ a) (h1 : a < (2 + (b : Int))) : ((Int.toNat (a - 2)) < b) := by lia
theorem z227 {a : Int} (h0 : 2 ≤ a) : ((2 + (((Int.toNat (a - 2)) : Nat) : Int)) = a) := by lia
theorem z228 {a : Nat} (h0 : 2 ≤ a) : ((Int.toNat ((a : Int) - 1)) = ((a - 2) + 1)) := by simp; lia
theorem z229 (h0 : (1 : Int) = (0 : Int)) : False := by lia
theorem z230 {a : Nat} (h0 : a ≤ 100000) : (a < (2 ^ 62)) := by simp; lia
theorem z231 {a : Nat} (h0 : a ≤ 20000) : ((a : Int) < (2 ^ 62)) := by simp; lia
theorem z232 {a : Nat} (h0 : a ≤ 20000) : ((Int.toNat ((a : Int) - 2)) ≤ 100000) := by simp; lia
theorem z233 {a : Nat} : ((2 + (a : Int)) ≠ 0) := by lia
theorem z234 {a : Nat} : (0 ≤ (2 + (a : Int))) := Int.zero_le_ofNat (2 + a)
theorem z235 {b : Nat} {a : Int} (h0 : 2 ≤ a) (h1 : (a < (2 + (((Int.toNat ((b : Int) - 2)) : Nat) : Int)))) : (a < (b : Int)) := by omega
theorem z236 {a b : Nat} (h0 : a < b) : ((a : Int) < (2 + (((Int.toNat ((b : Int) - 2)) : Nat) : Int))) := by grind
theorem z237 {a : Nat} (h0 : a ≤ 20000) : (((a : Int) - 2) ≤ 20000) := by lia
theorem z238 {a : Nat} : ((-(2 ^ 62)) ≤ ((a : Int) - 1)) := by lia
theorem z239 {a : Nat} (h0 : a ≤ 20000) : (((a : Int) - 1) < (2 ^ 62)) := by lia
theorem z240 {a : Nat} (h0 : a ≤ 20000) : ((Int.toNat (((a : Int) - 1) - 2)) ≤ 100000) := by simp; lia
theorem z241 {a b : Nat} (h0 : a ≤ 20000) (h1 : (b < (Int.toNat (((a : Int) - 1) - 2)))) : ((Int.natAbs (2 + (b : Int))) < (2 ^ 64)) := by omega
theorem z242 {a b : Nat} (h0 : (a < (Int.toNat (((b : Int) - 1) - 2)))) : ((b : Int) ≠ 0) := by grind
theorem z243 {b : Nat} {a : Int} (h0 : 2 ≤ a) (h1 : (a < (2 + (((Int.toNat (((b : Int) - 1) - 2)) : Nat) : Int)))) : (a < ((b : Int) - 1)) := by omega
theorem z244 {a : Nat} (h0 : a ≤ 20000) : ((((a : Int) - 1) - 2) ≤ 20000) := by lia
theorem z245 {a : Nat} (h0 : a ≤ 20000) : (a ≤ 100000) := by lia
theorem z246 {a : Int} (h0 : 2 ≤ a) : (a ≠ 0) := by lia
theorem z247 {a : Nat} {b : Int} (h0 : a ≤ 20000) (h1 : 2 ≤ b) (h2 : b < (a : Int)) : ((Int.natAbs b) < (2 ^ 64)) := by grind
theorem z248 {a : Int} (h0 : 2 ≤ a) : (0 ≤ a) := by lia
theorem z249 {b : Nat} {a c d : Int} (h0 : a < (b : Int)) (h1 : (b : Int) = c) (h2 : c ≤ (a * 1)) : (2 ≤ d) := by grind
theorem z250 {a : Nat} {b : Int} (h0 : a ≤ 20000) (h1 : b < (a : Int)) : (b < (10 ^ 16)) := by simp; lia
theorem z251 {a : Nat} {b : Int} (h0 : a ≤ 20000) (h1 : b ≤ (a : Int)) : (b < (10 ^ 16)) := by simp; lia
theorem z252 {a : Nat} (h0 : a ≤ 20000) : ((a : Int) < ((10 ^ 30) - 2000)) := by simp; lia
theorem z253 {b : Nat} {a : Int} (h0 : 2 ≤ a) (h1 : a < (b : Int)) : (((b : Int) - 1) = (((b - 1) : Nat) : Int)) := by lia
theorem z254 {b : Nat} {a : Int} (h0 : 2 ≤ a) (h1 : a < (b : Int)) : ((((b - 1) : Nat) : Int) ≠ 0) := by grind
theorem z255 {b : Nat} {a : Int} (h0 : 2 ≤ a) (h1 : a < (b : Int)) : (0 < (((b - 1) : Nat) : Int)) := by grind
theorem z256 {a b : Nat} (h0 : a ≤ 20000) (h1 : b < a) : ((Int.natAbs (b : Int)) < (2 ^ 200)) := by simp; lia
theorem z257 {a b : Nat} (h0 : a < b) : (0 ≤ ((b : Int) - 1)) := by lia
theorem z258 {a : Nat} (h0 : a ≤ 20000) : (((a : Int) - 1) < (10 ^ 32)) := by lia
theorem z259 {a b : Nat} (h0 : a < b) : (1 ≤ (b : Int)) := by lia
theorem z260 {a : Nat} (h0 : a ≤ 20000) : ((a : Int) ≤ (10 ^ 32)) := by simp; lia
theorem z261 {a : Nat} {b : Int} (h0 : 1 ≤ a) (h1 : a = (Int.toNat b)) : ((a : Int) = b) := by lia
theorem z262 {a : Int} (h0 : 2 ≤ a) : (1 ≤ (Int.toNat a)) := by lia
theorem z263 {b : Nat} {a : Int} (h0 : 2 ≤ a) (h1 : a < (b : Int)) : ((Int.toNat a) < b) := by grind
theorem z264 {a b : Nat} (h0 : 1 ≤ a) (h1 : a < b) : (2 ≤ (b : Int)) := by lia
theorem z265 {b : Nat} {a : Int} (h0 : 2 ≤ a) (h1 : a < ((b : Int) - 1)) : (2 ≤ (b : Int)) := by lia
theorem z266 {b : Nat} {a : Int} (h0 : a < ((b : Int) - 1)) : (a ≤ (b : Int)) := by lia
theorem z267 {a b : Nat} (h0 : a < (b * 2)) : ((a / 2) < b) := by lia
theorem z268 {a b : Nat} (h0 : a < (2 ^ 70)) (h1 : b ≤ (a - 1)) : (b < (2 ^ 70)) := by simp; lia
theorem z269 {a : Nat} (h0 : ((a = 1) ∨ ((a = 11) ∨ ((a = 13) ∨ ((a = 19) ∨ (a = 23)))))) : (a < (2 ^ 70)) := by simp; lia
theorem z270 {a : Int} (h0 : 402 < a) : (0 ≤ a) := by lia
theorem z271 {a : Int} (h0 : 402 < a) : (1 ≤ (Int.toNat a)) := by lia
theorem z272 {a : Int} (h0 : a < (2 ^ 70)) : ((Int.toNat a) < (2 ^ 70)) := by simp; lia
theorem z273 {a : Int} (h0 : 402 < a) : (0 < a) := by lia
theorem z274 {a : Int} (h0 : 402 < a) : (¬ (a ≤ 401)) := by lia
theorem z275 {a : Int} (h0 : 402 < a) : (a ≠ 0) := by lia
theorem z276 {a : Int} (h0 : 402 < a) : ((Int.toNat (a - 1)) = ((Int.toNat (a - 2)) + 1)) := by lia
theorem z277 (h0 : (0 : Int) = (1 : Int)) : False := by lia
theorem z278 {a : Nat} (h0 : a = 4) : (a ≤ 1000) := by lia
theorem z279 {a : Nat} {b : Int} (h0 : a = 4) : ((b % 4) < (a : Int)) := by lia
theorem z280 {a : Nat} (h0 : a < 100) : ((a : Int) < (10 ^ 32)) := by simp; lia
theorem z281 {a : Int} (h0 : 3 ≤ a) : (1 ≤ a) := by lia
theorem z282 {a : Int} (h0 : a < (10 ^ 30)) : (a ≤ (10 ^ 32)) := by simp; lia
theorem z283 {a : Int} (h0 : 3 ≤ a) : (0 < a) := by lia
theorem z284 {a b : Nat} (h0 : 2 ≤ (a : Int)) (h1 : (a * 2) ≤ b) : (a < b) := by lia
theorem z285 {a b : Int} : ((((a + b) + (b + 1)) - 1) = (a + (b * 2))) := by lia
theorem z286 {b : Nat} {a : Int} (h0 : 2 ≤ a) (h1 : (a * 2) ≤ (b : Int)) : (2 ≤ b) := by lia
theorem z287 {a : Int} (h0 : 0 ≤ a) (h1 : a < 4294967296) : ((Int.natAbs a) < (2 ^ 64)) := by simp; lia
theorem z288 {a : Int} (h0 : a < 1000000000000000) : ((2 + a) ≤ 1000000000000001) := by lia
theorem z289 {a : Int} (h0 : a < (1000000000000000 - 9)) : ((2 + a) ≤ 999999999999992) := by lia
theorem z290 {a : Int} (h0 : 0 ≤ a) : (0 ≤ (2 + a)) := by lia
theorem z291 {a : Int} (h0 : a < (1000000000000000 - 9)) : (((2 + a) + 1) ≤ 999999999999993) := by lia
theorem z292 {a : Int} (h0 : 0 ≤ a) : (0 ≤ ((2 + a) + 1)) := by lia
theorem z293 {a : Int} (h0 : 0 ≤ a) : (3 ≤ ((2 + a) + 1)) := by lia
theorem z294 {a : Int} (h0 : 0 ≤ a) (h1 : a < 1000000000000000) : ((Int.natAbs (2 + a)) < (2 ^ 64)) := by omega
theorem z295 {a : Int} (h0 : a < 1000000000000000) : ((2 + a) < (10 ^ 16)) := by simp; lia
theorem z296 {a : Int} (h0 : a < (1000000000000000 - 9)) : ((2 + a) < (10 ^ 16)) := by simp; lia
theorem z297 {a b : Int} (h0 : 0 ≤ a) (h1 : ((2 + a) * 2) ≤ b) : (3 ≤ b) := by lia
theorem z298 {a b : Int} (h0 : 0 ≤ a) (h1 : ((2 + a) * 2) ≤ b) : (2 ≤ b) := by lia
theorem z299 {a : Int} (h0 : 0 ≤ a) : (1 ≤ (2 + a)) := by lia
theorem z300 {a b : Int} (h0 : 0 ≤ a) (h1 : ((2 + a) * 2) ≤ b) : ((2 + a) ≤ b) := by lia
theorem z301 {a b : Int} (h0 : 0 ≤ a) (h1 : ((2 + a) * 2) ≤ b) : ((2 + a) < b) := by lia
theorem z302 {a : Int} (h0 : 0 ≤ a) (h1 : a < (1000000000000000 - 9)) : ((Int.natAbs ((2 + a) + 1)) < (2 ^ 64)) := by omega
theorem z303 {a b : Int} (h0 : 0 ≤ a) (h1 : ((((2 + a) + 1) * 3) ≤ b)) : (1 < (b - 1)) := by lia
theorem z304 {a b : Int} (h0 : 0 ≤ a) (h1 : ((((2 + a) + 1) * 3) ≤ b)) : (2 ≤ (b - 1)) := by lia
theorem z305 {a : Int} (h0 : a < ((10 ^ 30) - 2000)) : ((a - 1) < ((10 ^ 30) - 2000)) := by omega
theorem z306 {a : Int} (h0 : 0 ≤ a) : (1 ≤ ((2 + a) + 1)) := by lia
theorem z307 {a b : Int} (h0 : 0 ≤ a) (h1 : ((((2 + a) + 1) * 3) ≤ b)) : (((2 + a) + 1) ≤ (b - 1)) := by lia
theorem z308 {a : Int} (h0 : 0 ≤ a) : (1 < ((2 + a) + 1)) := by lia
theorem z309 {a b : Int} (h0 : 0 ≤ a) (h1 : ((((2 + a) + 1) * 3) ≤ b)) : (((2 + a) + 1) < ((b - 1) - 1)) := by lia
theorem z310 {a b : Int} (h0 : 0 ≤ a) (h1 : ((((2 + a) + 1) * 3) ≤ b)) : (3 ≤ (b - 1)) := by lia
theorem z311 {a : Int} (h0 : 0 ≤ a) : (2 ≤ ((2 + a) + 2)) := by lia
theorem z312 {a : Nat} (h0 : a ≤ 10) : (a ≤ 1000) := by lia
theorem z313 {a b c d : Nat} (h0 : a = (1 + b)) (h1 : c ≤ d) : ((c + 1) ≤ (a + d)) := by lia
theorem z314 {a : Nat} (h0 : a ≤ 900) : (a ≤ 999) := by lia
theorem z315 {a b : Nat} (h0 : (a + b) ≤ 1000) : ((a + b) ≤ 1000000) := by lia
theorem z316 {a b c : Nat} (h0 : a = b) (h1 : b ≤ 500) (h2 : c ≤ a) : (c ≤ 1000) := by lia
theorem z317 {a b c d : Nat} (h0 : a ≤ 500) (h1 : (b + (c + 0)) = a) (h2 : d ≤ b) : (d ≤ 900) := by lia
theorem z318 {a b c d : Nat} (h0 : a = (1 + b)) (h1 : (c + (a + 0)) = d) : (c < d) := by lia
theorem z319 {a b c d : Nat} (h0 : ((a + (b + (c + 0))) ≤ d)) : ((a + b) ≤ d) := by lia
theorem z320 {a b c : Nat} (h0 : a ≤ 500) (h1 : (b + (c + 0)) = a) : (b ≤ 500) := by lia
theorem z321 {a : Nat} (h0 : a ≤ 63) : (a ≤ 1000) := by lia
theorem z322 {a b : Nat} (h0 : 1 ≤ a) (h1 : b = a) : ((b : Int) ≠ 0) := by simp; lia
theorem z323 {a b c : Nat} (h0 : a = (1 + b)) (h1 : a ≤ 20) (h2 : c ≤ b) : (c ≤ 20) := by lia
theorem z324 {a b c d e : Nat} (h0 : a ≤ 500) (h1 : (b + (c + 0)) = a) (h2 : d ≤ b) (h3 : e ≤ 20) : ((d + e) ≤ 1000) := by lia
theorem z325 {a b c d : Nat} (h0 : a = (1 + b)) (h1 : (c + (a + 0)) = d) : ((c + b) < d) := by lia
theorem z326 {a : Nat} {b : Int} (h0 : (a : Int) = 2) (h1 : b ≠ (a : Int)) : (¬ (b = 2)) := Eq.mpr_not (congrArg (Eq b) (id (Eq.symm h0))) h1
theorem z327 {a : Nat} (h0 : a ≤ 1) : (a ≤ 1) := by omega
theorem z328 {a b c d e : Nat} (h0 : a = (0 + b)) (h1 : ((c + (d + (a + 0))) ≤ e)) : ((c + (d + b)) ≤ e) := by lia
theorem z329 {a b c d e : Nat} (h0 : a = (1 + b)) (h1 : ((c + (d + (a + 0))) ≤ e)) : (((c + 1) + (d + b)) ≤ e) := by lia
theorem z330 {a b c d : Nat} (h0 : a ≤ 500) (h1 : b = (1 + c)) (h2 : (d + (b + 0)) = a) : ((d + c) ≤ 500) := by lia
theorem z331 {a : Nat} (h0 : a ≤ 63) : (a < 5000) := by lia
theorem z332 {a b : Nat} (h0 : a ≤ 63) (h1 : b = a) : (b ≤ 1000) := by lia
theorem z333 {a b c : Nat} (h0 : a = b) (h1 : c = a) : (c = b) := by lia
theorem z334 {a b c d : Nat} (h0 : a ≤ b) (h1 : c ≤ d) : ((a + c) ≤ (d + b)) := by lia
theorem z335 {a b c : Nat} (h0 : a < b) (h1 : b < c) : (c ≠ a) := by lia
theorem z336 {a : Nat} (h0 : 8 ≤ a) : (5 < (a : Int)) := by omega
theorem z337 {a b c d : Nat} (h0 : (a + b) ≤ 39) (h1 : c = (a + d)) (h2 : d ≤ 1) : (c ≤ 1000) := by lia
theorem z338 {a b c : Nat} (h0 : (a + b) ≤ 39) (h1 : c ≤ (a + 1)) : ((c + b) ≤ 40) := by lia
theorem z339 {a : Nat} (h0 : a ≤ 5) : ((a * 20) ≤ 100) := Nat.mul_le_of_le_div 20 a 100 h0
theorem z340 {a : Nat} (h0 : a ≤ 5) : ((a * 7) ≤ 35) := Nat.mul_le_of_le_div 7 a 35 h0
theorem z341 {a : Nat} (h0 : 8 ≤ a) : (6 < (a : Int)) := by omega
theorem z342 {a : Int} (h0 : 0 ≤ a) : (0 ≤ (a / 4)) := by lia
theorem z343 {a : Int} (h0 : (2 ≤ a) ∧ (a ≤ 401)) : (a = (((Int.toNat a) : Nat) : Int)) := by simp; lia
theorem z344 {a : Int} (h0 : (2 ≤ a) ∧ (a ≤ 401)) : (2 ≤ (Int.toNat a)) := by lia
theorem z345 {a : Int} (h0 : (2 ≤ a) ∧ (a ≤ 401)) : ((Int.toNat a) ≤ 401) := by simp; lia
theorem z346 {a b c : Nat} (h0 : a ≤ 5) (h1 : b ≤ 100) (h2 : c ≤ b) : ((a + c) ≤ 1000) := by lia
theorem z347 {a : Int} (h0 : (2 ≤ a) ∧ (a ≤ 401)) : (0 ≤ a) := by lia
theorem z348 {a b : Nat} (h0 : a ≤ 100) (h1 : b ≤ 100) : ((a + b) ≤ 500) := by lia
theorem z349 {a : Nat} (h0 : a ≤ 35) : (a ≤ 40) := by lia
theorem z350 {a : Nat} (h0 : a ≤ 35) : (a ≤ 39) := by lia
theorem z351 {a : Nat} (h0 : a ≤ 100) : (a ≤ 500) := by lia
theorem z352 {a : Nat} (h0 : 8 ≤ a) : (0 < (a : Int)) := by simp; lia
theorem z353 {a : Int} : ((-(2 ^ 62)) ≤ (1 + (a % 5))) := by lia
theorem z354 {a : Int} : ((1 + (a % 5)) < (2 ^ 62)) := by lia
theorem z355 {a : Int} : ((Int.toNat (1 + (a % 5))) ≤ 1000) := by simp; lia
theorem z356 {a b : Nat} {c : Int} (h0 : 8 ≤ a) (h1 : (b < (Int.toNat (1 + (c % 5))))) : ((b : Int) < (a : Int)) := by grind
theorem z357 {a : Int} (h0 : 0 ≤ a) : (2 ≤ (Int.toNat (2 + a))) := by lia
theorem z358 {a b : Int} (h0 : a ≤ 398) (h1 : b < a) : ((Int.toNat (2 + b)) ≤ 401) := by simp; lia
theorem z359 {a b : Nat} {c : Int} (h0 : a = b) (h1 : (b = (Int.toNat (1 + (c % 5))))) : (1 ≤ a) := by lia
theorem z360 {a b : Nat} {c : Int} (h0 : a = b) (h1 : (b = (Int.toNat (1 + (c % 5))))) : (a ≤ 5) := by grind
theorem z361 {a : Int} (h0 : 1 ≤ a) (h1 : a ≤ (10 ^ 30)) : ((Int.natAbs a) < (10 ^ 32)) := by grind
theorem z362 {a : Nat} {b : Int} (h0 : a ≤ 50) (h1 : 2 ≤ b) (h2 : b ≤ ((10 ^ 16) + (a : Int))) : ((Int.natAbs b) < (10 ^ 32)) := by grind
theorem z363 {a : Nat} {b : Int} (h0 : a ≤ 50) (h1 : 2 ≤ b) (h2 : (b ≤ (1000000 + (10 * (a : Int))))) : ((Int.natAbs b) < (10 ^ 32)) := by grind
theorem z364 {a : Int} (h0 : 1 ≤ a) : (1 ≤ a) := by omega
theorem z365 {a : Int} (h0 : 1 ≤ a) : ((-(2 ^ 62)) ≤ a) := by simp; lia
theorem z366 {a : Int} (h0 : a ≤ 100) : (a < (2 ^ 62)) := by omega
theorem z367 {a : Nat} {b : Int} (h0 : a ≤ 50) (h1 : 2 ≤ b) (h2 : (b ≤ (1000000 + (10 * (a : Int))))) : ((Int.natAbs b) < 10000000) := by grind
theorem z368 {a b c : Int} (h0 : a < b) (h1 : b ≤ c) : (¬ (c = a)) := by lia
theorem z369 {a : Nat} {b : Int} (h0 : a ≤ 50) (h1 : (b ≤ (((10 ^ 30) - 2000) + (a : Int)))) : (b ≤ (10 ^ 32)) := by simp; lia
theorem z370 {a b : Nat} (h0 : a ≤ 50) (h1 : b ≤ (10 + a)) : (b ≤ 1000) := by lia
theorem z371 {a : Int} (h0 : a ≤ (10 ^ 32)) : ((a - 1) ≤ (10 ^ 32)) := by simp; lia
theorem z372 {a b : Int} (h0 : 1 < a) (h1 : a < (b - 1)) : (b ≠ 0) := by lia
theorem z373 {a b : Int} (h0 : 1 < a) (h1 : a < (b - 1)) : (0 ≤ b) := by lia
theorem z374 {b : Nat} {a : Int} (h0 : a ≤ ((10 ^ 16) + (b : Int))) : (a ≤ ((10 ^ 16) + (((b + 1) : Nat) : Int))) := by simp; lia
theorem z375 {b : Nat} {a c : Int} (h0 : ((2 ≤ a) ∧ ((a ≤ (1000000 + (10 * (b : Int)))) ∧ ((1 ≤ c) ∧ (c ≤ 100))))) : ((2 ≤ a) ∧ ((a ≤ (1000000 + (10 * (((b + 1) : Nat) : Int)))) ∧ ((1 ≤ c) ∧ (c ≤ 100)))) := by simp; lia
theorem z376 {b : Nat} {a : Int} (h0 : (a ≤ (((10 ^ 30) - 2000) + (b : Int)))) : (a ≤ (((10 ^ 30) - 2000) + (((b + 1) : Nat) : Int))) := by simp; lia
theorem z377 {a : Nat} (h0 : 1 ≤ a) : ((0 ≤ ((-1) + (a : Int))) ∧ ((Int.toNat ((-1) + (a : Int))) = (a - 1))) := by grind
theorem z378 {a b : Nat} (h0 : (a + 1) ≤ b) : (((a + (b - (a + 1))) + 1) = b) := by grind
theorem z379 {a b : Int} (h0 : 2 ≤ a) : (2 ≤ ((a + 1) - (b % 2))) := by lia
theorem z380 {b : Nat} {a c : Int} (h0 : a ≤ ((10 ^ 16) + (b : Int))) : (((a + 1) - (c % 2)) ≤ ((10 ^ 16) + (((b + 1) : Nat) : Int))) := by simp; lia
theorem z381 {a b : Int} (h0 : 2 ≤ a) : (2 ≤ (a + (b % 2))) := by lia
theorem z382 {b : Nat} {a c : Int} (h0 : a ≤ ((10 ^ 16) + (b : Int))) : ((a + (c % 2)) ≤ ((10 ^ 16) + (((b + 1) : Nat) : Int))) := by simp; lia
theorem z383 {a : Int} : (1 ≤ (1 + (a % 3))) := by lia
theorem z384 {a : Int} : ((1 + (a % 3)) ≤ (10 ^ 30)) := by lia
theorem z385 {a : Nat} {b : Int} (h0 : a ≤ 50) (h1 : (b ≤ (((10 ^ 30) - 2000) + (a : Int)))) : ((b - 1) ≤ (10 ^ 30)) := by simp; lia
theorem z386 : ((1 : Int) ≤ ((10 : Int) ^ (30 : Nat))) := by simp
theorem z387 {a : Nat} {b : Int} (h0 : a ≤ 50) (h1 : (b ≤ (((10 ^ 30) - 2000) + (a : Int)))) : (b ≤ (10 ^ 30)) := by simp; lia
theorem z388 {a b : Nat} (h0 : a ≤ 50) (h1 : b ≤ (10 + (a + 1))) : (b ≤ 1000) := by lia
theorem z389 {b : Nat} {a : Int} (h0 : a < (b : Int)) : (a < (b : Int)) := by omega
theorem z390 {b : Nat} {a : Int} (h0 : 0 ≤ a) (h1 : a < (b : Int)) (h2 : b = 0) : False := by lia
theorem z391 {a : Int} : (1 ≤ ((a % 100) + 1)) := by lia
theorem z392 {a : Int} : (((a % 100) + 1) ≤ 100) := by lia
theorem z393 {b : Nat} {a : Int} (h0 : 0 ≤ a) (h1 : a < (b : Int)) : (1 ≤ b) := by lia
theorem z394 {a b : Nat} (h0 : a ≤ 50) (h1 : b ≤ (10 + a)) : (b ≤ 999) := by lia
theorem z395 {a b : Int} (h0 : 2 ≤ a) : (2 ≤ ((a + 1) + (b % 9))) := by lia
theorem z396 {b : Nat} {a c : Int} (h0 : (a ≤ (1000000 + (10 * (b : Int))))) : (((a + 1) + (c % 9)) ≤ (1000000 + (10 * (((b + 1) : Nat) : Int)))) := by simp; lia
theorem z397 {a b c : Int} (h0 : a ≤ b) : (a < ((b + 1) + (c % 9))) := by lia
theorem z398 {a : Nat} {b : Int} (h0 : a ≤ 50) (h1 : (b ≤ (1000000 + (10 * (a : Int))))) : (b < (10 ^ 32)) := by simp; lia
theorem z399 {a : Int} (h0 : 2 ≤ a) : (0 < a) := by lia
theorem z400 {a : Nat} {b c : Int} (h0 : a ≤ 50) (h1 : (b ≤ (((10 ^ 30) - 2000) + (a : Int)))) (h2 : c < b) : (c ≤ (10 ^ 30)) := by simp; lia
theorem z401 {a b c d : Nat} (h0 : a ≤ 1000) (h1 : (a : Int) = (b : Int)) (h2 : ((c + d) + 1) = b) : ((c + d) ≤ 1000) := by lia
theorem z402 {a b c d : Nat} (h0 : a ≤ (10 + b)) (h1 : ((c + d) + 1) = a) : ((c + d) ≤ (10 + (b + 1))) := by lia
theorem z403 {a b c : Nat} (h0 : 1 < (a : Int)) (h1 : ((b + c) + 1) = a) (h2 : (b + c) = 0) : False := by lia
theorem z404 {a b : Nat} (h0 : 1 ≤ a) (h1 : (b : Int) = (a : Int)) : ((b : Int) ≠ 0) := by lia
theorem z405 {a : Int} : (0 ≤ ((a / 64) % 10)) := by lia
theorem z406 {a : Int} : (((a / 64) % 10) < 10) := by lia
theorem z407 {a b c : Nat} (h0 : 1 ≤ ((a + b) + c)) (h1 : ((a + b) + c) = 0) : False := by lia
theorem z408 {a b c d : Nat} (h0 : a ≤ 63) (h1 : ((b + c) + 1) = a) (h2 : d ≤ 1) : (((b + d) + c) ≤ 63) := by lia
theorem z409 {a : Int} : (0 ≤ (a % 8)) := by lia
theorem z410 {a : Int} : ((a % 8) < 8) := by lia
theorem z411 {a b c : Nat} (h0 : a ≤ 63) (h1 : ((b + c) + 1) = a) : (b ≤ 999) := by lia
theorem z412 {a b c : Nat} (h0 : a ≤ 63) (h1 : ((b + c) + 1) = a) : (((b + 1) + c) ≤ 1000) := by lia
theorem z413 {a b : Nat} : (1 ≤ ((a + 1) + b)) := by lia
theorem z414 {b : Nat} {a : Int} (h0 : (a ≤ (((10 ^ 30) - 2000) + (b : Int)))) : ((a + 1) ≤ (((10 ^ 30) - 2000) + (((b + 1) : Nat) : Int))) := by simp; lia
theorem z415 {b : Nat} {a : Int} (h0 : a = ((b : Int) - 1)) : ((min (Int.toNat (a + 1)) b) = b) := by grind
theorem z416 {b : Nat} {a : Int} (h0 : 0 ≤ a) (h1 : a < (b : Int)) (h2 : (¬ (a = ((b : Int) - 1)))) : ((Int.toNat (a + 1)) < b) := by grind
theorem z417 {a b c : Nat} (h0 : a ≤ 63) (h1 : ((b + c) + 1) = a) : ((b + c) ≤ 1000) := by lia
theorem z418 {a b c : Nat} (h0 : ((a + b) + 1) = c) (h1 : 1 < (c : Int)) : (1 ≤ (a + b)) := by lia
theorem z419 {a b : Nat} (h0 : (a + 1) ≤ b) : (b = ((b - 1) + 1)) := by lia
theorem z420 {a b : Int} (h0 : a ≤ b) : (a ≤ b) := by omega
theorem z421 {a : Nat} {b c : Int} (h0 : a ≤ 50) (h1 : (b ≤ (((10 ^ 30) - 2000) + (a : Int)))) (h2 : c = 1000000000000000000000000000000) : (b ≤ c) := by lia
theorem z422 {a : Nat} {b c : Int} (h0 : a ≤ 50) (h1 : b = 1000000000000000000000000000000) (h2 : (c ≤ (1000000 + (10 * (a : Int))))) : (c ≤ b) := by lia
theorem z423 {a : Nat} {b c : Int} (h0 : a ≤ 50) (h1 : b = 1000000000000000000000000000000) (h2 : c ≤ ((10 ^ 16) + (a : Int))) : (c ≤ b) := by lia
theorem z424 {a b : Nat} (h0 : a ≤ b) : (a ≤ b) := by omega
theorem z425 {a b : Int} (h0 : a < ((10 ^ 30) - 2000)) (h1 : b ≤ a) : (b ≤ (10 ^ 30)) := by simp; lia
theorem z426 {a : Nat} (h0 : a ≤ 10) : (a ≤ (10 + 0)) := by omega
theorem z427 {a b : Int} (h0 : ((2 ≤ a) ∧ ((a ≤ 20000) ∧ ((1 ≤ b) ∧ (b ≤ 100))))) : ((2 ≤ a) ∧ ((a ≤ (1000000 + (10 * ((0 : Nat) : Int)))) ∧ ((1 ≤ b) ∧ (b ≤ 100)))) := by simp; lia
theorem z428 {a b : Int} (h0 : a = b) (h1 : (2 * 2) ≤ b) : (2 ≤ a) := by lia
theorem z429 {a b : Nat} (h0 : a ≤ 62) (h1 : b ≤ (a + 1)) : (b ≤ 63) := by lia
theorem z430 {a b : Int} (h0 : ((2 ≤ a) ∧ ((a ≤ 20000) ∧ ((1 ≤ b) ∧ (b ≤ 100))))) : (1 ≤ a) := by omega
theorem z431 {a b : Int} (h0 : ((2 ≤ a) ∧ ((a ≤ 20000) ∧ ((1 ≤ b) ∧ (b ≤ 100))))) : (1 ≤ (Int.toNat b)) := by grind
theorem z432 {a b c d : Int} (h0 : a = (b - 1)) (h1 : c ≤ a) (h2 : d ≤ c) : (d < b) := by lia
theorem z433 {a b : Int} (h0 : ((2 ≤ a) ∧ ((a ≤ 20000) ∧ ((1 ≤ b) ∧ (b ≤ 100))))) : (0 ≤ a) := by lia
theorem z434 {a : Nat} : (a ≤ (a + 1)) := Nat.le_add_right a 1
theorem z435 {a b c d : Nat} (h0 : a ≤ (b + c)) (h1 : b ≤ (d + 1)) : (a ≤ (d + (c + 1))) := by lia
theorem z436 {a : Nat} (h0 : a ≤ 1000) : (a ≤ 1000) := by omega
theorem z437 {a : Nat} (h0 : a ≤ 700) : (a ≤ 1000) := by lia
theorem z438 {a : Nat} (h0 : a ≤ 700) : (a < 5000) := by lia
theorem z439 {a b : Nat} (h0 : a ≤ 700) (h1 : b ≤ a) : (b ≤ 1000) := by lia
theorem z440 {a b c d e f : Nat} (h0 : a ≤ 700) (h1 : (b + c) ≤ a) (h2 : d ≤ (e + f)) (h3 : e ≤ b) (h4 : f ≤ c) : (d ≤ 1000) := by lia
theorem z441 {a : Nat} (h0 : a ≤ 3) : ((max ((max 0 (max 0 0)) + 1) a) ≤ 3) := by simp; lia
theorem z442 {a : Nat} (h0 : a ≤ 3) : (((max 0 (max 0 (max ((max 0 (max (a + 1) 0)) + 1) 0))) + 1) ≤ 8) := by simp; lia
theorem z443 {a b c : Nat} (h0 : a ≤ (b + 1)) (h1 : c ≤ b) : ((max c a) ≤ (b + 1)) := by grind
theorem z444 {a : Nat} (h0 : a ≤ 10) : (a ≤ 100) := by lia
theorem z445 {a : Nat} (h0 : a ≤ (10 + 1)) : ((a + 1) ≤ 100) := by simp; lia
theorem z446 {a b c d : Nat} (h0 : a ≤ b) (h1 : c ≤ d) : ((c + a) ≤ (b + d)) := by lia
theorem z447 {a : Nat} (h0 : a ≤ 3) : (a ≤ 5) := by lia
theorem z448 {a b : Nat} (h0 : a ≤ (b * 63)) (h1 : (b * 63) ≤ (3 * 63)) : (a ≤ 700) := by lia
theorem z449 {a : Nat} (h0 : a ≤ 3) : (((a + (0 + 1)) + 1) ≤ 5) := by simp; lia
theorem z450 {a b : Nat} (h0 : a ≤ 199) (h1 : b = a) : (b ≤ 200) := by lia
theorem z451 {a b c d e : Nat} (h0 : a ≤ 199) (h1 : b ≤ (c * 63)) (h2 : (c * 63) ≤ (3 * 63)) (h3 : d = 200) (h4 : e = a) : ((d + (b + e)) ≤ 700) := by lia
theorem z452 {a : Nat} : (2 ≤ (500 + (a : Int))) := by lia
theorem z453 {a : Nat} (h0 : a < 200) : ((500 + (a : Int)) ≤ (((10 ^ 30) - 2000) + ((1 : Nat) : Int))) := by simp; lia
theorem z454 {a : Nat} : (1 ≤ (1 + (a : Int))) := Int.le.intro a rfl
theorem z455 {a : Nat} (h0 : a < 200) : ((1 + (a : Int)) ≤ (10 ^ 30)) := by lia
theorem z456 {a : Nat} : (2 ≤ (450 + (2 * (a : Int)))) := by lia
theorem z457 {a b : Nat} (h0 : a ≤ 199) (h1 : b < a) : ((450 + (2 * (b : Int))) ≤ (((10 ^ 30) - 2000) + ((1 : Nat) : Int))) := by simp; lia
theorem z458 {a : Nat} : (1 ≤ (3 + (a : Int))) := by lia
theorem z459 {a b : Nat} (h0 : a ≤ 199) (h1 : b < a) : ((3 + (b : Int)) ≤ (10 ^ 30)) := by lia
theorem z460 {a b c : Nat} (h0 : a ≤ b) (h1 : b ≤ (c * 63)) (h2 : (c * 63) ≤ (3 * 63)) : (a ≤ 200) := by lia
theorem z461 {a : Nat} (h0 : a ≤ 200) (h1 : 1 ≤ a) : ((1 ≤ (a : Int)) ∧ ((a : Int) ≤ 200)) := by lia
theorem z462 {a b c : Nat} (h0 : a ≤ b) : ((min (a - c) (b - c)) = (a - c)) := by grind
theorem z463 {a : Nat} (h0 : a ≤ 5) : (a ≤ 1000) := by lia
theorem z464 {a b : Int} (h0 : (0 ≤ a) ∧ (a < 2147483647)) : ((0 ≤ (((a / 6) * 6) + (b % 6))) ∧ ((((a / 6) * 6) + (b % 6)) < 4294967296)) := by lia
theorem z465 {a : Nat} (h0 : a ≤ 3) : (a ≤ 1000) := by lia
theorem z466 : ((9 : Int) < (((10 : Nat) : Nat) : Int)) := by simp
theorem z467 : ((8 : Int) < (((10 : Nat) : Nat) : Int)) := by simp
theorem z468 {a : Int} : ((-(2 ^ 62)) ≤ (150 + (a % 50))) := by lia
theorem z469 {a : Int} : ((150 + (a % 50)) < (2 ^ 62)) := by lia
theorem z470 {a : Int} : ((150 + (a % 50)) = (((Int.toNat (150 + (a % 50))) : Nat) : Int)) := by grind
theorem z471 {b : Nat} {a : Int} (h0 : (150 + (a % 50)) = (b : Int)) : (b ≤ 1000) := by lia
theorem z472 {a : Nat} (h0 : a ≤ 3) : (a ≤ 999) := by lia
theorem z473 {b : Nat} {a : Int} (h0 : (150 + (a % 50)) = (b : Int)) : (b ≤ 199) := by lia
theorem z474 {a : Nat} (h0 : 0 < (a : Int)) : (0 < (a : Int)) := by omega
theorem z475 {a : Int} (h0 : 0 ≤ a) : (0 ≤ (a / 9)) := by lia
theorem z476 {a : Int} : ((-(2 ^ 62)) ≤ (a % 4)) := by lia
theorem z477 {a : Int} : ((a % 4) < (2 ^ 62)) := by lia
theorem z478 {a : Nat} {b : Int} (h0 : a < (Int.toNat (b % 4))) : (a < 3) := by lia
theorem z479 {a : Nat} (h0 : a ≤ (40 + 1)) : (a ≤ 1000) := by lia
theorem z480 {a b : Nat} (h0 : a = b) (h1 : b ≤ 3) : (a ≤ 1000) := by lia
theorem z481 {a : Nat} : (0 ≤ (1 + (10 * (a : Int)))) := Int.zero_le_ofNat (1 + 10 * a)
theorem z482 {a : Nat} : ((Int.toNat (1 + (a : Int))) = (1 + a)) := Eq.symm (Nat.add_zero (Nat.add 1 a))
theorem z483 {a : Nat} : (0 ≤ (1 + (a : Int))) := Int.zero_le_ofNat (1 + a)
theorem z484 {a b : Nat} (h0 : a ≤ 10) (h1 : b ≤ 10) : ((a + b) ≤ 1000) := by lia
theorem z485 {a b c : Nat} (h0 : a ≤ 10) (h1 : b ≤ 10) (h2 : c ≤ 10) : (((a + b) + c) ≤ 1000) := by lia
theorem z486 {a : Nat} (h0 : (¬ (((63 : Nat) : Int) < (a : Int)))) : (a ≤ 63) := by omega
end Mine
namespace Mine
open PySem PySem.W PyProof.Rows
set_option Elab.async false
set_option maxRecDepth 100000
noncomputable def topRunT (tb : String → Option Builtin) (p : Program) (w : World) (n₀ : Nat) (ann : Option Value) : Nat → SharedT → Thread → Option SharedT
  | 0,_,_=>none
  | n + 1,s,t=>match through t with
    | true=>some s
    | false=>match stepOk n₀ ann t with
      | false=>none
      | true=>match stepT (denote tb) p w s t with
        | some (s',t')=>topRunT tb p w n₀ ann n s' t'
        | none=>none
theorem topRunT_spec {tb : String → Option Builtin} {p : Program} {w : World} {n₀ : Nat} {ann : Option Value} :
    ∀ {n : Nat} {s s' : SharedT} {t : Thread},topRunT tb p w n₀ ann n s t = some s' → topRun tb p w n₀ ann n s.abs t = some s'.abs
  | 0,_,_,_,h=>by cases h
  | n + 1,s,s',t,h=>by
    unfold topRunT at h
    unfold topRun
    cases he : through t with
    | true=>rw [he] at h; cases h; rfl
    | false =>
      rw [he] at h
      cases hk : stepOk n₀ ann t with
      | false=>rw [hk] at h; cases h
      | true =>
        rw [hk] at h
        cases hs : stepT (denote tb) p w s t with
        | none=>rw [hs] at h; cases h
        | some r=>obtain ⟨s₂,t₂⟩ := r; rw [hs] at h; rw [stepT_spec hs]; exact topRunT_spec h
noncomputable def putAll : List Obj → Nat → BT → BT
  | [],_,t=>t
  | o :: l,n,t=>putAll l (n + 1) (t.ins n o)
noncomputable def bootTree (P : Params) : BT := putAll (boot_heap P).objs.toList 0 .nil
noncomputable def bootLife (P : Params) : Life := (boot_heap P).life
noncomputable def bootT (P : Params) (n : Nat) (os : OsState) : SharedT := ⟨bootTree P,n,bootLife P,Array.mk [],boot_drawn,boot_toks,os⟩
theorem boot_abs (P : Params) : absHeap (bootTree P) (boot_heap P).objs.size (bootLife P) = boot_heap P := by kernel_rfl
theorem boot_seen (P : Params) : (boot_heap P).isNs mainGlobals = true := by kernel_rfl
noncomputable def headOf (p q : Program) (loose : List Str) (Xt : Shared → Bool) (M : Nat) (w : World) (os : OsState) :=
  (topRunT treeTable p w (boot_heap w.params).objs.size ((boot_heap w.params).nsMap mainGlobals "__annotations__") M (bootT w.params (boot_heap w.params).objs.size os) (topStub p)).map fun sT =>
    (staticsOk (importedModules p.main.body) (boot_heap w.params) sT.abs.heap && namesBound p sT.abs.heap && gensDone sT.abs && laidKept (boot_heap w.params) sT.abs.heap,
      openSeen q loose (importedModules p.main.body) Xt true sT.abs)
set_option maxHeartbeats 4000000 in
theorem lay1 : Function.const _ true (@headOf) = true := by k_qdec
theorem left_of_head {p q : Program} {loose : List Str} {Xt : Shared → Bool} {M N : Nat} (e : opening p = plainProg p.main.scope.names) (hN : Nat.ble 600 N = true)
    (f : ∀ s,fenceModules? p s = some s) (le : Nat.ble M N = true) (h : ∀ w os,headOf p q loose Xt M w os = some (true,openGood q loose)) :
    LeftO p q loose Xt (Hook.obs Hook.none) (Hook.val Hook.none) N := fun w=>by
  obtain ⟨⟨hp,gs,d,k,os⟩,e1,e2⟩ := Option.map_eq_some_iff.mp (boot_open e hN f w)
  obtain ⟨rfl,rfl,rfl,rfl⟩ : hp = boot_heap w.params ∧ gs = Array.mk [] ∧ d = boot_drawn ∧ k = boot_toks := by simpa using e2
  obtain ⟨sT,r,l⟩ := Option.map_eq_some_iff.mp (h w os)
  have l1 := congrArg Prod.fst l
  have l2 := congrArg Prod.snd l
  dsimp only at l1 l2
  have r := topRunT_spec r
  have ea : (bootT w.params (boot_heap w.params).objs.size os).abs = ⟨boot_heap w.params,Array.mk [],boot_drawn,boot_toks,os⟩ := by
    unfold bootT SharedT.abs
    dsimp only
    rw [boot_abs]
  rw [ea] at r
  have r := topRun_mono (N - M) _ _ _ _ r
  rw [show M + (N - M) = N by have := Nat.le_of_ble_eq_true le; (first | lia | omega)] at r
  have z1 := boot_seen w.params
  unfold openEnds
  rw [e1]
  show Option.map _ (topFrom treeTable p w N ⟨boot_heap w.params,Array.mk [],boot_drawn,boot_toks,os⟩) = _
  have t : topFrom treeTable p w N ⟨boot_heap w.params,Array.mk [],boot_drawn,boot_toks,os⟩ = some sT.abs := by
    unfold topFrom
    dsimp only
    rw [z1,r]
    show (match staticsOk (importedModules p.main.body) (boot_heap w.params) sT.abs.heap && namesBound p sT.abs.heap && gensDone sT.abs && laidKept (boot_heap w.params) sT.abs.heap with | true=>_ | false=>_) = _
    rw [l1]
  rw [t]
  exact congrArg some (Prod.ext l2 rfl)
end Mine
namespace Mine
theorem x0_2  {p0 p1 : Prop} {G : Prop} (h : p0 ∧ p1) (g : p0 → p1 → G) : G := by
  obtain ⟨h0,h1⟩ := h; exact g h0 h1
theorem x0_3  {p0 p1 p2 : Prop} {G : Prop} (h : p0 ∧ p1 ∧ p2) (g : p0 → p1 → p2 → G) : G := by
  obtain ⟨h0,h1,h2⟩ := h; exact g h0 h1 h2
theorem x0_5  {p0 p1 p2 p3 p4 : Prop} {G : Prop} (h : p0 ∧ p1 ∧ p2 ∧ p3 ∧ p4) (g : p0 → p1 → p2 → p3 → p4 → G) : G := by
  obtain ⟨h0,h1,h2,h3,h4⟩ := h; exact g h0 h1 h2 h3 h4
theorem x1_1 {α0 : Sort _} {p0 : α0 → Prop} {G : Prop} (h : ∃ a0,p0 a0) (g : ∀ a0,p0 a0 → G) : G := by
  obtain ⟨a0,h0⟩ := h; exact g a0 h0
theorem x1_2 {α0 : Sort _} {p0 p1 : α0 → Prop} {G : Prop} (h : ∃ a0,p0 a0 ∧ p1 a0) (g : ∀ a0,p0 a0 → p1 a0 → G) : G := by
  obtain ⟨a0,h0,h1⟩ := h; exact g a0 h0 h1
theorem x1_3 {α0 : Sort _} {p0 p1 p2 : α0 → Prop} {G : Prop} (h : ∃ a0,p0 a0 ∧ p1 a0 ∧ p2 a0) (g : ∀ a0,p0 a0 → p1 a0 → p2 a0 → G) : G := by
  obtain ⟨a0,h0,h1,h2⟩ := h; exact g a0 h0 h1 h2
theorem x1_4 {α0 : Sort _} {p0 p1 p2 p3 : α0 → Prop} {G : Prop} (h : ∃ a0,p0 a0 ∧ p1 a0 ∧ p2 a0 ∧ p3 a0) (g : ∀ a0,p0 a0 → p1 a0 → p2 a0 → p3 a0 → G) : G := by
  obtain ⟨a0,h0,h1,h2,h3⟩ := h; exact g a0 h0 h1 h2 h3
theorem x1_6 {α0 : Sort _} {p0 p1 p2 p3 p4 p5 : α0 → Prop} {G : Prop} (h : ∃ a0,p0 a0 ∧ p1 a0 ∧ p2 a0 ∧ p3 a0 ∧ p4 a0 ∧ p5 a0) (g : ∀ a0,p0 a0 → p1 a0 → p2 a0 → p3 a0 → p4 a0 → p5 a0 → G) : G := by
  obtain ⟨a0,h0,h1,h2,h3,h4,h5⟩ := h; exact g a0 h0 h1 h2 h3 h4 h5
theorem x2_1 {α0 : Sort _} {α1 : Sort _} {p0 : α0 → α1 → Prop} {G : Prop} (h : ∃ a0 a1,p0 a0 a1) (g : ∀ a0 a1,p0 a0 a1 → G) : G := by
  obtain ⟨a0,a1,h0⟩ := h; exact g a0 a1 h0
theorem x2_2 {α0 : Sort _} {α1 : Sort _} {p0 p1 : α0 → α1 → Prop} {G : Prop} (h : ∃ a0 a1,p0 a0 a1 ∧ p1 a0 a1) (g : ∀ a0 a1,p0 a0 a1 → p1 a0 a1 → G) : G := by
  obtain ⟨a0,a1,h0,h1⟩ := h; exact g a0 a1 h0 h1
theorem x2_3 {α0 : Sort _} {α1 : Sort _} {p0 p1 p2 : α0 → α1 → Prop} {G : Prop} (h : ∃ a0 a1,p0 a0 a1 ∧ p1 a0 a1 ∧ p2 a0 a1) (g : ∀ a0 a1,p0 a0 a1 → p1 a0 a1 → p2 a0 a1 → G) : G := by
  obtain ⟨a0,a1,h0,h1,h2⟩ := h; exact g a0 a1 h0 h1 h2
theorem x2_4 {α0 : Sort _} {α1 : Sort _} {p0 p1 p2 p3 : α0 → α1 → Prop} {G : Prop} (h : ∃ a0 a1,p0 a0 a1 ∧ p1 a0 a1 ∧ p2 a0 a1 ∧ p3 a0 a1) (g : ∀ a0 a1,p0 a0 a1 → p1 a0 a1 → p2 a0 a1 → p3 a0 a1 → G) : G := by
  obtain ⟨a0,a1,h0,h1,h2,h3⟩ := h; exact g a0 a1 h0 h1 h2 h3
theorem x2_5 {α0 : Sort _} {α1 : Sort _} {p0 p1 p2 p3 p4 : α0 → α1 → Prop} {G : Prop} (h : ∃ a0 a1,p0 a0 a1 ∧ p1 a0 a1 ∧ p2 a0 a1 ∧ p3 a0 a1 ∧ p4 a0 a1) (g : ∀ a0 a1,p0 a0 a1 → p1 a0 a1 → p2 a0 a1 → p3 a0 a1 → p4 a0 a1 → G) : G := by
  obtain ⟨a0,a1,h0,h1,h2,h3,h4⟩ := h; exact g a0 a1 h0 h1 h2 h3 h4
theorem x3_1 {α0 : Sort _} {α1 : Sort _} {α2 : Sort _} {p0 : α0 → α1 → α2 → Prop} {G : Prop} (h : ∃ a0 a1 a2,p0 a0 a1 a2) (g : ∀ a0 a1 a2,p0 a0 a1 a2 → G) : G := by
  obtain ⟨a0,a1,a2,h0⟩ := h; exact g a0 a1 a2 h0
theorem x3_2 {α0 : Sort _} {α1 : Sort _} {α2 : Sort _} {p0 p1 : α0 → α1 → α2 → Prop} {G : Prop} (h : ∃ a0 a1 a2,p0 a0 a1 a2 ∧ p1 a0 a1 a2) (g : ∀ a0 a1 a2,p0 a0 a1 a2 → p1 a0 a1 a2 → G) : G := by
  obtain ⟨a0,a1,a2,h0,h1⟩ := h; exact g a0 a1 a2 h0 h1
theorem x3_3 {α0 : Sort _} {α1 : Sort _} {α2 : Sort _} {p0 p1 p2 : α0 → α1 → α2 → Prop} {G : Prop} (h : ∃ a0 a1 a2,p0 a0 a1 a2 ∧ p1 a0 a1 a2 ∧ p2 a0 a1 a2) (g : ∀ a0 a1 a2,p0 a0 a1 a2 → p1 a0 a1 a2 → p2 a0 a1 a2 → G) : G := by
  obtain ⟨a0,a1,a2,h0,h1,h2⟩ := h; exact g a0 a1 a2 h0 h1 h2
theorem x3_4 {α0 : Sort _} {α1 : Sort _} {α2 : Sort _} {p0 p1 p2 p3 : α0 → α1 → α2 → Prop} {G : Prop} (h : ∃ a0 a1 a2,p0 a0 a1 a2 ∧ p1 a0 a1 a2 ∧ p2 a0 a1 a2 ∧ p3 a0 a1 a2) (g : ∀ a0 a1 a2,p0 a0 a1 a2 → p1 a0 a1 a2 → p2 a0 a1 a2 → p3 a0 a1 a2 → G) : G := by
  obtain ⟨a0,a1,a2,h0,h1,h2,h3⟩ := h; exact g a0 a1 a2 h0 h1 h2 h3
theorem x3_5 {α0 : Sort _} {α1 : Sort _} {α2 : Sort _} {p0 p1 p2 p3 p4 : α0 → α1 → α2 → Prop} {G : Prop} (h : ∃ a0 a1 a2,p0 a0 a1 a2 ∧ p1 a0 a1 a2 ∧ p2 a0 a1 a2 ∧ p3 a0 a1 a2 ∧ p4 a0 a1 a2) (g : ∀ a0 a1 a2,p0 a0 a1 a2 → p1 a0 a1 a2 → p2 a0 a1 a2 → p3 a0 a1 a2 → p4 a0 a1 a2 → G) : G := by
  obtain ⟨a0,a1,a2,h0,h1,h2,h3,h4⟩ := h; exact g a0 a1 a2 h0 h1 h2 h3 h4
theorem x4_2 {α0 : Sort _} {α1 : Sort _} {α2 : Sort _} {α3 : Sort _} {p0 p1 : α0 → α1 → α2 → α3 → Prop} {G : Prop} (h : ∃ a0 a1 a2 a3,p0 a0 a1 a2 a3 ∧ p1 a0 a1 a2 a3) (g : ∀ a0 a1 a2 a3,p0 a0 a1 a2 a3 → p1 a0 a1 a2 a3 → G) : G := by
  obtain ⟨a0,a1,a2,a3,h0,h1⟩ := h; exact g a0 a1 a2 a3 h0 h1
theorem x4_3 {α0 : Sort _} {α1 : Sort _} {α2 : Sort _} {α3 : Sort _} {p0 p1 p2 : α0 → α1 → α2 → α3 → Prop} {G : Prop} (h : ∃ a0 a1 a2 a3,p0 a0 a1 a2 a3 ∧ p1 a0 a1 a2 a3 ∧ p2 a0 a1 a2 a3) (g : ∀ a0 a1 a2 a3,p0 a0 a1 a2 a3 → p1 a0 a1 a2 a3 → p2 a0 a1 a2 a3 → G) : G := by
  obtain ⟨a0,a1,a2,a3,h0,h1,h2⟩ := h; exact g a0 a1 a2 a3 h0 h1 h2
theorem x5_3 {α0 : Sort _} {α1 : Sort _} {α2 : Sort _} {α3 : Sort _} {α4 : Sort _} {p0 p1 p2 : α0 → α1 → α2 → α3 → α4 → Prop} {G : Prop} (h : ∃ a0 a1 a2 a3 a4,p0 a0 a1 a2 a3 a4 ∧ p1 a0 a1 a2 a3 a4 ∧ p2 a0 a1 a2 a3 a4) (g : ∀ a0 a1 a2 a3 a4,p0 a0 a1 a2 a3 a4 → p1 a0 a1 a2 a3 a4 → p2 a0 a1 a2 a3 a4 → G) : G := by
  obtain ⟨a0,a1,a2,a3,a4,h0,h1,h2⟩ := h; exact g a0 a1 a2 a3 a4 h0 h1 h2
end Mine
namespace Mine
section
variable {α : Type} (k : α → Int)
noncomputable def Asc (l : List α) : Prop := l.Pairwise fun x y=>k x ≤ k y
structure MI (t out A B : List α) : Prop where
  perm : (out ++ (A ++ B)).Perm t
  so : Asc k out
  sa : Asc k A
  sb : Asc k B
  le : ∀ x ∈ out,∀ y ∈ A ++ B,k x ≤ k y
variable {k}
theorem Asc.app {l m : List α} (h : Asc k (l ++ m)) : Asc k l ∧ Asc k m ∧ ∀ x ∈ l,∀ y ∈ m,k x ≤ k y := List.pairwise_append.mp h
theorem Asc.mk {l m : List α} (h1 : Asc k l) (h2 : Asc k m) (h3 : ∀ x ∈ l,∀ y ∈ m,k x ≤ k y) : Asc k (l ++ m) := List.pairwise_append.mpr ⟨h1,h2,h3⟩
theorem MI.left {t out P A B : List α} (h : MI k t out (P ++ A) B) (hp : ∀ p ∈ P,∀ y ∈ B,k p ≤ k y) : MI k t (out ++ P) A B := by
  refine x0_3 (h.sa.app) fun s1 s2 s3=>?_
  refine ⟨?_,Asc.mk h.so s1 fun x hx y hy=>h.le x hx y (by simp [hy]),s2,h.sb,fun x hx y hy=>?_⟩
  · rw [List.append_assoc,← List.append_assoc P]; exact h.perm
  · rcases List.mem_append.mp hx with hx | hx
    · exact h.le x hx y (by rcases List.mem_append.mp hy with z | z <;> simp [z])
    · rcases List.mem_append.mp hy with z | z
      · exact s3 x hx y z
      · exact hp x hx y z
theorem MI.right {t out P A B : List α} (h : MI k t out A (P ++ B)) (hp : ∀ p ∈ P,∀ y ∈ A,k p ≤ k y) : MI k t (out ++ P) A B := by
  refine x0_3 (h.sb.app) fun s1 s2 s3=>?_
  refine ⟨?_,Asc.mk h.so s1 fun x hx y hy=>h.le x hx y (by simp [hy]),h.sa,s2,fun x hx y hy=>?_⟩
  · refine List.Perm.trans ?_ h.perm
    rw [List.append_assoc]
    refine List.Perm.append_left out ?_
    rw [← List.append_assoc,← List.append_assoc]
    exact List.Perm.append_right B List.perm_append_comm
  · rcases List.mem_append.mp hx with hx | hx
    · exact h.le x hx y (by rcases List.mem_append.mp hy with z | z <;> simp [z])
    · rcases List.mem_append.mp hy with z | z
      · exact hp x hx y z
      · exact s3 x hx y z
theorem MI.done {t out A B : List α} (h : MI k t out A B) (e : A = [] ∨ B = []) : Asc k (out ++ A ++ B) ∧ (out ++ A ++ B).Perm t := by
  refine ⟨?_,by rw [List.append_assoc]; exact h.perm⟩
  rw [List.append_assoc]
  refine Asc.mk h.so ?_ h.le
  rcases e with rfl | rfl
  · exact h.sb
  · rw [List.append_nil]; exact h.sa
theorem MI.last {t out A B : List α} (h : MI k t out A B) (hl : ∀ x ∈ B,∀ y ∈ A,k x ≤ k y) : Asc k (out ++ B ++ A) ∧ (out ++ B ++ A).Perm t := by
  rw [List.append_assoc]
  refine ⟨Asc.mk h.so (Asc.mk h.sb h.sa hl) fun x hx y hy=>h.le x hx y (by rcases List.mem_append.mp hy with z | z <;> simp [z]),?_⟩
  exact (List.Perm.append_left out List.perm_append_comm).trans h.perm
structure MJ (k : α → Int) (t A B R : List α) : Prop where
  perm : ((A ++ B) ++ R).Perm t
  sr : Asc k R
  sa : Asc k A
  sb : Asc k B
  le : ∀ x ∈ A ++ B,∀ y ∈ R,k x ≤ k y
theorem MJ.left {t A P B R : List α} (h : MJ k t (A ++ P) B R) (hp : ∀ p ∈ P,∀ y ∈ B,k y ≤ k p) : MJ k t A B (P ++ R) := by
  refine x0_3 (h.sa.app) fun s1 s2 s3=>?_
  refine ⟨?_,Asc.mk s2 h.sr fun x hx y hy=>h.le x (by simp [hx]) y hy,s1,h.sb,fun x hx y hy=>?_⟩
  · refine List.Perm.trans ?_ h.perm
    rw [← List.append_assoc]
    refine List.Perm.append_right R ?_
    rw [List.append_assoc,List.append_assoc]
    exact List.Perm.append_left A List.perm_append_comm
  · rcases List.mem_append.mp hy with hy | hy
    · rcases List.mem_append.mp hx with z | z
      · exact s3 x z y hy
      · exact hp y hy x z
    · exact h.le x (by rcases List.mem_append.mp hx with z | z <;> simp [z]) y hy
theorem MJ.right {t A P B R : List α} (h : MJ k t A (B ++ P) R) (hp : ∀ p ∈ P,∀ y ∈ A,k y ≤ k p) : MJ k t A B (P ++ R) := by
  refine x0_3 (h.sb.app) fun s1 s2 s3=>?_
  refine ⟨?_,Asc.mk s2 h.sr fun x hx y hy=>h.le x (by simp [hx]) y hy,h.sa,s1,fun x hx y hy=>?_⟩
  · refine List.Perm.trans ?_ h.perm
    rw [← List.append_assoc]
    refine List.Perm.append_right R ?_
    rw [List.append_assoc]
  · rcases List.mem_append.mp hy with hy | hy
    · rcases List.mem_append.mp hx with z | z
      · exact hp y hy x z
      · exact s3 x z y hy
    · exact h.le x (by rcases List.mem_append.mp hx with z | z <;> simp [z]) y hy
theorem MJ.done {t A B R : List α} (h : MJ k t A B R) (e : A = [] ∨ B = []) : Asc k (A ++ B ++ R) ∧ (A ++ B ++ R).Perm t := by
  refine ⟨Asc.mk ?_ h.sr h.le,h.perm⟩
  rcases e with rfl | rfl
  · exact h.sb
  · rw [List.append_nil]; exact h.sa
theorem MJ.first {t A B R : List α} (h : MJ k t A B R) (hl : ∀ x ∈ B,∀ y ∈ A,k x ≤ k y) : Asc k (B ++ A ++ R) ∧ (B ++ A ++ R).Perm t :=
  ⟨Asc.mk (Asc.mk h.sb h.sa hl) h.sr fun x hx y hy=>h.le x (by rcases List.mem_append.mp hx with z | z <;> simp [z]) y hy,(List.Perm.append_right R List.perm_append_comm).trans h.perm⟩
end
end Mine
namespace Mine
open PySem PyProof.Rows
set_option maxRecDepth 100000
local macro_rules | `(tactic| walk_at "d_gallop")=>`(tactic| delta $(Lean.mkIdent (Lean.mkPrivateNameCore `PySem.Builtin.List.W1All `PySem.Builtin.gallop)))
noncomputable def gallop' : Bool → Keyed → Array Keyed → Nat → Nat → Nat → StateT SortSt Sem (Option Nat) := sortPriv% PySem.Builtin.gallop
abbrev kn (p : Keyed) : Int := numOf p.1
noncomputable def IntP (p : Keyed) : Prop := ∃ n t,p.1 = .int n t
section
variable {prog : Program} {w : World} {A : Around} {E : Value → Shared → Prop} {s : Shared} {st : SortSt}
theorem wpS_elem {arr : Array Keyed} {i : Nat} {p : Keyed} {Q : Keyed → SortSt → Prop} (e : arr[i]? = some p) (h : Q p st) : wpS (model prog w) A E s (elem' arr i) Q st := by
  rw [elem'_eq,e]; exact wpS_pure h
theorem wpS_lt {p q : Keyed} {Q : Option Bool → SortSt → Prop} (hk : kindOf st = oneType') (hp : IntP p) (hq : IntP q) (h : Q (some (decide (kn p < kn q))) st) : wpS (model prog w) A E s (lt' p q) Q st := by
  refine x2_1 (hp) fun a t ea=>?_
  clear hp
  refine x2_1 (hq) fun b u eb=>?_
  clear hq
  have e1 : kn p = a := by unfold kn; rw [ea]; rfl
  have e2 : kn q = b := by unfold kn; rw [eb]; rfl
  rw [e1,e2] at h
  rw [lt'_eq]
  refine wpS_bind (wpS_get ?_)
  rw [hk,keyLt'_oneType,ea,eb]
  refine wpS_bind (wpS_lift (wpAny_attempt (oneLt_int ⟨rfl,?_⟩)))
  exact wpS_pure h
theorem mid_lt {a b : Nat} (h : a < b) : a + (b - a) / 2 < b := by
  have h1 : (b - a) / 2 < b - a := Nat.div_lt_self (Nat.sub_pos_of_lt h) (by decide)
  have h2 := Nat.add_lt_add_left h1 a
  rwa [Nat.add_sub_cancel' (Nat.le_of_lt h)] at h2
theorem bin_a {hi x n lo m : Nat} (h : hi + x ≤ n + lo) (h0 : lo ≤ m) : hi + (x + 1) ≤ n + (m + 1) := Nat.succ_le_succ (Nat.le_trans h (Nat.add_le_add_left h0 n))
theorem bin_b {hi x n lo m : Nat} (h : hi + x ≤ n + lo) (h1 : m < hi) : m + (x + 1) ≤ n + lo := Nat.le_trans (Nat.le_of_eq (Nat.add_right_comm m x 1)) (Nat.le_trans (Nat.add_le_add_right h1 x) h)
theorem bin_c {hi n lo : Nat} (h : hi + max 0 n ≤ n + lo) : hi ≤ lo := by
  rw [Nat.max_eq_right (Nat.zero_le _),Nat.add_comm n lo] at h
  exact Nat.le_of_add_le_add_right h
theorem bin_loop {n lo hi : Nat} {B : Nat → Bool} {f : Nat → Option (Option Nat) × Nat × Nat → StateT SortSt Sem (ForInStep (Option (Option Nat) × Nat × Nat))} {Q : Option (Option Nat) × Nat × Nat → SortSt → Prop}
    (mono : ∀ i j,i ≤ j → j < n → B j = true → B i = true)
    (hf : ∀ (x lo hi : Nat) (R : ForInStep (Option (Option Nat) × Nat × Nat) → SortSt → Prop),lo < hi → hi ≤ n → (B (lo + (hi - lo) / 2) = true → R (.yield (none,lo + (hi - lo) / 2 + 1,hi)) st) → (B (lo + (hi - lo) / 2) = false → R (.yield (none,lo,lo + (hi - lo) / 2)) st) → wpS (model prog w) A E s (f x (none,lo,hi)) R st)
    (hd : ∀ (x lo hi : Nat) (R : ForInStep (Option (Option Nat) × Nat × Nat) → SortSt → Prop),¬ lo < hi → R (.done (none,lo,hi)) st → wpS (model prog w) A E s (f x (none,lo,hi)) R st)
    (hl : lo ≤ hi) (hn : hi ≤ n) (h1 : ∀ i,i < lo → B i = true) (h2 : ∀ i,hi ≤ i → i < n → B i = false)
    (h : ∀ lo m,m ≤ n → (∀ i,i < m → B i = true) → (∀ i,m ≤ i → i < n → B i = false) → Q (none,lo,m) st) :
    wpS (model prog w) A E s (forIn [0:n] (none,lo,hi) f) Q st := by
  refine wpS_forRange (I := fun x c st'=>st' = st ∧ ∃ lo hi,c = (none,lo,hi) ∧ lo ≤ hi ∧ hi ≤ n ∧ hi + x ≤ n + lo ∧ (∀ i,i < lo → B i = true) ∧ (∀ i,hi ≤ i → i < n → B i = false)) ?step ?fin ⟨rfl,lo,hi,rfl,hl,hn,Nat.le_trans hn (Nat.le_add_right _ _),h1,h2⟩
  case fin =>
    rintro c st' ⟨rfl,lo,hi,rfl,a1,a2,a3,a4,a5⟩
    have : lo = hi := Nat.le_antisymm a1 (bin_c a3)
    subst this
    exact h _ _ a2 a4 a5
  case step =>
    rintro x c st' _ hx ⟨rfl,lo,hi,rfl,a1,a2,a3,a4,a5⟩
    by_cases hlt : lo < hi
    · have m0 : lo ≤ lo + (hi - lo) / 2 := Nat.le_add_right _ _
      have m1 : lo + (hi - lo) / 2 < hi := mid_lt hlt
      refine hf x lo hi _ hlt a2 (fun hb=>?_) (fun hb=>?_)
      · exact ⟨rfl,_,_,rfl,m1,a2,bin_a a3 m0,fun i hi'=>mono i _ (Nat.le_of_lt_succ hi') (Nat.lt_of_lt_of_le m1 a2) hb,a5⟩
      · refine ⟨rfl,_,_,rfl,m0,Nat.le_trans (Nat.le_of_lt m1) a2,bin_b a3 m1,a4,fun i hi' hin=>?_⟩
        cases hbi : B i with
        | false=>rfl
        | true=>rw [mono _ i hi' hin hbi] at hb; cases hb
    · refine hd x lo hi _ hlt ?_
      have : lo = hi := Nat.le_antisymm a1 (Nat.le_of_not_lt hlt)
      subst this
      exact h _ _ a2 a4 a5
theorem ad_sub {a n : Nat} (h : a ≤ n) : a + (n - a) = n := Nat.add_sub_cancel' h
theorem gr1 {l o t n : Nat} (h1 : l < o) (h2 : t + l < n) : t + l + 1 ≤ t + min o (n - t) := Nat.add_le_add_left (Nat.le_min.mpr ⟨h1,Nat.le_sub_of_add_le (by rw [Nat.add_comm]; exact h2)⟩) t
theorem gr2 {o t n : Nat} (h : t < n) : t + min o (n - t) ≤ n := Nat.le_trans (Nat.add_le_add_left (Nat.min_le_right _ _) t) (Nat.le_of_eq (ad_sub (Nat.le_of_lt h)))
theorem gr3 {o t n i : Nat} (h : t < n) (z : n - t ≤ o) (hi : t + min o (n - t) ≤ i) : n ≤ i := by
  rwa [Nat.min_eq_right z,ad_sub (Nat.le_of_lt h)] at hi
theorem gr4 {o t n i : Nat} (z : t + o < n) (hi : t + min o (n - t) ≤ i) : t + o ≤ i := by
  rwa [Nat.min_eq_left (Nat.le_sub_of_add_le (by rw [Nat.add_comm]; exact Nat.le_of_lt z))] at hi
theorem gl1 {l o t : Nat} (h1 : l < o) (h2 : l ≤ t) : t + 1 - min o (t + 1) ≤ t - l := by
  have := Nat.sub_le_sub_left (Nat.le_min.mpr ⟨h1,Nat.succ_le_succ h2⟩) (t + 1)
  rwa [Nat.add_sub_add_right] at this
theorem gl3 {o t i : Nat} (z : t + 1 ≤ o) (hi : i < t + 1 - min o (t + 1)) : False := by
  rw [Nat.min_eq_right z,Nat.sub_self] at hi; exact Nat.not_lt_zero _ hi
theorem gl4 {o t i : Nat} (z : o ≤ t) (hi : i < t + 1 - min o (t + 1)) : i ≤ t - o := by
  rw [Nat.min_eq_left (Nat.le_succ_of_le z),Nat.succ_sub z] at hi; exact Nat.le_of_lt_succ hi
theorem wpS_gallop {left : Bool} {key : Keyed} {arr : Array Keyed} {base n hint : Nat} {B : Nat → Bool} {Q : Option Nat → SortSt → Prop} (hk : kindOf st = oneType') (hkey : IntP key)
    (hB : ∀ i,i < n → ∃ p,arr[base + i]? = some p ∧ IntP p ∧ B i = (if left then decide (kn p < kn key) else decide (kn p ≤ kn key)))
    (mono : ∀ i j,i ≤ j → j < n → B j = true → B i = true) (hh : hint < n)
    (h : ∀ m,m ≤ n → (∀ i,i < m → B i = true) → (∀ i,m ≤ i → i < n → B i = false) → Q (some m) st) :
    wpS (model prog w) A E s (gallop' left key arr base n hint) Q st := by
  have no : ∀ i j,i ≤ j → j < n → B i = false → B j = false := fun i j h1 h2 hb=>by
    cases hj : B j with
    | false=>rfl
    | true=>rw [mono i j h1 h2 hj] at hb; cases hb
  have hb : ∀ i,i < n → ∀ Q' : Option Bool → SortSt → Prop,Q' (some (B i)) st → wpS (model prog w) A E s (do
      let x ← elem' arr (base + i)
      if left = true then lt' x key else do
        let r ← lt' key x
        pure (Option.map (fun x=>!x) r)) Q' st := fun i hi Q' q=>by
    refine x1_3 (hB i hi) fun p e ip eB=>?_
    refine wpS_bind (wpS_elem e ?_)
    cases left with
    | true =>
      rw [if_pos rfl]
      rw [if_pos rfl] at eB
      rw [eB] at q
      exact wpS_lt hk ip hkey q
    | false =>
      rw [if_neg (by decide)]
      rw [if_neg (by decide)] at eB
      rw [eB] at q
      refine wpS_bind (wpS_lt hk hkey ip (wpS_pure ?_))
      have e2 : (!decide (kn key < kn p)) = decide (kn p ≤ kn key) := by
        rw [Bool.eq_iff_iff]; simp [Int.not_lt]
      show Q' (some !decide (kn key < kn p)) st
      rw [e2]; exact q
  delta gallop'
  walk_at "d_gallop"
  dsimp only
  refine wpS_bind (hb hint hh _ ?_)
  cases hr : B hint with
  | true =>
    dsimp only
    rw [if_pos rfl]
    refine wpS_bind (wpS_mono (wpS_forRange (I := fun x c st'=>st' = st ∧ ∃ l o,c = (none,l,o) ∧ B (hint + l) = true ∧ l < o ∧ x + 1 ≤ o ∧ hint + l < n)
      (Q := fun c st'=>st' = st ∧ ∃ l o,c = (none,l,o) ∧ B (hint + l) = true ∧ l < o ∧ hint + l < n ∧ (n - hint ≤ o ∨ (hint + o < n ∧ B (hint + o) = false))) ?step ?fin ⟨rfl,0,1,rfl,hr,by exact Nat.one_pos,by exact Nat.le_of_ble_eq_true rfl,by exact z0 hh⟩) ?post)
    case fin =>
      rintro c st' ⟨rfl,l,o,rfl,a1,a2,a3,a4⟩
      exact ⟨rfl,l,o,rfl,a1,a2,a4,.inl (by exact z1 a3)⟩
    case step =>
      rintro x c st' _ hx ⟨rfl,l,o,rfl,a1,a2,a3,a4⟩
      dsimp only
      by_cases hge : o ≥ n - hint
      · rw [if_pos hge]
        exact wpS_pure ⟨rfl,l,o,rfl,a1,a2,a4,.inl hge⟩
      · rw [if_neg hge]
        refine wpS_bind (hb _ (by exact z2 hge) _ ?_)
        cases hm : B (hint + o) with
        | true=>exact wpS_pure ⟨rfl,_,_,rfl,hm,by exact z3,by exact z4 a3,by exact z2 hge⟩
        | false=>exact wpS_pure ⟨rfl,l,o,rfl,a1,a2,a4,.inr ⟨by exact z2 hge,hm⟩⟩
    case post =>
      rintro c st' ⟨rfl,l,o,rfl,a1,a2,a4,a5⟩
      dsimp only
      refine wpS_bind (bin_loop (B := B) mono (fun x lo hi R h1 h2 r1 r2=>?_) (fun x lo hi R h1 r=>?_) (gr1 a2 a4) (gr2 hh) (fun i hi=>mono i (hint + l) (Nat.le_of_lt_succ hi) a4 a1) (fun i hi hin=>?_) fun lo m b1 b2 b3=>?_)
      · dsimp only
        rw [if_neg (Nat.not_le_of_lt h1)]
        refine wpS_bind (hb _ (Nat.lt_of_lt_of_le (mid_lt h1) h2) _ ?_)
        cases hm : B (lo + (hi - lo) / 2) with
        | true=>exact wpS_pure (r1 hm)
        | false=>exact wpS_pure (r2 hm)
      · dsimp only
        rw [if_pos (Nat.le_of_not_lt h1)]
        exact wpS_pure r
      · rcases a5 with z | ⟨z1,z2⟩
        · exact absurd hin (Nat.not_lt_of_le (gr3 hh z hi))
        · exact no (hint + o) i (gr4 z1 hi) hin z2
      · exact wpS_pure (h m b1 b2 b3)
  | false =>
    dsimp only
    rw [if_neg (by decide)]
    refine wpS_bind (wpS_mono (wpS_forRange (I := fun x c st'=>st' = st ∧ ∃ l o,c = (none,l,o) ∧ B (hint - l) = false ∧ l < o ∧ x + 1 ≤ o ∧ l ≤ hint)
      (Q := fun c st'=>st' = st ∧ ∃ l o,c = (none,l,o) ∧ B (hint - l) = false ∧ l < o ∧ l ≤ hint ∧ (hint + 1 ≤ o ∨ (o ≤ hint ∧ B (hint - o) = true))) ?step ?fin ⟨rfl,0,1,rfl,hr,by exact Nat.one_pos,by exact Nat.le_of_ble_eq_true rfl,by exact z5⟩) ?post)
    case fin =>
      rintro c st' ⟨rfl,l,o,rfl,a1,a2,a3,a4⟩
      exact ⟨rfl,l,o,rfl,a1,a2,a4,.inl (by exact z6 hh a3)⟩
    case step =>
      rintro x c st' _ hx ⟨rfl,l,o,rfl,a1,a2,a3,a4⟩
      dsimp only
      by_cases hge : o ≥ hint + 1
      · rw [if_pos hge]
        exact wpS_pure ⟨rfl,l,o,rfl,a1,a2,a4,.inl hge⟩
      · rw [if_neg hge]
        refine wpS_bind (hb _ (by exact Nat.sub_lt_of_lt hh) _ ?_)
        cases hm : B (hint - o) with
        | true=>exact wpS_pure ⟨rfl,l,o,rfl,a1,a2,a4,.inr ⟨by exact Nat.le_of_not_lt hge,hm⟩⟩
        | false=>exact wpS_pure ⟨rfl,_,_,rfl,hm,by exact z3,by exact z4 a3,by exact Nat.le_of_not_lt hge⟩
    case post =>
      rintro c st' ⟨rfl,l,o,rfl,a1,a2,a4,a5⟩
      dsimp only
      refine wpS_bind (bin_loop (B := B) mono (fun x lo hi R h1 h2 r1 r2=>?_) (fun x lo hi R h1 r=>?_) (gl1 a2 a4) (Nat.le_trans (Nat.sub_le _ _) (Nat.le_of_lt hh)) (fun i hi=>?_) (fun i hi hin=>no (hint - l) i hi hin a1) fun lo m b1 b2 b3=>?_)
      · dsimp only
        rw [if_neg (Nat.not_le_of_lt h1)]
        refine wpS_bind (hb _ (Nat.lt_of_lt_of_le (mid_lt h1) h2) _ ?_)
        cases hm : B (lo + (hi - lo) / 2) with
        | true=>exact wpS_pure (r1 hm)
        | false=>exact wpS_pure (r2 hm)
      · dsimp only
        rw [if_pos (Nat.le_of_not_lt h1)]
        exact wpS_pure r
      · rcases a5 with z | ⟨z1,z2⟩
        · exact (gl3 z hi).elim
        · exact mono i (hint - o) (gl4 z1 hi) (Nat.lt_of_le_of_lt (Nat.sub_le _ _) hh) z2
      · exact wpS_pure (h m b1 b2 b3)
end
end Mine
namespace Mine
open PySem PyProof.Rows
set_option maxRecDepth 100000
local macro_rules | `(tactic| walk_at "d_lo")=>`(tactic| delta $(Lean.mkIdent (Lean.mkPrivateNameCore `PySem.Builtin.List.W1All `PySem.Builtin.mergeLo)))
local macro_rules | `(tactic| walk_at "d_sg")=>`(tactic| delta $(Lean.mkIdent (Lean.mkPrivateNameCore `PySem.Builtin.List.W1All `PySem.Builtin.setMinGallop)))
noncomputable def mergeLo' : Array Keyed → Array Keyed → StateT SortSt Sem (Array Keyed) := sortPriv% PySem.Builtin.mergeLo
noncomputable def setMinGallop' : Nat → StateT SortSt Sem Unit := sortPriv% PySem.Builtin.setMinGallop
abbrev setG (st : SortSt) (g : Nat) : SortSt := SortSt.mk' (kindOf st) (arrOf st) (pendingOf st) g (failedOf st)
section
variable {prog : Program} {w : World} {A : Around} {E : Value → Shared → Prop} {s : Shared} {st : SortSt}
theorem wpS_setG {g : Nat} {Q : Unit → SortSt → Prop} (h : Q () (setG st g)) : wpS (model prog w) A E s (setMinGallop' g) Q st := by
  delta setMinGallop'
  walk_at "d_sg"
  exact wpS_modify h
theorem at_list {arr : Array Keyed} {i : Nat} {p : Keyed} {r : List Keyed} (e : arr.toList.drop i = p :: r) : arr[i]? = some p := by
  have h : (arr.toList.drop i)[0]? = some p := by rw [e]; rfl
  rw [List.getElem?_drop] at h
  rw [← Array.getElem?_toList]; exact h
theorem drop_ex {arr : Array Keyed} {i : Nat} (h : i < arr.size) : ∃ p,arr.toList.drop i = p :: arr.toList.drop (i + 1) :=
  ⟨_,List.drop_eq_getElem_cons (by simpa using h)⟩
theorem ext_list {arr : Array Keyed} {i j : Nat} : (arr.extract i j).toList = (arr.toList.drop i).take (j - i) := by
  rw [Array.toList_extract,List.extract_eq_take_drop]
theorem ext_all {arr : Array Keyed} {i : Nat} : (arr.extract i arr.size).toList = arr.toList.drop i := by
  rw [ext_list,List.take_of_length_le]; simp
theorem galR {key : Keyed} {arr : Array Keyed} {base n hint : Nat} {L : List Keyed} {Q : Option Nat → SortSt → Prop} (hk : kindOf st = oneType') (hkey : IntP key) (eL : (arr.toList.drop base).take n = L) (hn : L.length = n) (sL : Asc kn L) (iL : ∀ p ∈ L,IntP p) (hh : hint < n)
    (h : ∀ m,m ≤ n → (∀ p ∈ L.take m,kn p ≤ kn key) → (∀ p ∈ L.drop m,kn key < kn p) → Q (some m) st) : wpS (model prog w) A E s (gallop' false key arr base n hint) Q st := by
  have at_ : ∀ i,(hi : i < n) → arr[base + i]? = some (L[i]'(by exact Nat.lt_of_lt_of_eq hi (id (Eq.symm hn)))) := fun i hi=>by
    have : L[i]? = some (L[i]'(by exact Nat.lt_of_lt_of_eq hi (id (Eq.symm hn)))) := List.getElem?_eq_getElem _
    rw [← this,← eL,List.getElem?_take,if_pos hi,List.getElem?_drop,Array.getElem?_toList]
  refine wpS_gallop (B := fun i=>match L[i]? with | some p=>decide (kn p ≤ kn key) | none=>false) hk hkey (fun i hi=>⟨_,at_ i hi,iL _ (List.getElem_mem _),?_⟩) (fun i j hij hj hb=>?_) hh fun m hm h1 h2=>h m hm (fun p hp=>?_) (fun p hp=>?_)
  · rw [List.getElem?_eq_getElem (by (first | lia | omega))]; rfl
  · rw [List.getElem?_eq_getElem (by (first | lia | omega))] at hb ⊢
    simp only [decide_eq_true_eq] at hb ⊢
    rcases Nat.lt_or_eq_of_le hij with z | z
    · exact Int.le_trans (List.pairwise_iff_getElem.mp sL i j (by (first | lia | omega)) (by (first | lia | omega)) z) hb
    · subst z; exact hb
  · refine x1_1 (List.getElem_of_mem hp) fun i qQ1=>?_
    obtain ⟨hi,rfl⟩ := qQ1
    rw [List.length_take] at hi
    have := h1 i (by exact z7 hi)
    rw [List.getElem?_eq_getElem (by exact z8 hi)] at this
    rw [List.getElem_take]; simpa using this
  · refine x1_1 (List.getElem_of_mem hp) fun i qQ1=>?_
    obtain ⟨hi,rfl⟩ := qQ1
    rw [List.length_drop] at hi
    have := h2 (m + i) (by exact z9) (by (first | lia | omega))
    rw [List.getElem?_eq_getElem (by exact Nat.add_lt_of_lt_sub' hi)] at this
    rw [List.getElem_drop]
    simp only [decide_eq_false_iff_not,Int.not_le] at this
    exact this
theorem galL {key : Keyed} {arr : Array Keyed} {base n hint : Nat} {L : List Keyed} {Q : Option Nat → SortSt → Prop} (hk : kindOf st = oneType') (hkey : IntP key) (eL : (arr.toList.drop base).take n = L) (hn : L.length = n) (sL : Asc kn L) (iL : ∀ p ∈ L,IntP p) (hh : hint < n)
    (h : ∀ m,m ≤ n → (∀ p ∈ L.take m,kn p < kn key) → (∀ p ∈ L.drop m,kn key ≤ kn p) → Q (some m) st) : wpS (model prog w) A E s (gallop' true key arr base n hint) Q st := by
  have at_ : ∀ i,(hi : i < n) → arr[base + i]? = some (L[i]'(by exact Nat.lt_of_lt_of_eq hi (id (Eq.symm hn)))) := fun i hi=>by
    have : L[i]? = some (L[i]'(by exact Nat.lt_of_lt_of_eq hi (id (Eq.symm hn)))) := List.getElem?_eq_getElem _
    rw [← this,← eL,List.getElem?_take,if_pos hi,List.getElem?_drop,Array.getElem?_toList]
  refine wpS_gallop (B := fun i=>match L[i]? with | some p=>decide (kn p < kn key) | none=>false) hk hkey (fun i hi=>⟨_,at_ i hi,iL _ (List.getElem_mem _),?_⟩) (fun i j hij hj hb=>?_) hh fun m hm h1 h2=>h m hm (fun p hp=>?_) (fun p hp=>?_)
  · rw [List.getElem?_eq_getElem (by (first | lia | omega))]; rfl
  · rw [List.getElem?_eq_getElem (by (first | lia | omega))] at hb ⊢
    simp only [decide_eq_true_eq] at hb ⊢
    rcases Nat.lt_or_eq_of_le hij with z | z
    · exact Int.lt_of_le_of_lt (List.pairwise_iff_getElem.mp sL i j (by (first | lia | omega)) (by (first | lia | omega)) z) hb
    · subst z; exact hb
  · refine x1_1 (List.getElem_of_mem hp) fun i qQ1=>?_
    obtain ⟨hi,rfl⟩ := qQ1
    rw [List.length_take] at hi
    have := h1 i (by exact z7 hi)
    rw [List.getElem?_eq_getElem (by exact z8 hi)] at this
    rw [List.getElem_take]; simpa using this
  · refine x1_1 (List.getElem_of_mem hp) fun i qQ1=>?_
    obtain ⟨hi,rfl⟩ := qQ1
    rw [List.length_drop] at hi
    have := h2 (m + i) (by exact z9) (by (first | lia | omega))
    rw [List.getElem?_eq_getElem (by exact Nat.add_lt_of_lt_sub' hi)] at this
    rw [List.getElem_drop]
    simp only [decide_eq_false_iff_not,Int.not_lt] at this
    exact this
theorem wpS_pos {α : Type} {P : Prop} {dP : Decidable P} {m1 m2 : StateT SortSt Sem α} {Q : α → SortSt → Prop} (hp : P) (h : wpS (model prog w) A E s m1 Q st) : wpS (model prog w) A E s (@ite _ P dP m1 m2) Q st := by
  rw [if_pos hp]; exact h
theorem wpS_neg {α : Type} {P : Prop} {dP : Decidable P} {m1 m2 : StateT SortSt Sem α} {Q : α → SortSt → Prop} (hp : ¬ P) (h : wpS (model prog w) A E s m2 Q st) : wpS (model prog w) A E s (@ite _ P dP m1 m2) Q st := by
  rw [if_neg hp]; exact h
theorem wpS_ite {α : Type} {P : Prop} {dP : Decidable P} {m1 m2 : StateT SortSt Sem α} {Q : α → SortSt → Prop} (hp : P → wpS (model prog w) A E s m1 Q st) (hn : ¬ P → wpS (model prog w) A E s m2 Q st) : wpS (model prog w) A E s (@ite _ P dP m1 m2) Q st := by
  by_cases h : P
  · exact wpS_pos h (hp h)
  · exact wpS_neg h (hn h)
theorem if_jp {α : Type} {F : Nat → StateT SortSt Sem α} {P : Prop} {dP : Decidable P} {x y : Nat} {m1 : StateT SortSt Sem α} {Q : α → SortSt → Prop} (e : m1 = F x) (key : ∀ z,wpS (model prog w) A E s (F z) Q st) : wpS (model prog w) A E s (if P then m1 else F y) Q st := by
  split
  · rw [e]; exact key _
  · exact key _
theorem if_jp2 {α : Type} {F : Array Keyed → Nat → StateT SortSt Sem α} {P : Prop} {dP : Decidable P} {o : Array Keyed} {i : Nat} {m1 : StateT SortSt Sem α} {Q : α → SortSt → Prop} (C : Array Keyed → Nat → Prop) (key : ∀ o i,C o i → wpS (model prog w) A E s (F o i) Q st)
    (h1 : P → (∀ o i,C o i → wpS (model prog w) A E s (F o i) Q st) → wpS (model prog w) A E s m1 Q st) (h2 : ¬ P → C o i) : wpS (model prog w) A E s (if P then m1 else F o i) Q st := by
  split
  · rename_i hp; exact h1 hp key
  · rename_i hp; exact key _ _ (h2 hp)
theorem asc_cons {x : Keyed} {l : List Keyed} (h : Asc kn (x :: l)) : ∀ y ∈ x :: l,kn x ≤ kn y := fun y hy=>by
  rcases List.mem_cons.mp hy with rfl | hy
  · exact Int.le_refl _
  · exact (List.pairwise_cons.mp h).1 y hy
structure LoM (a b : Array Keyed) (n : Nat) (out : Array Keyed) (ia ib : Nat) : Prop where
  m : MI kn (a.toList ++ b.toList) out.toList (a.toList.drop ia) (b.toList.drop ib)
  l1 : ia + 1 < a.size
  l2 : ib < b.size
  l3 : n ≤ ia + ib
noncomputable def GoodR (t : List Keyed) (r : Array Keyed) : Prop := Asc kn r.toList ∧ r.toList.Perm t
inductive EndQ {β : Type} (t : List Keyed) (st : SortSt) : Option (Array Keyed) × β → SortSt → Prop
  | mk {r : Array Keyed} {x : β} {g : Nat} (h : GoodR t r) : EndQ t st (some r,x) (setG st g)
inductive LoI (a b : Array Keyed) (st : SortSt) (n : Nat) : Option (Array Keyed) × Array Keyed × Nat × Nat × Nat → SortSt → Prop
  | mk {out : Array Keyed} {ia ib mg g : Nat} (h : LoM a b n out ia ib) : LoI a b st n (none,out,ia,ib,mg) (setG st g)
inductive LoI1 (a b : Array Keyed) (st : SortSt) (g n : Nat) : Option (Array Keyed) × Array Keyed × Nat × Nat × Nat × Nat → SortSt → Prop
  | mk {out : Array Keyed} {ia ib ac bc : Nat} (h : LoM a b n out ia ib) : LoI1 a b st g n (none,out,ia,ib,ac,bc) (setG st g)
inductive LoQ1 (a b : Array Keyed) (st : SortSt) (g n : Nat) : Option (Array Keyed) × Array Keyed × Nat × Nat × Nat × Nat → SortSt → Prop
  | good {r : Array Keyed} {x : Array Keyed × Nat × Nat × Nat × Nat} (h : GoodR (a.toList ++ b.toList) r) : LoQ1 a b st g n (some r,x) (setG st g)
  | go {out : Array Keyed} {ia ib ac bc : Nat} (h : LoM a b n out ia ib) : LoQ1 a b st g n (none,out,ia,ib,ac,bc) (setG st g)
inductive LoI2 (a b : Array Keyed) (st : SortSt) (n : Nat) : Option (Array Keyed) × Array Keyed × Nat × Nat × Nat × Nat × Nat → SortSt → Prop
  | mk {out : Array Keyed} {ia ib mg ac bc g : Nat} (h : LoM a b n out ia ib) : LoI2 a b st n (none,out,ia,ib,mg,ac,bc) (setG st g)
inductive LoQ2 (a b : Array Keyed) (st : SortSt) (n : Nat) : Option (Array Keyed) × Array Keyed × Nat × Nat × Nat × Nat × Nat → SortSt → Prop
  | good {r : Array Keyed} {x : Array Keyed × Nat × Nat × Nat × Nat × Nat} {g : Nat} (h : GoodR (a.toList ++ b.toList) r) : LoQ2 a b st n (some r,x) (setG st g)
  | go {out : Array Keyed} {ia ib mg ac bc g : Nat} (h : LoM a b n out ia ib) : LoQ2 a b st n (none,out,ia,ib,mg,ac,bc) (setG st g)
structure LoC (a b : Array Keyed) (p : Keyed) (n ib : Nat) (o : Array Keyed) (i : Nat) : Prop where
  m : MI kn (a.toList ++ b.toList) o.toList (a.toList.drop i) (b.toList.drop ib)
  l1 : i + 1 < a.size
  lt : ∀ y ∈ a.toList.drop i,kn p < kn y
  l3 : n ≤ i + ib
structure LoD (a b : Array Keyed) (q : Keyed) (n i : Nat) (o : Array Keyed) (j : Nat) : Prop where
  m : MI kn (a.toList ++ b.toList) o.toList (a.toList.drop i) (b.toList.drop j)
  l2 : j < b.size
  le : ∀ y ∈ b.toList.drop j,kn q ≤ kn y
  l3 : n ≤ i + j
theorem wpS_mergeLo {a b : Array Keyed} {Q : Array Keyed → SortSt → Prop} (hk : kindOf st = oneType') (ja : ∀ p ∈ a.toList,IntP p) (jb : ∀ p ∈ b.toList,IntP p) (sa : Asc kn a.toList) (sb : Asc kn b.toList) (na : 0 < a.size) (nb : 0 < b.size)
    (h0 : ∀ p ∈ b.toList.take 1,∀ y ∈ a.toList,kn p ≤ kn y) (hl : ∀ x ∈ b.toList,∀ y ∈ a.toList.drop (a.size - 1),kn x ≤ kn y)
    (h : ∀ out g,GoodR (a.toList ++ b.toList) out → Q out (setG st g)) : wpS (model prog w) A E s (mergeLo' a b) Q st := by
  have dn : ∀ (out : Array Keyed) (ia ib : Nat),MI kn (a.toList ++ b.toList) out.toList (a.toList.drop ia) (b.toList.drop ib) → (a.size ≤ ia ∨ b.size ≤ ib) → GoodR (a.toList ++ b.toList) (out ++ a.extract ia a.size ++ b.extract ib b.size) := fun out ia ib m hz=>by
    unfold GoodR
    rw [Array.toList_append,Array.toList_append,ext_all,ext_all]
    refine m.done ?_
    rcases hz with z | z
    · exact .inl (List.drop_eq_nil_of_le (by simpa using z))
    · exact .inr (List.drop_eq_nil_of_le (by simpa using z))
  have lA : ∀ (out : Array Keyed) (ia ib : Nat),MI kn (a.toList ++ b.toList) out.toList (a.toList.drop ia) (b.toList.drop ib) → ia + 1 = a.size → GoodR (a.toList ++ b.toList) (out ++ b.extract ib b.size ++ a.extract ia a.size) := fun out ia ib m hz=>by
    unfold GoodR
    rw [Array.toList_append,Array.toList_append,ext_all,ext_all]
    refine m.last fun x hx y hy=>hl x (List.mem_of_mem_drop hx) y ?_
    rw [show a.size - 1 = ia by exact Eq.symm (Nat.eq_sub_of_add_eq hz)]; exact hy
  have pB : ∀ {out : Array Keyed} {ia ib : Nat} {p : Keyed},b.toList.drop ib = p :: b.toList.drop (ib + 1) → MI kn (a.toList ++ b.toList) out.toList (a.toList.drop ia) (b.toList.drop ib) → (∀ y ∈ a.toList.drop ia,kn p ≤ kn y) → MI kn (a.toList ++ b.toList) (out.push p).toList (a.toList.drop ia) (b.toList.drop (ib + 1)) := fun {out ia ib p} e m hp=>by
    rw [Array.toList_push]
    refine MI.right (P := [p]) (by rw [e] at m; exact m) fun x hx y hy=>?_
    rw [List.mem_singleton.mp hx]; exact hp y hy
  have pA : ∀ {out : Array Keyed} {ia ib : Nat} {p : Keyed},a.toList.drop ia = p :: a.toList.drop (ia + 1) → MI kn (a.toList ++ b.toList) out.toList (a.toList.drop ia) (b.toList.drop ib) → (∀ y ∈ b.toList.drop ib,kn p ≤ kn y) → MI kn (a.toList ++ b.toList) (out.push p).toList (a.toList.drop (ia + 1)) (b.toList.drop ib) := fun {out ia ib p} e m hp=>by
    rw [Array.toList_push]
    refine MI.left (P := [p]) (by rw [e] at m; exact m) fun x hx y hy=>?_
    rw [List.mem_singleton.mp hx]; exact hp y hy
  have bA : ∀ {out : Array Keyed} {ia ib k : Nat},MI kn (a.toList ++ b.toList) out.toList (a.toList.drop ia) (b.toList.drop ib) → (∀ p ∈ (a.toList.drop ia).take k,∀ y ∈ b.toList.drop ib,kn p ≤ kn y) → MI kn (a.toList ++ b.toList) (out ++ a.extract ia (ia + k)).toList (a.toList.drop (ia + k)) (b.toList.drop ib) := fun {out ia ib k} m hp=>by
    rw [Array.toList_append,ext_list,show ia + k - ia = k by exact z10]
    refine MI.left (P := (a.toList.drop ia).take k) ?_ hp
    rw [← List.drop_drop,List.take_append_drop]; exact m
  have bB : ∀ {out : Array Keyed} {ia ib k : Nat},MI kn (a.toList ++ b.toList) out.toList (a.toList.drop ia) (b.toList.drop ib) → (∀ p ∈ (b.toList.drop ib).take k,∀ y ∈ a.toList.drop ia,kn p ≤ kn y) → MI kn (a.toList ++ b.toList) (out ++ b.extract ib (ib + k)).toList (a.toList.drop ia) (b.toList.drop (ib + k)) := fun {out ia ib k} m hp=>by
    rw [Array.toList_append,ext_list,show ib + k - ib = k by exact z10]
    refine MI.right (P := (b.toList.drop ib).take k) ?_ hp
    rw [← List.drop_drop,List.take_append_drop]; exact m
  have asz : a.toList.length = a.size := Array.length_toList
  have bsz : b.toList.length = b.size := Array.length_toList
  delta mergeLo'
  walk_at "d_lo"
  refine wpS_bind (wpS_lift (wpAny_rule ⟨rfl,?_⟩))
  refine x1_1 (drop_ex nb) fun p0 e0=>?_
  refine wpS_bind (wpS_elem (at_list e0) ?_)
  have m0 : MI kn (a.toList ++ b.toList) (#[p0] : Array Keyed).toList (a.toList.drop 0) (b.toList.drop 1) := by
    refine pB (out := #[]) e0 ⟨List.Perm.refl _,List.Pairwise.nil,sa,sb,fun x hx=>by cases hx⟩ fun y hy=>h0 p0 ?_ y hy
    rw [List.drop_zero] at e0; rw [e0]; exact List.mem_cons_self ..
  refine wpS_ite (fun c1=>?_) fun c1=>?_
  · exact wpS_pure (h _ (gallopOf st) (dn _ _ _ m0 (.inr (Nat.le_of_eq (beq_iff_eq.mp c1).symm))))
  refine wpS_ite (fun c2=>?_) fun c2=>?_
  · exact wpS_pure (h _ (gallopOf st) (lA _ _ _ m0 (beq_iff_eq.mp c2)))
  simp only [beq_iff_eq] at c1 c2
  refine wpS_bind (wpS_get ?_)
  refine wpS_bind (wpS_mono (wpS_forRange (I := fun x c st'=>LoI a b st (x + 1) c st') (Q := fun c st'=>EndQ (a.toList ++ b.toList) st c st') ?step ?fin (LoI.mk (g := gallopOf st) ⟨m0,by (first | lia | omega),by (first | lia | omega),by exact Nat.le_add_left (0 + 1) 0⟩)) ?post)
  case post =>
    intro c st' hq
    cases hq with
    | @mk r x g g1=>exact wpS_pure (h _ g g1)
  case fin =>
    intro c st' hq
    cases hq with
    | @mk out ia ib mg g hm=>obtain ⟨m,l1,l2,l3⟩ := hm; (first | lia | omega)
  case step =>
    intro x c st' _ hx hq
    cases hq
    rename_i out ia ib mg g hm
    obtain ⟨m,l1,l2,l3⟩ := hm
    refine wpS_bind (wpS_mono (wpS_forRange (I := fun y c st'=>LoI1 a b st g (x + 1 + y) c st') (Q := fun c st'=>LoQ1 a b st g (x + 2) c st') ?step1 ?fin1 (LoI1.mk ⟨m,l1,l2,by (first | lia | omega)⟩)) ?post1)
    case fin1 =>
      intro c st' hq
      cases hq
      rename_i out ia ib ac bc hm
      obtain ⟨m,l1,l2,l3⟩ := hm
      exact LoQ1.go ⟨m,l1,l2,by (first | lia | omega)⟩
    case step1 =>
      intro y c st' _ hy hq
      cases hq
      rename_i out ia ib ac bc hm
      obtain ⟨m,l1,l2,l3⟩ := hm
      dsimp only
      refine x1_1 (drop_ex l2) fun p ep=>?_
      refine x1_1 (drop_ex (arr := a) (i := ia) (by exact Nat.lt_of_succ_lt l1)) fun q eq=>?_
      have hp : IntP p := jb p (List.mem_of_mem_drop (by rw [ep]; exact List.mem_cons_self ..))
      have hq : IntP q := ja q (List.mem_of_mem_drop (by rw [eq]; exact List.mem_cons_self ..))
      have aA := asc_cons (by have := m.sa; rw [eq] at this; exact this)
      have aB := asc_cons (by have := m.sb; rw [ep] at this; exact this)
      rw [← eq] at aA
      rw [← ep] at aB
      refine wpS_bind (wpS_elem (at_list ep) (wpS_bind (wpS_elem (at_list eq) (wpS_bind (wpS_lt hk hp hq ?_)))))
      by_cases hlt : kn p < kn q
      · rw [decide_eq_true hlt]
        dsimp only
        refine wpS_pos rfl ?_
        refine wpS_bind (wpS_elem (at_list ep) ?_)
        have m1 := pB ep m fun y hy=>by have := aA y hy; exact z11 hlt this
        refine wpS_ite (fun d1=>?_) fun d1=>?_
        · exact wpS_pure (LoQ1.good (dn _ _ _ m1 (.inr (Nat.le_of_eq (beq_iff_eq.mp d1).symm))))
        · simp only [beq_iff_eq] at d1
          refine wpS_ite (fun d2=>?_) fun d2=>?_
          · exact wpS_pure (LoQ1.go ⟨m1,l1,by (first | lia | omega),by exact z12 l3⟩)
          · exact wpS_pure (LoI1.mk ⟨m1,l1,by (first | lia | omega),by exact Nat.succ_le_succ l3⟩)
      · rw [decide_eq_false hlt]
        dsimp only
        refine wpS_neg (by decide) ?_
        refine wpS_bind (wpS_elem (at_list eq) ?_)
        have m1 := pA eq m fun y hy=>by have := aB y hy; exact z13 hlt this
        refine wpS_ite (fun d1=>?_) fun d1=>?_
        · exact wpS_pure (LoQ1.good (lA _ _ _ m1 (beq_iff_eq.mp d1)))
        · simp only [beq_iff_eq] at d1
          refine wpS_ite (fun d2=>?_) fun d2=>?_
          · exact wpS_pure (LoQ1.go ⟨m1,by (first | lia | omega),l2,by exact z14 l3⟩)
          · exact wpS_pure (LoI1.mk ⟨m1,by (first | lia | omega),l2,by exact z15 l3⟩)
    case post1 =>
      intro c st' hq
      cases hq
      · rename_i r x' g1
        exact wpS_pure (EndQ.mk g1)
      rename_i out ia ib ac bc hm
      obtain ⟨m,l1,l2,l3⟩ := hm
      refine wpS_bind (wpS_lift (wpAny_rule ⟨rfl,?_⟩))
      refine wpS_bind (wpS_mono (wpS_forRange (I := fun _ c st'=>LoI2 a b st (x + 2) c st') (Q := fun c st'=>LoQ2 a b st (x + 2) c st') ?step2 ?fin2 (LoI2.mk ⟨m,l1,l2,by (first | lia | omega)⟩)) ?post2)
      case fin2 =>
        intro c st' hq
        cases hq
        rename_i out ia ib mg ac bc g hm
        obtain ⟨m,l1,l2,l3⟩ := hm
        exact LoQ2.go ⟨m,l1,l2,l3⟩
      case post2 =>
        intro c st' hq
        cases hq
        · rename_i r x' g g1
          exact wpS_pure (EndQ.mk g1)
        rename_i out ia ib mg ac bc g hm
        obtain ⟨m,l1,l2,l3⟩ := hm
        dsimp only
        exact wpS_bind (wpS_setG (wpS_pure (LoI.mk ⟨m,l1,l2,by exact z16 l3⟩)))
      case step2 =>
        intro y c st' _ hy hq
        cases hq
        rename_i out ia ib mg ac bc g hm
        obtain ⟨m,l1,l2,l3⟩ := hm
        apply if_jp (y := mg) (x := mg - 1)
        case e=>rfl
        intro z
        refine wpS_bind (wpS_setG ?_)
        refine x1_1 (drop_ex l2) fun p ep=>?_
        have hp : IntP p := jb p (List.mem_of_mem_drop (by rw [ep]; exact List.mem_cons_self ..))
        have aB := asc_cons (by have := m.sb; rw [ep] at this; exact this)
        rw [← ep] at aB
        refine wpS_bind (wpS_elem (at_list ep) (wpS_bind (galR (base := ia) (n := a.size - ia) (hint := 0) (L := a.toList.drop ia) hk hp (List.take_of_length_le (by simp)) (by simp) m.sa (fun p hp=>ja p (List.mem_of_mem_drop hp)) (by exact z17 l1) fun k k1 k2 k3=>?_)))
        rw [List.drop_drop] at k3
        apply if_jp2 (o := out) (i := ia) (LoC a b p (x + 2) ib)
        · rintro o i ⟨mo,li,lt,lx⟩
          dsimp only
          refine wpS_bind (wpS_elem (at_list ep) ?_)
          have m1 := pB ep mo fun y hy=>Int.le_of_lt (lt y hy)
          refine wpS_ite (fun d1=>?_) fun d1=>?_
          · exact wpS_pure (LoQ2.good (dn _ _ _ m1 (.inr (Nat.le_of_eq (beq_iff_eq.mp d1).symm))))
          simp only [beq_iff_eq] at d1
          refine x1_1 (drop_ex (arr := a) (i := i) (by exact Nat.lt_of_succ_lt li)) fun q eq=>?_
          have hq : IntP q := ja q (List.mem_of_mem_drop (by rw [eq]; exact List.mem_cons_self ..))
          have ib1 : ib + 1 < b.size := by (first | lia | omega)
          have lx : x + 2 ≤ i + (ib + 1) := by exact Nat.le_succ_of_le lx
          generalize ib + 1 = ib2 at m1 ib1 lx ⊢
          generalize o.push p = o2 at m1 ⊢
          refine wpS_bind (wpS_elem (at_list eq) (wpS_bind (galL (L := b.toList.drop ib2) hk hq (List.take_of_length_le (by simp)) (by simp) m1.sb (fun p hp=>jb p (List.mem_of_mem_drop hp)) (by (first | lia | omega)) fun k' j1 j2 j3=>?_)))
          dsimp only
          rw [List.drop_drop] at j3
          have aA := asc_cons (by have := m1.sa; rw [eq] at this; exact this)
          rw [← eq] at aA
          apply if_jp2 (o := o2) (i := ib2) (LoD a b q (x + 2) i)
          · rintro o j ⟨mo,lj,lt,lx⟩
            refine wpS_bind (wpS_elem (at_list eq) ?_)
            have m2 := pA eq mo lt
            refine wpS_ite (fun d2=>?_) fun d2=>?_
            · exact wpS_pure (LoQ2.good (lA _ _ _ m2 (beq_iff_eq.mp d2)))
            simp only [beq_iff_eq] at d2
            refine wpS_ite (fun d3=>?_) fun d3=>?_
            · exact wpS_pure (LoQ2.go ⟨m2,by (first | lia | omega),lj,by exact z18 lx⟩)
            · exact wpS_pure (LoI2.mk ⟨m2,by (first | lia | omega),lj,by exact z18 lx⟩)
          · intro hk0 go
            have m2 := bB (k := k') m1 fun x hx y hy=>by have := j2 x hx; have := aA y hy; (first | lia | omega)
            refine wpS_ite (fun d2=>?_) fun d2=>?_
            · exact wpS_pure (LoQ2.good (dn _ _ _ m2 (.inr (Nat.le_of_eq (beq_iff_eq.mp d2).symm))))
            simp only [beq_iff_eq] at d2
            exact go _ _ ⟨m2,by (first | lia | omega),j3,by exact z19 lx⟩
          · intro hk0
            have : k' = 0 := by exact Nat.eq_zero_of_not_pos hk0
            subst this
            exact ⟨m1,ib1,j3,lx⟩
        · intro hk0 go
          have m1 := bA (k := k) m fun x hx y hy=>by have := k2 x hx; have := aB y hy; (first | lia | omega)
          refine wpS_ite (fun d1=>?_) fun d1=>?_
          · exact wpS_pure (LoQ2.good (lA _ _ _ m1 (beq_iff_eq.mp d1)))
          refine wpS_ite (fun d2=>?_) fun d2=>?_
          · exact wpS_pure (LoQ2.good (dn _ _ _ m1 (.inl (Nat.le_of_eq (beq_iff_eq.mp d2).symm))))
          simp only [beq_iff_eq] at d1 d2
          exact go _ _ ⟨m1,by (first | lia | omega),k3,by exact z20 l3⟩
        · intro hk0
          have : k = 0 := by exact Nat.eq_zero_of_not_pos hk0
          subst this
          exact ⟨m,l1,k3,by exact z21 l3⟩
end
end Mine
namespace Mine
open PySem PyProof.Rows
set_option maxRecDepth 100000
local macro_rules | `(tactic| walk_at "d_hi")=>`(tactic| delta $(Lean.mkIdent (Lean.mkPrivateNameCore `PySem.Builtin.List.W1All `PySem.Builtin.mergeHi)))
noncomputable def mergeHi' : Array Keyed → Array Keyed → StateT SortSt Sem (Array Keyed) := sortPriv% PySem.Builtin.mergeHi
section
variable {prog : Program} {w : World} {A : Around} {E : Value → Shared → Prop} {s : Shared} {st : SortSt}
theorem take_ex {arr : Array Keyed} {i : Nat} (h0 : 1 ≤ i) (h : i ≤ arr.size) : ∃ p,arr.toList.take i = arr.toList.take (i - 1) ++ [p] ∧ arr[i - 1]? = some p := by
  have hl : i - 1 < arr.toList.length := by simp; exact Nat.sub_one_lt_of_le h0 h
  refine ⟨arr.toList[i - 1],?_,?_⟩
  · have := List.take_add_one (l := arr.toList) (i := i - 1)
    rw [show i - 1 + 1 = i by exact Nat.sub_add_cancel h0,List.getElem?_eq_getElem hl] at this
    exact this
  · rw [← Array.getElem?_toList]; exact List.getElem?_eq_getElem hl
theorem ext_0 {arr : Array Keyed} {n : Nat} : (arr.extract 0 n).toList = arr.toList.take n := by rw [ext_list]; simp
theorem asc_last {x : Keyed} {l : List Keyed} (h : Asc kn (l ++ [x])) : ∀ y ∈ l ++ [x],kn y ≤ kn x := fun y hy=>by
  rcases List.mem_append.mp hy with z | z
  · exact h.app.2.2 y z x (List.mem_singleton.mpr rfl)
  · rw [List.mem_singleton.mp z]; exact Int.le_refl _
structure HiM (a b : Array Keyed) (n : Nat) (out : Array Keyed) (ia ib : Nat) : Prop where
  m : MJ kn (a.toList ++ b.toList) (a.toList.take ia) (b.toList.take ib) out.toList.reverse
  l1 : 1 ≤ ia
  l2 : ia ≤ a.size
  l3 : 2 ≤ ib
  l4 : ib ≤ b.size
  l5 : ia + ib + n ≤ a.size + b.size
inductive HiI (a b : Array Keyed) (st : SortSt) (n : Nat) : Option (Array Keyed) × Nat × Nat × Array Keyed × Nat → SortSt → Prop
  | mk {out : Array Keyed} {ia ib mg g : Nat} (h : HiM a b n out ia ib) : HiI a b st n (none,ia,ib,out,mg) (setG st g)
inductive HiI1 (a b : Array Keyed) (st : SortSt) (g n : Nat) : Option (Array Keyed) × Nat × Nat × Array Keyed × Nat × Nat → SortSt → Prop
  | mk {out : Array Keyed} {ia ib ac bc : Nat} (h : HiM a b n out ia ib) : HiI1 a b st g n (none,ia,ib,out,ac,bc) (setG st g)
inductive HiQ1 (a b : Array Keyed) (st : SortSt) (g n : Nat) : Option (Array Keyed) × Nat × Nat × Array Keyed × Nat × Nat → SortSt → Prop
  | good {r : Array Keyed} {x : Nat × Nat × Array Keyed × Nat × Nat} (h : GoodR (a.toList ++ b.toList) r) : HiQ1 a b st g n (some r,x) (setG st g)
  | go {out : Array Keyed} {ia ib ac bc : Nat} (h : HiM a b n out ia ib) : HiQ1 a b st g n (none,ia,ib,out,ac,bc) (setG st g)
inductive HiI2 (a b : Array Keyed) (st : SortSt) (n : Nat) : Option (Array Keyed) × Nat × Nat × Array Keyed × Nat × Nat × Nat → SortSt → Prop
  | mk {out : Array Keyed} {ia ib mg ac bc g : Nat} (h : HiM a b n out ia ib) : HiI2 a b st n (none,ia,ib,out,mg,ac,bc) (setG st g)
inductive HiQ2 (a b : Array Keyed) (st : SortSt) (n : Nat) : Option (Array Keyed) × Nat × Nat × Array Keyed × Nat × Nat × Nat → SortSt → Prop
  | good {r : Array Keyed} {x : Nat × Nat × Array Keyed × Nat × Nat × Nat} {g : Nat} (h : GoodR (a.toList ++ b.toList) r) : HiQ2 a b st n (some r,x) (setG st g)
  | go {out : Array Keyed} {ia ib mg ac bc g : Nat} (h : HiM a b n out ia ib) : HiQ2 a b st n (none,ia,ib,out,mg,ac,bc) (setG st g)
structure HiC (a b : Array Keyed) (p : Keyed) (n ib : Nat) (o : Array Keyed) (i : Nat) : Prop where
  m : MJ kn (a.toList ++ b.toList) (a.toList.take i) (b.toList.take ib) o.toList.reverse
  l1 : 1 ≤ i
  l2 : i ≤ a.size
  le : ∀ y ∈ a.toList.take i,kn y ≤ kn p
  l3 : i + ib + n ≤ a.size + b.size
structure HiD (a b : Array Keyed) (q : Keyed) (n i : Nat) (o : Array Keyed) (j : Nat) : Prop where
  m : MJ kn (a.toList ++ b.toList) (a.toList.take i) (b.toList.take j) o.toList.reverse
  l1 : 2 ≤ j
  l2 : j ≤ b.size
  le : ∀ y ∈ b.toList.take j,kn y ≤ kn q
  l3 : i + j + n ≤ a.size + b.size
theorem wpS_mergeHi {a b : Array Keyed} {Q : Array Keyed → SortSt → Prop} (hk : kindOf st = oneType') (ja : ∀ p ∈ a.toList,IntP p) (jb : ∀ p ∈ b.toList,IntP p) (sa : Asc kn a.toList) (sb : Asc kn b.toList) (na : 0 < a.size) (nb : 0 < b.size)
    (h0 : ∀ p ∈ b.toList.take 1,∀ y ∈ a.toList,kn p ≤ kn y) (hl : ∀ x ∈ b.toList,∀ y ∈ a.toList.drop (a.size - 1),kn x ≤ kn y)
    (h : ∀ out g,GoodR (a.toList ++ b.toList) out → Q out (setG st g)) : wpS (model prog w) A E s (mergeHi' a b) Q st := by
  have dn : ∀ (out : Array Keyed) (ia ib : Nat),MJ kn (a.toList ++ b.toList) (a.toList.take ia) (b.toList.take ib) out.toList.reverse → (ia = 0 ∨ ib = 0) → GoodR (a.toList ++ b.toList) (a.extract 0 ia ++ b.extract 0 ib ++ out.reverse) := fun out ia ib m hz=>by
    unfold GoodR
    rw [Array.toList_append,Array.toList_append,ext_0,ext_0,Array.toList_reverse]
    refine m.done ?_
    rcases hz with z | z
    · exact .inl (by rw [z]; rfl)
    · exact .inr (by rw [z]; rfl)
  have fB : ∀ (out : Array Keyed) (ia ib : Nat),MJ kn (a.toList ++ b.toList) (a.toList.take ia) (b.toList.take ib) out.toList.reverse → ib = 1 → GoodR (a.toList ++ b.toList) (b.extract 0 ib ++ a.extract 0 ia ++ out.reverse) := fun out ia ib m hz=>by
    unfold GoodR
    rw [Array.toList_append,Array.toList_append,ext_0,ext_0,Array.toList_reverse]
    refine m.first fun x hx y hy=>h0 x (by rw [hz] at hx; exact hx) y (List.mem_of_mem_take hy)
  have pA : ∀ {out : Array Keyed} {ia ib : Nat} {p : Keyed},a.toList.take ia = a.toList.take (ia - 1) ++ [p] → MJ kn (a.toList ++ b.toList) (a.toList.take ia) (b.toList.take ib) out.toList.reverse → (∀ y ∈ b.toList.take ib,kn y ≤ kn p) → MJ kn (a.toList ++ b.toList) (a.toList.take (ia - 1)) (b.toList.take ib) (out.push p).toList.reverse := fun {out ia ib p} e m hp=>by
    rw [Array.toList_push,List.reverse_append]
    refine MJ.left (P := [p]) (by rw [e] at m; exact m) fun x hx y hy=>?_
    rw [List.mem_singleton.mp hx]; exact hp y hy
  have pB : ∀ {out : Array Keyed} {ia ib : Nat} {p : Keyed},b.toList.take ib = b.toList.take (ib - 1) ++ [p] → MJ kn (a.toList ++ b.toList) (a.toList.take ia) (b.toList.take ib) out.toList.reverse → (∀ y ∈ a.toList.take ia,kn y ≤ kn p) → MJ kn (a.toList ++ b.toList) (a.toList.take ia) (b.toList.take (ib - 1)) (out.push p).toList.reverse := fun {out ia ib p} e m hp=>by
    rw [Array.toList_push,List.reverse_append]
    refine MJ.right (P := [p]) (by rw [e] at m; exact m) fun x hx y hy=>?_
    rw [List.mem_singleton.mp hx]; exact hp y hy
  have sp : ∀ (l : List Keyed) {i j : Nat},i ≤ j → l.take j = l.take i ++ (l.drop i).take (j - i) := fun l i j hij=>by
    have : l.take j = l.take (i + (j - i)) := by rw [show i + (j - i) = j by exact Nat.add_sub_of_le hij]
    rw [this,List.take_add]
  have bA : ∀ {out : Array Keyed} {ia ib i : Nat},i ≤ ia → MJ kn (a.toList ++ b.toList) (a.toList.take ia) (b.toList.take ib) out.toList.reverse → (∀ p ∈ (a.toList.drop i).take (ia - i),∀ y ∈ b.toList.take ib,kn y ≤ kn p) → MJ kn (a.toList ++ b.toList) (a.toList.take i) (b.toList.take ib) (out ++ (a.extract i ia).reverse).toList.reverse := fun {out ia ib i} hi m hp=>by
    rw [Array.toList_append,List.reverse_append,Array.toList_reverse,List.reverse_reverse,ext_list]
    rw [sp a.toList hi] at m
    exact m.left hp
  have bB : ∀ {out : Array Keyed} {ia ib i : Nat},i ≤ ib → MJ kn (a.toList ++ b.toList) (a.toList.take ia) (b.toList.take ib) out.toList.reverse → (∀ p ∈ (b.toList.drop i).take (ib - i),∀ y ∈ a.toList.take ia,kn y ≤ kn p) → MJ kn (a.toList ++ b.toList) (a.toList.take ia) (b.toList.take i) (out ++ (b.extract i ib).reverse).toList.reverse := fun {out ia ib i} hi m hp=>by
    rw [Array.toList_append,List.reverse_append,Array.toList_reverse,List.reverse_reverse,ext_list]
    rw [sp b.toList hi] at m
    exact m.right hp
  have dt : ∀ (l : List Keyed) (m n : Nat),(l.take n).drop m = (l.drop m).take (n - m) := fun l m n=>List.drop_take
  have asz : a.toList.length = a.size := Array.length_toList
  have bsz : b.toList.length = b.size := Array.length_toList
  delta mergeHi'
  walk_at "d_hi"
  refine wpS_bind (wpS_lift (wpAny_rule ⟨rfl,?_⟩))
  refine x1_2 (take_ex (arr := a) (i := a.size) na (Nat.le_refl _)) fun p0 e0 e0'=>?_
  refine wpS_bind (wpS_elem e0' ?_)
  have ta : a.toList.take a.size = a.toList := List.take_of_length_le (by exact Nat.le_of_eq asz)
  have tb : b.toList.take b.size = b.toList := List.take_of_length_le (by exact Nat.le_of_eq bsz)
  have m0 : MJ kn (a.toList ++ b.toList) (a.toList.take (a.size - 1)) (b.toList.take b.size) (#[p0] : Array Keyed).toList.reverse := by
    refine pA (out := #[]) e0 ⟨by rw [ta,tb]; simp,List.Pairwise.nil,by rw [ta]; exact sa,by rw [tb]; exact sb,fun x _ y hy=>by cases hy⟩ fun y hy=>hl y (List.mem_of_mem_take hy) p0 ?_
    rw [ta] at e0
    rw [e0]
    have : (a.toList.take (a.size - 1)).length = a.size - 1 := by rw [List.length_take]; exact z22 asz
    rw [List.drop_append_of_le_length (by exact Nat.le_of_eq (id (Eq.symm this))),List.drop_of_length_le (by exact Nat.le_of_eq this)]
    simp
  refine wpS_ite (fun c1=>?_) fun c1=>?_
  · exact wpS_pure (h _ (gallopOf st) (dn _ _ _ m0 (.inl (beq_iff_eq.mp c1))))
  refine wpS_ite (fun c2=>?_) fun c2=>?_
  · exact wpS_pure (h _ (gallopOf st) (fB _ _ _ m0 (beq_iff_eq.mp c2)))
  simp only [beq_iff_eq] at c1 c2
  refine wpS_bind (wpS_get ?_)
  refine wpS_bind (wpS_mono (wpS_forRange (I := fun x c st'=>HiI a b st (x + 1) c st') (Q := fun c st'=>EndQ (a.toList ++ b.toList) st c st') ?step ?fin (HiI.mk (g := gallopOf st) ⟨m0,by exact Nat.one_le_iff_ne_zero.mpr c1,by (first | lia | omega),by (first | lia | omega),by (first | lia | omega),by (first | lia | omega)⟩)) ?post)
  case post =>
    intro c st' hq
    cases hq with
    | @mk r x g g1=>exact wpS_pure (h _ g g1)
  case fin =>
    intro c st' hq
    cases hq with
    | @mk out ia ib mg g hm=>obtain ⟨m,l1,l2,l3,l4,l5⟩ := hm; (first | lia | omega)
  case step =>
    intro x c st' _ hx hq
    cases hq
    rename_i out ia ib mg g hm
    obtain ⟨m,l1,l2,l3,l4,l5⟩ := hm
    refine wpS_bind (wpS_mono (wpS_forRange (I := fun y c st'=>HiI1 a b st g (x + 1 + y) c st') (Q := fun c st'=>HiQ1 a b st g (x + 2) c st') ?step1 ?fin1 (HiI1.mk ⟨m,l1,l2,l3,l4,by (first | lia | omega)⟩)) ?post1)
    case fin1 =>
      intro c st' hq
      cases hq
      rename_i out ia ib ac bc hm
      obtain ⟨m,l1,l2,l3,l4,l5⟩ := hm
      exact HiQ1.go ⟨m,l1,l2,l3,l4,by (first | lia | omega)⟩
    case step1 =>
      intro y c st' _ hy hq
      cases hq
      rename_i out ia ib ac bc hm
      obtain ⟨m,l1,l2,l3,l4,l5⟩ := hm
      dsimp only
      refine x1_2 (take_ex (arr := b) (i := ib) (by exact Nat.one_le_of_lt l3) l4) fun p ep ep'=>?_
      refine x1_2 (take_ex (arr := a) (i := ia) l1 l2) fun q eq eq'=>?_
      have hp : IntP p := jb p (List.mem_of_mem_take (i := ib) (by rw [ep]; simp))
      have hq : IntP q := ja q (List.mem_of_mem_take (i := ia) (by rw [eq]; simp))
      have aA := asc_last (by have := m.sa; rw [eq] at this; exact this)
      have aB := asc_last (by have := m.sb; rw [ep] at this; exact this)
      rw [← eq] at aA
      rw [← ep] at aB
      refine wpS_bind (wpS_elem ep' (wpS_bind (wpS_elem eq' (wpS_bind (wpS_lt hk hp hq ?_)))))
      by_cases hlt : kn p < kn q
      · rw [decide_eq_true hlt]
        dsimp only
        refine wpS_pos rfl ?_
        refine wpS_bind (wpS_elem eq' ?_)
        have m1 := pA eq m fun y hy=>by have := aB y hy; exact z23 hlt this
        refine wpS_ite (fun d1=>?_) fun d1=>?_
        · exact wpS_pure (HiQ1.good (dn _ _ _ m1 (.inl (beq_iff_eq.mp d1))))
        · simp only [beq_iff_eq] at d1
          refine wpS_ite (fun d2=>?_) fun d2=>?_
          · exact wpS_pure (HiQ1.go ⟨m1,by exact Nat.one_le_iff_ne_zero.mpr d1,by exact z24 l2,l3,l4,by exact z25 l5 d1⟩)
          · exact wpS_pure (HiI1.mk ⟨m1,by exact Nat.one_le_iff_ne_zero.mpr d1,by exact z24 l2,l3,l4,by exact z26 l5 d1⟩)
      · rw [decide_eq_false hlt]
        dsimp only
        refine wpS_neg (by decide) ?_
        refine wpS_bind (wpS_elem ep' ?_)
        have m1 := pB ep m fun y hy=>by have := aA y hy; exact z27 hlt this
        refine wpS_ite (fun d1=>?_) fun d1=>?_
        · exact wpS_pure (HiQ1.good (fB _ _ _ m1 (beq_iff_eq.mp d1)))
        · simp only [beq_iff_eq] at d1
          refine wpS_ite (fun d2=>?_) fun d2=>?_
          · exact wpS_pure (HiQ1.go ⟨m1,l1,l2,by exact z28 l3 d1,by exact z24 l4,by exact z29 l3 l5⟩)
          · exact wpS_pure (HiI1.mk ⟨m1,l1,l2,by exact z28 l3 d1,by exact z24 l4,by exact z30 l3 l5⟩)
    case post1 =>
      intro c st' hq
      cases hq
      · rename_i r x' g1
        exact wpS_pure (EndQ.mk g1)
      rename_i out ia ib ac bc hm
      obtain ⟨m,l1,l2,l3,l4,l5⟩ := hm
      refine wpS_bind (wpS_lift (wpAny_rule ⟨rfl,?_⟩))
      refine wpS_bind (wpS_mono (wpS_forRange (I := fun _ c st'=>HiI2 a b st (x + 2) c st') (Q := fun c st'=>HiQ2 a b st (x + 2) c st') ?step2 ?fin2 (HiI2.mk ⟨m,l1,l2,l3,l4,by (first | lia | omega)⟩)) ?post2)
      case fin2 =>
        intro c st' hq
        cases hq
        rename_i out ia ib mg ac bc g hm
        obtain ⟨m,l1,l2,l3,l4,l5⟩ := hm
        exact HiQ2.go ⟨m,l1,l2,l3,l4,l5⟩
      case post2 =>
        intro c st' hq
        cases hq
        · rename_i r x' g g1
          exact wpS_pure (EndQ.mk g1)
        rename_i out ia ib mg ac bc g hm
        obtain ⟨m,l1,l2,l3,l4,l5⟩ := hm
        dsimp only
        exact wpS_bind (wpS_setG (wpS_pure (HiI.mk ⟨m,l1,l2,l3,l4,by exact z31 l5⟩)))
      case step2 =>
        intro y c st' _ hy hq
        cases hq
        rename_i out ia ib mg ac bc g hm
        obtain ⟨m,l1,l2,l3,l4,l5⟩ := hm
        apply if_jp (y := mg) (x := mg - 1)
        case e=>rfl
        intro z
        dsimp only
        refine wpS_bind (wpS_setG ?_)
        refine x1_2 (take_ex (arr := b) (i := ib) (by exact Nat.one_le_of_lt l3) l4) fun p ep ep'=>?_
        have hp : IntP p := jb p (List.mem_of_mem_take (i := ib) (by rw [ep]; simp))
        have aB := asc_last (by have := m.sb; rw [ep] at this; exact this)
        rw [← ep] at aB
        refine wpS_bind (wpS_elem ep' (wpS_bind (galR (L := a.toList.take ia) hk hp (by rw [List.drop_zero]) (by rw [List.length_take]; exact z32 asz l2) m.sa (fun p hp=>ja p (List.mem_of_mem_take hp)) (by exact Nat.sub_one_lt_of_lt l1) fun k k1 k2 k3=>?_)))
        dsimp only
        rw [List.take_take,show min k ia = k by exact Nat.min_eq_left k1] at k2
        rw [dt] at k3
        generalize hkk : ia - k = kk
        apply if_jp2 (o := out) (i := ia) (HiC a b p (x + 2) ib)
        · rintro o i ⟨mo,li,li',lt,lx⟩
          refine wpS_bind (wpS_elem ep' ?_)
          have m1 := pB ep mo lt
          refine wpS_ite (fun d1=>?_) fun d1=>?_
          · exact wpS_pure (HiQ2.good (fB _ _ _ m1 (beq_iff_eq.mp d1)))
          simp only [beq_iff_eq] at d1
          refine x1_2 (take_ex (arr := a) (i := i) li li') fun q eq eq'=>?_
          have hq : IntP q := ja q (List.mem_of_mem_take (i := i) (by rw [eq]; simp))
          have ib1 : 2 ≤ ib - 1 := by exact z28 l3 d1
          have ib2' : ib - 1 ≤ b.size := by exact z24 l4
          have lx : i + (ib - 1) + x + 3 ≤ a.size + b.size := by exact z33 lx ib1
          generalize ib - 1 = ib2 at m1 ib1 ib2' lx ⊢
          generalize o.push p = o2 at m1 ⊢
          refine wpS_bind (wpS_elem eq' (wpS_bind (galL (L := b.toList.take ib2) hk hq (by rw [List.drop_zero]) (by rw [List.length_take]; exact z32 bsz ib2') m1.sb (fun p hp=>jb p (List.mem_of_mem_take hp)) (by exact Nat.sub_one_lt_of_lt ib1) fun k' j1 j2 j3=>?_)))
          dsimp only
          rw [List.take_take,show min k' ib2 = k' by exact Nat.min_eq_left j1] at j2
          rw [dt] at j3
          have aA := asc_last (by have := m1.sa; rw [eq] at this; exact this)
          rw [← eq] at aA
          generalize hjj : ib2 - k' = jj
          apply if_jp2 (o := o2) (i := ib2) (HiD a b q (x + 3) i)
          · rintro o j ⟨mo,lj,lj',lt,lx⟩
            refine wpS_bind (wpS_elem eq' ?_)
            have m2 := pA eq mo lt
            refine wpS_ite (fun d2=>?_) fun d2=>?_
            · exact wpS_pure (HiQ2.good (dn _ _ _ m2 (.inl (beq_iff_eq.mp d2))))
            simp only [beq_iff_eq] at d2
            refine wpS_ite (fun d3=>?_) fun d3=>?_
            · exact wpS_pure (HiQ2.go ⟨m2,by exact Nat.one_le_iff_ne_zero.mpr d2,by exact z24 li',lj,lj',by exact z34 lx⟩)
            · exact wpS_pure (HiI2.mk ⟨m2,by exact Nat.one_le_iff_ne_zero.mpr d2,by exact z24 li',lj,lj',by exact z34 lx⟩)
          · intro hk0 go
            have m2 := bB j1 m1 fun x hx y hy=>by have := j3 x hx; have := aA y hy; (first | lia | omega)
            refine wpS_ite (fun d2=>?_) fun d2=>?_
            · exact wpS_pure (HiQ2.good (fB _ _ _ m2 (beq_iff_eq.mp d2)))
            refine wpS_ite (fun d3=>?_) fun d3=>?_
            · exact wpS_pure (HiQ2.good (dn _ _ _ m2 (.inr (beq_iff_eq.mp d3))))
            simp only [beq_iff_eq] at d2 d3
            exact go _ _ ⟨m2,by exact z35 d2 d3,by exact Nat.le_trans j1 ib2',fun y hy=>Int.le_of_lt (j2 y hy),by exact z36 lx j1⟩
          · intro hk0
            have : k' = ib2 := by exact z37 j1 hjj hk0
            subst this
            exact ⟨m1,ib1,ib2',fun y hy=>Int.le_of_lt (j2 y hy),lx⟩
        · intro hk0 go
          have m1 := bA k1 m fun x hx y hy=>by have := k3 x hx; have := aB y hy; (first | lia | omega)
          refine wpS_ite (fun d1=>?_) fun d1=>?_
          · exact wpS_pure (HiQ2.good (dn _ _ _ m1 (.inl (beq_iff_eq.mp d1))))
          simp only [beq_iff_eq] at d1
          exact go _ _ ⟨m1,by exact Nat.one_le_iff_ne_zero.mpr d1,by exact z38 l2 hkk hk0,k2,by exact z39 l5 hkk hk0⟩
        · intro hk0
          have : k = ia := by exact z37 k1 hkk hk0
          subst this
          exact ⟨m,l1,l2,k2,by exact z40 l5⟩
end
end Mine
namespace Mine
open PySem PyProof.Rows
set_option maxRecDepth 100000
local macro_rules | `(tactic| walk_at "d_cr")=>`(tactic| delta $(Lean.mkIdent (Lean.mkPrivateNameCore `PySem.Builtin.List.W1All `PySem.Builtin.countRun)))
local macro_rules | `(tactic| walk_at "d_bs")=>`(tactic| delta $(Lean.mkIdent (Lean.mkPrivateNameCore `PySem.Builtin.List.W1All `PySem.Builtin.binarySort)))
noncomputable def Frm (lo : Nat) (xs ys : Array Keyed) : Prop := ys.Perm xs ∧ ∀ i,i < lo → ys[i]? = xs[i]?
theorem Frm.refl {lo : Nat} {xs : Array Keyed} : Frm lo xs xs := ⟨Array.Perm.refl _,fun _ _=>rfl⟩
theorem Frm.trans {lo : Nat} {xs ys zs : Array Keyed} (h : Frm lo xs ys) (h' : Frm lo ys zs) : Frm lo xs zs := ⟨h'.1.trans h.1,fun i hi=>(h'.2 i hi).trans (h.2 i hi)⟩
theorem Frm.size {lo : Nat} {xs ys : Array Keyed} (h : Frm lo xs ys) : ys.size = xs.size := h.1.size_eq
theorem Frm.mirror {lo i j : Nat} {xs : Array Keyed} (hj : j ≤ xs.size) (hi : lo ≤ i) : Frm lo xs (mirror xs i j ((j - i) / 2)) := ⟨mirror_perm _ _ _ _,fun k hk=>by rw [getElem?_mirror_all hj,if_neg (by exact z41 hi hk)]⟩
theorem Frm.bubble {lo src d : Nat} {xs : Array Keyed} (hs : src < xs.size) (hd : lo + d ≤ src) : Frm lo xs (bubble xs src d) := ⟨bubble_perm _ _ _,fun k hk=>by rw [getElem?_bubble hs d (by exact Nat.le_of_add_left_le hd),if_neg (by exact z42 hd hk),if_neg (by exact z43 hd hk)]⟩
noncomputable def IntA (xs : Array Keyed) : Prop := ∀ p ∈ xs.toList,IntP p
theorem Frm.int {lo : Nat} {xs ys : Array Keyed} (h : Frm lo xs ys) (hi : IntA xs) : IntA ys := fun p hp=>hi p ((Array.perm_iff_toList_perm.mp h.1).mem_iff.mp hp)
noncomputable def Sg (xs : Array Keyed) (lo n : Nat) : Prop := ∀ i j,i ≤ j → j < n → K xs (lo + i) ≤ K xs (lo + j)
noncomputable def Dn (xs : Array Keyed) (lo n : Nat) : Prop := ∀ i j,i ≤ j → j < n → K xs (lo + j) ≤ K xs (lo + i)
section
variable {prog : Program} {w : World} {A : Around} {E : Value → Shared → Prop} {s : Shared} {st : SortSt} {xs : Array Keyed}
theorem int_at (hi : IntA xs) {i : Nat} (h : i < xs.size) : ∃ t q,xs[i]? = some (.int (K xs i) t,q) := by
  refine x2_1 (hi xs[i] (by simp)) fun n t e=>?_
  refine ⟨t,xs[i].2,?_⟩
  have e1 : xs[i]? = some xs[i] := getElem?_pos xs i h
  have e2 : xs[i] = (.int n t,xs[i].2) := Prod.ext e rfl
  unfold K
  rw [e1,e2]; rfl
theorem ltX {i j : Nat} {Q : Option Bool → SortSt → Prop} (hk : kindOf st = oneType') (hx : IntA xs) (hi : i < xs.size) (hj : j < xs.size) (h1 : K xs i < K xs j → Q (some true) (setArr st xs)) (h2 : ¬ K xs i < K xs j → Q (some false) (setArr st xs)) : wpS (model prog w) A E s (ltAt' i j) Q (setArr st xs) := by
  refine x2_1 (int_at hx hi) fun t p e1=>?_
  refine x2_1 (int_at hx hj) fun u q e2=>?_
  refine wpS_ltAt (st := setArr st xs) hk e1 e2 ?_
  by_cases h : K xs i < K xs j
  · rw [decide_eq_true h]; exact h1 h
  · rw [decide_eq_false h]; exact h2 h
theorem if_tail {α : Type} {F m1 : StateT SortSt Sem α} {P : Prop} {dP : Decidable P} {Q : α → SortSt → Prop} (C : SortSt → Prop) (key : ∀ st',C st' → wpS (model prog w) A E s F Q st')
    (h1 : P → (∀ st',C st' → wpS (model prog w) A E s F Q st') → wpS (model prog w) A E s m1 Q st) (h2 : ¬ P → C st) : wpS (model prog w) A E s (if P then m1 else F) Q st := by
  split
  · rename_i hp; exact h1 hp key
  · rename_i hp; exact key _ (h2 hp)
theorem mir_ix {a b c : Nat} (h : a < b) : c + (b - 1 - a) = c + (c + b) - 1 - (c + a) := by
  rw [Nat.sub_sub,Nat.sub_sub,Nat.add_left_comm 1 c a,Nat.add_sub_add_left,Nat.add_sub_assoc (by rw [Nat.add_comm]; exact h)]
theorem pred_add {lo x : Nat} (h : 1 ≤ x) : lo + x - 1 = lo + (x - 1) := Nat.add_sub_assoc h lo
theorem seg_in {lo x n k : Nat} (h : n ≤ x) (h1 : lo + x - n ≤ k) (h2 : k < lo + x) : x - n ≤ k - lo ∧ k - lo < x ∧ lo + (k - lo) = k := by
  rw [Nat.add_sub_assoc h] at h1
  refine x1_1 (Nat.exists_eq_add_of_le (Nat.le_trans (Nat.le_add_right _ _) h1)) fun i eQ1=>?_
  subst eQ1
  rw [Nat.add_sub_cancel_left]
  exact ⟨Nat.le_of_add_le_add_left h1,Nat.lt_of_add_lt_add_left h2,rfl⟩
theorem up_loop {lo a nrem : Nat} {f : Nat → Option (Option Nat) × Nat → StateT SortSt Sem (ForInStep (Option (Option Nat) × Nat))} {Q : Option (Option Nat) × Nat → SortSt → Prop} (hn : lo + nrem ≤ xs.size) (ha : 1 ≤ a) (han : a ≤ nrem) (hs : Sg xs lo a)
    (hf : ∀ (x n : Nat) (R : ForInStep (Option (Option Nat) × Nat) → SortSt → Prop),1 ≤ n → n < nrem → (K xs (lo + n) < K xs (lo + n - 1) → R (.done (none,n)) (setArr st xs)) → (¬ K xs (lo + n) < K xs (lo + n - 1) → R (.yield (none,n + 1)) (setArr st xs)) → wpS (model prog w) A E s (f x (none,n)) R (setArr st xs))
    (h : ∀ n,a ≤ n → n ≤ nrem → Sg xs lo n → (n = nrem ∨ K xs (lo + n) < K xs (lo + n - 1)) → Q (none,n) (setArr st xs)) :
    wpS (model prog w) A E s (forIn [a:nrem] (none,a) f) Q (setArr st xs) := by
  refine wpS_forRange (I := fun x c st'=>st' = setArr st xs ∧ c = (none,x) ∧ Sg xs lo x) ?step ?fin ⟨rfl,rfl,hs⟩
  case fin =>
    rintro c st' ⟨rfl,rfl,hs'⟩
    rw [show max a nrem = nrem by (first | lia | omega)] at hs' ⊢
    exact h nrem han (Nat.le_refl _) hs' (.inl rfl)
  case step =>
    rintro x c st' hax hxn ⟨rfl,rfl,hs'⟩
    refine hf x x _ (by exact Nat.le_trans ha hax) hxn (fun hl=>h x hax (by exact Nat.le_of_succ_le hxn) hs' (.inr hl)) fun hl=>⟨rfl,rfl,fun i j hij hj=>?_⟩
    rcases Nat.lt_or_eq_of_le (show j ≤ x by exact Nat.le_of_lt_succ hj) with hjx | rfl
    · exact hs' i j hij hjx
    · rcases Nat.lt_or_eq_of_le hij with z | rfl
      · have h1 := hs' i (j - 1) (by exact Nat.le_sub_one_of_lt z) (by exact Nat.sub_one_lt_of_lt z)
        rw [← pred_add (Nat.lt_of_le_of_lt (Nat.zero_le _) z)] at h1
        exact z27 hl h1
      · exact Int.le_refl _
theorem wpS_run {lo nrem : Nat} {Q : Option Nat → SortSt → Prop} (hk : kindOf st = oneType') (hx : IntA xs) (hn : lo + nrem ≤ xs.size) (h1 : 1 ≤ nrem)
    (h : ∀ m ys,Frm lo xs ys → 1 ≤ m → m ≤ nrem → Sg ys lo m → Q (some m) (setArr st ys)) : wpS (model prog w) A E s (countRun' lo nrem) Q (setArr st xs) := by
  delta countRun'
  walk_at "d_cr"
  dsimp only
  refine wpS_bind (up_loop hn (Nat.le_refl 1) h1 (fun i j hij hj=>by rw [show i = j by exact z44 hij hj]; exact Int.le_refl _) (fun x n R n1 n2 r1 r2=>?_) fun n n1 n2 hs hor=>?_)
  · exact wpS_bind (ltX hk hx (by (first | lia | omega)) (by (first | lia | omega)) (fun hl=>wpS_pure (r1 hl)) fun hl=>wpS_pure (r2 hl))
  dsimp only
  by_cases c1 : (n == nrem) = true
  · rw [if_pos c1]
    exact wpS_pure (h n xs Frm.refl n1 n2 hs)
  rw [if_neg c1]
  have hne : n ≠ nrem := by simpa using c1
  have hlt := hor.resolve_left hne
  apply if_tail (fun st'=>∃ ys,st' = setArr st ys ∧ Frm lo xs ys ∧ Dn ys lo (n + 1))
  · rintro st' ⟨ys,rfl,fy,dy⟩
    refine wpS_bind (wpS_lift (wpAny_rule ⟨rfl,?_⟩))
    refine wpS_bind (wpS_mono (wpS_forRange (I := fun x c st'=>∃ ys neq,c = (none,x,neq) ∧ st' = setArr st ys ∧ Frm lo xs ys ∧ Dn ys lo x ∧ neq + 1 ≤ x ∧ (∀ i,x - (neq + 1) ≤ i → i < x → K ys (lo + i) = K ys (lo + (x - 1))))
      (Q := fun c st'=>∃ ys m neq,c = (none,m,neq) ∧ st' = setArr st ys ∧ Frm lo xs ys ∧ 1 ≤ m ∧ m ≤ nrem ∧ Dn ys lo m ∧ neq + 1 ≤ m ∧ (∀ i,m - (neq + 1) ≤ i → i < m → K ys (lo + i) = K ys (lo + (m - 1)))) ?step ?fin ⟨ys,0,rfl,rfl,fy,dy,by exact z45,fun i i1 i2=>by rw [show i = n + 1 - 1 by exact Nat.eq_of_le_of_lt_succ i1 i2]⟩) ?post)
    case fin =>
      rintro c st' ⟨ys,neq,rfl,rfl,fy,dy,q1,q2⟩
      rw [show max (n + 1) nrem = nrem by (first | lia | omega)] at *
      exact ⟨ys,nrem,neq,rfl,rfl,fy,by exact Nat.one_le_of_lt q1,Nat.le_refl _,dy,q1,q2⟩
    case step =>
      rintro x c st' hax hxn ⟨ys,neq,rfl,rfl,fy,dy,q1,q2⟩
      have sz := fy.size
      have nxt : ∀ zs : Array Keyed,(∀ k,K zs k = K ys k) → K ys (lo + x) ≤ K ys (lo + (x - 1)) → Dn zs lo (x + 1) := by
        intro zs ez hle i j hij hj
        rw [ez,ez]
        rcases Nat.lt_or_eq_of_le (show j ≤ x by exact Nat.le_of_lt_succ hj) with hjx | rfl
        · exact dy i j hij hjx
        · rcases Nat.lt_or_eq_of_le hij with z | rfl
          · exact Int.le_trans hle (dy i (j - 1) (by exact Nat.le_sub_one_of_lt z) (by exact Nat.sub_one_lt_of_lt z))
          · exact Int.le_refl _
      have ex : lo + x - 1 = lo + (x - 1) := pred_add (Nat.le_trans (Nat.succ_le_succ (Nat.zero_le _)) q1)
      dsimp only
      refine wpS_bind (ltX hk (fy.int hx) (by exact z46 hn hxn sz) (by exact z47 hn hxn sz) (fun hl=>?_) fun hl=>?_)
      · dsimp only
        rw [if_pos rfl]
        rw [ex] at hl
        by_cases hq : neq > 0
        · rw [if_pos hq]
          have fm : Frm lo ys (mirror ys (lo + x - (neq + 1)) (lo + x) ((lo + x - (lo + x - (neq + 1))) / 2)) := Frm.mirror (by exact z48 hn hxn sz) (by exact z49 q1)
          refine wpS_bind (wpS_reverse (wpS_pure ⟨_,0,rfl,rfl,fy.trans fm,nxt _ (K_mirror_equal (xs := ys) (by exact z48 hn hxn sz) fun k k1 k2=>?_) (Int.le_of_lt hl),by exact z45,fun i i1 i2=>by rw [show i = x + 1 - 1 by exact Nat.eq_of_le_of_lt_succ i1 i2]⟩))
          refine x0_3 (seg_in q1 k1 k2) fun e1 e2 e3=>?_
          have := q2 (k - lo) e1 e2
          rw [e3] at this
          rw [this,ex]
        · rw [if_neg hq]
          exact wpS_pure ⟨ys,0,rfl,rfl,fy,nxt _ (fun _=>rfl) (Int.le_of_lt hl),by exact z45,fun i i1 i2=>by rw [show i = x + 1 - 1 by exact Nat.eq_of_le_of_lt_succ i1 i2]⟩
      · dsimp only
        rw [if_neg (by decide)]
        rw [ex] at hl
        refine wpS_bind (ltX hk (fy.int hx) (by exact z47 hn hxn sz) (by exact z46 hn hxn sz) (fun hl2=>?_) fun hl2=>?_)
        · exact wpS_pure ⟨ys,x,neq,rfl,rfl,fy,by exact Nat.one_le_of_lt q1,by exact Nat.le_of_succ_le hxn,dy,q1,q2⟩
        · rw [ex] at hl2
          refine wpS_pure ⟨ys,neq + 1,rfl,rfl,fy,nxt _ (fun _=>rfl) (by exact Int.not_lt.mp hl2),by exact Nat.add_le_add_right q1 1,fun i i1 i2=>?_⟩
          rw [show x + 1 - 1 = x by exact z50]
          rcases Nat.lt_or_eq_of_le (show i ≤ x by exact Nat.le_of_lt_succ i2) with z | rfl
          · rw [q2 i (by exact z51 i1) z]; exact z52 hl hl2
          · rfl
    case post =>
      rintro c st' ⟨ys,m,neq,rfl,rfl,fy,m1,m2,dy,q1,q2⟩
      dsimp only
      have sz := fy.size
      apply if_tail (fun st'=>∃ zs,st' = setArr st zs ∧ Frm lo xs zs ∧ Dn zs lo m)
      · rintro st' ⟨zs,rfl,fz,dz⟩
        have szz := fz.size
        refine wpS_bind (wpS_reverse ?_)
        have fm : Frm lo zs (mirror zs lo (lo + m) ((lo + m - lo) / 2)) := Frm.mirror (by exact z53 hn m2 szz) (Nat.le_refl _)
        have ft := fz.trans fm
        have km := fun k=>K_mirror (xs := zs) (i := lo) (j := lo + m) (by exact z53 hn m2 szz) k
        show wpS (model prog w) A E s _ Q (setArr st (mirror zs lo (lo + m) ((lo + m - lo) / 2)))
        generalize mirror zs lo (lo + m) ((lo + m - lo) / 2) = us at fm ft km
        have szu := ft.size
        refine wpS_bind (up_loop (st := st) (lo := lo) (xs := us) (by exact le_of_le_of_eq hn (id (Eq.symm szu))) m1 m2 (fun i j hij hj=>?_) (fun x n R n1 n2 r1 r2=>?_) fun n n1 n2 hs hor=>?_)
        · rw [km,km,if_pos (by exact z54 hij hj),if_pos (by exact z55 hj)]
          have := dz (m - 1 - j) (m - 1 - i) (by exact z56 hij) (by exact z57 hj)
          rw [mir_ix hj,mir_ix (Nat.lt_of_le_of_lt hij hj)] at this
          exact this
        · exact wpS_bind (ltX hk (ft.int hx) (by (first | lia | omega)) (by (first | lia | omega)) (fun hl=>wpS_pure (r1 hl)) fun hl=>wpS_pure (r2 hl))
        · exact wpS_pure (h n us ft (by exact z58 q1 n1) n2 hs)
      · intro hq go
        have fm : Frm lo ys (mirror ys (lo + m - (neq + 1)) (lo + m) ((lo + m - (lo + m - (neq + 1))) / 2)) := Frm.mirror (by exact z53 hn m2 sz) (by exact z49 q1)
        refine wpS_bind (wpS_reverse (go _ ⟨_,rfl,fy.trans fm,fun i j hij hj=>?_⟩))
        have ek := K_mirror_equal (xs := ys) (i := lo + m - (neq + 1)) (j := lo + m) (by exact z53 hn m2 sz) fun k k1 k2=>by
          refine x0_3 (seg_in q1 k1 k2) fun e1 e2 e3=>?_
          have := q2 (k - lo) e1 e2
          rw [e3] at this
          rw [this,pred_add m1]
        rw [ek,ek]
        exact dy i j hij hj
      · intro hq
        exact ⟨ys,rfl,fy,dy⟩
  · intro hgt go
    refine wpS_bind (ltX hk hx (by exact z59 hn h1) (by exact z60 hn n1 n2) (fun hl=>?_) fun hl=>?_)
    · exact wpS_pure (h n xs Frm.refl n1 n2 hs)
    · have ex : lo + n - 1 = lo + (n - 1) := pred_add n1
      rw [ex] at hl hlt
      have all : ∀ i,i < n → K xs (lo + i) = K xs (lo + (n - 1)) := fun i hi=>by
        have a1 := hs 0 i (by exact z5) hi
        have a2 := hs i (n - 1) (by exact Nat.le_sub_one_of_lt hi) (by exact Nat.sub_one_lt_of_lt hi)
        rw [Nat.add_zero] at a1
        exact z61 hl a1 a2
      have fm : Frm lo xs (mirror xs lo (lo + n) ((lo + n - lo) / 2)) := Frm.mirror (by exact z62 hn n2) (Nat.le_refl _)
      refine wpS_bind (wpS_reverse (go _ ⟨_,rfl,fm,fun i j hij hj=>?_⟩))
      have ek := K_mirror_equal (xs := xs) (i := lo) (j := lo + n) (by exact z62 hn n2) fun k k1 k2=>by
        have := all (k - lo) (Nat.sub_lt_left_of_lt_add k1 k2)
        rw [Nat.add_sub_cancel' k1] at this
        rw [this,ex]
      rw [ek,ek]
      rcases Nat.lt_or_eq_of_le (show j ≤ n by exact Nat.le_of_lt_succ hj) with z | rfl
      · rw [all i (by exact Nat.lt_of_le_of_lt hij z),all j z]; exact Int.le_refl _
      · rcases Nat.lt_or_eq_of_le hij with z | rfl
        · rw [all i z]; exact Int.le_of_lt hlt
        · exact Int.le_refl _
  · intro hgt
    have : n = 1 := by exact z63 n1 hgt
    subst this
    refine ⟨xs,rfl,Frm.refl,fun i j hij hj=>?_⟩
    rw [show lo + 1 - 1 = lo by exact z50] at hlt
    rcases Nat.lt_or_eq_of_le hij with z | rfl
    · rw [show i = 0 by exact z64 hj z,show j = 1 by exact z65 hj z]; exact Int.le_of_lt hlt
    · exact Int.le_refl _
theorem half_in {l r : Nat} (h : l < r) : l ≤ (l + r) / 2 ∧ (l + r) / 2 < r := by exact z66 h
theorem wpS_ins {lo n ok : Nat} {Q : Bool → SortSt → Prop} (hk : kindOf st = oneType') (hx : IntA xs) (hn : lo + n ≤ xs.size) (hok : ok ≤ n) (hs : Sg xs lo ok)
    (h : ∀ ys,Frm lo xs ys → Sg ys lo n → Q true (setArr st ys)) : wpS (model prog w) A E s (binarySort' lo n ok) Q (setArr st xs) := by
  delta binarySort'
  walk_at "d_bs"
  dsimp only
  refine wpS_bind (wpS_mono (wpS_forRange (I := fun k c st'=>∃ ys,c = (none,()) ∧ st' = setArr st ys ∧ Frm lo xs ys ∧ Sg ys lo (min k n))
    (Q := fun c st'=>∃ ys,c = (none,()) ∧ st' = setArr st ys ∧ Frm lo xs ys ∧ Sg ys lo n) ?step ?fin ⟨xs,rfl,rfl,Frm.refl,fun i j hij hj=>?init⟩) ?post)
  case init =>
    rcases Nat.eq_zero_or_pos ok with z | z
    · rw [show i = j by exact z67 hij hj z]; exact Int.le_refl _
    · exact hs i j hij (by exact z68 hj z)
  case post =>
    rintro c st' ⟨ys,rfl,rfl,fy,sy⟩
    exact wpS_pure (h ys fy sy)
  case fin =>
    rintro c st' ⟨ys,rfl,rfl,fy,sy⟩
    rw [Nat.min_eq_right (Nat.le_max_right _ _)] at sy
    exact ⟨ys,rfl,rfl,fy,sy⟩
  case step =>
    rintro k c st' hak hkn ⟨ys,rfl,rfl,fy,sy⟩
    have sz := fy.size
    rw [Nat.min_eq_left (Nat.le_of_lt hkn)] at sy
    refine wpS_bind (wpS_mono (wpS_forRange (I := fun x c st'=>st' = setArr st ys ∧ ∃ l r,c = (none,l,r) ∧ l ≤ r ∧ r ≤ k ∧ r + x ≤ k + l ∧ (∀ i,i < l → K ys (lo + i) ≤ K ys (lo + k)) ∧ (∀ i,r ≤ i → i < k → K ys (lo + k) < K ys (lo + i)))
      (Q := fun c st'=>st' = setArr st ys ∧ ∃ l r,c = (none,l,r) ∧ l ≤ k ∧ (∀ i,i < l → K ys (lo + i) ≤ K ys (lo + k)) ∧ (∀ i,l ≤ i → i < k → K ys (lo + k) < K ys (lo + i))) ?istep ?ifin ⟨rfl,0,k,rfl,Nat.zero_le _,Nat.le_refl _,Nat.le_refl _,fun i hi=>absurd hi (Nat.not_lt_zero _),fun i h1 h2=>absurd h2 (Nat.not_lt_of_le h1)⟩) ?ipost)
    case ifin =>
      rintro c st' ⟨rfl,l,r,rfl,a1,a2,a3,a4,a5⟩
      have : l = r := Nat.le_antisymm a1 (bin_c a3)
      subst this
      exact ⟨rfl,l,l,rfl,a2,a4,a5⟩
    case istep =>
      rintro x c st' _ hxk ⟨rfl,l,r,rfl,a1,a2,a3,a4,a5⟩
      dsimp only
      by_cases hge : l ≥ r
      · rw [if_pos hge]
        have : l = r := Nat.le_antisymm a1 hge
        subst this
        exact wpS_pure ⟨rfl,l,l,rfl,a2,a4,a5⟩
      · rw [if_neg hge]
        refine x0_2 (half_in (Nat.lt_of_not_le hge)) fun m0 m1=>?_
        refine wpS_bind (ltX hk (fy.int hx) (by exact z46 hn hkn sz) (by exact z69 hn hkn sz a1 a2) (fun hl=>?_) fun hl=>?_)
        · exact wpS_pure ⟨rfl,l,(l + r) / 2,rfl,m0,Nat.le_trans (Nat.le_of_lt m1) a2,bin_b a3 m1,a4,fun i i1 i2=>Int.lt_of_lt_of_le hl (sy _ _ i1 i2)⟩
        · exact wpS_pure ⟨rfl,(l + r) / 2 + 1,r,rfl,m1,a2,bin_a a3 m0,fun i i1=>Int.le_trans (sy i ((l + r) / 2) (Nat.le_of_lt_succ i1) (Nat.lt_of_lt_of_le m1 a2)) (Int.not_lt.mp hl),a5⟩
    case ipost =>
      rintro c st' ⟨rfl,l,r,rfl,a1,a4,a5⟩
      have eb : lo + k - (lo + l) = k - l := Nat.add_sub_add_left lo k l
      have fb : Frm lo ys (bubble ys (lo + k) (lo + k - (lo + l))) := Frm.bubble (by exact z46 hn hkn sz) (by exact z70)
      refine wpS_bind (wpS_modify (wpS_pure ⟨bubble ys (lo + k) (lo + k - (lo + l)),rfl,rfl,fy.trans fb,?_⟩))
      rw [Nat.min_eq_left hkn,eb]
      intro i j hij hj
      rw [K_bubble (by exact z46 hn hkn sz) (by exact z71),K_bubble (by exact z46 hn hkn sz) (by exact z71),show lo + k - (k - l) = lo + l by rw [Nat.add_sub_assoc (Nat.sub_le _ _),Nat.sub_sub_self a1]]
      repeat' split
      all_goals first
        | (exfalso; (first | lia | omega))
        | exact Int.le_refl _
        | exact a4 i (by (first | lia | omega))
        | exact Int.le_of_lt (a5 j (by (first | lia | omega)) (by (first | lia | omega)))
        | exact sy _ _ (by (first | lia | omega)) (by (first | lia | omega))
        | (rw [show lo + j - 1 = lo + (j - 1) by (first | lia | omega)]; first | exact a4 _ (by (first | lia | omega)) | exact Int.le_of_lt (a5 _ (by (first | lia | omega)) (by (first | lia | omega))) | exact sy _ _ (by (first | lia | omega)) (by (first | lia | omega)) | (rw [show lo + i - 1 = lo + (i - 1) by (first | lia | omega)]; exact sy _ _ (by exact Nat.sub_le_sub_right hij 1) (by (first | lia | omega))))
        | (rw [show lo + i - 1 = lo + (i - 1) by (first | lia | omega)]; first | exact a4 _ (by (first | lia | omega)) | exact sy _ _ (by (first | lia | omega)) (by (first | lia | omega)))
end
end Mine
namespace Mine
open PySem PyProof.Rows
set_option maxRecDepth 100000
local macro_rules | `(tactic| walk_at "d_ma")=>`(tactic| delta $(Lean.mkIdent (Lean.mkPrivateNameCore `PySem.Builtin.List.W1All `PySem.Builtin.mergeAt)))
noncomputable def offs : Nat → List (List Keyed) → List (Nat × Nat)
  | _,[]=>[]
  | o,l :: r=>(o,l.length) :: offs (o + l.length) r
theorem offs_app : ∀ (S T : List (List Keyed)) (o : Nat),offs o (S ++ T) = offs o S ++ offs (o + S.flatten.length) T
  | [],T,o=>rfl
  | l :: S,T,o=>by
    show (o,l.length) :: offs (o + l.length) (S ++ T) = (o,l.length) :: (offs (o + l.length) S ++ _)
    rw [offs_app S T]; simp [Nat.add_assoc]
theorem offs_len : ∀ (S : List (List Keyed)) (o : Nat),(offs o S).length = S.length
  | [],_=>rfl
  | l :: S,o=>by simp [offs,offs_len S]
theorem er_map {α β : Type} (f : α → β) : ∀ (l : List α) (i : Nat),(l.eraseIdx i).map f = (l.map f).eraseIdx i
  | [],_=>rfl
  | _ :: _,0=>rfl
  | a :: l,i + 1=>by simp [List.eraseIdx,er_map f l i]
noncomputable def fst2 (e : Nat × Nat × Nat) : Nat × Nat := (e.1,e.2.1)
structure RunsI (t : List Keyed) (st : SortSt) (segs : List (List Keyed)) (rest : List Keyed) : Prop where
  kind : kindOf st = oneType'
  fail : failedOf st = none
  arr : (arrOf st).toList = segs.flatten ++ rest
  perm : (arrOf st).toList.Perm t
  pend : (pendingOf st).toList.map fst2 = offs 0 segs
  asc : ∀ l ∈ segs,Asc kn l ∧ l ≠ []
noncomputable def putAt (a : Array Keyed) (o : Nat) (l : List (Keyed × Nat)) : Array Keyed := l.foldl (fun a x=>a.setIfInBounds (o + x.2) x.1) a
theorem put_list : ∀ (l : List Keyed) (a : Array Keyed) (o n : Nat),o + n + l.length ≤ a.size → (putAt a o (l.zipIdx n)).toList = a.toList.take (o + n) ++ l ++ a.toList.drop (o + n + l.length)
  | [],a,o,n,h=>by simp [putAt]
  | p :: l,a,o,n,h=>by
    simp only [List.length_cons] at h
    have ih := put_list l (a.setIfInBounds (o + n) p) o (n + 1) (by rw [Array.size_setIfInBounds]; exact z72 h)
    show (putAt (a.setIfInBounds (o + n) p) o (l.zipIdx (n + 1))).toList = _
    rw [ih,Array.toList_setIfInBounds]
    have hl : o + n < a.toList.length := by simp; exact Nat.lt_of_add_right_lt h
    rw [show o + (n + 1) = o + n + 1 from rfl,List.take_add_one,List.getElem?_set_self hl,List.take_set_of_le (Nat.le_refl _),List.drop_set_of_lt (by exact z73)]
    simp only [List.length_cons,Option.toList_some,List.append_assoc,List.cons_append,List.nil_append]
    rw [show o + n + 1 + l.length = o + n + (l.length + 1) by rw [Nat.add_assoc,Nat.add_comm 1]]
section
variable {prog : Program} {w : World} {A : Around} {E : Value → Shared → Prop} {s : Shared} {st : SortSt}
theorem wpS_set {σ : Type} {M : Model} {x st : σ} {Q : PUnit → σ → Prop} (h : Q ⟨⟩ x) : wpS M A E s (set x : StateT σ Sem PUnit) Q st := by
  unfold wpS; rw [StateT.run_set]; exact wpAny_pure ⟨rfl,h⟩
theorem wpS_mergeAt {t : List Keyed} {S1 S2 : List (List Keyed)} {u v rest : List Keyed} {Q : Bool → SortSt → Prop} (ht : ∀ p ∈ t,IntP p) (hr : RunsI t st (S1 ++ u :: v :: S2) rest)
    (h : ∀ st' m,RunsI t st' (S1 ++ m :: S2) rest → Q true st') : wpS (model prog w) A E s (mergeAt' S1.length) Q st := by
  obtain ⟨hk,hf,ha,hp,hq,hs⟩ := hr
  have hint : ∀ p ∈ (arrOf st).toList,IntP p := fun p h=>ht p (hp.mem_iff.mp h)
  refine x0_2 (hs u (by simp)) fun su une=>?_
  refine x0_2 (hs v (by simp)) fun sv vne=>?_
  have ho : S1.length < (pendingOf st).toList.length ∧ S1.length + 1 < (pendingOf st).toList.length := by
    have : ((pendingOf st).toList.map fst2).length = (offs 0 (S1 ++ u :: v :: S2)).length := by rw [hq]
    rw [List.length_map,offs_len] at this
    simp only [List.length_append,List.length_cons] at this
    exact z74 this
  have e0 : offs 0 (S1 ++ u :: v :: S2) = offs 0 S1 ++ (S1.flatten.length,u.length) :: (S1.flatten.length + u.length,v.length) :: offs (S1.flatten.length + u.length + v.length) S2 := by
    rw [offs_app]; simp [offs]
  have l0 : (offs 0 S1).length = S1.length := offs_len _ _
  have p1 : ∃ pw,(pendingOf st)[S1.length]? = some (S1.flatten.length,u.length,pw) := by
    have h1 : ((pendingOf st).toList.map fst2)[S1.length]? = some (S1.flatten.length,u.length) := by
      rw [hq,e0,List.getElem?_append_right (by exact Nat.le_of_eq l0),l0,Nat.sub_self]; rfl
    rw [List.getElem?_map] at h1
    refine x1_2 (Option.map_eq_some_iff.mp h1) fun qQ0 h2 h3=>?_
    obtain ⟨x,y,z⟩ := qQ0
    cases h3
    exact ⟨z,by rw [← Array.getElem?_toList]; exact h2⟩
  have p2 : ∃ pw,(pendingOf st)[S1.length + 1]? = some (S1.flatten.length + u.length,v.length,pw) := by
    have h1 : ((pendingOf st).toList.map fst2)[S1.length + 1]? = some (S1.flatten.length + u.length,v.length) := by
      rw [hq,e0,List.getElem?_append_right (by exact Nat.le.intro (congrFun (congrArg HAdd.hAdd l0) 1)),l0,show S1.length + 1 - S1.length = 1 from Nat.add_sub_cancel_left ..]; rfl
    rw [List.getElem?_map] at h1
    refine x1_2 (Option.map_eq_some_iff.mp h1) fun qQ0 h2 h3=>?_
    obtain ⟨x,y,z⟩ := qQ0
    cases h3
    exact ⟨z,by rw [← Array.getElem?_toList]; exact h2⟩
  refine x1_1 (p1) fun pa p1=>?_
  refine x1_1 (p2) fun pb p2=>?_
  generalize hsa : S1.flatten.length = sa at *
  have fl : (S1 ++ u :: v :: S2).flatten ++ rest = S1.flatten ++ (u ++ (v ++ (S2.flatten ++ rest))) := by simp
  rw [fl] at ha
  have du : (arrOf st).toList.drop sa = u ++ (v ++ (S2.flatten ++ rest)) := by rw [ha,← hsa,List.drop_left]
  have dv : (arrOf st).toList.drop (sa + u.length) = v ++ (S2.flatten ++ rest) := by rw [← List.drop_drop,du,List.drop_left]
  have tu : ((arrOf st).toList.drop sa).take u.length = u := by rw [du,List.take_left]
  have tv : ((arrOf st).toList.drop (sa + u.length)).take v.length = v := by rw [dv,List.take_left]
  have iu : ∀ p ∈ u,IntP p := fun p hp=>hint p (by rw [ha]; simp [hp])
  have iv : ∀ p ∈ v,IntP p := fun p hp=>hint p (by rw [ha]; simp [hp])
  have ul : 0 < u.length := List.length_pos_iff.mpr une
  have vl : 0 < v.length := List.length_pos_iff.mpr vne
  have sz : (arrOf st).size = sa + (u.length + (v.length + (S2.flatten ++ rest).length)) := by
    rw [← Array.length_toList,ha,List.length_append,List.length_append,List.length_append,hsa]
  -- the new stack
  have pq : ∀ m : List Keyed,m.length = u.length + v.length → ((((pendingOf st).setIfInBounds S1.length (sa,u.length + v.length,pa)).eraseIdxIfInBounds (S1.length + 1)).toList.map fst2) = offs 0 (S1 ++ m :: S2) := by
    intro m hm
    rw [Array.toList_eraseIdxIfInBounds,Array.toList_setIfInBounds,er_map,List.map_set,hq,e0]
    rw [List.set_append_right _ _ (by exact Nat.le_of_eq l0),l0,Nat.sub_self,List.set_cons_zero,List.eraseIdx_append_of_length_le (by exact Nat.le.intro (congrFun (congrArg HAdd.hAdd l0) 1)),l0,show S1.length + 1 - S1.length = 1 from Nat.add_sub_cancel_left ..]
    rw [offs_app]
    simp [offs,fst2,hm,hsa,Nat.add_assoc]
  have done : ∀ (st' : SortSt) (m : List Keyed),kindOf st' = oneType' → failedOf st' = none → (arrOf st').toList = S1.flatten ++ (m ++ (S2.flatten ++ rest)) → m.Perm (u ++ v) → Asc kn m → pendingOf st' = ((pendingOf st).setIfInBounds S1.length (sa,u.length + v.length,pa)).eraseIdxIfInBounds (S1.length + 1) → RunsI t st' (S1 ++ m :: S2) rest := by
    intro st' m k1 k2 k3 k4 k5 k6
    have ml : m.length = u.length + v.length := by rw [k4.length_eq,List.length_append]
    refine ⟨k1,k2,by rw [k3]; simp,?_,by rw [k6]; exact pq m ml,fun l hl=>?_⟩
    · refine List.Perm.trans ?_ hp
      rw [k3,ha]
      refine List.Perm.append_left _ ?_
      rw [← List.append_assoc u v]
      exact List.Perm.append_right _ k4
    · rcases List.mem_append.mp hl with z | z
      · exact hs l (by simp [z])
      · rcases List.mem_cons.mp z with rfl | z
        · exact ⟨k5,fun e=>by rw [e] at ml; simp at ml; exact z75 vl ml⟩
        · exact hs l (by simp [z])
  delta mergeAt'
  walk_at "d_ma"
  dsimp only
  refine wpS_bind (wpS_get ?_)
  rw [p1,p2]
  dsimp only
  refine wpS_bind (wpS_set ?_)
  obtain ⟨v0,v',rfl⟩ : ∃ v0 v',v = v0 :: v' := by
    cases v with
    | nil=>exact absurd rfl vne
    | cons a b=>exact ⟨a,b,rfl⟩
  have av := asc_cons sv
  refine wpS_bind (wpS_elem (at_list dv) ?_)
  refine wpS_bind (galR (L := u) hk (iv v0 (by simp)) tu rfl su iu (by exact z76 ul) fun k k1 k2 k3=>?_)
  dsimp only
  by_cases c1 : (u.length - k == 0) = true
  · rw [if_pos c1]
    simp only [beq_iff_eq] at c1
    have : k = u.length := by exact z77 k1 c1
    subst this
    rw [List.take_length] at k2
    exact wpS_pure (h _ _ (done _ (u ++ v0 :: v') hk hf (by rw [ha]; simp) (List.Perm.refl _) (Asc.mk su sv fun x hx y hy=>Int.le_trans (k2 x hx) (av y hy)) rfl))
  rw [if_neg c1]
  simp only [beq_iff_eq] at c1
  obtain ⟨u',lx,rfl⟩ : ∃ u' lx,u = u' ++ [lx] := ⟨u.dropLast,u.getLast une,(List.dropLast_concat_getLast une).symm⟩
  have ull : (u' ++ [lx]).length = u'.length + 1 := by simp
  have kle : k ≤ u'.length := Nat.le_of_lt_succ (Nat.lt_of_lt_of_le (Nat.lt_of_sub_ne_zero c1) (Nat.le_of_eq ull))
  have lxm : lx ∈ (u' ++ [lx]).drop k := by
    rw [List.drop_append_of_le_length kle]; simp
  have eli : (arrOf st)[sa + k + ((u' ++ [lx]).length - k) - 1]? = some lx := by
    rw [show sa + k + ((u' ++ [lx]).length - k) - 1 = sa + u'.length by rw [Nat.add_assoc,Nat.add_sub_cancel' k1,ull]; rfl]
    refine at_list (r := (v0 :: v') ++ (S2.flatten ++ rest)) ?_
    rw [← List.drop_drop,du]; simp
  refine wpS_bind (wpS_elem eli ?_)
  refine wpS_bind (galL (L := v0 :: v') hk (iu lx (by simp)) tv rfl sv iv (by exact Nat.sub_one_lt_of_lt vl) fun k' j1 j2 j3=>?_)
  dsimp only
  by_cases c2 : (k' == 0) = true
  · simp only [beq_iff_eq] at c2
    subst c2
    have a1 := j3 v0 (by simp)
    have a2 := k3 lx lxm
    (first | lia | omega)
  rw [if_neg c2]
  simp only [beq_iff_eq] at c2
  -- the two parts that are merged
  generalize hx : (arrOf st).extract (sa + k) (sa + (u' ++ [lx]).length) = x
  generalize hy : (arrOf st).extract (sa + (u' ++ [lx]).length) (sa + (u' ++ [lx]).length + k') = y
  have ex : x.toList = (u' ++ [lx]).drop k := by
    rw [← hx,ext_list,← List.drop_drop,du,List.drop_append_of_le_length (by exact z78 c1)]
    rw [List.take_append_of_le_length (by simp; exact z79),List.take_of_length_le (by simp; exact z80)]
  have ey : y.toList = (v0 :: v').take k' := by
    rw [← hy,ext_list,dv,show sa + (u' ++ [lx]).length + k' - (sa + (u' ++ [lx]).length) = k' from Nat.add_sub_cancel_left ..,List.take_append_of_le_length j1]
  have xl : x.size = (u' ++ [lx]).length - k := by rw [← Array.length_toList,ex,List.length_drop]
  have yl : y.size = k' := by rw [← Array.length_toList,ey,List.length_take]; exact Nat.min_eq_left j1
  have sx : Asc kn x.toList := by rw [ex]; exact List.Pairwise.sublist (List.drop_sublist _ _) su
  have sy : Asc kn y.toList := by rw [ey]; exact List.Pairwise.sublist (List.take_sublist _ _) sv
  have ix : ∀ p ∈ x.toList,IntP p := fun p hp=>iu p (List.mem_of_mem_drop (by rw [ex] at hp; exact hp))
  have iy : ∀ p ∈ y.toList,IntP p := fun p hp=>iv p (List.mem_of_mem_take (by rw [ey] at hp; exact hp))
  have b0 : ∀ p ∈ y.toList.take 1,∀ z ∈ x.toList,kn p ≤ kn z := fun p hp z hz=>by
    have : p = v0 := by
      rw [ey,List.take_take,show min 1 k' = 1 from Nat.min_eq_left (Nat.pos_of_ne_zero c2)] at hp
      simpa using hp
    rw [this]
    exact Int.le_of_lt (k3 z (by rw [ex] at hz; exact hz))
  have bl : ∀ b ∈ y.toList,∀ z ∈ x.toList.drop (x.size - 1),kn b ≤ kn z := fun b hb z hz=>by
    have : z = lx := by
      rw [ex,xl,List.drop_drop,show k + ((u' ++ [lx]).length - k - 1) = u'.length by rw [Nat.sub_right_comm,ull,Nat.add_sub_cancel]; exact Nat.add_sub_cancel' kle,List.drop_left] at hz
      simpa using hz
    rw [this]
    exact Int.le_of_lt (j2 b (by rw [ey] at hb; exact hb))
  have fin : ∀ (out : Array Keyed) (g : Nat),Asc kn out.toList → out.toList.Perm (x.toList ++ y.toList) → RunsI t (SortSt.mk' (kindOf st) (putAt (arrOf st) (sa + k) out.toList.zipIdx) (((pendingOf st).setIfInBounds S1.length (sa,(u' ++ [lx]).length + (v0 :: v').length,pa)).eraseIdxIfInBounds (S1.length + 1)) g (failedOf st)) (S1 ++ ((u' ++ [lx]).take k ++ out.toList ++ (v0 :: v').drop k') :: S2) rest := by
    intro out g ao po
    have ol : out.toList.length = (u' ++ [lx]).length - k + k' := by rw [po.length_eq,List.length_append,Array.length_toList,Array.length_toList,xl,yl]
    have po' : out.toList.Perm ((u' ++ [lx]).drop k ++ (v0 :: v').take k') := by rw [← ex,← ey]; exact po
    have mem : ∀ p ∈ out.toList,p ∈ (u' ++ [lx]).drop k ∨ p ∈ (v0 :: v').take k' := fun p hp=>List.mem_append.mp (po'.mem_iff.mp hp)
    have au : Asc kn ((u' ++ [lx]).take k ++ (u' ++ [lx]).drop k) := by rw [List.take_append_drop]; exact su
    have avv : Asc kn ((v0 :: v').take k' ++ (v0 :: v').drop k') := by rw [List.take_append_drop]; exact sv
    refine x0_3 (au.app) fun au1 au2 au3=>?_
    refine x0_3 (avv.app) fun av1 av2 av3=>?_
    have ul2 : ∀ p ∈ (u' ++ [lx]).drop k,kn p ≤ kn lx := fun p hp=>asc_last su p (List.mem_of_mem_drop hp)
    refine done _ _ hk hf ?_ ?_ ?_ rfl
    · show (putAt (arrOf st) (sa + k) (out.toList.zipIdx 0)).toList = _
      rw [put_list _ _ _ _ (by rw [ol,sz]; exact z81 ull kle j1),Nat.add_zero,ol]
      have d1 : (arrOf st).toList.drop (sa + k + ((u' ++ [lx]).length - k + k')) = (v0 :: v').drop k' ++ (S2.flatten ++ rest) := by
        rw [show sa + k + ((u' ++ [lx]).length - k + k') = sa + (u' ++ [lx]).length + k' by rw [Nat.add_assoc,← Nat.add_assoc k,Nat.add_sub_cancel' k1,← Nat.add_assoc],← List.drop_drop,dv,List.drop_append_of_le_length j1]
      have d2 : (arrOf st).toList.take (sa + k) = S1.flatten ++ (u' ++ [lx]).take k := by
        rw [ha,← hsa,List.take_append,List.take_of_length_le (by exact z9),show S1.flatten.length + k - S1.flatten.length = k from Nat.add_sub_cancel_left ..,List.take_append_of_le_length k1]
      rw [d1,d2]
      simp only [List.append_assoc]
    · have a1 : ((u' ++ [lx]).take k ++ out.toList ++ (v0 :: v').drop k').Perm ((u' ++ [lx]).take k ++ ((u' ++ [lx]).drop k ++ (v0 :: v').take k') ++ (v0 :: v').drop k') := List.Perm.append_right _ (List.Perm.append_left _ po')
      refine a1.trans (List.Perm.of_eq ?_)
      rw [← List.append_assoc,List.take_append_drop,List.append_assoc,List.take_append_drop]
    · refine Asc.mk (Asc.mk au1 ao fun p hp q hq=>?_) av2 fun p hp q hq=>?_
      · rcases mem q hq with z | z
        · exact au3 p hp q z
        · exact Int.le_trans (k2 p hp) (av q (List.mem_of_mem_take z))
      · have lq := j3 q hq
        rcases List.mem_append.mp hp with z | z
        · exact Int.le_trans (asc_last su p (List.mem_of_mem_take z)) lq
        · rcases mem p z with y | y
          · exact Int.le_trans (ul2 p y) lq
          · exact av3 p y q hq
  have nx : 0 < x.size := by rw [xl]; exact Nat.pos_of_ne_zero c1
  have ny : 0 < y.size := by rw [yl]; exact Nat.pos_of_ne_zero c2
  by_cases c3 : (u' ++ [lx]).length - k ≤ k'
  · rw [if_pos c3]
    refine wpS_bind (wpS_mergeLo hk ix iy sx sy nx ny b0 bl fun out g ⟨ao,po⟩=>?_)
    refine wpS_bind (wpS_modify (wpS_bind (wpS_get (wpS_pure ?_))))
    have := h _ _ (fin out g ao po)
    rw [show (true : Bool) = (failedOf st).isNone by rw [hf]; rfl] at this
    exact this
  · rw [if_neg c3]
    refine wpS_bind (wpS_mergeHi hk ix iy sx sy nx ny b0 bl fun out g ⟨ao,po⟩=>?_)
    refine wpS_bind (wpS_modify (wpS_bind (wpS_get (wpS_pure ?_))))
    have := h _ _ (fin out g ao po)
    rw [show (true : Bool) = (failedOf st).isNone by rw [hf]; rfl] at this
    exact this
end
end Mine
namespace Mine
open PySem PyProof.Rows
set_option maxRecDepth 100000
section
variable {prog : Program} {w : World} {A : Around} {E : Value → Shared → Prop} {s : Shared} {st : SortSt}
theorem if_tail1 {α : Type} {F : Nat → StateT SortSt Sem α} {m1 : StateT SortSt Sem α} {P : Prop} {dP : Decidable P} {i : Nat} {Q : α → SortSt → Prop} (C : Nat → SortSt → Prop) (key : ∀ i st',C i st' → wpS (model prog w) A E s (F i) Q st')
    (h1 : P → (∀ i st',C i st' → wpS (model prog w) A E s (F i) Q st') → wpS (model prog w) A E s m1 Q st) (h2 : ¬ P → C i st) : wpS (model prog w) A E s (if P then m1 else F i) Q st := by
  split
  · rename_i hp; exact h1 hp key
  · rename_i hp; exact key _ _ (h2 hp)
theorem cut2 {α : Type} : ∀ (l : List α) (i : Nat),i + 1 < l.length → ∃ S1 u v S2,l = S1 ++ u :: v :: S2 ∧ S1.length = i
  | a :: b :: r,0,_=>⟨[],a,b,r,rfl,rfl⟩
  | a :: r,i + 1,h=>by
    refine x4_2 (cut2 r i (by simpa using h)) fun S1 u v S2 e hl=>?_
    exact ⟨a :: S1,u,v,S2,by rw [e]; rfl,by simp [hl]⟩
  | [],i,h=>by simp at h
  | [_],0,h=>by simp at h
theorem RunsI.flen {t : List Keyed} {segs : List (List Keyed)} {rest : List Keyed} (h : RunsI t st segs rest) : segs.flatten.length + rest.length = t.length := by
  rw [← h.perm.length_eq,h.arr,List.length_append]
theorem RunsI.flenA {a : Array Keyed} {segs : List (List Keyed)} {rest : List Keyed} (h : RunsI a.toList st segs rest) : segs.flatten.length + rest.length = a.size := h.flen.trans Array.length_toList
theorem RunsI.szA {a : Array Keyed} {segs : List (List Keyed)} {rest : List Keyed} (h : RunsI a.toList st segs rest) : (arrOf st).size = a.size := (Array.perm_iff_toList_perm.mpr h.perm).size_eq
theorem ite_pred {P : Prop} {d : Decidable P} {n : Nat} : @ite _ P d (n - 1) n ≤ n := by split <;> (first | lia | omega)
theorem at_le {n m : Nat} {Q : Bool → SortSt → Prop} (hm : m ≤ n) (key : ∀ j,j ≤ n → wpS (model prog w) A E s (mergeAt' j) Q st) : wpS (model prog w) A E s (mergeAt' m) Q st := key m hm
theorem RunsI.plen {t : List Keyed} {segs : List (List Keyed)} {rest : List Keyed} (h : RunsI t st segs rest) : (pendingOf st).size = segs.length := by
  have := congrArg List.length h.pend
  rw [List.length_map,offs_len,Array.length_toList] at this
  exact this
theorem RunsI.push {t seg : List Keyed} {segs : List (List Keyed)} {rest : List Keyed} (h : RunsI t st segs (seg ++ rest)) (hs : Asc kn seg) (hn : seg ≠ []) : RunsI t (setPending st ((pendingOf st).push (segs.flatten.length,seg.length,0))) (segs ++ [seg]) rest :=
  ⟨h.kind,h.fail,by show (arrOf st).toList = _; rw [h.arr]; simp,h.perm,by
    show ((pendingOf st).push _).toList.map fst2 = _
    rw [Array.toList_push,List.map_append,h.pend,offs_app]; simp [offs,fst2],fun l hl=>by
    rcases List.mem_append.mp hl with z | z
    · exact h.asc l z
    · rw [List.mem_singleton.mp z]; exact ⟨hs,hn⟩⟩
theorem map_modify {α β : Type} (f : α → β) (g : α → α) (hg : ∀ x,f (g x) = f x) : ∀ (l : List α) (i : Nat),(l.modify i g).map f = l.map f
  | [],_=>by simp
  | a :: l,0=>by simp [hg]
  | a :: l,i + 1=>by simp [map_modify f g hg l i]
theorem RunsI.power {t : List Keyed} {segs : List (List Keyed)} {rest : List Keyed} {i pw : Nat} (h : RunsI t st segs rest) : RunsI t (setPending st ((pendingOf st).modify i fun x=>(x.1,x.2.1,pw))) segs rest :=
  ⟨h.kind,h.fail,h.arr,h.perm,by
    show ((pendingOf st).modify _ _).toList.map fst2 = _
    rw [Array.toList_modify,map_modify]
    · exact h.pend
    · intro x; rfl,h.asc⟩
theorem RunsI.run {t : List Keyed} {segs : List (List Keyed)} {rest : List Keyed} (h : RunsI t st segs rest) {lo n : Nat} {zs : Array Keyed} (hl : lo = segs.flatten.length) (fr : Frm lo (arrOf st) zs) (n1 : 1 ≤ n) (hn : lo + n ≤ zs.size) (sg : Sg zs lo n) :
    ∃ seg rest',seg.length = n ∧ Asc kn seg ∧ RunsI t (setArr st zs) segs (seg ++ rest') := by
  refine ⟨(zs.toList.drop lo).take n,(zs.toList.drop lo).drop n,?_,?_,h.kind,h.fail,?_,?_,h.pend,h.asc⟩
  · rw [List.length_take,List.length_drop,Array.length_toList]; exact z82 hn
  · unfold Asc
    rw [List.pairwise_iff_getElem]
    intro i j hi hj hij
    have hi' := hi
    rw [List.length_take,List.length_drop,Array.length_toList] at hi hj
    have := sg i j (by exact Nat.le_of_succ_le hij) (by exact z83 hj)
    have e : ∀ k (hk : k < ((zs.toList.drop lo).take n).length),kn ((zs.toList.drop lo).take n)[k] = K zs (lo + k) := fun k hk=>by
      rw [List.length_take,List.length_drop,Array.length_toList] at hk
      rw [List.getElem_take,List.getElem_drop]
      unfold K
      rw [getElem?_pos zs (lo + k) (by exact z84 hk)]
      simp
    rw [e,e]; exact this
  · show zs.toList = _
    rw [List.take_append_drop]
    have : zs.toList.take lo = segs.flatten := by
      have e1 : segs.flatten = (arrOf st).toList.take lo := by rw [h.arr,hl,List.take_left]
      rw [e1]
      refine List.ext_getElem? fun i=>?_
      rw [List.getElem?_take,List.getElem?_take]
      split
      · rw [Array.getElem?_toList,Array.getElem?_toList]; exact fr.2 i (by assumption)
      · rfl
    rw [← this,List.take_append_drop]
  · show zs.toList.Perm t
    exact (Array.perm_iff_toList_perm.mp fr.1).trans h.perm
theorem add_min {lo n m : Nat} (h : lo ≤ n) : lo + min (n - lo) m ≤ n := Nat.le_trans (Nat.add_le_add_left (Nat.min_le_left _ _) lo) (Nat.le_of_eq (ad_sub h))
theorem wpS_sortBig {a₀ : Array Keyed} {Q : Unit → SortSt → Prop} (h0 : IntA a₀) (hk : kindOf st = oneType') (hf : failedOf st = none) (hp : pendingOf st = #[]) (ha : arrOf st = a₀) (h2 : 2 ≤ a₀.size)
    (h : ∀ st',(arrOf st').Perm a₀ → failedOf st' = none → SortedTo (arrOf st') a₀.size → Q () st') : wpS (model prog w) A E s sortRuns' Q st := by
  rw [sortRuns'_eq]
  refine wpS_bind (wpS_get ?_)
  rw [ha]
  dsimp only
  generalize minRun' a₀.size a₀.size 0 = minrun
  refine wpS_bind (wpS_mono (wpS_forRange (I := fun x c st'=>∃ segs rest lo,c = (none,lo) ∧ RunsI a₀.toList st' segs rest ∧ lo = segs.flatten.length ∧ (x ≤ lo ∨ a₀.size ≤ lo))
    (Q := fun c st'=>∃ segs lo,c = (none,lo) ∧ RunsI a₀.toList st' segs []) ?step ?fin ⟨[],a₀.toList,0,rfl,⟨hk,hf,by rw [ha]; rfl,by rw [ha],by rw [hp]; rfl,fun l hl=>by cases hl⟩,rfl,.inl (Nat.le_refl _)⟩) ?post)
  case fin =>
    rintro c st' ⟨segs,rest,lo,rfl,hr,hl,hx⟩
    have := hr.flenA
    have e : rest = [] := List.length_eq_zero_iff.mp (by exact z85 hl hx this)
    subst e
    exact ⟨segs,lo,rfl,hr⟩
  case step =>
    rintro x c st' _ hx ⟨segs,rest,lo,rfl,hr,hl,hxl⟩
    have fl := hr.flenA
    have sz := hr.szA
    have hint : IntA (arrOf st') := fun p hp=>h0 p (hr.perm.mem_iff.mp hp)
    dsimp only
    by_cases hge : lo ≥ a₀.size
    · rw [if_pos hge]
      have e : rest = [] := List.length_eq_zero_iff.mp (by exact z86 hl fl hge)
      subst e
      exact wpS_pure ⟨segs,lo,rfl,hr⟩
    rw [if_neg hge]
    refine wpS_bind (wpS_run (st := st') (xs := arrOf st') hr.kind hint (by exact z87 sz hge) (by exact z88 hge) fun m ys fr m1 m2 sg=>?_)
    dsimp only
    have szy := fr.size
    apply if_tail1 (i := m) (fun n st2=>∃ seg rest',1 ≤ n ∧ seg.length = n ∧ Asc kn seg ∧ RunsI a₀.toList st2 segs (seg ++ rest'))
    · rintro n st2 ⟨seg,rest',n1,sl,sa,hr2⟩
      have sne : seg ≠ [] := fun e=>by rw [e] at sl; simp at sl; exact z89 n1 sl
      refine wpS_bind (wpS_get ?_)
      cases hb : (pendingOf st2).back? with
      | none =>
        dsimp only
        have hp := hr2.push sa sne
        rw [← hl,sl] at hp
        exact wpS_bind (wpS_modify (wpS_pure ⟨_,_,_,rfl,hp,by simp [← hl,sl],by exact z90 hxl n1⟩))
      | some e =>
        obtain ⟨s1,n1',pz⟩ := e
        dsimp only
        refine wpS_bind (wpS_mono (wpS_forRange (I := fun _ c st3=>c = (none,()) ∧ ∃ segs3,RunsI a₀.toList st3 segs3 (seg ++ rest')) (Q := fun c st3=>c = (none,()) ∧ ∃ segs3,RunsI a₀.toList st3 segs3 (seg ++ rest')) ?istep (fun c st3 h=>h) ⟨rfl,segs,hr2⟩) ?ipost)
        case istep =>
          rintro y c st3 _ hy ⟨rfl,segs3,hr3⟩
          refine wpS_bind (wpS_get ?_)
          have pl := hr3.plen
          by_cases hgt : (pendingOf st3).size > 1
          · rw [if_pos hgt,getElem?_pos (pendingOf st3) ((pendingOf st3).size - 2) (by exact z91 hgt)]
            generalize (pendingOf st3)[(pendingOf st3).size - 2]'(by exact z91 hgt) = e3
            obtain ⟨q1,q2,older⟩ := e3
            dsimp only
            split
            · exact wpS_pure ⟨rfl,segs3,hr3⟩
            · refine x4_2 (cut2 segs3 ((pendingOf st3).size - 2) (by exact z92 pl hgt)) fun S1 u v S2 e hS=>?_
              rw [← hS]
              rw [e] at hr3
              exact wpS_bind (wpS_mergeAt h0 hr3 fun st4 m4 hr4=>wpS_pure ⟨rfl,_,hr4⟩)
          · rw [if_neg hgt]
            exact wpS_pure ⟨rfl,segs3,hr3⟩
        case ipost =>
          rintro c st3 ⟨rfl,segs3,hr3⟩
          dsimp only
          have l3 : segs3.flatten.length = lo := by
            have a1 := hr3.flenA
            have a2 := hr2.flenA
            exact z93 hl a1 a2
          refine wpS_bind (wpS_modify ?_)
          have hp := (hr3.power (i := (pendingOf st3).size - 1) (pw := power' a₀.size (2 * s1 + n1') (2 * s1 + n1' + n1' + n) a₀.size)).push sa sne
          rw [l3,sl] at hp
          exact wpS_bind (wpS_modify (wpS_pure ⟨_,_,_,rfl,hp,by simp [l3,sl],by exact z90 hxl n1⟩))
    · intro hlt go
      refine wpS_bind (wpS_lift (wpAny_rule ⟨rfl,?_⟩))
      have hlo : lo ≤ a₀.size := Nat.le_of_lt (Nat.lt_of_not_le hge)
      have hmm : m ≤ min (a₀.size - lo) minrun := Nat.le_min.mpr ⟨m2,Nat.le_of_lt hlt⟩
      refine wpS_bind (wpS_ins (st := st') (xs := ys) hr.kind (fr.int hint) (by rw [szy,sz]; exact add_min hlo) hmm sg fun zs fz sz2=>?_)
      have szz := fz.size
      rw [if_neg (by decide)]
      obtain ⟨seg,rest',g1,g2,g3⟩ := hr.run hl (fr.trans fz) (n := min (a₀.size - lo) minrun) (Nat.le_trans m1 hmm) (by rw [szz,szy,sz]; exact add_min hlo) sz2
      exact go _ _ ⟨seg,rest',Nat.le_trans m1 hmm,g1,g2,g3⟩
    · intro hlt
      refine x2_3 (hr.run hl fr m1 (by exact z94 sz m1 m2 szy) sg) fun seg rest' g1 g2 g3=>?_
      exact ⟨seg,rest',m1,g1,g2,g3⟩
  case post =>
    rintro c st' ⟨segs,lo,rfl,hr⟩
    dsimp only
    have sl : segs.length ≤ a₀.size := by
      have h1 := hr.flenA
      have : ∀ (l : List (List Keyed)),(∀ x ∈ l,x ≠ []) → l.length ≤ l.flatten.length := fun l=>by
        induction l with
        | nil=>intro _; simp
        | cons a l ih =>
          intro hq
          have := ih fun x hx=>hq x (List.mem_cons_of_mem _ hx)
          have : 0 < a.length := List.length_pos_iff.mpr (hq a (by simp))
          simp only [List.flatten_cons,List.length_append,List.length_cons]; (first | lia | omega)
      have := this segs fun x hx=>(hr.asc x hx).2
      simp only [List.length_nil] at h1; exact le_of_le_of_eq this h1
    refine wpS_bind (wpS_mono (wpS_forRange (I := fun x c st3=>c = (none,()) ∧ ∃ segs3,RunsI a₀.toList st3 segs3 [] ∧ (segs3.length + x ≤ a₀.size ∨ segs3.length ≤ 1)) (Q := fun c st3=>c = (none,()) ∧ ∃ segs3,RunsI a₀.toList st3 segs3 [] ∧ segs3.length ≤ 1) ?fstep ?ffin ⟨rfl,segs,hr,.inl (by exact z95 sl)⟩) ?fpost)
    case ffin =>
      rintro c st3 ⟨rfl,segs3,hr3,hx⟩
      exact ⟨rfl,segs3,hr3,by exact z96 hx⟩
    case fstep =>
      rintro x c st3 _ hx ⟨rfl,segs3,hr3,hx3⟩
      refine wpS_bind (wpS_get ?_)
      have pl := hr3.plen
      by_cases hle : (pendingOf st3).size ≤ 1
      · rw [if_pos hle]
        exact wpS_pure ⟨rfl,segs3,hr3,by exact le_of_eq_of_le (id (Eq.symm pl)) hle⟩
      rw [if_neg hle]
      refine wpS_bind (at_le ite_pred fun j hj=>?_)
      have jl : j + 1 < segs3.length := by exact z97 pl hle hj
      refine x4_2 (cut2 segs3 j jl) fun S1 u v S2 e hS=>?_
      rw [← hS]
      rw [e] at hr3 hx3
      refine wpS_mergeAt h0 hr3 fun st4 m4 hr4=>wpS_pure ⟨rfl,_,hr4,.inl ?_⟩
      simp only [List.length_append,List.length_cons] at hx3 ⊢
      exact z98 hx3
    case fpost =>
      rintro c st3 ⟨rfl,segs3,hr3,hs3⟩
      dsimp only
      have hasc : Asc kn (arrOf st3).toList := by
        rw [hr3.arr,List.append_nil]
        match segs3,hs3,hr3.asc with
        | [],_,_=>exact List.Pairwise.nil
        | [l],_,q=>rw [List.flatten_singleton]; exact (q l (by simp)).1
      refine wpS_pure (h st3 (Array.perm_iff_toList_perm.mpr hr3.perm) hr3.fail fun i j hij hj=>?_)
      have sz := hr3.szA
      have e : ∀ k,(hk : k < a₀.size) → K (arrOf st3) k = kn ((arrOf st3).toList[k]'(by simp; exact Nat.lt_of_lt_of_eq hk (id (Eq.symm sz)))) := fun k hk=>by
        unfold K
        rw [getElem?_pos (arrOf st3) k (by exact Nat.lt_of_lt_of_eq hk (id (Eq.symm sz)))]
        simp
      rw [e i (by exact Nat.lt_of_le_of_lt hij hj),e j hj]
      rcases Nat.lt_or_eq_of_le hij with z | rfl
      · exact List.pairwise_iff_getElem.mp hasc i j (by simp; (first | lia | omega)) (by simp; (first | lia | omega)) z
      · exact Int.le_refl _
end
end Mine
namespace Mine
open PySem PyProof.Rows
set_option maxRecDepth 100000
section
variable {prog : Program} {w : World} {A : Around} {E : Value → Shared → Prop} {s : Shared}
theorem sort_big {a : Addr} {vs : List Value} {ns : List Int} {n : Nat} {P : Fin → Shared → Prop} (ho : s.heap.get? a = some (seqObj "list" vs.toArray n)) (hI : IntsAre vs ns) (hn : vs.length ≤ 100000)
    (h : ∀ (out : Array Value) (ns' : List Int),IntsAre out.toList ns' → ns'.Perm ns → ns'.Pairwise (· ≤ ·) → P (.done (.ret .none)) { s with heap := sortedHeap s.heap a vs out }) :
    wpAny (model prog w) A (Builtin.«list.sort» ⟨[.ref a],[]⟩) P E s := by
  by_cases h64 : vs.length < 64
  · exact list_sort_tree ho hI h64 h
  obtain ⟨v₁,v₂,rest,rfl⟩ : ∃ v₁ v₂ rest,vs = v₁ :: v₂ :: rest := by
    rcases vs with _ | ⟨v,_ | ⟨u,r⟩⟩
    · simp at h64
    · simp at h64
    · exact ⟨v,u,r,rfl⟩
  have ha : a < s.heap.objs.size := Heap.lt_size ho
  have sl : sizeLine = 16777216 := rfl
  have ge2 : ¬ (v₁ :: v₂ :: rest).toArray.size < 2 := by simp
  have allInts : IntA (pairsOf (v₁ :: v₂ :: rest)) := fun p hp=>hI.intKeys p hp
  rw [list_sort_plain]
  refine wpAny_bind (listItems_at ho rfl (wpAny_bind (listUpdate_at ho rfl ?_ (by simp only [List.size_toArray]; exact z99 hn sl) (Nat.zero_le _))))
  obtain ⟨e1,ho1⟩ : ∃ e1,(s.heap.update a (Obj.mapSeq fun _=>#[])).get? a = some (seqObj "list" #[] e1) := ⟨_,get?_update_seq ho (fun _=>#[])⟩
  refine wpAny_bind (seqEpoch_at ho1 rfl (wpAny_bind (wpAny_newTuple (wpAny_bind (wpAny_newList (wpAny_holding ?_))) (by simp only [List.size_toArray] ; exact z99 hn sl))))
  have ho2 : (((s.heap.update a (Obj.mapSeq fun _=>#[])).push (seqObj "tuple" (v₁ :: v₂ :: rest).toArray 0)).push (seqObj "list" #[] 0)).get? a = some (seqObj "list" #[] e1) := by
    rw [Heap.get?_push_ne _ _ _ (by rw [size_push',Heap.size_update]; exact Nat.ne_of_lt (Nat.lt_succ_of_lt ha)),Heap.get?_push_ne _ _ _ (by rw [Heap.size_update]; exact Nat.ne_of_lt ha)]
    exact ho1
  show wpAny (model prog w) A _ P E { s with heap := ((s.heap.update a (Obj.mapSeq fun _=>#[])).push (seqObj "tuple" (v₁ :: v₂ :: rest).toArray 0)).push (seqObj "list" #[] 0) }
  rw [if_neg ge2,if_neg ge2,keyKind_ints hI]
  refine wpAny_bind (wpAny_pure ?_)
  refine wpAny_bind (wpAny_mono (wpS_sortBig (a₀ := pairsOf (v₁ :: v₂ :: rest)) (st := SortSt.mk' oneType' ((v₁ :: v₂ :: rest).toArray.zip (v₁ :: v₂ :: rest).toArray) #[] 7 none)
    (Q := fun _ st'=>(arrOf st').Perm (pairsOf (v₁ :: v₂ :: rest)) ∧ failedOf st' = none ∧ SortedTo (arrOf st') (pairsOf (v₁ :: v₂ :: rest)).size) allInts rfl rfl rfl rfl (by rw [pairsOf_size]; simp) fun st' a1 a2 a3=>⟨a1,a2,a3⟩) ?_ fun _ _ e=>e)
  rintro ⟨⟨⟩,st'⟩ s' ⟨rfl,hp,hf,hs⟩
  refine x1_3 (sorted_out hI hp hs) fun ns' o1 o2 o3=>?_
  have hsz : ((arrOf st').map (·.2)).size = (v₁ :: v₂ :: rest).length := (Array.size_map ..).trans (hp.size_eq.trans (pairsOf_size _))
  dsimp only
  refine wpAny_bind (seqEpoch_at ho2 rfl (wpAny_bind (listUpdate_at ho2 rfl ?_ (Nat.zero_le _) (by rw [hsz]; exact z100 hn sl))))
  rw [hf]
  simp only [bne_self_eq_false,Bool.false_eq_true,if_false]
  exact wpAny_pure (h _ ns' o1 o2 o3)
theorem sorted_big {l : Addr} {vs : List Value} {ns : List Int} {Q : Value → Shared → Prop} (hl : s.heap.IsList l vs.toArray) (hI : IntsAre vs ns) (hn : vs.length ≤ 100000)
    (h : ∀ (out : Array Value) (ns' : List Int),IntsAre out.toList ns' → ns'.Perm ns → ns'.Pairwise (· ≤ ·) → Q (.ref (s.heap.objs.size + 1)) { s with heap := sortedAll s.heap vs out }) :
    wpAny (model prog w) A (call (.builtin "sorted") [.ref l]) Q E s := by
  have sl : sizeLine = 16777216 := rfl
  refine Calls.call_function_entry kind_sorted plain_sorted entry_sorted (args_sorted1 _) ?_
  unfold Builtin.«sorted»
  refine wpAny_bind (m := checkCount "sorted" 1 1 _) (wpAny_pure (wpAny_bind (collect_list hl (wpAny_bind (wpAny_newList ?_ (by exact z99 hn sl))) (by exact z99 hn sl))))
  have e : ((s.heap.push (seqObj "list" #[] 0)).update s.heap.objs.size (Obj.mapSeq (· ++ vs.toArray))).objs.size = s.heap.objs.size + 1 := by rw [Heap.size_update,size_push']
  have at_ : (((s.heap.push (seqObj "list" #[] 0)).update s.heap.objs.size (Obj.mapSeq (· ++ vs.toArray))).push (seqObj "list" vs.toArray 0)).get? (s.heap.objs.size + 1) = some (seqObj "list" vs.toArray 0) := by
    rw [← e]; exact Heap.get?_push_size _ rfl
  show wpAny _ _ _ _ _ { s with heap := ((s.heap.push (seqObj "list" #[] 0)).update s.heap.objs.size (Obj.mapSeq (· ++ vs.toArray))).push (seqObj "list" vs.toArray 0) }
  rw [e]
  exact wpAny_bind (wpAny_holding (wpAny_call_entry slot_list_sort ⟨_,at_,rfl⟩ entry_list_sort (sort_big at_ hI hn fun out ns' a1 a2 a3=>⟨_,rfl,wpAny_pure ⟨_,rfl,h out ns' a1 a2 a3⟩⟩) (args_list_sort _)))
end
end Mine
set_option maxRecDepth 100000
namespace Mine
open PySem
noncomputable def Mild (f : Obj → Obj) : Prop := ∀ o vs,o.data = .fields vs → ∃ vs' : Array Value,(f o).data = .fields vs' ∧ vs'[2]? = vs[2]?
inductive Calm : {α : Type} → Sem α → Prop
  | pure {α : Type} {a : α} : Calm (Sem.pure a)
  | raise {α : Type} {e : Value} : Calm (Sem.raise e : Sem α)
  | unsupported {α : Type} {w : String} : Calm (Sem.unsupported w : Sem α)
  | finish {α : Type} {e : Ending} : Calm (Sem.finish e : Sem α)
  | rule {α : Type} {t : String} {k : Unit → Sem α} : (∀ u,Calm (k u)) → Calm (.rule t k)
  | at {α : Type} {p : Pos} {k : Unit → Sem α} : (∀ u,Calm (k u)) → Calm (.at p k)
  | load {α : Type} {a : Addr} {p : Option Value} {k : Obj → Sem α} : (∀ u,Calm (k u)) → Calm (.load a p k)
  | update {α : Type} {a : Addr} {p : Option Value} {f : Obj → Obj} {k : Unit → Sem α} : Mild f → (∀ u,Calm (k u)) → Calm (.update a p f k)
  | alloc {α : Type} {o : Obj} {k : Addr → Sem α} : (∀ u,Calm (k u)) → Calm (.alloc o k)
  | loadIfAlive {α : Type} {a : Addr} {k : Option Obj → Sem α} : (∀ u,Calm (k u)) → Calm (.loadIfAlive a k)
  | point {α : Type} {l : List Value} {k : Unit → Sem α} : (∀ u,Calm (k u)) → Calm (.point l k)
  | fresh {α : Type} {k : Tok → Sem α} : (∀ u,Calm (k u)) → Calm (.fresh k)
  | ask {α : Type} {k : Setting → Sem α} : (∀ u,Calm (k u)) → Calm (.ask k)
  | handled {α : Type} {o : Bool} {k : Option Value → Sem α} : (∀ u,Calm (k u)) → Calm (.handled o k)
  | stack {α : Type} {k : List (Code × Pos) → Sem α} : (∀ u,Calm (k u)) → Calm (.stack k)
theorem Calm.bind {α β : Type} {m : Sem α} {f : α → Sem β} (h : Calm m) (k : ∀ a,Calm (f a)) : Calm (m >>= f) := by
  show Calm (Sem.bind m f)
  induction h with
  | pure=>exact k _
  | raise=>exact .raise
  | unsupported=>exact .unsupported
  | finish=>exact .finish
  | rule _ ih=>exact .rule fun u=>ih u
  | «at» _ ih=>exact .at fun u=>ih u
  | load _ ih=>exact .load fun u=>ih u
  | update hf _ ih=>exact .update hf fun u=>ih u
  | alloc _ ih=>exact .alloc fun u=>ih u
  | loadIfAlive _ ih=>exact .loadIfAlive fun u=>ih u
  | point _ ih=>exact .point fun u=>ih u
  | fresh _ ih=>exact .fresh fun u=>ih u
  | ask _ ih=>exact .ask fun u=>ih u
  | handled _ ih=>exact .handled fun u=>ih u
  | stack _ ih=>exact .stack fun u=>ih u
noncomputable def NoCtx (e : Addr) (h : Heap) : Prop := ∃ o vs,h.get? e = some o ∧ o.data = .fields vs ∧ (vs : Array Value)[2]? = some .none
theorem NoCtx.push {e : Addr} {h : Heap} (x : NoCtx e h) (o : Obj) : NoCtx e (h.push o) := let ⟨o',vs,a,b,c⟩ := x; ⟨o',vs,Heap.get?_push_of_some o a,b,c⟩
theorem NoCtx.update {e a : Addr} {h : Heap} {f : Obj → Obj} (x : NoCtx e h) (hf : Mild f) : NoCtx e (h.update a f) := by
  refine x2_3 (x) fun o vs h1 h2 h3=>?_
  clear x
  by_cases z : a = e
  · subst z
    refine x1_2 (hf o vs h2) fun vs' h4 h5=>?_
    exact ⟨f o,vs',Heap.get?_update_self f h1 (Obj.isFreed_of_fields h4),h4,h5.trans h3⟩
  · exact ⟨o,vs,(Heap.get?_update_other h f z).trans h1,h2,h3⟩
theorem NoCtx.keeps {e : Addr} {h h' : Heap} (x : NoCtx e h) (k : ∀ b o,h.get? b = some o → h'.get? b = some o) : NoCtx e h' := let ⟨o',vs,a,b,c⟩ := x; ⟨o',vs,k _ _ a,b,c⟩
theorem calm_wp {e : Addr} {α : Type} {t : Sem α} (h : Calm t) : ∀ {M : Model} {Γ : _} {Q : α → Pos → Shared → Prop} {E : Value → Pos → Shared → Prop} {p : Pos} {s : Shared},NoCtx e s.heap → Sem.wp M Γ t Q E p s → Sem.wp M Γ t (fun a p s'=>Q a p s' ∧ NoCtx e s'.heap) E p s := by
  induction h with
  | pure=>intro M Γ Q E p s x w; rw [Sem.wp] at w ⊢; exact ⟨w,x⟩
  | raise=>intro M Γ Q E p s x w; rw [Sem.wp] at w ⊢; exact w
  | unsupported=>intro M Γ Q E p s x w; rw [Sem.wp] at w; exact w.elim
  | finish=>intro M Γ Q E p s x w; rw [Sem.wp] at w; exact w.elim
  | rule _ ih=>intro M Γ Q E p s x w; rw [Sem.wp] at w ⊢; exact ih _ x w
  | «at» _ ih=>intro M Γ Q E p s x w; rw [Sem.wp] at w ⊢; exact ih _ x w
  | load _ ih=>intro M Γ Q E p s x w; rw [Sem.wp] at w ⊢; obtain ⟨o,h1,h2⟩ := w; exact ⟨o,h1,ih _ x h2⟩
  | update hf _ ih=>intro M Γ Q E p s x w; rw [Sem.wp] at w ⊢; exact ⟨w.1,ih _ (x.update hf) w.2⟩
  | alloc _ ih=>intro M Γ Q E p s x w; rw [Sem.wp] at w ⊢; exact ih _ (x.push _) w
  | loadIfAlive _ ih=>intro M Γ Q E p s x w; rw [Sem.wp] at w ⊢; exact ih _ x w
  | point _ ih=>intro M Γ Q E p s x w; rw [Sem.wp] at w ⊢; exact ih _ x w
  | fresh _ ih=>intro M Γ Q E p s x w; rw [Sem.wp] at w ⊢; exact ih _ x w
  | ask _ ih=>intro M Γ Q E p s x w; rw [Sem.wp] at w ⊢; exact ih _ x w
  | handled _ ih=>intro M Γ Q E p s x w; rw [Sem.wp] at w ⊢; exact ih _ x w
  | stack _ ih=>intro M Γ Q E p s x w; rw [Sem.wp] at w ⊢; exact ih _ x w
theorem Calm.any {e : Addr} {α : Type} {t : Sem α} (h : Calm t) {M : Model} {A : Around} {Q : α → Shared → Prop} {E : Value → Shared → Prop} {s : Shared} (x : NoCtx e s.heap) (w : wpAny M A t Q E s) : wpAny M A t (fun a s'=>Q a s' ∧ NoCtx e s'.heap) E s :=
  fun Γ p hΓ=>calm_wp h x (w Γ p hΓ)
theorem mild_field {i : Nat} {v : Value} (h : i ≠ 2) : Mild (Obj.mapFields (·.setIfInBounds i v)) := fun o vs hd =>
  ⟨_,Obj.data_mapFields hd _,by rw [Array.getElem?_setIfInBounds_ne h]⟩
theorem calm_fieldsOf {v : Value} : Calm (fieldsOf v) := by
  unfold fieldsOf
  split
  · refine Calm.bind (Calm.load fun _=>.pure) fun o=>?_
    split
    · exact .pure
    · exact .unsupported
  · exact .unsupported
theorem calm_field {v : Value} {i : Nat} : Calm (field v i) := by
  unfold field
  refine Calm.bind calm_fieldsOf fun vs=>?_
  split
  · exact .pure
  · exact .unsupported
theorem calm_setField {v x : Value} {i : Nat} (h : i ≠ 2) : Calm (setField v i x) := by
  unfold setField
  split
  · unfold updateField
    refine Calm.bind (Calm.load fun _=>.pure) fun o=>?_
    split
    · split
      · exact Calm.update (mild_field h) fun _=>.pure
      · exact .unsupported
    · exact .unsupported
  · exact .unsupported
theorem calm_setFlight {v : Value} {f : Option Addr} : Calm (setFlight v f) := by
  unfold setFlight
  refine Calm.bind calm_field fun tb=>?_
  split
  · exact calm_setField (by decide)
  · exact .pure
theorem calm_ready : ∀ l : List Env,Calm (readyFrames l)
  | []=>.pure
  | env :: outer=>by
    unfold readyFrames
    split
    · refine Calm.bind (Calm.load fun _=>.pure) fun o=>?_
      split
      · exact .pure
      · refine Calm.bind ?_ fun b=>?_
        · unfold behindIsImport
          split
          · exact .pure
          · split
            · exact .pure
            · exact Calm.bind calm_field fun _=>.pure
        · refine Calm.bind ?_ fun k=>?_
          · unfold keptBack
            split
            · split
              · exact .pure
              · unfold underTheClaimsCaller
                exact Calm.bind (Calm.bind (Calm.stack fun _=>.pure) fun _=>.pure) fun _=>.pure
            · exact .pure
          · exact Calm.bind (Calm.update (fun o vs hd=>⟨vs,hd,rfl⟩) fun _=>.pure) fun _=>calm_ready outer
    · exact .unsupported
theorem calm_frameOf {env : Env} : Calm (PySem.frameOf env) := by
  unfold PySem.frameOf
  refine Calm.bind ?_ fun l=>Calm.bind ?_ fun r=>?_
  · unfold frameEnvs
    exact Calm.bind (Calm.stack fun _=>.pure) fun _=>.pure
  · unfold frameObject
    split
    · exact .pure
    · exact Calm.bind (calm_ready _) fun _=>.pure
  · split
    · exact .pure
    · exact .unsupported
theorem calm_newFields {T : String} {vs : List Value} : Calm (newFields T vs) := by
  unfold newFields newObj newObjAsIs
  dsimp only
  split
  · exact Calm.bind .unsupported fun _=>Calm.bind (Calm.alloc fun _=>.pure) fun _=>.pure
  · exact Calm.bind (Calm.alloc fun _=>.pure) fun _=>.pure
theorem calm_noteFrame {v : Value} {env : Env} : Calm (noteFrame v env) := by
  unfold noteFrame
  split
  · refine Calm.bind calm_field fun hd=>?_
    have tail : ∀ (f : Addr),Calm (do setField v 1 (← EntryCells.newEntry hd (← PySem.frameOf env) .none (rawInt f) .none (← entryPlaceOf f (hd != .none)))) := fun f=>by
      refine Calm.bind calm_frameOf fun fr=>Calm.bind ?_ fun pl=>Calm.bind ?_ fun en=>calm_setField (by decide)
      · unfold entryPlaceOf
        refine Calm.bind (Calm.stack fun _=>.pure) fun acts=>?_
        split
        · exact .pure
        · exact .pure
      · exact calm_newFields
    dsimp only
    split
    · refine Calm.bind calm_field fun x=>?_
      split
      · exact .pure
      · exact Calm.bind (calm_setField (by decide)) fun _=>tail _
    · exact tail _
  · exact .unsupported
theorem calm_leaving {v : Value} {env : Env} : Calm (leaving env v) := by
  unfold leaving
  exact Calm.bind calm_noteFrame fun _=>calm_setFlight
end Mine
namespace Mine
open PySem
inductive AV where
  | none
  | bool (b : Bool)
  | int (i : Int)
  | str (x : Str)
  | tup (l : List AV)
  | ref (i : Nat)
  | fro (l : List AV)
  deriving Inhabited
inductive AObj where
  | list (l : List AV)
  | dict (l : List (Int × AV))
  deriving Inhabited
abbrev Hp := List AObj
abbrev Loc := List (Option AV)
noncomputable def PTup (h : Heap) (a : Addr) (vs : Array Value) : Prop := ∃ n dd sl,h.get? a = some { cls := .type "tuple",dict := dd,data := .seq vs n,slots := sl }
theorem PTup.isTup {h : Heap} {a : Addr} {vs : Array Value} (x : PTup h a vs) : PyProof.Rows.IsTup h a vs := let ⟨n,_,_,e⟩ := x; ⟨_,e,rfl,n,rfl⟩
theorem PTup.of {h : Heap} {a : Addr} {vs : Array Value} (x : PyProof.Rows.IsTup h a vs) : PTup h a vs := by
  refine x1_3 (x) fun qQ0 e c1 qQ3=>?_
  clear x
  obtain ⟨c,dd,dt,sl⟩ := qQ0
  refine x1_1 (qQ3) fun n d1=>?_
  clear qQ3
  simp only at c1 d1
  subst c1; subst d1
  exact ⟨n,dd,sl,e⟩
theorem PTup.new (h : Heap) (vs : Array Value) : PTup (h.push { cls := .type "tuple",data := .seq vs }) h.objs.size vs := ⟨0,_,_,Heap.get?_push_size _ rfl⟩
theorem PTup.push {h : Heap} {a : Addr} {vs : Array Value} (x : PTup h a vs) (o : Obj) : PTup (h.push o) a vs := let ⟨n,dd,sl,e⟩ := x; ⟨n,dd,sl,Heap.get?_push_of_some o e⟩
mutual
noncomputable def VR (B h : Heap) (ι : List Addr) : AV → Value → Prop
  | .none,v=>v = .none
  | .bool b,v=>v = .bool b
  | .int i,v=>∃ t,v = .int i t
  | .str x,v=>PyData.strOk x = true ∧ ∃ t,v = .str x t
  | .tup l,v=>∃ a vs,v = .ref a ∧ PTup h a (List.toArray vs) ∧ VRs B h ι l vs
  | .ref i,v=>∃ a,v = .ref a ∧ ι[i]? = some a
  | .fro l,v=>∃ a vs,v = .ref a ∧ B.IsList a (List.toArray vs) ∧ VRs B h ι l vs
noncomputable def VRs (B h : Heap) (ι : List Addr) : List AV → List Value → Prop
  | [],vs=>vs = []
  | d :: ds,vs=>∃ v r,vs = v :: r ∧ VR B h ι d v ∧ VRs B h ι ds r
end
noncomputable def ERs (B h : Heap) (ι : List Addr) : List (Int × AV) → List DictEntry → Prop
  | [],es=>es = []
  | (k,d) :: r,es=>∃ t v es',es = ⟨hashInt k,.int k t,v⟩ :: es' ∧ VR B h ι d v ∧ ERs B h ι r es'
noncomputable def OR (B h : Heap) (ι : List Addr) (a : Addr) : AObj → Prop
  | .list l=>∃ vs,h.PlainList a (List.toArray vs) ∧ VRs B h ι l vs
  | .dict l=>(a == sysModules) = false ∧ (l.map (·.1)).Nodup ∧ ∃ es n,h.get? a = some { cls := .type "dict",data := .dict (List.toArray es) n } ∧ ERs B h ι l es
noncomputable def Kept (S : List Addr) (h h' : Heap) : Prop :=
  ∀ a o,h.get? a = some o → a ∉ S → ∃ sl,h'.get? a = some { o with slots := sl } ∧ ((∀ es n,o.data ≠ .dict es n) → sl = o.slots)
structure HR (B : Heap) (ι : List Addr) (H : Hp) (h : Heap) : Prop where
  base : B.StaysIn h
  fresh : ∀ a ∈ ι,B.get? a = Option.none
  nodup : ι.Nodup
  len : ι.length = H.length
  objs : ∀ (i : Nat) (o : AObj),H[i]? = some o → ∃ a,ι[i]? = some a ∧ OR B h ι a o
theorem Kept.refl (S : List Addr) (h : Heap) : Kept S h h := fun _ o e _=>⟨o.slots,e,fun _=>rfl⟩
theorem Kept.of_keeps {S : List Addr} {h h' : Heap} (k : ∀ b o,b ∉ S → h.get? b = some o → h'.get? b = some o) : Kept S h h' :=
  fun a o e hn=>⟨o.slots,k a o hn e,fun _=>rfl⟩
theorem Kept.trans {S : List Addr} {h₁ h₂ h₃ : Heap} (x : Kept S h₁ h₂) (y : Kept S h₂ h₃) : Kept S h₁ h₃ := fun a o e hn=>by
  refine x1_2 (x a o e hn) fun sl e1 q1=>?_
  refine x1_2 (y a _ e1 hn) fun sl' e2 q2=>?_
  exact ⟨sl',e2,fun c=>(q2 c).trans (q1 c)⟩
theorem Kept.mono {S T : List Addr} {h h' : Heap} (x : Kept S h h') (s : ∀ a ∈ S,a ∈ T) : Kept T h h' := fun a o e hn=>x a o e fun q=>hn (s a q)
theorem Kept.exact {S : List Addr} {h h' : Heap} (x : Kept S h h') {a : Addr} {o : Obj} (e : h.get? a = some o) (hn : a ∉ S) (hc : ∀ es n,o.data ≠ .dict es n) : h'.get? a = some o := by
  refine x1_2 (x a o e hn) fun sl e1 q1=>?_
  rw [e1,q1 hc]
theorem Kept.data {S : List Addr} {h h' : Heap} (x : Kept S h h') {a : Addr} {o : Obj} (e : h.get? a = some o) (hn : a ∉ S) : ∃ o',h'.get? a = some o' ∧ o'.data = o.data ∧ o'.cls = o.cls := by
  refine x1_2 (x a o e hn) fun sl e1 _=>?_
  exact ⟨_,e1,rfl,rfl⟩
noncomputable def NoTup (S : List Addr) (h : Heap) : Prop := ∀ a ∈ S,∀ vs,¬ PyProof.Rows.IsTup h a vs
theorem istup_kept {S : List Addr} {h h' : Heap} (x : Kept S h h') (nt : NoTup S h) {a : Addr} {vs : Array Value} (t : PTup h a vs) : PTup h' a vs := by
  have hn : a ∉ S := fun q=>nt a q vs t.isTup
  refine x3_1 (t) fun n dd sl e=>?_
  clear t
  exact ⟨n,dd,sl,x.exact e hn fun _ _ q=>by cases q⟩
theorem pre_get {ι ι' : List Addr} (p : ι <+: ι') {i : Nat} {a : Addr} (e : ι[i]? = some a) : ι'[i]? = some a := by
  refine x1_1 (p) fun t eQ1=>?_
  clear p
  subst eQ1
  rw [List.getElem?_append_left]
  · exact e
  · exact (List.getElem?_eq_some_iff.mp e).1
mutual
theorem VR.mono {B h h' : Heap} {ι ι' S : List Addr} (x : Kept S h h') (nt : NoTup S h) (p : ι <+: ι') : ∀ (d : AV) (v : Value),VR B h ι d v → VR B h' ι' d v
  | .none,_,q=>q
  | .bool _,_,q=>q
  | .int _,_,q=>q
  | .str _,_,q=>q
  | .tup l,v,q=>by
    unfold VR at q ⊢
    refine x2_3 (q) fun a vs e t r=>?_
    clear q
    exact ⟨a,vs,e,istup_kept x nt t,VRs.mono x nt p l vs r⟩
  | .ref i,v,q=>by
    unfold VR at q ⊢
    refine x1_2 (q) fun a e g=>?_
    clear q
    exact ⟨a,e,pre_get p g⟩
  | .fro l,v,q=>by
    unfold VR at q ⊢
    refine x2_3 (q) fun a vs e t r=>?_
    clear q
    exact ⟨a,vs,e,t,VRs.mono x nt p l vs r⟩
theorem VRs.mono {B h h' : Heap} {ι ι' S : List Addr} (x : Kept S h h') (nt : NoTup S h) (p : ι <+: ι') : ∀ (l : List AV) (vs : List Value),VRs B h ι l vs → VRs B h' ι' l vs
  | [],_,q=>q
  | d :: ds,vs,q=>by
    unfold VRs at q ⊢
    refine x2_3 (q) fun v r e a b=>?_
    clear q
    exact ⟨v,r,e,VR.mono x nt p d v a,VRs.mono x nt p ds r b⟩
end
theorem ERs.mono {B h h' : Heap} {ι ι' S : List Addr} (x : Kept S h h') (nt : NoTup S h) (p : ι <+: ι') : ∀ (l : List (Int × AV)) (es : List DictEntry),ERs B h ι l es → ERs B h' ι' l es
  | [],_,q=>q
  | (k,d) :: ds,vs,q=>by
    unfold ERs at q ⊢
    refine x3_3 (q) fun t v r e a b=>?_
    clear q
    exact ⟨t,v,r,e,VR.mono x nt p d v a,ERs.mono x nt p ds r b⟩
theorem OR.mono {B h h' : Heap} {ι ι' S : List Addr} (x : Kept S h h') (nt : NoTup S h) (p : ι <+: ι') {a : Addr} {o : AObj} (ex : ∀ o,h.get? a = some o → h'.get? a = some o) (q : OR B h ι a o) : OR B h' ι' a o := by
  cases o with
  | list l =>
    refine x1_2 (q) fun vs qQ1 r=>?_
    clear q
    refine x1_1 (qQ1) fun n e=>?_
    clear qQ1
    exact ⟨vs,⟨n,ex _ e⟩,VRs.mono x nt p l vs r⟩
  | dict l =>
    refine x0_3 (q) fun hm nd qQ2=>?_
    clear q
    refine x2_2 (qQ2) fun es n e r=>?_
    clear qQ2
    exact ⟨hm,nd,es,n,ex _ e,ERs.mono x nt p l es r⟩
theorem OR.cls {B h : Heap} {ι : List Addr} {a : Addr} {o : AObj} (q : OR B h ι a o) : ∃ x,h.get? a = some x ∧ x.cls ≠ .type "tuple" := by
  cases o with
  | list l=>exact q.elim fun _ z=>z.1.elim fun _ e=>⟨_,e,by simp⟩
  | dict l=>exact q.2.2.elim fun _ z=>z.elim fun _ e=>⟨_,e.1,by simp⟩
theorem HR.noTup {B : Heap} {ι : List Addr} {H : Hp} {h : Heap} (q : HR B ι H h) : NoTup ι h := by
  intro a ha vs t
  refine x1_1 (List.getElem_of_mem ha) fun i qQ1=>?_
  obtain ⟨hi,rfl⟩ := qQ1
  have hl : i < H.length := q.len ▸ hi
  refine x1_2 (q.objs i H[i] (List.getElem?_eq_getElem hl)) fun b eb o=>x1_2 o.cls fun x e hc=>x1_2 t fun o' e' c=>?_
  have := Option.some.inj ((List.getElem?_eq_getElem hi).symm.trans eb)
  rw [← this] at e
  exact hc (Option.some.inj (e.symm.trans e') ▸ c.1)
structure Post (B : Heap) (ι : List Addr) (s : Shared) (ι' : List Addr) (H' : Hp) (s' : Shared) : Prop where
  pre : ι <+: ι'
  hr : HR B ι' H' s'.heap
  kept : Kept ι s.heap s'.heap
  new : ∀ a ∈ ι',a ∈ ι ∨ s.heap.get? a = Option.none
  same : ∃ h t,s' = { s with heap := h,toks := t }
theorem Post.refl {B : Heap} {ι : List Addr} {H : Hp} {s : Shared} (q : HR B ι H s.heap) (t : Nat) : Post B ι s ι H { s with toks := t } :=
  ⟨List.prefix_refl _,q,Kept.refl _ _,fun _ h=>.inl h,s.heap,t,rfl⟩
theorem Post.id {B : Heap} {ι : List Addr} {H : Hp} {s : Shared} (q : HR B ι H s.heap) : Post B ι s ι H s := Post.refl q s.toks
theorem Post.trans {B : Heap} {ι ι₁ ι₂ : List Addr} {s s₁ s₂ : Shared} {H₁ H₂ : Hp} (x : Post B ι s ι₁ H₁ s₁) (y : Post B ι₁ s₁ ι₂ H₂ s₂) : Post B ι s ι₂ H₂ s₂ := by
  have out : ∀ a o,s.heap.get? a = some o → a ∉ ι → a ∉ ι₁ := fun a o e hn q=>(x.new a q).elim hn fun z=>by rw [e] at z; cases z
  refine ⟨x.pre.trans y.pre,y.hr,fun a o e hn=>?_,fun a ha=>?_,?_⟩
  · refine x1_2 (x.kept a o e hn) fun sl e1 q1=>?_
    refine x1_2 (y.kept a _ e1 (out a o e hn)) fun sl' e2 q2=>?_
    exact ⟨sl',e2,fun c=>(q2 c).trans (q1 c)⟩
  · by_cases hi : a ∈ ι
    · exact .inl hi
    · right
      rcases y.new a ha with q | q
      · exact (x.new a q).resolve_left hi
      · cases e : s.heap.get? a with
        | none=>rfl
        | some o =>
          refine x1_2 (x.kept a o e hi) fun sl e1 _=>?_
          rw [e1] at q; cases q
  · refine x2_1 (x.same) fun h t eQ2=>?_
    subst eQ2
    refine x2_1 (y.same) fun h' t' eQ2=>?_
    subst eQ2
    exact ⟨h',t',rfl⟩
theorem Post.vr {B : Heap} {ι ι' : List Addr} {s s' : Shared} {H H' : Hp} (x : Post B ι s ι' H' s') (q : HR B ι H s.heap) {d : AV} {v : Value} (r : VR B s.heap ι d v) : VR B s'.heap ι' d v :=
  VR.mono x.kept q.noTup x.pre d v r
theorem Post.vrs {B : Heap} {ι ι' : List Addr} {s s' : Shared} {H H' : Hp} (x : Post B ι s ι' H' s') (q : HR B ι H s.heap) {d : List AV} {v : List Value} (r : VRs B s.heap ι d v) : VRs B s'.heap ι' d v :=
  VRs.mono x.kept q.noTup x.pre d v r
noncomputable def FramesOK (A : Around) (B h : Heap) (ι : List Addr) : Prop :=
  ∃ fl,A.frames = some fl ∧ ∀ env ∈ fl,env.scope.kind ≠ .module ∧ ∃ L o,env.frame = some L ∧ B.get? L = Option.none ∧ h.get? L = some o ∧ (∃ es n,o.data = .dict es n) ∧ L ∉ ι
structure Room (A : Around) (d : Nat) : Prop where
  depth : A.depth + d < recursionLimit
  units : A.units + 8 * d + 200 < cLine
  handled : A.handled = Option.none
structure W (B : Heap) (A : Around) (d : Nat) (ι : List Addr) (H : Hp) (s : Shared) : Prop where
  room : Room A d
  fr : FramesOK A B s.heap ι
  hr : HR B ι H s.heap
theorem FramesOK.step {A : Around} {B : Heap} {ι ι' : List Addr} {s s' : Shared} {H' : Hp} (x : FramesOK A B s.heap ι) (p : Post B ι s ι' H' s') : FramesOK A B s'.heap ι' := by
  refine x1_2 (x) fun fl e q=>?_
  clear x
  refine ⟨fl,e,fun env he=>?_⟩
  refine x0_2 (q env he) fun k qQ1=>?_
  obtain ⟨L,o,h1,h2,h3,h4,h5⟩ := qQ1
  refine x1_3 (p.kept.data h3 h5) fun o' e' d' _=>?_
  exact ⟨k,L,o',h1,h2,e',d' ▸ h4,fun z=>(p.new L z).elim h5 fun w=>by rw [h3] at w; cases w⟩
theorem W.step {B : Heap} {A : Around} {d : Nat} {ι ι' : List Addr} {H H' : Hp} {s s' : Shared} (x : W B A d ι H s) (p : Post B ι s ι' H' s') : W B A d ι' H' s' :=
  ⟨x.room,x.fr.step p,p.hr⟩
noncomputable def Has (env : Env) (h : Heap) (x : Str) (ov : Option Value) : Prop :=
  (env.kindOf x = some .local ∧ ∃ m,h.Ns env.locals m ∧ m x = ov) ∨
  ((env.kindOf x = some .cell ∨ env.kindOf x = some .free) ∧ ∃ c,env.cells.lookup x = some c ∧ h.IsCell c ov)
structure Ctx where
  vars : List (Option Str)
  names : List (Str × NameKind)
  ro : Nat := 0
structure EnvR (B : Heap) (C : Ctx) (env : Env) (ι : List Addr) (h : Heap) (loc : Loc) : Prop where
  kind : env.scope.kind = .function
  names : env.scope.names = C.names
  glob : env.globals = mainGlobals
  blt : env.builtins = builtinsNs
  ns : ∃ m,h.Ns env.locals m
  offL : env.locals ∉ ι
  newL : B.get? env.locals = Option.none
  offC : ∀ x c,some x ∈ C.vars → env.cells.lookup x = some c → c ∉ ι ∧ c ≠ env.locals ∧ B.get? c = Option.none
  isC : ∀ x c,some x ∈ C.vars → env.cells.lookup x = some c → ∃ ov,h.IsCell c ov
  apart : ∀ x y c,some x ∈ C.vars → some y ∈ C.vars → env.cells.lookup x = some c → env.cells.lookup y = some c → x = y
  len : loc.length = C.vars.length
  vars : ∀ (i : Nat) (x : Str),C.vars[i]? = some (some x) → ∃ ov,Has env h x ov ∧ ∀ d,loc[i]? = some (some d) → ∃ v,ov = some v ∧ VR B h ι d v
theorem Ns.of_data {h h' : Heap} {a : Addr} {m : Str → Option Value} (x : h.Ns a m) (k : ∀ o,h.get? a = some o → ∃ o',h'.get? a = some o' ∧ o'.data = o.data) : h'.Ns a m := by
  refine x3_3 (x) fun o es ep e d r=>?_
  clear x
  refine x1_2 (k o e) fun o' e' d'=>?_
  exact ⟨o',es,ep,e',d'.trans d,r⟩
theorem Cell.of_data {h h' : Heap} {a : Addr} {v : Option Value} (x : h.IsCell a v) (k : ∀ o,h.get? a = some o → ∃ o',h'.get? a = some o' ∧ o'.data = o.data) : h'.IsCell a v := by
  refine x1_2 (x) fun o e d=>?_
  clear x
  refine x1_2 (k o e) fun o' e' d'=>?_
  exact ⟨o',e',d'.trans d⟩
theorem EnvR.step {B : Heap} {C : Ctx} {env : Env} {ι ι' : List Addr} {s s' : Shared} {H H' : Hp} {loc : Loc} (x : EnvR B C env ι s.heap loc) (q : HR B ι H s.heap) (p : Post B ι s ι' H' s') : EnvR B C env ι' s'.heap loc := by
  have kd : ∀ a,a ∉ ι → ∀ o,s.heap.get? a = some o → ∃ o',s'.heap.get? a = some o' ∧ o'.data = o.data := fun a hn o e=>by
    refine x1_3 (p.kept.data e hn) fun o' e' d' _=>?_
    exact ⟨o',e',d'⟩
  have off : ∀ a o,s.heap.get? a = some o → a ∉ ι → a ∉ ι' := fun a o e hn z=>(p.new a z).elim hn fun w=>by rw [e] at w; cases w
  refine ⟨x.kind,x.names,x.glob,x.blt,?_,?_,x.newL,fun y c hm hc=>?_,fun y c hm hc=>?_,x.apart,x.len,fun i y hi=>?_⟩
  · refine x1_1 (x.ns) fun m n=>?_
    exact ⟨m,Ns.of_data n (kd _ x.offL)⟩
  · refine x4_2 (x.ns) fun m o es ep e r=>?_
    exact off _ o e x.offL
  · refine x0_3 (x.offC y c hm hc) fun c1 c2 c3=>?_
    refine x2_2 (x.isC y c hm hc) fun ov o e r=>?_
    exact ⟨off _ o e c1,c2,c3⟩
  · refine x1_1 (x.isC y c hm hc) fun ov r=>?_
    exact ⟨ov,Cell.of_data r (kd _ (x.offC y c hm hc).1)⟩
  · refine x1_2 (x.vars i y hi) fun ov hs hv=>?_
    refine ⟨ov,?_,fun d hd=>?_⟩
    · rcases hs with ⟨k,m,n,e⟩ | ⟨k,c,e,r⟩
      · exact .inl ⟨k,m,Ns.of_data n (kd _ x.offL),e⟩
      · exact .inr ⟨k,c,e,Cell.of_data r (kd _ (x.offC y c (List.mem_of_getElem? hi) e).1)⟩
    · refine x1_2 (hv d hd) fun v e r=>?_
      exact ⟨v,e,p.vr q r⟩
end Mine
namespace Mine
open PySem
structure PEnv where
  prog : Program
  w : World
  B : Heap
  mg : Str → Option Value
  mb : Str → Option Value
structure PEnv.OK (P : PEnv) : Prop where
  g : P.B.Ns mainGlobals P.mg
  b : P.B.Ns builtinsNs P.mb
  nolimit : P.B.NoLimit
noncomputable def fAs (l : List Env) : List Addr := l.filterMap (·.frame)
structure XLeft (B : Heap) (l : List Env) (S ι : List Addr) (s : Shared) (ι' : List Addr) (H' : Hp) (base : Heap) (s' : Shared) : Prop where
  pre : ι <+: ι'
  hr : HR B ι' H' base
  stays : base.StaysIn s'.heap
  kept : Kept (S ++ ι) s.heap s'.heap
  inb : ∀ a o,s.heap.get? a = some o → a ∉ S ++ ι → a ∉ fAs l → ∃ sl,base.get? a = some { o with slots := sl }
  new : ∀ a ∈ ι',a ∈ ι ∨ s.heap.get? a = Option.none
  same : ∃ h t,s' = { s with heap := h,toks := t }
noncomputable def XPost (P : PEnv) (l : List Env) (S ι : List Addr) (s : Shared) (ι' : List Addr) (H' : Hp) (s' : Shared) (e : Value) (c : Str) : Prop :=
  ∃ ea base D,e = .ref ea ∧ P.mg c = some (.ref D) ∧ XLeft P.B l S ι s ι' H' base s' ∧ (∃ a0,Heap.FlyingW base l ea (.ref D) a0 s'.heap) ∧ NoCtx ea s'.heap
abbrev XP := Str → Hp → Prop
noncomputable def Acc (P : PEnv) (A : Around) (X : XP) (ι : List Addr) (s : Shared) (E : Value → Shared → Prop) : Prop :=
  ∀ l,A.frames = some l → ∀ e s' ι' H' c,XPost P l [] ι s ι' H' s' e c → X c H' → E e s'
theorem XLeft.before {B : Heap} {l : List Env} {ι ι₁ ι₂ : List Addr} {s s₁ s₂ : Shared} {H₁ H₂ : Hp} {base : Heap} (p : Post B ι s ι₁ H₁ s₁) (x : XLeft B l [] ι₁ s₁ ι₂ H₂ base s₂) : XLeft B l [] ι s ι₂ H₂ base s₂ := by
  have out : ∀ a o,s.heap.get? a = some o → a ∉ ι → a ∉ ι₁ := fun a o e hn q=>(p.new a q).elim hn fun z=>by rw [e] at z; cases z
  refine ⟨p.pre.trans x.pre,x.hr,x.stays,fun a o e hn=>?_,fun a o e hn hf=>?_,fun a ha=>?_,?_⟩
  · refine x1_2 (p.kept a o e hn) fun sl e1 q1=>?_
    refine x1_2 (x.kept a _ e1 (out a o e hn)) fun sl' e2 q2=>?_
    exact ⟨sl',e2,fun c=>(q2 c).trans (q1 c)⟩
  · refine x1_2 (p.kept a o e hn) fun sl e1 q1=>?_
    refine x1_1 (x.inb a _ e1 (out a o e hn) hf) fun sl' e2=>?_
    exact ⟨sl',e2⟩
  · by_cases hi : a ∈ ι
    · exact .inl hi
    · right
      rcases x.new a ha with q | q
      · exact (p.new a q).resolve_left hi
      · cases e : s.heap.get? a with
        | none=>rfl
        | some o =>
          refine x1_2 (p.kept a o e hi) fun sl e1 _=>?_
          rw [e1] at q; cases q
  · refine x2_1 (p.same) fun h t eQ2=>?_
    subst eQ2
    refine x2_1 (x.same) fun h' t' eQ2=>?_
    subst eQ2
    exact ⟨h',t',rfl⟩
theorem Acc.step {P : PEnv} {A : Around} {X : XP} {ι ι' : List Addr} {s s' : Shared} {H' : Hp} {E : Value → Shared → Prop} (x : Acc P A X ι s E) (p : Post P.B ι s ι' H' s') : Acc P A X ι' s' E := by
  rintro l hl e s'' ι'' H'' c ⟨ea,base,D,h1,h2,h3,h4⟩ hx
  exact x l hl e s'' ι'' H'' c ⟨ea,base,D,h1,h2,h3.before p,h4⟩ hx
inductive Gives (B : Heap) (ι : List Addr) (s : Shared) (Q : AV → Hp → Prop) (v : Value) (s' : Shared) : Prop where
  | mk (ι' : List Addr) (H' : Hp) (av : AV) (p : Post B ι s ι' H' s') (r : VR B s'.heap ι' av v) (q : Q av H')
theorem gRE {M : Model} {A : Around} {α : Type} {t : Sem α} {E : Value → Shared → Prop} {s : Shared} {Q : α → Shared → Prop} (h : ∀ (R : α → Shared → Prop) (F : Value → Shared → Prop),(∀ v s,Q v s → R v s) → wpAny M A t R F s) : wpAny M A t Q E s := h Q E fun _ _ x=>x
theorem gv {M : Model} {A : Around} {t : Sem Value} {E : Value → Shared → Prop} {B : Heap} {ι : List Addr} {s s₀ : Shared} {Q : AV → Hp → Prop} {R : Value → Shared → Prop} (h : wpAny M A t (Gives B ι s Q) E s₀)
    (k : ∀ v s₁ ι₁ H₁ x,Post B ι s ι₁ H₁ s₁ → VR B s₁.heap ι₁ x v → Q x H₁ → R v s₁) : wpAny M A t R E s₀ :=
  wpAny_mono h (fun v s₁ g=>by cases g with | mk ι₁ H₁ x p r q=>exact k v s₁ ι₁ H₁ x p r q) fun _ _ x=>x
theorem Gives.mono {B : Heap} {ι : List Addr} {s : Shared} {Q Q' : AV → Hp → Prop} {v : Value} {s' : Shared} (g : Gives B ι s Q v s') (h : ∀ a H,Q a H → Q' a H) : Gives B ι s Q' v s' := by
  obtain ⟨ι',H',av,p,r,q⟩ := g
  exact ⟨ι',H',av,p,r,h _ _ q⟩
theorem Gives.before {B : Heap} {ι ι₁ : List Addr} {s s₁ : Shared} {H₁ : Hp} {Q : AV → Hp → Prop} {v : Value} {s' : Shared} (p : Post B ι s ι₁ H₁ s₁) (g : Gives B ι₁ s₁ Q v s') : Gives B ι s Q v s' := by
  obtain ⟨ι',H',av,p',r,q⟩ := g
  exact ⟨ι',H',av,p.trans p',r,q⟩
theorem Gives.now {B : Heap} {ι : List Addr} {s : Shared} {H : Hp} {Q : AV → Hp → Prop} {v : Value} {av : AV} (t : Nat) (hr : HR B ι H s.heap) (r : VR B s.heap ι av v) (q : Q av H) : Gives B ι s Q v { s with toks := t } :=
  ⟨ι,H,av,Post.refl hr t,r,q⟩
theorem Gives.same {B : Heap} {ι : List Addr} {s : Shared} {H : Hp} {Q : AV → Hp → Prop} {v : Value} {av : AV} (hr : HR B ι H s.heap) (r : VR B s.heap ι av v) (q : Q av H) : Gives B ι s Q v s :=
  Gives.now s.toks hr r q
inductive GivesB (B : Heap) (ι : List Addr) (s : Shared) (Q : Bool → Hp → Prop) (b : Bool) (s' : Shared) : Prop where
  | mk (ι' : List Addr) (H' : Hp) (p : Post B ι s ι' H' s') (q : Q b H')
theorem gb {M : Model} {A : Around} {t : Sem Bool} {E : Value → Shared → Prop} {B : Heap} {ι : List Addr} {s s₀ : Shared} {Q : Bool → Hp → Prop} {R : Bool → Shared → Prop} (h : wpAny M A t (GivesB B ι s Q) E s₀)
    (k : ∀ v s₁ ι₁ H₁,Post B ι s ι₁ H₁ s₁ → Q v H₁ → R v s₁) : wpAny M A t R E s₀ :=
  wpAny_mono h (fun v s₁ g=>by cases g with | mk ι₁ H₁ p q=>exact k v s₁ ι₁ H₁ p q) fun _ _ x=>x
inductive GivesL (B : Heap) (ι : List Addr) (s : Shared) (Q : List AV → Hp → Prop) (vs : List Value) (s' : Shared) : Prop where
  | mk (ι' : List Addr) (H' : Hp) (l : List AV) (p : Post B ι s ι' H' s') (r : VRs B s'.heap ι' l vs) (q : Q l H')
theorem gll {M : Model} {A : Around} {t : Sem (List Value)} {E : Value → Shared → Prop} {B : Heap} {ι : List Addr} {s s₀ : Shared} {Q : List AV → Hp → Prop} {R : List Value → Shared → Prop} (h : wpAny M A t (GivesL B ι s Q) E s₀)
    (k : ∀ v s₁ ι₁ H₁ x,Post B ι s ι₁ H₁ s₁ → VRs B s₁.heap ι₁ x v → Q x H₁ → R v s₁) : wpAny M A t R E s₀ :=
  wpAny_mono h (fun v s₁ g=>by cases g with | mk ι₁ H₁ x p r q=>exact k v s₁ ι₁ H₁ x p r q) fun _ _ x=>x
section
variable (P : PEnv) (C : Ctx) (d : Nat)
noncomputable def EvOK (e : Expr) (loc : Loc) (H : Hp) (Q : AV → Hp → Prop) (X : XP) : Prop :=
  ∀ A E env ι s,W P.B A d ι H s → EnvR P.B C env ι s.heap loc → Acc P A X ι s E → wpAny (model P.prog P.w) A (eval e env) (Gives P.B ι s Q) E s
noncomputable def TsOK (e : Expr) (loc : Loc) (H : Hp) (Q : Bool → Hp → Prop) (X : XP) : Prop :=
  ∀ A E env ι s,W P.B A d ι H s → EnvR P.B C env ι s.heap loc → Acc P A X ι s E → wpAny (model P.prog P.w) A (isTrue e env (eval e env)) (GivesB P.B ι s Q) E s
noncomputable def EvsOK (es : List Expr) (loc : Loc) (H : Hp) (Q : List AV → Hp → Prop) (X : XP) : Prop :=
  ∀ A E env ι s pos,W P.B A d ι H s → EnvR P.B C env ι s.heap loc → Acc P A X ι s E → wpAny (model P.prog P.w) A (spliced (backTo pos (starEach es env))) (GivesL P.B ι s Q) E s
noncomputable def OpOK (t : List Value → Sem Value) (args : List AV) (H : Hp) (Q : AV → Hp → Prop) : Prop :=
  ∀ A E ι s vs,W P.B A d ι H s → VRs P.B s.heap ι args vs → wpAny (model P.prog P.w) A (t vs) (Gives P.B ι s Q) E s
end
variable {P : PEnv} {C : Ctx} {d : Nat} {loc : Loc} {H : Hp} {X : XP}
theorem EvOK.mono {e : Expr} {Q Q' : AV → Hp → Prop} (h : EvOK P C d e loc H Q X) (q : ∀ a H',Q a H' → Q' a H') : EvOK P C d e loc H Q' X :=
  fun A E env ι s w r a=>wpAny_mono (h A E env ι s w r a) (fun _ _ g=>g.mono q) fun _ _ x=>x
theorem EvsOK.mono {es : List Expr} {Q Q' : List AV → Hp → Prop} (h : EvsOK P C d es loc H Q X) (q : ∀ a H',Q a H' → Q' a H') : EvsOK P C d es loc H Q' X :=
  fun A E env ι s pos w r a=>wpAny_mono (h A E env ι s pos w r a) (fun _ _ g=>by obtain ⟨ι',H',l,p,r,z⟩ := g; exact ⟨ι',H',l,p,r,q _ _ z⟩) fun _ _ x=>x
theorem TsOK.mono {e : Expr} {Q Q' : Bool → Hp → Prop} (h : TsOK P C d e loc H Q X) (q : ∀ a H',Q a H' → Q' a H') : TsOK P C d e loc H Q' X :=
  fun A E env ι s w r a=>wpAny_mono (h A E env ι s w r a) (fun _ _ g=>by obtain ⟨ι',H',p,z⟩ := g; exact ⟨ι',H',p,q _ _ z⟩) fun _ _ x=>x
theorem VR.mkInt {B h : Heap} {ι : List Addr} (i : Int) (t : Tok) : VR B h ι (.int i) (.int i t) := ⟨t,rfl⟩
theorem VR.mkBool {B h : Heap} {ι : List Addr} (b : Bool) : VR B h ι (.bool b) (.bool b) := rfl
theorem VR.mkNone {B h : Heap} {ι : List Addr} : VR B h ι .none .none := rfl
theorem VR.mkStr {B h : Heap} {ι : List Addr} (x : Str) (t : Tok) (hx : PyData.strOk x = true) : VR B h ι (.str x) (.str x t) := ⟨hx,t,rfl⟩
theorem ev_int {i : Int} {k : Nat} {pos : Pos} {Q : AV → Hp → Prop} (h : Q (.int i) H) : EvOK P C d (.Constant (.int i) k pos) loc H Q X :=
  fun _ _ _ _ s w _ _=>wpAny_Constant_int (Gives.now _ w.hr (VR.mkInt i s.toks) h)
theorem ev_str {x : Str} {k : Nat} {pos : Pos} {Q : AV → Hp → Prop} (hx : PyData.strOk x = true) (h : Q (.str x) H) : EvOK P C d (.Constant (.str x) k pos) loc H Q X :=
  fun _ _ _ _ s w _ _=>wpAny_Constant_str (Gives.now _ w.hr (VR.mkStr x s.toks hx) h)
theorem ev_bool {b : Bool} {k : Nat} {pos : Pos} {Q : AV → Hp → Prop} (h : Q (.bool b) H) : EvOK P C d (.Constant (.bool b) k pos) loc H Q X :=
  fun _ _ _ _ _ w _ _=>wpAny_Constant_bool (Gives.same w.hr (VR.mkBool b) h)
theorem ev_none {k : Nat} {pos : Pos} {Q : AV → Hp → Prop} (h : Q .none H) : EvOK P C d (.Constant .none k pos) loc H Q X :=
  fun _ _ _ _ _ w _ _=>wpAny_Constant_none (Gives.same w.hr VR.mkNone h)
theorem ev_loc {i : Nat} {x : Str} {pos : Pos} {v : AV} {Q : AV → Hp → Prop} (hx : C.vars[i]? = some (some x)) (hd : (x == ("__debug__" : Str)) = false) (hcd : (x == ("__classdict__" : Str)) = false) (hv : loc[i]? = some (some v)) (h : Q v H) :
    EvOK P C d (.Name x pos) loc H Q X := fun A E env ι s w r a=>by
  refine x1_2 (r.vars i x hx) fun ov hs q=>?_
  refine x1_2 (q v hv) fun u eQ1 vr=>?_
  subst eQ1
  refine wpAny_Name ?_ hd
  have fin : Gives P.B ι s Q u s := Gives.same w.hr vr h
  rcases hs with ⟨k,m,n,e⟩ | ⟨k | k,c,e,r'⟩
  · exact wpAny_loadName_local r.kind k n e fin
  · exact wpAny_loadName_cell r.kind k e r' fin
  · exact wpAny_loadName_free r.kind k e r' fin hcd
theorem ev_glob {x : Str} {pos : Pos} {v : AV} {u : Value} {Q : AV → Hp → Prop} (ok : P.OK) (hd : (x == ("__debug__" : Str)) = false) (hg : P.mg x = some u) (hv : ∀ h ι,P.B.StaysIn h → VR P.B h ι v u) (h : Q v H)
    (hk : C.names.lookup x = some .globalImplicit) :
    EvOK P C d (.Name x pos) loc H Q X := fun A E env ι s w r a=>by
  refine Calls.Name_function_global r.kind (by unfold Env.kindOf; rw [r.names]; exact hk) ?_ hd
  exact Calls.loadGlobal_global (r.glob ▸ ok.g.keeps fun b o e=>w.hr.base b o e) hg (Gives.same w.hr (hv _ _ w.hr.base) h)
theorem ev_bin {l r : Expr} {op : Operator} {pos : Pos} {Q : AV → Hp → Prop}
    (h : EvOK P C d l loc H (fun x H₁=>EvOK P C d r loc H₁ (fun y H₂=>OpOK P d (fun vs=>binaryOp op (vs.getD 0 .none) (vs.getD 1 .none)) [x,y] H₂ Q) X) X) :
    EvOK P C d (.BinOp l op r pos) loc H Q X := fun A E env ι s w e a=>by
  refine wpAny_BinOp (gv (h A E env ι s w e a) (fun u s₁ ι₁ H₁ x p₁ r₁ g=>?_))
  refine gv (g A E env ι₁ s₁ (w.step p₁) (e.step w.hr p₁) (a.step p₁)) (fun u' s₂ ι₂ H₂ y p₂ r₂ g=>?_)
  exact wpAny_mono (g A E ι₂ s₂ [u,u'] ((w.step p₁).step p₂) ⟨_,_,rfl,p₂.vr p₁.hr r₁,_,_,rfl,r₂,rfl⟩) (fun _ _ g=>(g.before p₂).before p₁) fun _ _ x=>x
theorem ev_cmp {l r : Expr} {op : CmpOp} {pos : Pos} {Q : AV → Hp → Prop}
    (h : EvOK P C d l loc H (fun x H₁=>EvOK P C d r loc H₁ (fun y H₂=>OpOK P d (fun vs=>compareOp op (vs.getD 0 .none) (vs.getD 1 .none)) [x,y] H₂ Q) X) X)
    (hm : behindInMarks op r = false) :
    EvOK P C d (.Compare l [op] [r] pos) loc H Q X := fun A E env ι s w e a=>by
  refine wpAny_Compare1 (gv (h A E env ι s w e a) (fun u s₁ ι₁ H₁ x p₁ r₁ g=>?_)) hm
  refine gv (g A E env ι₁ s₁ (w.step p₁) (e.step w.hr p₁) (a.step p₁)) (fun u' s₂ ι₂ H₂ y p₂ r₂ g=>?_)
  exact wpAny_mono (g A E ι₂ s₂ [u,u'] ((w.step p₁).step p₂) ⟨_,_,rfl,p₂.vr p₁.hr r₁,_,_,rfl,r₂,rfl⟩) (fun _ _ g=>(g.before p₂).before p₁) fun _ _ x=>x
theorem givesB_of {B : Heap} {A : Around} {E : Value → Shared → Prop} {M : Model} {ι : List Addr} {s s₁ : Shared} {v : Value} {Q : Bool → Hp → Prop} (g : Gives B ι s (fun a H'=>∃ b,a = .bool b ∧ Q b H') v s₁) : wpAny M A (truthy v) (GivesB B ι s Q) E s₁ := by
  obtain ⟨ι₁,H₁,x,p₁,r₁,b,rfl,q⟩ := g
  cases r₁
  exact wpAny_truthy_bool ⟨ι₁,H₁,p₁,q⟩
theorem ts_cmp {l r : Expr} {op : CmpOp} {pos : Pos} {Q : Bool → Hp → Prop}
    (h : EvOK P C d l loc H (fun x H₁=>EvOK P C d r loc H₁ (fun y H₂=>OpOK P d (fun vs=>compareOp op (vs.getD 0 .none) (vs.getD 1 .none)) [x,y] H₂ (fun a H'=>∃ b,a = .bool b ∧ Q b H')) X) X)
    (hm : behindInMarks op r = false) :
    TsOK P C d (.Compare l [op] [r] pos) loc H Q X := fun A E env ι s w e a=>by
  refine wpAny_isTrue_Compare1 (gv (h A E env ι s w e a) (fun u s₁ ι₁ H₁ x p₁ r₁ g=>?_)) hm
  refine gv (g A E env ι₁ s₁ (w.step p₁) (e.step w.hr p₁) (a.step p₁)) (fun u' s₂ ι₂ H₂ y p₂ r₂ g=>?_)
  exact wpAny_mono (g A E ι₂ s₂ [u,u'] ((w.step p₁).step p₂) ⟨_,_,rfl,p₂.vr p₁.hr r₁,_,_,rfl,r₂,rfl⟩) (fun _ _ g=>givesB_of ((g.before p₂).before p₁)) fun _ _ x=>x
theorem ts_plain {e : Expr} {Q : Bool → Hp → Prop} (h : EvOK P C d e loc H (fun a H'=>∃ b,a = .bool b ∧ Q b H') X)
    (he : ∀ env whole,isTrue e env whole = (do let v ← whole; standAt e.pos; holding [v] (truthy v))) : TsOK P C d e loc H Q X := fun A E env ι s w r a =>
  PyProof.Rows.isTrue_plain (wpAny_mono (h A E env ι s w r a) (fun _ _ g=>givesB_of g) fun _ _ x=>x) (he env _)
theorem ts_not {x : Expr} {pos : Pos} {Q : Bool → Hp → Prop} (h : TsOK P C d x loc H (fun b H'=>Q (!b) H') X) : TsOK P C d (.UnaryOp .Not x pos) loc H Q X := fun A E env ι s w r a =>
  PyProof.Rows.isTrue_not (gb (h A E env ι s w r a) fun _ _ ι' H' p q=>⟨ι',H',p,q⟩)
theorem ev_not {x : Expr} {pos : Pos} {Q : AV → Hp → Prop} (h : EvOK P C d x loc H (fun v H'=>∃ b,v = .bool b ∧ Q (.bool !b) H') X) : EvOK P C d (.UnaryOp .Not x pos) loc H Q X := fun A E env ι s w r a =>
  PyProof.Rows.UnaryOp_ (wpAny_mono (h A E env ι s w r a) (fun v s₁ g=>by
    obtain ⟨ι₁,H₁,x,p₁,r₁,b,rfl,q⟩ := g
    cases r₁
    exact PyProof.Rows.not_of (wpAny_truthy_bool ⟨ι₁,H₁,.bool !b,p₁,rfl,q⟩)) fun _ _ x=>x)
theorem GivesB.before {B : Heap} {ι ι₁ : List Addr} {s s₁ : Shared} {H₁ : Hp} {Q : Bool → Hp → Prop} {v : Bool} {s' : Shared} (p : Post B ι s ι₁ H₁ s₁) (g : GivesB B ι₁ s₁ Q v s') : GivesB B ι s Q v s' := by
  obtain ⟨ι',H',p',q⟩ := g
  exact ⟨ι',H',p.trans p',q⟩
theorem ts_and_nil {pos : Pos} {Q : Bool → Hp → Prop} (h : Q true H) : TsOK P C d (.BoolOp .And [] pos) loc H Q X := fun _ _ _ ι _ w _ _=>PyProof.Rows.isTrue_and_nil ⟨ι,H,Post.id w.hr,h⟩
theorem ts_or_nil {pos : Pos} {Q : Bool → Hp → Prop} (h : Q false H) : TsOK P C d (.BoolOp .Or [] pos) loc H Q X := fun _ _ _ ι _ w _ _=>PyProof.Rows.isTrue_or_nil ⟨ι,H,Post.id w.hr,h⟩
theorem ts_whole {op : BoolOp} {vs : List Expr} {pos : Pos} {env : Env} (t t' : Sem Value) : isTrue (.BoolOp op vs pos) env t = isTrue (.BoolOp op vs pos) env t' := rfl
theorem ts_and {x : Expr} {rest : List Expr} {pos : Pos} {Q : Bool → Hp → Prop} (h : TsOK P C d x loc H (fun b H'=>if b then TsOK P C d (.BoolOp .And rest pos) loc H' Q X else Q false H') X) :
    TsOK P C d (.BoolOp .And (x :: rest) pos) loc H Q X := fun A E env ι s w e a=>by
  refine PyProof.Rows.isTrue_and (gb (h A E env ι s w e a) (fun b s₁ ι₁ H₁ p₁ g=>?_))
  cases b with
  | false=>exact ⟨ι₁,H₁,p₁,g⟩
  | true =>
    show wpAny _ _ _ _ _ _
    rw [ts_whole _ (eval (.BoolOp .And rest pos) env)]
    exact wpAny_mono (g A E env ι₁ s₁ (w.step p₁) (e.step w.hr p₁) (a.step p₁)) (fun _ _ g=>g.before p₁) fun _ _ x=>x
theorem ts_or {x : Expr} {rest : List Expr} {pos : Pos} {Q : Bool → Hp → Prop} (h : TsOK P C d x loc H (fun b H'=>if b then Q true H' else TsOK P C d (.BoolOp .Or rest pos) loc H' Q X) X) :
    TsOK P C d (.BoolOp .Or (x :: rest) pos) loc H Q X := fun A E env ι s w e a=>by
  refine PyProof.Rows.isTrue_or (gb (h A E env ι s w e a) (fun b s₁ ι₁ H₁ p₁ g=>?_))
  cases b with
  | true=>exact ⟨ι₁,H₁,p₁,g⟩
  | false =>
    show wpAny _ _ _ _ _ _
    rw [ts_whole _ (eval (.BoolOp .Or rest pos) env)]
    exact wpAny_mono (g A E env ι₁ s₁ (w.step p₁) (e.step w.hr p₁) (a.step p₁)) (fun _ _ g=>g.before p₁) fun _ _ x=>x
theorem ev_bool1 {op : BoolOp} {x : Expr} {pos : Pos} {Q : AV → Hp → Prop} (h : EvOK P C d x loc H Q X) : EvOK P C d (.BoolOp op [x] pos) loc H Q X := fun A E env ι s w e a =>
  PyProof.Rows.BoolOp_one (h A E env ι s w e a)
theorem ev_and {x y : Expr} {rest : List Expr} {pos : Pos} {Q : AV → Hp → Prop} (h : EvOK P C d x loc H (fun v H'=>∃ b,v = .bool b ∧ if b then EvOK P C d (.BoolOp .And (y :: rest) pos) loc H' Q X else Q (.bool false) H') X) :
    EvOK P C d (.BoolOp .And (x :: y :: rest) pos) loc H Q X := fun A E env ι s w e a=>by
  refine PyProof.Rows.BoolOp_and (gv (h A E env ι s w e a) (fun v s₁ ι₁ H₁ x p₁ r₁ g=>?_))
  refine x1_2 (g) fun b eQ1 nQ=>?_
  clear g
  revert nQ
  intro g
  subst eQ1
  cases r₁
  refine wpAny_truthy_bool ?_
  cases b with
  | false=>exact ⟨ι₁,H₁,.bool false,p₁,rfl,g⟩
  | true=>exact wpAny_mono (g A E env ι₁ s₁ (w.step p₁) (e.step w.hr p₁) (a.step p₁)) (fun _ _ g=>g.before p₁) fun _ _ x=>x
theorem ev_or {x y : Expr} {rest : List Expr} {pos : Pos} {Q : AV → Hp → Prop} (h : EvOK P C d x loc H (fun v H'=>∃ b,v = .bool b ∧ if b then Q (.bool true) H' else EvOK P C d (.BoolOp .Or (y :: rest) pos) loc H' Q X) X) :
    EvOK P C d (.BoolOp .Or (x :: y :: rest) pos) loc H Q X := fun A E env ι s w e a=>by
  refine PyProof.Rows.BoolOp_or (gv (h A E env ι s w e a) (fun v s₁ ι₁ H₁ x p₁ r₁ g=>?_))
  refine x1_2 (g) fun b eQ1 nQ=>?_
  clear g
  revert nQ
  intro g
  subst eQ1
  cases r₁
  refine wpAny_truthy_bool ?_
  cases b with
  | true=>exact ⟨ι₁,H₁,.bool true,p₁,rfl,g⟩
  | false=>exact wpAny_mono (g A E env ι₁ s₁ (w.step p₁) (e.step w.hr p₁) (a.step p₁)) (fun _ _ g=>g.before p₁) fun _ _ x=>x
theorem evs_nil {Q : List AV → Hp → Prop} (h : Q [] H) : EvsOK P C d [] loc H Q X := fun _ _ _ ι _ _ w _ _=>wpAny_items_nil ⟨ι,H,[],Post.id w.hr,rfl,h⟩
theorem evs_cons {x : Expr} {rest : List Expr} {Q : List AV → Hp → Prop} (h : EvOK P C d x loc H (fun v H'=>EvsOK P C d rest loc H' (fun vs H''=>Q (v :: vs) H'') X) X)
    (he : ∀ env,starEach (x :: rest) env = (false,eval x env) :: starEach rest env) :
    EvsOK P C d (x :: rest) loc H Q X := fun A E env ι s pos w e a=>by
  refine wpAny_items_cons (gv (h A E env ι s w e a) (fun v s₁ ι₁ H₁ x p₁ r₁ g=>?_)) (he env)
  refine gll (g A E env ι₁ s₁ pos (w.step p₁) (e.step w.hr p₁) (a.step p₁)) (fun vs s₂ ι₂ H₂ l p₂ r₂ g=>?_)
  exact ⟨ι₂,H₂,x :: l,p₁.trans p₂,⟨_,_,rfl,p₂.vr p₁.hr r₁,r₂⟩,g⟩
end Mine
namespace Mine
open PySem
theorem kept_nil_of {h h' : Heap} (k : ∀ a o,h.get? a = some o → h'.get? a = some o) : Kept [] h h' := Kept.of_keeps fun a o _ e=>k a o e
theorem noTup_nil {h : Heap} : NoTup [] h := fun _ q=>nomatch q
theorem HR.there {B : Heap} {ι : List Addr} {H : Hp} {h : Heap} (q : HR B ι H h) {i : Nat} {a : Addr} (e : ι[i]? = some a) : ∃ o,H[i]? = some o ∧ OR B h ι a o := by
  have hl : i < H.length := q.len ▸ (List.getElem?_eq_some_iff.mp e).1
  refine ⟨H[i],List.getElem?_eq_getElem hl,?_⟩
  refine x1_2 (q.objs i H[i] (List.getElem?_eq_getElem hl)) fun b eb o=>?_
  rw [e] at eb; cases eb; exact o
theorem OR.some {B h : Heap} {ι : List Addr} {a : Addr} {o : AObj} (q : OR B h ι a o) : ∃ x,h.get? a = some x := by
  cases o with
  | list l=>obtain ⟨_,⟨_,e⟩,_⟩ := q; exact ⟨_,e⟩
  | dict l=>obtain ⟨_,_,_,_,e,_⟩ := q; exact ⟨_,e⟩
theorem HR.mem {B : Heap} {ι : List Addr} {H : Hp} {h : Heap} (q : HR B ι H h) {a : Addr} (m : a ∈ ι) : ∃ x,h.get? a = some x := by
  refine x1_1 (List.getElem_of_mem m) fun i qQ1=>?_
  obtain ⟨hi,rfl⟩ := qQ1
  refine x1_2 (q.there (List.getElem?_eq_getElem hi)) fun o _ r=>?_
  exact r.some
theorem absent {h : Heap} {a : Addr} {o : Obj} {G : Prop} (e : h.get? a = none) (e' : h.get? a = some o) : G := by rw [e] at e'; cases e'
theorem HR.noB {B : Heap} {ι : List Addr} {H : Hp} {h : Heap} (q : HR B ι H h) {b : Addr} (e : h.get? b = none) : B.get? b = none := by
  cases z : B.get? b with
  | none=>rfl
  | some o=>exact absent e (q.base b o z)
theorem HR.off {B : Heap} {ι T : List Addr} {H : Hp} {h h' : Heap} (q : HR B ι H h) (ext : ∀ b o,b ∉ T → h.get? b = some o → h'.get? b = some o) (nt : NoTup T h) (ho : ∀ a ∈ T,a ∉ ι) (hb : ∀ a ∈ T,B.get? a = none) : HR B ι H h' :=
  ⟨fun b o eb=>ext b o (fun m=>absent (hb b m) eb) (q.base b o eb),q.fresh,q.nodup,q.len,fun j o ej=>x1_2 (q.objs j o ej) fun a ea r =>
    ⟨a,ea,r.mono (Kept.of_keeps ext) nt (List.prefix_refl _) fun o=>ext a o fun m=>ho a m (List.mem_of_getElem? ea)⟩⟩
theorem HR.keep {B : Heap} {ι : List Addr} {H : Hp} {h h' : Heap} (q : HR B ι H h) (k : ∀ a o,h.get? a = some o → h'.get? a = some o) : HR B ι H h' :=
  ⟨fun a o e=>k a o (q.base a o e),q.fresh,q.nodup,q.len,fun i o e=>by
    refine x1_2 (q.objs i o e) fun a ea r=>?_
    exact ⟨a,ea,r.mono (kept_nil_of k) noTup_nil (List.prefix_refl _) (k a)⟩⟩
theorem Post.keep {B : Heap} {ι : List Addr} {H : Hp} {s : Shared} {h' : Heap} {t : Nat} (q : HR B ι H s.heap) (k : ∀ a o,s.heap.get? a = some o → h'.get? a = some o) : Post B ι s ι H { s with heap := h',toks := t } :=
  ⟨List.prefix_refl _,q.keep k,Kept.of_keeps fun a o _ e=>k a o e,fun _ h=>.inl h,h',t,rfl⟩
theorem HR.alloc {B : Heap} {ι : List Addr} {H : Hp} {h h' : Heap} (q : HR B ι H h) (k : ∀ a o,h.get? a = some o → h'.get? a = some o) {a : Addr} (ha : h.get? a = none) {o : AObj} (ho : OR B h' (ι ++ [a]) a o) :
    HR B (ι ++ [a]) (H ++ [o]) h' := by
  refine ⟨fun b x e=>k b x (q.base b x e),fun b hb=>?_,?_,by simp [q.len],fun i x e=>?_⟩
  · rcases List.mem_append.mp hb with m | m
    · exact q.fresh b m
    · have := List.mem_singleton.mp m; subst this
      cases z : B.get? b with
      | none=>rfl
      | some x=>have := q.base b x z; rw [ha] at this; cases this
  · refine List.nodup_append.mpr ⟨q.nodup,by simp,fun x hx y hy e=>?_⟩
    have := List.mem_singleton.mp hy; subst this; subst e
    refine x1_1 (q.mem hx) fun z hz=>?_
    rw [ha] at hz; cases hz
  · by_cases hi : i < H.length
    · rw [List.getElem?_append_left hi] at e
      refine x1_2 (q.objs i x e) fun b eb r=>?_
      exact ⟨b,pre_get (List.prefix_append _ _) eb,r.mono (kept_nil_of k) noTup_nil (List.prefix_append _ _) (k b)⟩
    · rw [List.getElem?_append_right (Nat.not_lt.mp hi)] at e
      have h0 : i - H.length = 0 := by
        cases z : i - H.length with
        | zero=>rfl
        | succ n=>rw [z] at e; simp at e
      rw [h0] at e
      simp only [List.getElem?_cons_zero,Option.some.injEq] at e
      subst e
      refine ⟨a,?_,ho⟩
      have : i = ι.length := by rw [q.len]; exact z101 hi h0
      subst this
      simp
theorem Post.alloc {B : Heap} {ι : List Addr} {H : Hp} {s : Shared} {h' : Heap} {t : Nat} (q : HR B ι H s.heap) (k : ∀ a o,s.heap.get? a = some o → h'.get? a = some o) {a : Addr} (ha : s.heap.get? a = none) {o : AObj} (ho : OR B h' (ι ++ [a]) a o) :
    Post B ι s (ι ++ [a]) (H ++ [o]) { s with heap := h',toks := t } :=
  ⟨List.prefix_append _ _,q.alloc k ha ho,Kept.of_keeps fun a o _ e=>k a o e,fun _ hb=>(List.mem_append.mp hb).elim .inl fun m=>.inr (List.mem_singleton.mp m ▸ ha),h',t,rfl⟩
theorem nodup_inj {l : List Addr} (n : l.Nodup) : ∀ {i j : Nat} (hi : i < l.length) (hj : j < l.length),l[i] = l[j] → i = j := by
  intro i j hi hj e
  have key : ∀ {i j : Nat} (hi : i < l.length) (hj : j < l.length),i < j → l[i] ≠ l[j] := fun hi hj lt=>(List.pairwise_iff_getElem.mp n) _ _ hi hj lt
  rcases Nat.lt_trichotomy i j with h | h | h
  · exact absurd e (key hi hj h)
  · exact h
  · exact absurd e.symm (key hj hi h)
theorem HR.upd {B : Heap} {ι : List Addr} {H : Hp} {h h' : Heap} (q : HR B ι H h) {i : Nat} {a : Addr} (ea : ι[i]? = some a) (k : ∀ b x,b ≠ a → h.get? b = some x → h'.get? b = some x) {o : AObj} (ho : OR B h' ι a o) :
    HR B ι (H.set i o) h' := by
  have kp : Kept [a] h h' := Kept.of_keeps fun b x hb e=>k b x (fun z=>hb (z ▸ List.mem_singleton.mpr rfl)) e
  have ma : a ∈ ι := List.mem_of_getElem? ea
  have nt : NoTup [a] h := fun b hb=>by rw [List.mem_singleton.mp hb]; exact q.noTup a ma
  refine ⟨fun b x e=>k b x (fun z=>?_) (q.base b x e),q.fresh,q.nodup,by rw [List.length_set]; exact q.len,fun j x e=>?_⟩
  · have := q.fresh a ma; rw [← z,e] at this; cases this
  · rw [List.getElem?_set] at e
    split at e
    · rename_i hij
      subst hij
      split at e
      · simp only [Option.some.injEq] at e; subst e
        exact ⟨a,ea,ho⟩
      · cases e
    · rename_i hij
      refine x1_2 (q.objs j x e) fun b eb r=>?_
      refine ⟨b,eb,r.mono kp nt (List.prefix_refl _) fun y=>k b y fun hb=>?_⟩
      subst hb
      refine x1_1 (List.getElem?_eq_some_iff.mp ea) fun h1 e1=>?_
      refine x1_1 (List.getElem?_eq_some_iff.mp eb) fun h2 e2=>?_
      exact hij (nodup_inj q.nodup h1 h2 (e1.trans e2.symm))
theorem Post.upd {B : Heap} {ι : List Addr} {H : Hp} {s : Shared} {h' : Heap} {t : Nat} (q : HR B ι H s.heap) {i : Nat} {a : Addr} (ea : ι[i]? = some a) (k : ∀ b x,b ≠ a → s.heap.get? b = some x → h'.get? b = some x) {o : AObj} (ho : OR B h' ι a o) :
    Post B ι s ι (H.set i o) { s with heap := h',toks := t } :=
  ⟨List.prefix_refl _,q.upd ea k ho,Kept.of_keeps fun b x hb e=>k b x (fun z=>hb (z ▸ List.mem_of_getElem? ea)) e,fun _ h=>.inl h,h',t,rfl⟩
theorem HR.vrs_upd {B : Heap} {ι : List Addr} {H : Hp} {h h' : Heap} (q : HR B ι H h) {a : Addr} (ma : a ∈ ι) (k : ∀ b x,b ≠ a → h.get? b = some x → h'.get? b = some x) {l : List AV} {vs : List Value} (r : VRs B h ι l vs) : VRs B h' ι l vs :=
  VRs.mono (S := [a]) (Kept.of_keeps fun b x hb e=>k b x (fun z=>hb (z ▸ List.mem_singleton.mpr rfl)) e) (fun b hb=>by rw [List.mem_singleton.mp hb]; exact q.noTup a ma) (List.prefix_refl _) l vs r
theorem HR.vr_upd {B : Heap} {ι : List Addr} {H : Hp} {h h' : Heap} (q : HR B ι H h) {a : Addr} (ma : a ∈ ι) (k : ∀ b x,b ≠ a → h.get? b = some x → h'.get? b = some x) {l : AV} {vs : Value} (r : VR B h ι l vs) : VR B h' ι l vs :=
  VR.mono (S := [a]) (Kept.of_keeps fun b x hb e=>k b x (fun z=>hb (z ▸ List.mem_singleton.mpr rfl)) e) (fun b hb=>by rw [List.mem_singleton.mp hb]; exact q.noTup a ma) (List.prefix_refl _) l vs r
theorem VRs.length {B h : Heap} {ι : List Addr} : ∀ {l : List AV} {vs : List Value},VRs B h ι l vs → vs.length = l.length
  | [],_,q=>by rw [show _ = [] from q]; rfl
  | _ :: l,_,q=>by
    refine x2_3 (q) fun v r eQ2 _ b=>?_
    clear q
    subst eQ2
    rw [List.length_cons,List.length_cons,VRs.length b]
theorem VRs.get {B h : Heap} {ι : List Addr} : ∀ {l : List AV} {vs : List Value},VRs B h ι l vs → ∀ {i : Nat} {x : AV},l[i]? = some x → ∃ v,vs[i]? = some v ∧ VR B h ι x v
  | [],_,_,_,_,e=>by simp at e
  | _ :: l,_,q,i,x,e=>by
    refine x2_3 (q) fun v r eQ2 a b=>?_
    clear q
    subst eQ2
    cases i with
    | zero=>simp only [List.getElem?_cons_zero,Option.some.injEq] at e; subst e; exact ⟨v,rfl,a⟩
    | succ i=>simp only [List.getElem?_cons_succ] at e ⊢; exact VRs.get b e
theorem VRs.append {B h : Heap} {ι : List Addr} : ∀ {l m : List AV} {vs ws : List Value},VRs B h ι l vs → VRs B h ι m ws → VRs B h ι (l ++ m) (vs ++ ws)
  | [],_,_,_,q,r=>by rw [show _ = [] from q]; exact r
  | _ :: l,_,_,_,q,r=>by
    refine x2_3 (q) fun v t eQ2 a b=>?_
    clear q
    subst eQ2
    exact ⟨v,t ++ _,rfl,a,VRs.append b r⟩
theorem VRs.take {B h : Heap} {ι : List Addr} : ∀ {l : List AV} {vs : List Value} (n : Nat),VRs B h ι l vs → VRs B h ι (l.take n) (vs.take n)
  | [],_,_,q=>by rw [show _ = [] from q]; simp [VRs]
  | _ :: l,_,0,q=>by simp [VRs]
  | _ :: l,_,n + 1,q=>by
    refine x2_3 (q) fun v t eQ2 a b=>?_
    clear q
    subst eQ2
    exact ⟨v,t.take n,rfl,a,VRs.take n b⟩
theorem VRs.drop {B h : Heap} {ι : List Addr} : ∀ {l : List AV} {vs : List Value} (n : Nat),VRs B h ι l vs → VRs B h ι (l.drop n) (vs.drop n)
  | [],_,_,q=>by rw [show _ = [] from q]; simp [VRs]
  | _ :: l,_,0,q=>q
  | _ :: l,_,n + 1,q=>by
    refine x2_3 (q) fun v t eQ2 a b=>?_
    clear q
    subst eQ2
    exact VRs.drop n b
theorem VRs.reverse {B h : Heap} {ι : List Addr} : ∀ {l : List AV} {vs : List Value},VRs B h ι l vs → VRs B h ι l.reverse vs.reverse
  | [],_,q=>by rw [show _ = [] from q]; simp [VRs]
  | _ :: l,_,q=>by
    refine x2_3 (q) fun v t eQ2 a b=>?_
    clear q
    subst eQ2
    rw [List.reverse_cons,List.reverse_cons]
    exact VRs.append (VRs.reverse b) ⟨v,[],rfl,a,rfl⟩
theorem VRs.set {B h : Heap} {ι : List Addr} : ∀ {l : List AV} {vs : List Value} {n : Nat} {x : AV} {v : Value},VRs B h ι l vs → VR B h ι x v → VRs B h ι (l.set n x) (vs.set n v)
  | [],_,_,_,_,q,_=>by rw [show _ = [] from q]; simp [VRs]
  | _ :: l,_,0,_,_,q,r=>by
    refine x2_3 (q) fun v t eQ2 a b=>?_
    clear q
    subst eQ2
    exact ⟨_,t,rfl,r,b⟩
  | _ :: l,_,n + 1,_,_,q,r=>by
    refine x2_3 (q) fun v t eQ2 a b=>?_
    clear q
    subst eQ2
    exact ⟨v,_,rfl,a,VRs.set b r⟩
variable {P : PEnv} {C : Ctx} {d : Nat} {loc : Loc} {H : Hp} {X : XP}
theorem get_size (h : Heap) : h.get? h.objs.size = none := by
  cases e : h.get? h.objs.size with
  | none=>rfl
  | some o=>exact absurd (Heap.lt_size e) (Nat.lt_irrefl _)
theorem gives_newTuple {ι : List Addr} {s : Shared} {l : List AV} {vs : List Value} {Q : AV → Hp → Prop} (hr : HR P.B ι H s.heap) (r : VRs P.B s.heap ι l vs) (q : Q (.tup l) H) :
    Gives P.B ι s Q (.ref s.heap.objs.size) { s with heap := s.heap.push { cls := .type "tuple",data := .seq vs.toArray } } := by
  have k : ∀ a o,s.heap.get? a = some o → (s.heap.push { cls := .type "tuple",data := .seq vs.toArray }).get? a = some o := fun a o e=>Heap.get?_push_of_some _ e
  refine ⟨ι,H,.tup l,Post.keep (t := s.toks) hr k,?_,q⟩
  unfold VR
  exact ⟨_,vs,rfl,PTup.new _ _,VRs.mono (kept_nil_of k) noTup_nil (List.prefix_refl _) l vs r⟩
theorem gives_newList {ι : List Addr} {s : Shared} {l : List AV} {vs : List Value} {Q : AV → Hp → Prop} (hr : HR P.B ι H s.heap) (r : VRs P.B s.heap ι l vs) (q : Q (.ref H.length) (H ++ [.list l])) :
    Gives P.B ι s Q (.ref s.heap.objs.size) { s with heap := s.heap.push { cls := .type "list",data := .seq vs.toArray } } := by
  have k : ∀ a o,s.heap.get? a = some o → (s.heap.push { cls := .type "list",data := .seq vs.toArray }).get? a = some o := fun a o e=>Heap.get?_push_of_some _ e
  refine ⟨ι ++ [s.heap.objs.size],H ++ [.list l],.ref H.length,Post.alloc (o := .list l) (t := s.toks) hr k (get_size _) ⟨vs,⟨0,Heap.get?_push_size _ rfl⟩,VRs.mono (kept_nil_of k) noTup_nil (List.prefix_append _ _) l vs r⟩,?_,q⟩
  exact ⟨_,rfl,by rw [← hr.len]; simp⟩
theorem ev_tup {es : List Expr} {k : Nat} {pos : Pos} {Q : AV → Hp → Prop} (h : EvsOK P C d es loc H (fun l H'=>l.length ≤ sizeLine ∧ Q (.tup l) H') X) : EvOK P C d (.Tuple es k pos) loc H Q X := fun A E env ι s w e a=>by
  refine wpAny_Tuple (gll (h A E env ι s pos w e a) (fun vs s₁ ι₁ H₁ l p₁ r₁ g=>?_))
  refine x0_2 (g) fun hl g=>?_
  exact ⟨by rw [r₁.length]; exact hl,(gives_newTuple p₁.hr r₁ g).before p₁⟩
theorem ev_lst {es : List Expr} {pos : Pos} {Q : AV → Hp → Prop} (h : EvsOK P C d es loc H (fun l H'=>l.length ≤ sizeLine ∧ Q (.ref H'.length) (H' ++ [.list l])) X) : EvOK P C d (.List es pos) loc H Q X := fun A E env ι s w e a=>by
  refine wpAny_List (gll (h A E env ι s pos w e a) (fun vs s₁ ι₁ H₁ l p₁ r₁ g=>?_))
  refine x0_2 (g) fun hl g=>?_
  exact ⟨by rw [r₁.length]; exact hl,(gives_newList p₁.hr r₁ g).before p₁⟩
theorem ev_sub {o i : Expr} {pos : Pos} {Q : AV → Hp → Prop}
    (h : EvOK P C d o loc H (fun x H₁=>EvOK P C d i loc H₁ (fun y H₂=>OpOK P d (fun vs=>PyProof.Rows.subscriptTail o i (vs.getD 0 .none) (vs.getD 1 .none)) [x,y] H₂ Q) X) X) :
    EvOK P C d (.Subscript o i pos) loc H Q X := fun A E env ι s w e a=>by
  refine PyProof.Rows.Subscript_ (gv (h A E env ι s w e a) (fun u s₁ ι₁ H₁ x p₁ r₁ g=>?_))
  refine gv (g A E env ι₁ s₁ (w.step p₁) (e.step w.hr p₁) (a.step p₁)) (fun u' s₂ ι₂ H₂ y p₂ r₂ g=>?_)
  exact wpAny_mono (g A E ι₂ s₂ [u,u'] ((w.step p₁).step p₂) ⟨_,_,rfl,p₂.vr p₁.hr r₁,_,_,rfl,r₂,rfl⟩) (fun _ _ g=>(g.before p₂).before p₁) fun _ _ x=>x
end Mine
namespace Mine
open PySem
inductive MFlow where
  | next | brk | cont
  | ret (v : AV)
  | exc (c : Str)
noncomputable def FR (B h : Heap) (ι : List Addr) : MFlow → Flow → Prop
  | .next,f=>f = .next
  | .brk,f=>f = .brk
  | .cont,f=>f = .cont
  | .ret d,f=>∃ v,f = .ret v ∧ VR B h ι d v
  | .exc _,_=>False
noncomputable def own (C : Ctx) (env : Env) : List Addr := env.locals :: (C.vars.drop C.ro).filterMap fun o=>o.bind fun x=>env.cells.lookup x
theorem mem_own {C : Ctx} {env : Env} {a : Addr} (h : a ∈ own C env) : a = env.locals ∨ ∃ x,some x ∈ C.vars ∧ env.cells.lookup x = some a := by
  rcases List.mem_cons.mp h with e | m
  · exact .inl e
  · refine x1_2 (List.mem_filterMap.mp m) fun o ho e=>?_
    cases o with
    | none=>cases e
    | some x=>exact .inr ⟨x,List.mem_of_mem_drop ho,e⟩
theorem own_cell {C : Ctx} {env : Env} {i : Nat} {x : Str} {c : Addr} (hi : C.ro ≤ i) (hx : C.vars[i]? = some (some x)) (hc : env.cells.lookup x = some c) : c ∈ own C env :=
  List.mem_cons_of_mem _ (List.mem_filterMap.mpr ⟨some x,List.mem_of_getElem? (i := i - C.ro) (by rw [List.getElem?_drop,Nat.add_sub_cancel' hi]; exact hx),hc⟩)
structure PostS (B : Heap) (S ι : List Addr) (s : Shared) (ι' : List Addr) (H' : Hp) (s' : Shared) : Prop where
  pre : ι <+: ι'
  hr : HR B ι' H' s'.heap
  kept : Kept (S ++ ι) s.heap s'.heap
  new : ∀ a ∈ ι',a ∈ ι ∨ s.heap.get? a = Option.none
  same : ∃ h t,s' = { s with heap := h,toks := t }
theorem Post.toS {B : Heap} {S ι ι' : List Addr} {s s' : Shared} {H' : Hp} (p : Post B ι s ι' H' s') : PostS B S ι s ι' H' s' :=
  ⟨p.pre,p.hr,p.kept.mono fun _ h=>List.mem_append.mpr (.inr h),p.new,p.same⟩
theorem PostS.trans {B : Heap} {S ι ι₁ ι₂ : List Addr} {s s₁ s₂ : Shared} {H₁ H₂ : Hp} (x : PostS B S ι s ι₁ H₁ s₁) (y : PostS B S ι₁ s₁ ι₂ H₂ s₂) (hS : ∀ a ∈ S,a ∉ ι₂) : PostS B S ι s ι₂ H₂ s₂ := by
  have out : ∀ a o,s.heap.get? a = some o → a ∉ S ++ ι → a ∉ S ++ ι₁ := fun a o e hn q=>(List.mem_append.mp q).elim (fun m=>hn (List.mem_append.mpr (.inl m))) fun m =>
    (x.new a m).elim (fun z=>hn (List.mem_append.mpr (.inr z))) fun z=>by rw [e] at z; cases z
  refine ⟨x.pre.trans y.pre,y.hr,fun a o e hn=>?_,fun a ha=>?_,?_⟩
  · refine x1_2 (x.kept a o e hn) fun sl e1 q1=>?_
    refine x1_2 (y.kept a _ e1 (out a o e hn)) fun sl' e2 q2=>?_
    exact ⟨sl',e2,fun c=>(q2 c).trans (q1 c)⟩
  · by_cases hi : a ∈ ι
    · exact .inl hi
    · right
      rcases y.new a ha with q | q
      · exact (x.new a q).resolve_left hi
      · cases e : s.heap.get? a with
        | none=>rfl
        | some o =>
          refine x1_2 (x.kept a o e fun m=>(List.mem_append.mp m).elim (fun z=>hS a z ha) hi) fun sl e1 _=>?_
          rw [e1] at q; cases q
  · refine x2_1 (x.same) fun h t eQ2=>?_
    subst eQ2
    refine x2_1 (y.same) fun h' t' eQ2=>?_
    subst eQ2
    exact ⟨h',t',rfl⟩
theorem EnvR.offOwn {B : Heap} {C : Ctx} {env : Env} {ι : List Addr} {h : Heap} {loc : Loc} (x : EnvR B C env ι h loc) : ∀ a ∈ own C env,a ∉ ι := fun a ha=>by
  rcases mem_own ha with rfl | ⟨y,hm,e⟩
  · exact x.offL
  · exact (x.offC y a hm e).1
theorem EnvR.isOwn {B : Heap} {C : Ctx} {env : Env} {ι : List Addr} {h : Heap} {loc : Loc} (x : EnvR B C env ι h loc) : ∀ a ∈ own C env,∃ o,h.get? a = some o ∧ (∀ vs,o.data ≠ .fields vs) ∧ ∀ vs n,o.data ≠ .seq vs n := fun a ha=>by
  rcases mem_own ha with rfl | ⟨y,hm,e⟩
  · refine x4_3 (x.ns) fun m o es ep e d _=>?_
    exact ⟨o,e,fun vs=>by rw [d]; simp,fun vs n=>by rw [d]; simp⟩
  · refine x2_2 (x.isC y a hm e) fun ov o e d=>?_
    exact ⟨o,e,fun vs=>by rw [d]; simp,fun vs n=>by rw [d]; simp⟩
theorem EnvR.noTup {B : Heap} {C : Ctx} {env : Env} {ι : List Addr} {h : Heap} {loc : Loc} {H : Hp} (x : EnvR B C env ι h loc) (q : HR B ι H h) : NoTup (own C env ++ ι) h := fun a ha vs t=>by
  rcases List.mem_append.mp ha with m | m
  · refine x1_3 (x.isOwn a m) fun o e _ d=>?_
    refine x1_3 (t) fun o' e' _ qQ3=>?_
    clear t
    refine x1_1 (qQ3) fun n d'=>?_
    clear qQ3
    rw [e] at e'; cases e'
    exact d _ _ d'
  · exact q.noTup a m vs t
theorem EnvR.newOwn {B : Heap} {C : Ctx} {env : Env} {ι : List Addr} {h : Heap} {loc : Loc} (x : EnvR B C env ι h loc) : ∀ a ∈ own C env,B.get? a = none := fun a ha=>by
  rcases mem_own ha with rfl | ⟨y,hm,e⟩
  · exact x.newL
  · exact (x.offC y a hm e).2.2
theorem W.stepS {B : Heap} {A : Around} {d : Nat} {C : Ctx} {env : Env} {ι ι' : List Addr} {H H' : Hp} {s s' : Shared} {loc loc' : Loc} (x : W B A d ι H s) (e0 : EnvR B C env ι s.heap loc) (p : PostS B (own C env) ι s ι' H' s') (e : EnvR B C env ι' s'.heap loc') : W B A d ι' H' s' := by
  refine ⟨x.room,?_,p.hr⟩
  refine x1_2 (x.fr) fun fl ef q=>?_
  refine ⟨fl,ef,fun en he=>?_⟩
  refine x0_2 (q en he) fun k qQ1=>?_
  obtain ⟨L,o,h1,h2,h3,h4,h5⟩ := qQ1
  have h6 : L ∉ ι' := fun z=>(p.new L z).elim h5 fun w=>by rw [h3] at w; cases w
  by_cases hL : L ∈ own C env
  · rcases mem_own hL with rfl | ⟨y,hm,ec⟩
    · refine x4_3 (e.ns) fun m o' es ep e' d' _=>?_
      exact ⟨k,_,o',h1,h2,e',⟨es,ep,d'⟩,h6⟩
    · refine x2_2 (e0.isC y L hm ec) fun ov o2 e2 d2=>?_
      refine x2_1 (h4) fun es n d3=>?_
      clear h4
      rw [h3] at e2; cases e2; rw [d2] at d3; cases d3
  · refine x1_3 (p.kept.data h3 fun m=>(List.mem_append.mp m).elim hL h5) fun o' e' d' _=>?_
    exact ⟨k,L,o',h1,h2,e',d' ▸ h4,h6⟩
theorem PostS.vr {B : Heap} {C : Ctx} {env : Env} {ι ι' : List Addr} {s s' : Shared} {H H' : Hp} {loc : Loc} (x : PostS B (own C env) ι s ι' H' s') (q : HR B ι H s.heap) (e : EnvR B C env ι s.heap loc) {d : AV} {v : Value} (r : VR B s.heap ι d v) : VR B s'.heap ι' d v :=
  VR.mono x.kept (e.noTup q) x.pre d v r
noncomputable def XF : XP := fun _ _=>False
theorem Acc.no {P : PEnv} {A : Around} {ι : List Addr} {s : Shared} {E : Value → Shared → Prop} : Acc P A XF ι s E := fun _ _ _ _ _ _ _ _ h=>h.elim
inductive GivesS (B : Heap) (C : Ctx) (env : Env) (ι : List Addr) (s : Shared) (Q : MFlow → Loc → Hp → Prop) (f : Flow) (s' : Shared) : Prop where
  | mk (ι' : List Addr) (H' : Hp) (loc' : Loc) (fl : MFlow) (p : PostS B (own C env) ι s ι' H' s') (e : EnvR B C env ι' s'.heap loc') (r : FR B s'.heap ι' fl f) (q : Q fl loc' H')
theorem gs {M : Model} {A : Around} {t : Sem Flow} {E : Value → Shared → Prop} {B : Heap} {C : Ctx} {env : Env} {ι : List Addr} {s s₀ : Shared} {Q : MFlow → Loc → Hp → Prop} {R : Flow → Shared → Prop} (h : wpAny M A t (GivesS B C env ι s Q) E s₀)
    (k : ∀ f s₁ ι₁ H₁ loc₁ fl,PostS B (own C env) ι s ι₁ H₁ s₁ → EnvR B C env ι₁ s₁.heap loc₁ → FR B s₁.heap ι₁ fl f → Q fl loc₁ H₁ → R f s₁) : wpAny M A t R E s₀ :=
  wpAny_mono h (fun v s₁ g=>by cases g with | mk ι₁ H₁ l fl p e r q=>exact k v s₁ ι₁ H₁ l fl p e r q) fun _ _ x=>x
theorem GivesS.before {B : Heap} {C : Ctx} {env : Env} {ι ι₁ : List Addr} {s s₁ : Shared} {H₁ : Hp} {Q : MFlow → Loc → Hp → Prop} {f : Flow} {s' : Shared} (p : PostS B (own C env) ι s ι₁ H₁ s₁) (g : GivesS B C env ι₁ s₁ Q f s') : GivesS B C env ι s Q f s' := by
  obtain ⟨ι',H',loc',fl,p',e,r,q⟩ := g
  exact ⟨ι',H',loc',fl,p.trans p' e.offOwn,e,r,q⟩
section
variable (P : PEnv) (C : Ctx) (d : Nat)
noncomputable def ExOK (st : Stmt) (loc : Loc) (H : Hp) (Q : MFlow → Loc → Hp → Prop) : Prop :=
  ∀ A E env ι s,W P.B A d ι H s → EnvR P.B C env ι s.heap loc → wpAny (model P.prog P.w) A (exec st env) (GivesS P.B C env ι s Q) E s
noncomputable def ExsOK (sts : List Stmt) (loc : Loc) (H : Hp) (Q : MFlow → Loc → Hp → Prop) : Prop :=
  ∀ A E env ι s,W P.B A d ι H s → EnvR P.B C env ι s.heap loc → wpAny (model P.prog P.w) A (execs sts env) (GivesS P.B C env ι s Q) E s
end
variable {P : PEnv} {C : Ctx} {d : Nat} {loc : Loc} {H : Hp}
theorem exs_nil {Q : MFlow → Loc → Hp → Prop} (h : Q .next loc H) : ExsOK P C d [] loc H Q := fun _ _ _ ι _ w e=>wpAny_execs_nil ⟨ι,H,loc,.next,(Post.id w.hr).toS,e,rfl,h⟩
theorem exs_cons {st : Stmt} {rest : List Stmt} {Q : MFlow → Loc → Hp → Prop}
    (h : ExOK P C d st loc H (fun fl loc' H'=>match fl with | .next=>ExsOK P C d rest loc' H' Q | fl=>Q fl loc' H')) : ExsOK P C d (st :: rest) loc H Q := fun A E env ι s w e=>by
  refine wpAny_execs_cons (gs (h A E env ι s w e) (fun f s₁ ι₁ H₁ loc₁ fl p₁ e₁ r₁ g=>?_))
  cases fl with
  | next =>
    cases r₁
    exact wpAny_mono (g A E env ι₁ s₁ (w.stepS e p₁ e₁) e₁) (fun _ _ g=>g.before p₁) fun _ _ x=>x
  | brk=>cases r₁; exact ⟨ι₁,H₁,loc₁,.brk,p₁,e₁,rfl,g⟩
  | cont=>cases r₁; exact ⟨ι₁,H₁,loc₁,.cont,p₁,e₁,rfl,g⟩
  | exc c=>exact r₁.elim
  | ret v=>obtain ⟨u,rfl,r⟩ := r₁; exact ⟨ι₁,H₁,loc₁,.ret v,p₁,e₁,⟨u,rfl,r⟩,g⟩
theorem ex_ret {x : Expr} {pos : Pos} {Q : MFlow → Loc → Hp → Prop} (h : EvOK P C d x loc H (fun v H'=>Q (.ret v) loc H') XF) : ExOK P C d (.Return (some x) pos) loc H Q := fun A E env ι s w e=>by
  rw [exec_Return_some]
  refine wpAny_bind (wpAny_standAt (wpAny_bind (gv (h A E env ι s w e Acc.no) (fun v s₁ ι₁ H₁ x p₁ r₁ g=>?_))))
  exact wpAny_pure ⟨ι₁,H₁,loc,.ret x,p₁.toS,e.step w.hr p₁,⟨v,rfl,r₁⟩,g⟩
theorem ex_if {t : Expr} {a b : List Stmt} {pos : Pos} {Q : MFlow → Loc → Hp → Prop} (h : TsOK P C d t loc H (fun c H'=>if c then ExsOK P C d a loc H' Q else ExsOK P C d b loc H' Q) XF) : ExOK P C d (.If t a b pos) loc H Q := fun A E env ι s w e=>by
  refine wpAny_If (gb (h A E env ι s w e Acc.no) (fun c s₁ ι₁ H₁ p₁ g=>?_))
  cases c with
  | true=>exact wpAny_mono (g A E env ι₁ s₁ (w.step p₁) (e.step w.hr p₁)) (fun _ _ g=>g.before p₁.toS) fun _ _ x=>x
  | false=>exact wpAny_mono (g A E env ι₁ s₁ (w.step p₁) (e.step w.hr p₁)) (fun _ _ g=>g.before p₁.toS) fun _ _ x=>x
theorem ex_expr {x : Expr} {pos : Pos} {Q : MFlow → Loc → Hp → Prop} (h : EvOK P C d x loc H (fun _ H'=>Q .next loc H') XF) (hi : ∀ env,swapsWith x none pos.line env = pure false) : ExOK P C d (.Expr x pos) loc H Q := fun A E env ι s w e=>by
  refine wpAny_Expr_any (wpAny_mono (h A E env ι s w e Acc.no) (fun v s₁ g=>?_) fun _ _ x=>x) ?_ (hi env)
  · obtain ⟨ι₁,H₁,x,p₁,r₁,g⟩ := g
    exact ⟨ι₁,H₁,loc,.next,p₁.toS,e.step w.hr p₁,rfl,g⟩
  · unfold interactive; rw [e.kind]; rfl
theorem ns_unique {h : Heap} {a : Addr} {m m' : Str → Option Value} (x : h.Ns a m) (y : h.Ns a m') : m = m' := by
  refine x3_4 (x) fun o es ep e d _ r=>?_
  clear x
  refine x3_4 (y) fun o' es' ep' e' d' _ r'=>?_
  clear y
  rw [e] at e'; cases e'
  rw [d] at d'; cases d'
  funext z; rw [← r,← r']
theorem setloc {i j : Nat} {v : AV} {loc : Loc} (hi : i < loc.length) : (loc.set i (some v))[j]? = if j = i then some (some v) else loc[j]? := by
  rw [List.getElem?_set]
  by_cases h : i = j
  · subst h; simp [hi]
  · have : ¬ j = i := fun e=>h e.symm
    simp [h,this]
theorem one_mem {a : Addr} {Z : Addr → Prop} (z : Z a) : ∀ b ∈ [a],Z b := fun _ hb=>List.mem_singleton.mp hb ▸ z
theorem store_env {env : Env} {ι : List Addr} {h h' : Heap} {i : Nat} {x : Str} {u : Value} {v : AV} (e : EnvR P.B C env ι h loc) (hx : C.vars[i]? = some (some x)) (hu : ∀ j,C.vars[j]? = some (some x) → j = i) (ns : ∃ m,h'.Ns env.locals m)
    (isC : ∀ y c,some y ∈ C.vars → env.cells.lookup y = some c → ∃ ov,h'.IsCell c ov) (me : Has env h' x (some u)) (oth : ∀ y ov,some y ∈ C.vars → y ≠ x → Has env h y ov → Has env h' y ov) (vr : ∀ d w,VR P.B h ι d w → VR P.B h' ι d w) (r : VR P.B h ι v u) : EnvR P.B C env ι h' (loc.set i (some v)) := by
  have hi : i < loc.length := by rw [e.len]; exact (List.getElem?_eq_some_iff.mp hx).1
  refine ⟨e.kind,e.names,e.glob,e.blt,ns,e.offL,e.newL,e.offC,isC,e.apart,by rw [List.length_set]; exact e.len,fun j y hj=>?_⟩
  by_cases hji : j = i
  · subst hji
    have := Option.some.inj (Option.some.inj (hx.symm.trans hj))
    subst this
    refine ⟨some u,me,fun dd hdd=>⟨u,rfl,?_⟩⟩
    rw [setloc hi,if_pos rfl] at hdd
    exact Option.some.inj (Option.some.inj hdd) ▸ vr _ _ r
  · refine x1_2 (e.vars j y hj) fun ov hs hv=>⟨ov,oth y ov (List.mem_of_getElem? hj) (fun z=>hji (hu j (z ▸ hj))) hs,fun dd hdd=>?_⟩
    rw [setloc hi,if_neg hji] at hdd
    exact x1_2 (hv dd hdd) fun v' ev' rv'=>⟨v',ev',vr _ _ rv'⟩
theorem store_ok {A : Around} {E : Value → Shared → Prop} {env : Env} {ι : List Addr} {s : Shared} {i : Nat} {x : Str} {u : Value} {v : AV} {Q : Unit → Shared → Prop} (w : HR P.B ι H s.heap) (e : EnvR P.B C env ι s.heap loc)
    (hlo : C.ro ≤ i) (hx : C.vars[i]? = some (some x)) (hu : ∀ j,C.vars[j]? = some (some x) → j = i) (hk : C.names.lookup x = some .local ∨ C.names.lookup x = some .cell) (r : VR P.B s.heap ι v u)
    (h : ∀ s',PostS P.B (own C env) ι s ι H s' → EnvR P.B C env ι s'.heap (loc.set i (some v)) → Q () s') : wpAny (model P.prog P.w) A (storeName env x u) Q E s := by
  have hko : ∀ y k,C.names.lookup y = k → env.kindOf y = k := fun y k q=>by unfold Env.kindOf; rw [e.names]; exact q
  have fin : ∀ a h',a ∈ own C env → (∀ b o,b ≠ a → s.heap.get? b = some o → h'.get? b = some o) → HR P.B ι H h' ∧ Kept (own C env ++ ι) s.heap h' := fun a h' ha k1 =>
    ⟨w.off (T := [a]) (fun b o hb eb=>k1 b o (fun z=>hb (z ▸ List.mem_singleton.mpr rfl)) eb) (one_mem (Z := fun b=>∀ vs,¬ PyProof.Rows.IsTup s.heap b vs) (e.noTup w a (List.mem_append.mpr (.inl ha)))) (one_mem (Z := fun b=>b ∉ ι) (e.offOwn a ha)) (one_mem (Z := fun b=>P.B.get? b = none) (e.newOwn a ha)),
      Kept.of_keeps fun b o hb eb=>k1 b o (fun z=>hb (z ▸ List.mem_append.mpr (.inl ha))) eb⟩
  rcases hk with hk | hk
  · refine e.ns.elim fun m n=>?_
    refine wpAny_storeName_local (hko _ _ hk) n (fun h' n' sb=>?_) (by rw [e.kind]; rfl)
    have f := fin env.locals h' (List.mem_cons_self ..) sb.extBut
    refine h _ ⟨List.prefix_refl _,f.1,f.2,fun _ q=>.inl q,h',_,rfl⟩ (store_env e hx hu ⟨_,n'⟩ (fun y c hm hc=>(e.isC y c hm hc).elim fun ov q=>⟨ov,q.sameBut sb (e.offC y c hm hc).2.1⟩) (.inl ⟨hko _ _ hk,_,n',by simp⟩) (fun y ov hm hyx hs=>?_) (fun _ _ q=>VR.mono f.2 (e.noTup w) (List.prefix_refl _) _ _ q) r)
    refine hs.imp (fun q=>⟨q.1,x1_2 q.2 fun m' nn em=>⟨_,n',?_⟩⟩) fun q=>⟨q.1,x1_2 q.2 fun c ec rc=>⟨c,ec,rc.sameBut sb (e.offC y c hm ec).2.1⟩⟩
    have := ns_unique n nn
    subst this
    simp [hyx,em]
  · refine x1_2 (e.vars i x hx) fun ov hs hv=>?_
    refine hs.elim (fun q=>?_) fun q=>x1_2 q.2 fun c ec rc=>?_
    · have k := q.1
      rw [hko _ _ hk] at k; cases k
    · have oc := e.offC x c (List.mem_of_getElem? hx) ec
      refine wpAny_storeName_cell e.kind (hko _ _ hk) ec rc fun h' c' sb=>?_
      have f := fin c h' (own_cell hlo hx ec) sb.extBut
      refine h _ ⟨List.prefix_refl _,f.1,f.2,fun _ q=>.inl q,h',_,rfl⟩ (store_env e hx hu (e.ns.elim fun m n=>⟨m,n.sameBut sb (Ne.symm oc.2.1)⟩) (fun y c'' hm hc=>?_) (.inr ⟨.inl (hko _ _ hk),c,ec,c'⟩) (fun y ov hm hyx hs=>?_) (fun _ _ q=>VR.mono f.2 (e.noTup w) (List.prefix_refl _) _ _ q) r)
      · by_cases hcc : c'' = c
        · subst hcc; exact ⟨_,c'⟩
        · exact (e.isC y c'' hm hc).elim fun ov q=>⟨ov,q.sameBut sb hcc⟩
      · exact hs.imp (fun q=>⟨q.1,x1_2 q.2 fun m' nn em=>⟨m',nn.sameBut sb (Ne.symm oc.2.1),em⟩⟩) fun q=>⟨q.1,x1_2 q.2 fun c2 ec2 rc2=>⟨c2,ec2,rc2.sameBut sb fun z=>hyx (e.apart y x c hm (List.mem_of_getElem? hx) (z ▸ ec2) ec)⟩⟩
structure Slot (C : Ctx) (i : Nat) (x : Str) : Prop where
  lo : C.ro ≤ i
  at_ : C.vars[i]? = some (some x)
  uniq : ∀ j,C.vars[j]? = some (some x) → j = i
  kind : C.names.lookup x = some .local ∨ C.names.lookup x = some .cell
theorem ex_assign {i : Nat} {x : Str} {v : Expr} {p' pos : Pos} {Q : MFlow → Loc → Hp → Prop} (sl : Slot C i x) (h : EvOK P C d v loc H (fun a H'=>Q .next (loc.set i (some a)) H') XF)
    (hs : ∀ env,swapsWith v (some (.Name x p')) pos.line env = pure false) : ExOK P C d (.Assign [.Name x p'] v pos) loc H Q := fun A E env ι s w e=>by
  refine wpAny_Assign_Name (gv (h A E env ι s w e Acc.no) (fun u s₁ ι₁ H₁ a p₁ r₁ g=>?_)) (hs env)
  exact store_ok p₁.hr (e.step w.hr p₁) sl.lo sl.at_ sl.uniq sl.kind r₁ fun s' ps e'=>⟨ι₁,H₁,_,.next,PostS.trans p₁.toS ps e'.offOwn,e',rfl,g⟩
end Mine
namespace Mine
open PySem
variable {P : PEnv} {C : Ctx} {d : Nat} {loc : Loc} {H : Hp}
inductive WhI (P : PEnv) (C : Ctx) (env : Env) (ι : List Addr) (s : Shared) (J : Nat → Loc → Hp → Prop) (n : Nat) (s' : Shared) : Prop where
  | mk (ι' : List Addr) (H' : Hp) (loc' : Loc) (p : PostS P.B (own C env) ι s ι' H' s') (e : EnvR P.B C env ι' s'.heap loc') (j : J n loc' H')
theorem WhI.el {P : PEnv} {C : Ctx} {env : Env} {ι : List Addr} {s : Shared} {J : Nat → Loc → Hp → Prop} {n : Nat} {s' : Shared} {G : Prop} (h : WhI P C env ι s J n s')
    (k : ∀ ι' H' loc',PostS P.B (own C env) ι s ι' H' s' → EnvR P.B C env ι' s'.heap loc' → J n loc' H' → G) : G := by cases h with | mk a b c p e j=>exact k a b c p e j
theorem ex_while {t : Expr} {body : List Stmt} {pos : Pos} {Q : MFlow → Loc → Hp → Prop} (J : Nat → Loc → Hp → Prop) (n : Nat) (h0 : J n loc H)
    (turn : ∀ n loc H,J n loc H → TsOK P C d t loc H (fun c H'=>if c then ExsOK P C d body loc H' (fun fl l'' H''=>match fl with
      | .next=>∃ m,m < n ∧ J m l'' H''
      | .cont=>∃ m,m < n ∧ J m l'' H''
      | .brk=>Q .next l'' H''
      | .ret v=>Q (.ret v) l'' H''
      | .exc _=>False) else Q .next loc H') XF) : ExOK P C d (.While t body [] pos) loc H Q := fun A E env ι s w e=>by
  refine wpAny_While ?_
  refine codeAny_whileLoop (WhI P C env ι s J) (fun n s' hI=>hI.el fun ι' H' loc' p e' hj=>?_) n ⟨ι,H,loc,(Post.id w.hr).toS,e,h0⟩
  have w' := w.stepS e p e'
  refine gb (turn n loc' H' hj A _ env ι' s' w' e' Acc.no) (fun c s₁ ι₁ H₁ p₁ g=>?_)
  have e₁ := e'.step w'.hr p₁
  have pp := p.trans (S := own C env) p₁.toS e₁.offOwn
  cases c with
  | false=>exact wpAny_execs_nil ⟨ι₁,H₁,loc',.next,pp,e₁,rfl,g⟩
  | true =>
    refine gs (g A _ env ι₁ s₁ (w'.step p₁) e₁) (fun f s₂ ι₂ H₂ loc₂ fl p₂ e₂ r₂ g=>?_)
    have pp₂ := pp.trans p₂ e₂.offOwn
    cases fl with
    | next=>cases r₂; obtain ⟨m,hm,hj'⟩ := g; exact ⟨m,hm,ι₂,H₂,loc₂,pp₂,e₂,hj'⟩
    | cont=>cases r₂; obtain ⟨m,hm,hj'⟩ := g; exact ⟨m,hm,ι₂,H₂,loc₂,pp₂,e₂,hj'⟩
    | brk=>cases r₂; exact ⟨ι₂,H₂,loc₂,.next,pp₂,e₂,rfl,g⟩
    | ret v=>obtain ⟨u,rfl,r⟩ := r₂; exact ⟨ι₂,H₂,loc₂,.ret v,pp₂,e₂,⟨u,rfl,r⟩,g⟩
    | exc c=>exact r₂.elim
inductive TgG (P : PEnv) (C : Ctx) (env : Env) (ι : List Addr) (H : Hp) (s : Shared) (K : Loc → Prop) (u : Unit) (s' : Shared) : Prop where
  | mk (loc' : Loc) (p : PostS P.B (own C env) ι s ι H s') (e : EnvR P.B C env ι s'.heap loc') (k : K loc')
noncomputable def TgOK (P : PEnv) (C : Ctx) (tg : Expr) (x : AV) (loc : Loc) (K : Loc → Prop) : Prop :=
  ∀ A E env ι H s v,A.handled = none → HR P.B ι H s.heap → EnvR P.B C env ι s.heap loc → VR P.B s.heap ι x v →
    wpAny (model P.prog P.w) A (assign tg env v) (TgG P C env ι H s K) E s
theorem TgG.el {env : Env} {ι : List Addr} {H : Hp} {s : Shared} {K : Loc → Prop} {u : Unit} {s' : Shared} {G : Prop} (h : TgG P C env ι H s K u s') (k : ∀ loc',PostS P.B (own C env) ι s ι H s' → EnvR P.B C env ι s'.heap loc' → K loc' → G) : G := by
  cases h with | mk a b c e=>exact k a b c e
theorem tg_name {i : Nat} {x : Str} {pos : Pos} {v : AV} {K : Loc → Prop} (sl : Slot C i x) (h : K (loc.set i (some v))) : TgOK P C (.Name x pos) v loc K := fun A E env ι H s u _ hr e r =>
  wpAny_assign_Name (store_ok hr e sl.lo sl.at_ sl.uniq sl.kind r fun s' ps e'=>⟨_,ps,e',h⟩)
noncomputable def setAll : List (Nat × AV) → Loc → Loc
  | [],l=>l
  | (i,v) :: r,l=>setAll r (l.set i (some v))
inductive Names (C : Ctx) : List Expr → List Nat → Prop
  | nil : Names C [] []
  | cons {x : Str} {pos : Pos} {i : Nat} {es : List Expr} {is : List Nat} : Slot C i x → Names C es is → Names C (.Name x pos :: es) (i :: is)
theorem Names.each {C : Ctx} {es : List Expr} {is : List Nat} (n : Names C es is) (env : Env) : (assignEach es env).length = es.length ∧ (assignEach es env).findIdx? (·.1) = none := by
  induction n with
  | nil=>exact ⟨rfl,rfl⟩
  | cons _ _ ih =>
    refine ⟨?_,?_⟩
    · show _ + 1 = _; rw [ih.1]; rfl
    · show List.findIdx? _ ((false,_) :: assignEach _ env) = none
      rw [List.findIdx?_cons]; simp [ih.2]
theorem Names.length {C : Ctx} {es : List Expr} {is : List Nat} (n : Names C es is) : es.length = is.length := by
  induction n with
  | nil=>rfl
  | cons _ _ ih=>simp [ih]
theorem tg_tup_go {A : Around} {E : Value → Shared → Prop} {env : Env} {ι : List Addr} {H : Hp} {s₀ : Shared} {es : List Expr} {is : List Nat} (n : Names C es is) : ∀ {vs : List AV} {us : List Value} {loc : Loc} {s : Shared} {K : Loc → Prop},vs.length = is.length →
    PostS P.B (own C env) ι s₀ ι H s → EnvR P.B C env ι s.heap loc → VRs P.B s.heap ι vs us → K (setAll (is.zip vs) loc) →
    wpAny (model P.prog P.w) A (assignInOrder ((assignEach es env).map (·.2)) us) (TgG P C env ι H s₀ K) E s := by
  induction n with
  | nil =>
    intro vs us loc s K hl p e r hk
    have : vs = [] := List.length_eq_zero_iff.mp hl
    subst this
    exact PyProof.Rows.assignInOrder_nil ⟨loc,p,e,hk⟩
  | cons sl n ih =>
    intro vs us loc s K hl p e r hk
    cases vs with
    | nil=>cases hl
    | cons v vs =>
      refine x2_3 r fun u ur eQ2 r1 r2=>?_
      clear r
      subst eQ2
      refine PyProof.Rows.assignInOrder_cons (wpAny_assign_Name (store_ok p.hr e sl.lo sl.at_ sl.uniq sl.kind r1 fun s' ps e'=>?_))
      exact ih (Nat.succ.inj hl) (p.trans ps e'.offOwn) e' (VRs.mono ps.kept (e.noTup p.hr) (List.prefix_refl _) _ _ r2) hk
theorem tg_tup {es : List Expr} {k : Nat} {is : List Nat} {pos : Pos} {vs : List AV} {K : Loc → Prop} (n : Names C es is) (hl : vs.length = is.length) (h : K (setAll (is.zip vs) loc)) : TgOK P C (.Tuple es k pos) (.tup vs) loc K := fun A E env ι H s u hh hr e r=>by
  unfold VR at r
  refine x2_3 (r) fun t us eQ2 ht nQ=>?_
  clear r
  revert nQ
  intro r
  subst eQ2
  refine PyProof.Rows.assign_Tuple_tuple hh ht.isTup ?_ (n.each env).2 fun h' he=>?_
  · rw [(n.each env).1,n.length,List.size_toArray,r.length,hl]
  · have k : ∀ a o,s.heap.get? a = some o → h'.get? a = some o := fun a o ea=>he a o (Nat.ne_of_lt (Heap.lt_size ea)) ea
    have p : Post P.B ι s ι H { s with heap := h',toks := s.toks } := Post.keep hr k
    exact tg_tup_go n hl (p.toS (S := own C env)) (e.step hr p) (p.vrs hr r) h
noncomputable def isTupE (e : Expr) : Bool := e.ctorIdx == Expr.ctorIdx (.Tuple [] 0 default)
structure Itr (P : PEnv) (tt : Bool) (I : Addr) (wr : List Addr) (items : List AV) (Cnd : Hp → Prop) (It : Nat → List Addr → Heap → Prop) (Mid : Nat → Value → List Addr → Heap → Prop) : Prop where
  mono : ∀ k ι ι' S h h',It k ι h → Kept S h h' → NoTup S h → ι <+: ι' → (∀ a ∈ wr,a ∉ S) → It k ι' h'
  there : ∀ k ι h,It k ι h → ∀ a ∈ wr,∃ o,h.get? a = some o ∧ ∀ vs n,o.data ≠ .seq vs n
  thereM : ∀ k v ι h,Mid k v ι h → ∀ a ∈ wr,∃ o,h.get? a = some o ∧ ∀ vs n,o.data ≠ .seq vs n
  next : ∀ A E ι H s k x (Q : Option Value → Shared → Prop),A.handled = none → HR P.B ι H s.heap → Cnd H → It k ι s.heap → items[k]? = some x →
    (∀ v h' tk,VR P.B h' ι x v → Mid k v ι h' → (∀ b o,b ∉ wr → s.heap.get? b = some o → h'.get? b = some o) → Q (some v) { s with heap := h',toks := tk }) → wpAny (model P.prog P.w) A (pyNext (.ref I)) Q E s
  go : ∀ tgt A E ι s k v (Q : Unit → Shared → Prop),(tt = true → isTupE tgt = true) → Mid k v ι s.heap → (∀ h',It (k + 1) ι h' → (∀ b o,b ∉ wr → s.heap.get? b = some o → h'.get? b = some o) → Q () { s with heap := h' }) →
    wpAny (model P.prog P.w) A (letOwnedTupleGo tgt (.ref I) v) Q E s
  stop : ∀ A E ι H s (Q : Option Value → Shared → Prop),A.handled = none → HR P.B ι H s.heap → Cnd H → It items.length ι s.heap →
    (∀ h' tk,(∀ b o,b ∉ wr → s.heap.get? b = some o → h'.get? b = some o) → Q none { s with heap := h',toks := tk }) → wpAny (model P.prog P.w) A (pyNext (.ref I)) Q E s
  self : ∀ A E ι s k (Q : Value → Shared → Prop),It k ι s.heap → Q (.ref I) s → wpAny (model P.prog P.w) A (pyIter (.ref I)) Q E s
theorem Itr.any {tt : Bool} {I : Addr} {wr : List Addr} {items : List AV} {Cnd : Hp → Prop} {It : Nat → List Addr → Heap → Prop} {Mid : Nat → Value → List Addr → Heap → Prop} (h : Itr P false I wr items Cnd It Mid) : Itr P tt I wr items Cnd It Mid :=
  ⟨h.mono,h.there,h.thereM,h.next,fun tgt A E ι s k v Q _=>h.go tgt A E ι s k v Q (fun e=>by cases e),h.stop,h.self⟩
noncomputable def ItOK (P : PEnv) (x : AV) (H : Hp) (items : List AV) (Cnd : Hp → Prop) : Prop :=
  ∀ A E ι s v (Q : Value → Shared → Prop),HR P.B ι H s.heap → VR P.B s.heap ι x v →
    (∀ I wr It Mid h' tk,Itr P false I wr items Cnd It Mid → It 0 ι h' → (∀ a ∈ wr,s.heap.get? a = none) → (∀ b o,s.heap.get? b = some o → h'.get? b = some o) → Q (.ref I) { s with heap := h',toks := tk }) →
    wpAny (model P.prog P.w) A (pyIter v) Q E s
theorem go_plain {M : Model} {A : Around} {E : Value → Shared → Prop} {s : Shared} {tgt : Expr} {I : Addr} {v : Value} {o : Obj} {n : String} {Q : Unit → Shared → Prop} (ho : s.heap.get? I = some o) (hc : o.cls = .type n)
    (hn : ["enumerate", "zip", "dict_itemiterator", "dict_reverseitemiterator", "odict_iterator", "itertools.zip_longest", "itertools.pairwise"].contains n = false) (h : Q () s) : wpAny M A (letOwnedTupleGo tgt (.ref I) v) Q E s := by
  have key : wpAny M A (do
    let (.ref r,.ref a) := (Value.ref I,v) | return
    let o ← load r
    match o.cls,o.data with
    | .type n,.fields vs =>
      if ["enumerate", "zip", "dict_itemiterator", "dict_reverseitemiterator", "odict_iterator", "itertools.zip_longest", "itertools.pairwise"].contains n && vs[0]? == some (rawInt a) then
        rule "for.unpacks-the-owned-tuple"
        updateField r 0 .none
    | _,_=>pure () : Sem Unit) Q E s := by
    cases v with
    | ref a =>
      refine wpAny_bind (wpAny_load ho ?_)
      rw [hc]
      cases o.data with
      | fields vs=>simp only [hn,Bool.false_and,Bool.false_eq_true,if_false]; exact wpAny_pure h
      | _=>exact wpAny_pure h
    | _=>exact wpAny_pure h
  cases tgt <;> first | exact key | exact wpAny_pure h
structure One (P : PEnv) (I : Addr) (items : List AV) (Cnd : Hp → Prop) (At : Nat → Obj → Prop) (Pre : List Addr → Heap → Prop) (T : String) : Prop where
  dat : ∀ k o,At k o → o.cls = .type T ∧ (∀ vs n,o.data ≠ .seq vs n) ∧ ∀ es n,o.data ≠ .dict es n
  go : ["enumerate", "zip", "dict_itemiterator", "dict_reverseitemiterator", "odict_iterator", "itertools.zip_longest", "itertools.pairwise"].contains T = false
  pre : ∀ ι ι' S h h',Pre ι h → Kept S h h' → NoTup S h → ι <+: ι' → Pre ι' h'
  next : ∀ A E ι H s k x (Q : Option Value → Shared → Prop),A.handled = none → HR P.B ι H s.heap → Cnd H → Pre ι s.heap → (∃ o,s.heap.get? I = some o ∧ At k o) → items[k]? = some x →
    (∀ v h' tk,VR P.B s.heap ι x v → (∃ o,h'.get? I = some o ∧ At (k + 1) o) → Heap.SameBut I s.heap h' → Q (some v) { s with heap := h',toks := tk }) → wpAny (model P.prog P.w) A (pyNext (.ref I)) Q E s
  stop : ∀ A E ι H s (Q : Option Value → Shared → Prop),A.handled = none → HR P.B ι H s.heap → Cnd H → Pre ι s.heap → (∃ o,s.heap.get? I = some o ∧ At items.length o) →
    (∀ h' tk,Heap.ExtBut I s.heap h' → Q none { s with heap := h',toks := tk }) → wpAny (model P.prog P.w) A (pyNext (.ref I)) Q E s
  self : ∀ A E s k (Q : Value → Shared → Prop),(∃ o,s.heap.get? I = some o ∧ At k o) → Q (.ref I) s → wpAny (model P.prog P.w) A (pyIter (.ref I)) Q E s
theorem One.itr {I : Addr} {items : List AV} {Cnd : Hp → Prop} {At : Nat → Obj → Prop} {Pre : List Addr → Heap → Prop} {T : String} (h : One P I items Cnd At Pre T) :
    Itr P false I [I] items Cnd (fun k ι h=>Pre ι h ∧ ∃ o,h.get? I = some o ∧ At k o) (fun k _ ι h=>Pre ι h ∧ ∃ o,h.get? I = some o ∧ At (k + 1) o) := by
  have nt : ∀ {h₁ : Heap} {k : Nat},(∃ o,h₁.get? I = some o ∧ At k o) → NoTup [I] h₁ := fun q=>one_mem (Z := fun b=>∀ vs,¬ PyProof.Rows.IsTup _ b vs) fun vs t =>
    x1_2 q fun o e z=>x1_3 t fun o' e' _ n=>n.elim fun n d=>(h.dat _ _ z).2.1 _ _ (Option.some.inj (e.symm.trans e') ▸ d)
  have th : ∀ {h₁ : Heap} {k : Nat},(∃ o,h₁.get? I = some o ∧ At k o) → ∀ a ∈ [I],∃ o,h₁.get? a = some o ∧ ∀ vs n,o.data ≠ .seq vs n := fun q=>one_mem (Z := fun b=>∃ o,_ ∧ _) (x1_2 q fun o e z=>⟨o,e,(h.dat _ _ z).2.1⟩)
  have ex : ∀ {h₁ h₂ : Heap},Heap.ExtBut I h₁ h₂ → ∀ b o,b ∉ [I] → h₁.get? b = some o → h₂.get? b = some o := fun x b o hb eb=>x b o (fun z=>hb (z ▸ List.mem_singleton.mpr rfl)) eb
  exact ⟨fun k ι ι' S h₁ h₂ q kp ns pr hw=>⟨h.pre _ _ _ _ _ q.1 kp ns pr,x1_2 q.2 fun o e z=>⟨o,kp.exact e (hw _ (List.mem_singleton.mpr rfl)) (h.dat _ _ z).2.2,z⟩⟩,fun k ι h₁ q=>th q.2,fun k v ι h₁ q=>th q.2,
    fun A E ι₁ H₁ s₁ k x Q hh hr hc q hx hQ=>h.next A E ι₁ H₁ s₁ k x Q hh hr hc q.1 q.2 hx fun v h' tk rv q' sb =>
      have kp := Kept.of_keeps (ex sb.extBut)
      hQ v h' tk (VR.mono kp (nt q.2) (List.prefix_refl _) _ _ rv) ⟨h.pre _ _ _ _ _ q.1 kp (nt q.2) (List.prefix_refl _),q'⟩ (ex sb.extBut),
    fun tgt A E ι₁ s₁ k v Q _ q hQ=>x1_2 q.2 fun o e z=>go_plain e (h.dat _ _ z).1 h.go (hQ s₁.heap q fun _ _ _ e=>e),
    fun A E ι₁ H₁ s₁ Q hh hr hc q hQ=>h.stop A E ι₁ H₁ s₁ Q hh hr hc q.1 q.2 fun h' tk x=>hQ h' tk (ex x),
    fun A E ι₁ s₁ k Q q hQ=>h.self A E s₁ k Q q.2 hQ⟩
theorem One.new {x : AV} {items : List AV} {Cnd : Hp → Prop} {s : Shared} {At : Nat → Obj → Prop} {Pre : List Addr → Heap → Prop} {T : String} {ι : List Addr} {o : Obj} {Q : Value → Shared → Prop}
    (h : ∀ I wr It Mid h' tk,Itr P false I wr items Cnd It Mid → It 0 ι h' → (∀ a ∈ wr,s.heap.get? a = none) → (∀ b o,s.heap.get? b = some o → h'.get? b = some o) → Q (.ref I) { s with heap := h',toks := tk })
    (one : One P s.heap.objs.size items Cnd At Pre T) (at0 : At 0 o) (fr : o.isFreed = false) (pre : Pre ι s.heap) : Q (.ref s.heap.objs.size) { s with heap := s.heap.push o } :=
  have k : ∀ b o',s.heap.get? b = some o' → (s.heap.push o).get? b = some o' := fun b o' e=>Heap.get?_push_of_some _ e
  h _ _ _ _ _ s.toks one.itr ⟨one.pre _ _ _ _ _ pre (kept_nil_of k) noTup_nil (List.prefix_refl _),o,Heap.get?_push_size _ fr,at0⟩ (one_mem (Z := fun b=>s.heap.get? b = none) (get_size _)) k
theorem fields_no {o : Obj} {vs : Array Value} (h : o.data = .fields vs) : (∀ vs n,o.data ≠ .seq vs n) ∧ ∀ es n,o.data ≠ .dict es n := ⟨(fun _ _ z=>nomatch h.symm.trans z),fun _ _ z=>nomatch h.symm.trans z⟩
theorem ar_none {vs : List Value} {l : List AV} (h : vs.length = l.length) : vs.toArray[l.length]? = none := by rw [List.getElem?_toArray]; exact List.getElem?_eq_none_iff.mpr (Nat.le_of_eq h)
theorem it_list {i : Nat} {l : List AV} (hi : H[i]? = some (.list l)) : ItOK P (.ref i) H l (fun H'=>H'[i]? = some (.list l)) := fun A E ι s v Q hr r h=>by
  refine x1_2 r fun a eQ ea=>?_
  subst eQ
  have at_ : ∀ {ι H h},HR P.B ι H h → H[i]? = some (.list l) → ι[i]? = some a → ∃ vs,h.PlainList a (List.toArray vs) ∧ VRs P.B h ι l vs := fun hr hi ea=>x1_2 (hr.objs i _ hi) fun a' ea' o=>Option.some.inj (ea'.symm.trans ea) ▸ o
  refine x1_2 (at_ hr hi ea) fun vs pl rv=>wpAny_pyIter_list pl.isList ?_
  refine One.new (P := P) (x := .none) (T := "list_iterator") (At := fun k o=>o.cls = .type "list_iterator" ∧ o.data = .fields #[.ref a,.int k 0]) (Pre := fun ι _=>ι[i]? = some a) h ⟨fun k o z=>⟨z.1,fields_no z.2⟩,by decide,fun ι ι' S h h' q _ _ pr=>pre_get pr q,?_,?_,fun A E s k Q q hQ=>wpAny_pyIter_listiter q hQ⟩ ⟨rfl,rfl⟩ rfl ea
  · intro A E ι₁ H₁ s₁ k x Q hh hr₁ hc q1 q2 hx hQ
    refine x1_2 (at_ hr₁ hc q1) fun vs₂ pl₂ rv₂=>x1_2 (rv₂.get hx) fun u hu ru=>?_
    exact wpAny_pyNext_list_item q2 pl₂.isList (x := u) (by simpa using hu) fun h' it' sb=>hQ u h' s₁.toks ru it' sb
  · intro A E ι₁ H₁ s₁ Q hh hr₁ hc q1 q2 hQ
    refine x1_2 (at_ hr₁ hc q1) fun vs₂ pl₂ rv₂=>?_
    exact wpAny_pyNext_list_end hh q2 pl₂.isList (ar_none rv₂.length) fun h' x=>hQ h' s₁.toks x
theorem it_fro {l : List AV} : ItOK P (.fro l) H l (fun _=>True) := fun A E ι s v Q hr r h=>by
  unfold VR at r
  refine x2_3 r fun a vs eQ bl rv=>?_
  subst eQ
  have keepL : ∀ h',P.B.StaysIn h' → h'.IsList a vs.toArray := fun h' q=>bl.at fun o e=>q a o e
  refine wpAny_pyIter_list (keepL _ hr.base) ?_
  refine One.new (P := P) (x := .none) (T := "list_iterator") (At := fun k o=>o.cls = .type "list_iterator" ∧ o.data = .fields #[.ref a,.int k 0]) (Pre := fun ι h=>VRs P.B h ι l vs) h ⟨fun k o z=>⟨z.1,fields_no z.2⟩,by decide,fun ι ι' S h h' q kp nt pr=>VRs.mono kp nt pr _ _ q,?_,?_,fun A E s k Q q hQ=>wpAny_pyIter_listiter q hQ⟩ ⟨rfl,rfl⟩ rfl rv
  · intro A E ι₁ H₁ s₁ k x Q hh hr₁ hc q1 q2 hx hQ
    refine x1_2 (q1.get hx) fun u hu ru=>?_
    exact wpAny_pyNext_list_item q2 (keepL _ hr₁.base) (x := u) (by simpa using hu) fun h' it' sb=>hQ u h' s₁.toks ru it' sb
  · intro A E ι₁ H₁ s₁ Q hh hr₁ hc q1 q2 hQ
    exact wpAny_pyNext_list_end hh q2 (keepL _ hr₁.base) (ar_none q1.length) fun h' x=>hQ h' s₁.toks x
theorem it_tup {l : List AV} : ItOK P (.tup l) H l (fun _=>True) := fun A E ι s v Q hr r h=>by
  unfold VR at r
  refine x2_3 r fun a vs eQ tl rv=>?_
  subst eQ
  refine wpAny_pyIter_tuple tl.isTup ?_
  refine One.new (P := P) (x := .none) (T := "tuple_iterator") (At := fun k o=>o.cls = .type "tuple_iterator" ∧ o.data = .fields #[.ref a,.int k 0]) (Pre := fun ι h=>PTup h a vs.toArray ∧ VRs P.B h ι l vs) h ⟨fun k o z=>⟨z.1,fields_no z.2⟩,by decide,fun ι ι' S h h' q kp nt pr=>⟨istup_kept kp nt q.1,VRs.mono kp nt pr _ _ q.2⟩,?_,?_,fun A E s k Q q hQ=>wpAny_pyIter_tupleiter q hQ⟩ ⟨rfl,rfl⟩ rfl ⟨tl,rv⟩
  · intro A E ι₁ H₁ s₁ k x Q hh hr₁ hc q1 q2 hx hQ
    refine x1_2 (q1.2.get hx) fun u hu ru=>?_
    exact wpAny_pyNext_tuple_item q2 q1.1.isTup (x := u) (by simpa using hu) fun h' it' sb=>hQ u h' s₁.toks ru it' sb
  · intro A E ι₁ H₁ s₁ Q hh hr₁ hc q1 q2 hQ
    exact wpAny_pyNext_tuple_end hh q2 q1.1.isTup (ar_none q1.2.length) fun h' x=>hQ h' s₁.toks x
noncomputable def ItTail (P : PEnv) (tt : Bool) (A : Around) (ι₁ : List Addr) (items : List AV) (Cnd : Hp → Prop) (v : Value) (s₀ s₁ : Shared) : Prop :=
  ∀ E (Q : Value → Shared → Prop),(∀ I wr It Mid h' tk,Itr P tt I wr items Cnd It Mid → It 0 ι₁ h' → (∀ a ∈ wr,s₀.heap.get? a = none) → (∀ b o,s₀.heap.get? b = some o → h'.get? b = some o) → Q (.ref I) { s₀ with heap := h',toks := tk }) →
      wpAny (model P.prog P.w) A (pyIter v) Q E s₁
inductive ItG (P : PEnv) (tt : Bool) (A : Around) (ι : List Addr) (s : Shared) (K : List AV → (Hp → Prop) → Hp → Prop) (v : Value) (s₁ : Shared) : Prop where
  | mk (ι₁ : List Addr) (H₁ : Hp) (items : List AV) (Cnd : Hp → Prop) (s₀ : Shared) (p : Post P.B ι s ι₁ H₁ s₀) (tl : ItTail P tt A ι₁ items Cnd v s₀ s₁) (k : K items Cnd H₁)
theorem gi {P : PEnv} {tt : Bool} {A : Around} {t : Sem Value} {E : Value → Shared → Prop} {ι : List Addr} {s s₀ : Shared} {K : List AV → (Hp → Prop) → Hp → Prop} {R : Value → Shared → Prop} (h : wpAny (model P.prog P.w) A t (ItG P tt A ι s K) E s₀)
    (k : ∀ v s₂ ι₁ H₁ items Cnd s₁,Post P.B ι s ι₁ H₁ s₁ → ItTail P tt A ι₁ items Cnd v s₁ s₂ → K items Cnd H₁ → R v s₂) : wpAny (model P.prog P.w) A t R E s₀ :=
  wpAny_mono h (fun v s₁ g=>by cases g with | mk a b c d e p r q=>exact k v s₁ a b c d e p r q) fun _ _ x=>x
noncomputable def ItEv (P : PEnv) (tt : Bool) (C : Ctx) (d : Nat) (it : Expr) (loc : Loc) (H : Hp) (K : List AV → (Hp → Prop) → Hp → Prop) (X : XP) : Prop :=
  ∀ A E env ι s,W P.B A d ι H s → EnvR P.B C env ι s.heap loc → Acc P A X ι s E → wpAny (model P.prog P.w) A (eval it env) (ItG P tt A ι s K) E s
theorem itEv_of {tt : Bool} {it : Expr} {K : List AV → (Hp → Prop) → Hp → Prop} {X : XP} (h : EvOK P C d it loc H (fun x H₁=>∃ items Cnd,ItOK P x H₁ items Cnd ∧ K items Cnd H₁) X) : ItEv P tt C d it loc H K X := fun A E env ι s w e a =>
  gv (h A E env ι s w e a) fun v s₁ ι₁ H₁ x p₁ r₁ g=>x2_2 g fun items Cnd io k =>
    ⟨ι₁,H₁,items,Cnd,s₁,p₁,fun E Q hq=>io A E ι₁ s₁ v Q p₁.hr r₁ fun I wr It Mid h' tk itr=>hq I wr It Mid h' tk itr.any,k⟩
theorem ItEv.mono {tt : Bool} {it : Expr} {K K' : List AV → (Hp → Prop) → Hp → Prop} {X : XP} (h : ItEv P tt C d it loc H K X) (k : ∀ i c H,K i c H → K' i c H) : ItEv P tt C d it loc H K' X := fun A E env ι s w e a =>
  gi (h A E env ι s w e a) fun v s₁ ι₁ H₁ items Cnd s₀ p₁ io q=>⟨ι₁,H₁,items,Cnd,s₀,p₁,io,k _ _ _ q⟩
theorem ntw {wr : List Addr} {h : Heap} (q : ∀ a ∈ wr,∃ o,h.get? a = some o ∧ ∀ vs n,o.data ≠ .seq vs n) : NoTup wr h := fun a ha vs t=>by
  refine x1_2 (q a ha) fun o eo d1=>?_
  exact x1_3 t fun o' eo' _ q=>q.elim fun n d2=>d1 _ _ (Option.some.inj (eo.symm.trans eo') ▸ d2)
theorem EnvR.off {B : Heap} {C : Ctx} {env : Env} {ι T : List Addr} {h h' : Heap} {loc : Loc} (ee : EnvR B C env ι h loc) (ext : ∀ b o,b ∉ T → h.get? b = some o → h'.get? b = some o) (nt : NoTup T h) (hL : env.locals ∉ T)
    (hC : ∀ x c,some x ∈ C.vars → env.cells.lookup x = some c → c ∉ T) : EnvR B C env ι h' loc := by
  have kO : ∀ a,a ∉ T → ∀ o,h.get? a = some o → ∃ o',h'.get? a = some o' ∧ o'.data = o.data := fun a ha o eo=>⟨o,ext a o ha eo,rfl⟩
  refine ⟨ee.kind,ee.names,ee.glob,ee.blt,ee.ns.elim fun m n=>⟨m,Ns.of_data n (kO _ hL)⟩,ee.offL,ee.newL,ee.offC,fun x c hm hx=>(ee.isC x c hm hx).elim fun ov q=>⟨ov,Cell.of_data q (kO c (hC x c hm hx))⟩,ee.apart,ee.len,fun j x hj=>?_⟩
  refine x1_2 (ee.vars j x hj) fun ov hs hv=>⟨ov,?_,fun dd hd=>x1_2 (hv dd hd) fun v' ev rv=>⟨v',ev,VR.mono (Kept.of_keeps ext) nt (List.prefix_refl _) _ _ rv⟩⟩
  exact hs.imp (fun q=>⟨q.1,q.2.elim fun m n=>⟨m,Ns.of_data n.1 (kO _ hL),n.2⟩⟩) fun q=>⟨q.1,q.2.elim fun c n=>⟨c,n.1,Cell.of_data n.2 (kO c (hC x c (List.mem_of_getElem? hj) n.1))⟩⟩
theorem reachS {env : Env} {ι₁ ι₂ : List Addr} {H₂ : Hp} {s₁ s₂ : Shared} {h' : Heap} {t' : Nat} {wr : List Addr} (wrn : ∀ a ∈ wr,s₁.heap.get? a = none) (q : PostS P.B (own C env) ι₁ s₁ ι₂ H₂ s₂) (hr : HR P.B ι₂ H₂ h') (ext : ∀ b o,b ∉ wr → s₂.heap.get? b = some o → h'.get? b = some o) :
    PostS P.B (own C env) ι₁ s₁ ι₂ H₂ { s₂ with heap := h',toks := t' } := by
  refine ⟨q.pre,hr,fun a o eo hn=>?_,q.new,?_⟩
  · exact x1_2 (q.kept a o eo hn) fun sl e1 q1=>⟨sl,ext a _ (fun m=>absent (wrn a m) eo) e1,q1⟩
  · exact x2_1 q.same fun h₃ t₃ e=>⟨h',t',by rw [e]⟩
inductive ForI (P : PEnv) (C : Ctx) (env : Env) (ι₁ : List Addr) (s₁ : Shared) (wr : List Addr) (It : Nat → List Addr → Heap → Prop) (m : Nat) (J : Nat → Loc → Hp → Prop) (n : Nat) (s' : Shared) : Prop where
  | mk (k : Nat) (ι' : List Addr) (H' : Hp) (loc' : Loc) (hn : n = m + 1 - k) (hk : k ≤ m) (wrO : ∀ a ∈ wr,a ∉ own C env ++ ι') (p : PostS P.B (own C env) ι₁ s₁ ι' H' s') (e : EnvR P.B C env ι' s'.heap loc') (j : J k loc' H') (it : It k ι' s'.heap)
theorem ForI.el {env : Env} {ι₁ : List Addr} {s₁ : Shared} {wr : List Addr} {It : Nat → List Addr → Heap → Prop} {m : Nat} {J : Nat → Loc → Hp → Prop} {n : Nat} {s' : Shared} {G : Prop} (h : ForI P C env ι₁ s₁ wr It m J n s')
    (g : ∀ k ι' H' loc',n = m + 1 - k → k ≤ m → (∀ a ∈ wr,a ∉ own C env ++ ι') → PostS P.B (own C env) ι₁ s₁ ι' H' s' → EnvR P.B C env ι' s'.heap loc' → J k loc' H' → It k ι' s'.heap → G) : G := by
  cases h with | mk k a b c h1 h2 h3 h4 h5 h6 h7=>exact g k a b c h1 h2 h3 h4 h5 h6 h7
theorem next_lt {m n k : Nat} (h : n = m + 1 - k) (hk : k < m) : m + 1 - (k + 1) < n := h ▸ Nat.sub_lt_sub_left (Nat.lt_succ_of_lt hk) (Nat.lt_succ_self k)
noncomputable def forEnd (J : Nat → Loc → Hp → Prop) (Q : MFlow → Loc → Hp → Prop) (k : Nat) (fl : MFlow) (l'' : Loc) (H'' : Hp) : Prop := match fl with
        | .next=>J (k + 1) l'' H''
        | .cont=>J (k + 1) l'' H''
        | .brk=>Q .next l'' H''
        | .ret v=>Q (.ret v) l'' H''
        | .exc _=>False
theorem ex_for_gen {tt : Bool} {tgt it : Expr} {body : List Stmt} {pos : Pos} {Q : MFlow → Loc → Hp → Prop}
    (ht : tt = true → isTupE tgt = true) (h : ItEv P tt C d it loc H (fun items Cnd H₁=>∃ J : Nat → Loc → Hp → Prop,J 0 loc H₁ ∧ ∀ k loc H,J k loc H → Cnd H ∧
      (∀ y,items[k]? = some y → TgOK P C tgt y loc (fun l'=>ExsOK P C d body l' H (forEnd J Q k))) ∧
      (k = items.length → Q .next loc H)) XF)
    (hs : ∀ env x,foldedSetIterable it env x = pure x) : ExOK P C d (.For tgt it body [] pos) loc H Q := fun A E env ι s w e=>by
  refine wpAny_For (gi (h A E env ι s w e Acc.no) fun v s₀ ι₁ H₁ items Cnd s₁ p₁ io g=>x1_2 g fun J j0 turn=>?_) (hs env)
  clear g
  have w₁ := w.step p₁
  have e₁ := e.step w.hr p₁
  refine io E _ fun I wr It Mid h₂ tk itr it0 wrn k₂=>?_
  have p₂ : Post P.B ι₁ s₁ ι₁ H₁ { s₁ with heap := h₂,toks := tk } := Post.keep w₁.hr k₂
  have hL : env.locals ∉ wr := fun m=>e₁.ns.elim fun _ q=>x3_2 q fun o _ _ eo _=>absent (wrn _ m) eo
  have hC : ∀ x c,some x ∈ C.vars → env.cells.lookup x = some c → c ∉ wr := fun x c hm hc m=>(e₁.isC x c hm hc).elim fun ov q=>x1_2 q fun o eo _=>absent (wrn c m) eo
  have nbW : ∀ a ∈ wr,P.B.get? a = none := fun a ha=>w₁.hr.noB (wrn a ha)
  refine codeAny_forLoop_any (ForI P C env ι₁ s₁ wr It items.length J) (fun n s' hI=>gRE fun R F kR=>hI.el fun k ι' H' loc' hn hk wrO p e' hj hit=>?_) (items.length + 1)
    ⟨0,ι₁,H₁,loc,rfl,Nat.zero_le _,fun a ha m=>?_,p₂.toS,e₁.step w₁.hr p₂,j0,it0⟩
  rotate_left
  · rcases List.mem_append.mp m with m | m
    · exact x1_2 (e₁.isOwn a m) fun o eo _=>absent (wrn a ha) eo
    · exact (w₁.hr.mem m).elim fun o eo=>absent (wrn a ha) eo
  clear hI
  refine x0_3 (turn k loc' H' hj) fun hc htg hend=>?_
  have w' := w₁.stepS e₁ p e'
  have offW : ∀ a ∈ wr,a ∉ ι' := fun a ha m=>wrO a ha (List.mem_append.mpr (.inr m))
  have nt0 := ntw (itr.there k ι' _ hit)
  cases hx : items[k]? with
  | none =>
    have hke : k = items.length := Nat.le_antisymm hk (List.getElem?_eq_none_iff.mp hx)
    refine itr.stop A _ ι' H' s' _ w'.room.handled w'.hr hc (hke ▸ hit) fun h' tk ext=>kR _ _ ?_
    have ee₃ := e'.off ext nt0 hL hC
    exact wpAny_execs_nil ⟨ι',H',loc',.next,PostS.trans p₁.toS (reachS wrn p (w'.hr.off ext nt0 offW nbW) ext) ee₃.offOwn,ee₃,rfl,hend hke⟩
  | some y =>
    have hkl : k < items.length := (List.getElem?_eq_some_iff.mp hx).1
    refine itr.next A _ ι' H' s' k y _ w'.room.handled w'.hr hc hit hx fun v h₃ tk₃ rv mid ext₃=>kR _ _ (gRE fun R₁ F₁ kR₁=>?_)
    have hr₃ := w'.hr.off ext₃ nt0 offW nbW
    have p₃ := reachS (t' := tk₃) wrn p hr₃ ext₃
    have nt1 := ntw (itr.thereM k v ι' _ mid)
    refine itr.go tgt A _ ι' { s' with heap := h₃,toks := tk₃ } k v _ ht mid fun h₄ it₄ ext₄=>kR₁ _ _ (gRE fun R₂ F₂ kR₂=>?_)
    have hr₄ := hr₃.off ext₄ nt1 offW nbW
    have p₄ := reachS (t' := tk₃) wrn p₃ hr₄ ext₄
    have e₄ := (e'.off ext₃ nt0 hL hC).off ext₄ nt1 hL hC
    refine wpAny_mono (htg y hx A _ env ι' H' { s' with heap := h₄,toks := tk₃ } v w'.room.handled hr₄ e₄ (VR.mono (S := wr) (Kept.of_keeps ext₄) nt1 (List.prefix_refl _) _ _ rv)) (fun u s₅ g=>kR₂ u s₅ (g.el fun loc₅ p₅ e₅ g=>?_)) fun _ _ x=>x
    clear kR kR₁ kR₂
    have pp₅ := p₄.trans p₅ e₅.offOwn
    have it₅ : It (k + 1) ι' s₅.heap := itr.mono _ _ _ _ _ _ it₄ p₅.kept (e₄.noTup hr₄) (List.prefix_refl _) wrO
    refine gs (g A _ env ι' s₅ (w₁.stepS e₁ pp₅ e₅) e₅) (fun f s₆ ι₆ H₆ loc₆ fl p₆ e₆ r₆ g=>?_)
    have pp₆ := pp₅.trans p₆ e₆.offOwn
    have I₆ : J (k + 1) loc₆ H₆ → ∃ m,m < n ∧ ForI P C env ι₁ s₁ wr It items.length J m s₆ := fun g=>⟨items.length + 1 - (k + 1),next_lt hn hkl,k + 1,ι₆,H₆,loc₆,rfl,hkl,fun a ha m=>?_,pp₆,e₆,g,
      itr.mono _ _ _ _ _ _ it₅ p₆.kept (e₅.noTup p₅.hr) p₆.pre wrO⟩
    · cases fl with
      | next=>cases r₆; exact I₆ g
      | cont=>cases r₆; exact I₆ g
      | brk=>cases r₆; exact ⟨ι₆,H₆,loc₆,.next,PostS.trans p₁.toS pp₆ e₆.offOwn,e₆,rfl,g⟩
      | ret v=>exact x1_2 r₆ fun u hu r=>by subst hu; exact ⟨ι₆,H₆,loc₆,.ret v,PostS.trans p₁.toS pp₆ e₆.offOwn,e₆,⟨u,rfl,r⟩,g⟩
      | exc c=>exact r₆.elim
    · rcases List.mem_append.mp m with m | m
      · exact wrO a ha (List.mem_append.mpr (.inl m))
      · exact (p₆.new a m).elim (offW a ha) fun z=>x1_2 (itr.there _ _ _ it₅ a ha) fun o eo _=>absent z eo
end Mine
set_option maxRecDepth 100000
namespace Mine
open PySem
variable {P : PEnv} {H : Hp}
noncomputable def chrs (x : Str) : List AV := x.cps.toList.map fun c=>.str ⟨#[c]⟩
theorem it_str {x : Str} (ha : x.cps.all (· < 128) = true) : ItOK P (.str x) H (chrs x) (fun _=>True) := fun A E ι s v Q hr r h=>by
  refine x0_2 (r) fun _ qQ1=>?_
  clear r
  obtain ⟨t,rfl⟩ := qQ1
  refine wpAny_pyIter_ascii ha ?_
  refine h s.heap.objs.size [s.heap.objs.size] (fun k ι' h'=>h'.IsStrIter s.heap.objs.size "str_ascii_iterator" x t k) (fun k _ ι' h'=>h'.IsStrIter s.heap.objs.size "str_ascii_iterator" x t (k + 1)) _ s.toks ?_
    ⟨_,Heap.get?_push_size _ rfl,rfl,rfl⟩ (fun b hb=>by rw [List.mem_singleton.mp hb]; exact get_size _) (fun b o e=>Heap.get?_push_of_some _ e)
  refine ⟨?_,?_,?_,?_,?_,?_,?_⟩
  · rintro k ι₁ ι₂ S h₁ h₂ ⟨o,e,c,dt⟩ kp nts pr hw
    exact ⟨o,kp.exact e (hw _ (List.mem_singleton.mpr rfl)) (fun _ _=>by rw [dt]; simp),c,dt⟩
  · rintro k ι₁ h₁ ⟨o,e,c,dt⟩ b hb
    rw [List.mem_singleton.mp hb]
    exact ⟨o,e,fun vs n=>by rw [dt]; simp⟩
  · rintro k v ι₁ h₁ ⟨o,e,c,dt⟩ b hb
    rw [List.mem_singleton.mp hb]
    exact ⟨o,e,fun vs n=>by rw [dt]; simp⟩
  · intro A E ι₁ H₁ s₁ k y Q hh hr₁ hc q hx hQ
    unfold chrs at hx
    rw [List.getElem?_map] at hx
    refine x1_2 (Option.map_eq_some_iff.mp hx) fun c hcx eQ2=>?_
    subst eQ2
    have hlt : c < 128 := by
      have := List.mem_of_getElem? hcx
      rw [← Array.all_toList,List.all_eq_true] at ha
      simpa using ha c this
    refine wpAny_pyNext_ascii_item q (c := c) (by rw [← Array.getElem?_toList]; exact hcx) fun h' it' sb=>?_
    refine hQ _ h' _ (VR.mkStr _ _ ?_) it' fun b o hb eb=>sb.extBut b o (fun z=>hb (z ▸ List.mem_singleton.mpr rfl)) eb
    unfold PyData.strOk
    simp; exact z102 hlt
  · rintro tgt A E ι₁ s₁ k v Q _ ⟨o,e,c,dt⟩ hQ
    exact go_plain e c (by decide) (hQ s₁.heap ⟨o,e,c,dt⟩ fun _ _ _ e=>e)
  · intro A E ι₁ H₁ s₁ Q hh hr₁ hc q hQ
    refine wpAny_pyNext_ascii_end hh q ?_ fun h' ext=>hQ h' s₁.toks fun b o hb eb=>ext b o (fun z=>hb (z ▸ List.mem_singleton.mpr rfl)) eb
    unfold chrs
    simp
  · intro A E ι₁ s₁ k Q q hQ
    exact wpAny_pyIter_striter_ascii q hQ
end Mine
namespace Mine
open PySem
noncomputable def CallOK (P : PEnv) (d : Nat) (x : Str) (args : List AV) (H : Hp) (Q : AV → Hp → Prop) (X : XP) : Prop :=
  ∀ A ι s vs fa (R : Result → Shared → Prop),P.mg x = some (.ref fa) → W P.B A d ι H s → VRs P.B s.heap ι args vs → (∀ v s',Gives P.B ι s Q v s' → R (.ok (.ret v)) s') → Acc P A X ι s (fun e s'=>R (.error e) s') →
    codeAny (model P.prog P.w) A (.call (.ref fa) ⟨vs,[]⟩) R s
theorem CallOK.mono {P : PEnv} {d : Nat} {x : Str} {args : List AV} {H : Hp} {Q Q' : AV → Hp → Prop} {X : XP} (h : CallOK P d x args H Q X) (q : ∀ a H',Q a H' → Q' a H') : CallOK P d x args H Q' X :=
  fun A ι s vs fa R e w r hR hX=>h A ι s vs fa R e w r (fun v s' g=>hR v s' (g.mono q)) hX
theorem CallOK.x {P : PEnv} {d : Nat} {x : Str} {args : List AV} {H : Hp} {Q : AV → Hp → Prop} {X : XP} (h : CallOK P d x args H Q XF) : CallOK P d x args H Q X :=
  fun A ι s vs fa R e w r hR hX=>h A ι s vs fa R e w r hR Acc.no
structure FnAt (P : PEnv) (x : Str) (C : Ctx) (params : List Str) (body : List Stmt) : Prop where
  ex : ∃ fa o fd,P.mg x = some (.ref fa) ∧ P.B.get? fa = some o ∧ o.data = .func fd ∧ fd.body = .stmts body ∧ fd.scope.names = C.names ∧ fd.scope.kind = .function ∧ fd.scope.isCoroutine = false ∧ fd.scope.isGenerator = false ∧
    fd.closure = [] ∧ fd.globals = mainGlobals ∧ fd.builtins = builtinsNs ∧ P.B.CodeRec fd.code fd.qualname ∧ ∀ vals : List Value,vals.length = params.length → bindArgs fd ⟨vals,[]⟩ = pure (params.zip vals)
noncomputable def Ctx.good (C : Ctx) (params : List Str) : Bool :=
  (C.vars.all fun o=>match o with | some x=>C.names.lookup x == some .local || C.names.lookup x == some .cell | none=>false) && decide (C.vars.Nodup) && decide ((params.map some).isPrefixOf C.vars = true) && decide (C.ro = 0)
theorem bindL_not {k : Str → Option NameKind} {x : Str} : ∀ {b : List (Str × Value)} {m : Str → Option Value},x ∉ b.map (·.1) → bindL k b m x = m x
  | [],_,_=>rfl
  | (n,v) :: r,m,h=>by
    have h1 : x ≠ n := fun e=>h (e ▸ List.mem_cons_self ..)
    have h2 : x ∉ r.map (·.1) := fun q=>h (List.mem_cons_of_mem _ q)
    unfold bindL
    rw [bindL_not h2]
    split
    · simp [h1]
    · rfl
theorem bindC_not {k : Str → Option NameKind} {x : Str} : ∀ {b : List (Str × Value)} {m : Str → Option Value},x ∉ b.map (·.1) → bindC k b m x = m x
  | [],_,_=>rfl
  | (n,v) :: r,m,h=>by
    have h1 : x ≠ n := fun e=>h (e ▸ List.mem_cons_self ..)
    have h2 : x ∉ r.map (·.1) := fun q=>h (List.mem_cons_of_mem _ q)
    unfold bindC
    rw [bindC_not h2]
    split
    · rfl
    · simp [h1]
theorem zip_keys : ∀ {ps : List Str} {vs : List Value} {x : Str},x ∉ ps → x ∉ (ps.zip vs).map (·.1)
  | [],_,_,_=>by simp
  | p :: ps,[],_,_=>by simp
  | p :: ps,v :: vs,x,h=>by
    simp only [List.zip_cons_cons,List.map_cons,List.mem_cons,not_or] at h ⊢
    exact ⟨h.1,zip_keys h.2⟩
theorem bindL_at {k : Str → Option NameKind} {x : Str} (hk : k x = some .local) : ∀ {ps : List Str} {vs : List Value} {m : Str → Option Value} {i : Nat} {v : Value},ps.Nodup → ps[i]? = some x → vs[i]? = some v → bindL k (ps.zip vs) m x = some v
  | [],_,_,_,_,_,h,_=>by simp at h
  | p :: ps,[],_,_,_,_,_,h=>by simp at h
  | p :: ps,v :: vs,m,0,u,nd,h1,h2=>by
    simp only [List.getElem?_cons_zero,Option.some.injEq] at h1 h2
    subst h1; subst h2
    have := List.nodup_cons.mp nd
    show bindL k (ps.zip vs) _ p = some v
    rw [bindL_not (zip_keys this.1),if_pos hk]; simp
  | p :: ps,v :: vs,m,i + 1,u,nd,h1,h2=>by
    simp only [List.getElem?_cons_succ] at h1 h2
    show bindL k (ps.zip vs) _ x = some u
    exact bindL_at hk (List.nodup_cons.mp nd).2 h1 h2
theorem bindC_at {k : Str → Option NameKind} {x : Str} (hk : k x = some .cell) : ∀ {ps : List Str} {vs : List Value} {m : Str → Option Value} {i : Nat} {v : Value},ps.Nodup → ps[i]? = some x → vs[i]? = some v → bindC k (ps.zip vs) m x = some v
  | [],_,_,_,_,_,h,_=>by simp at h
  | p :: ps,[],_,_,_,_,_,h=>by simp at h
  | p :: ps,v :: vs,m,0,u,nd,h1,h2=>by
    simp only [List.getElem?_cons_zero,Option.some.injEq] at h1 h2
    subst h1; subst h2
    have := List.nodup_cons.mp nd
    show bindC k (ps.zip vs) _ p = some v
    rw [bindC_not (zip_keys this.1),if_neg (by rw [hk]; decide)]; simp
  | p :: ps,v :: vs,m,i + 1,u,nd,h1,h2=>by
    simp only [List.getElem?_cons_succ] at h1 h2
    show bindC k (ps.zip vs) _ x = some u
    exact bindC_at hk (List.nodup_cons.mp nd).2 h1 h2
theorem lookup_of_mem {α : Type} {x : Str} {c : α} : ∀ {l : List (Str × α)},(x,c) ∈ l → ∃ c',l.lookup x = some c'
  | (n,u) :: r,h=>by
    rw [List.lookup_cons]
    cases hx : x == n with
    | true=>exact ⟨u,rfl⟩
    | false =>
      rcases List.mem_cons.mp h with e | m
      · rw [(Prod.mk.inj e).1] at hx; simp at hx
      · exact lookup_of_mem m
theorem cellsFrom_mem {x : Str} : ∀ {names : List (Str × NameKind)} {n : Nat} {acc : List (Str × Addr)},(x,NameKind.cell) ∈ names ∨ (∃ c,(x,c) ∈ acc) → ∃ c,(x,c) ∈ cellsFrom n names acc
  | [],_,_,h=>h.elim (fun q=>nomatch q) fun q=>q
  | (y,k) :: r,n,acc,h=>by
    unfold cellsFrom
    split
    · rename_i hk
      refine cellsFrom_mem ?_
      rcases h with h | ⟨c,h⟩
      · rcases List.mem_cons.mp h with e | m
        · exact .inr ⟨n,by rw [(Prod.mk.inj e).1]; exact List.mem_cons_self ..⟩
        · exact .inl m
      · exact .inr ⟨c,List.mem_cons_of_mem _ h⟩
    · rename_i hk
      refine cellsFrom_mem ?_
      rcases h with h | h
      · rcases List.mem_cons.mp h with e | m
        · rw [← (Prod.mk.inj e).2] at hk; exact absurd rfl hk
        · exact .inl m
      · exact .inr h
theorem mem_of_lookupK {x : Str} {k : NameKind} : ∀ {l : List (Str × NameKind)},l.lookup x = some k → (x,k) ∈ l := fun h=>mem_of_lookup h
variable {P : PEnv} {C : Ctx} {d : Nat} {loc : Loc} {H : Hp} {X : XP}
noncomputable def start (C : Ctx) (args : List AV) : Loc := args.map some ++ List.replicate (C.vars.length - args.length) none
noncomputable def endOf (Q : AV → Hp → Prop) : MFlow → Loc → Hp → Prop
  | .ret v,_,H=>Q v H
  | .next,_,H=>Q .none H
  | _,_,_=>False
noncomputable def XMade (P : PEnv) (l : List Env) (S ι : List Addr) (s : Shared) (ι' : List Addr) (H' : Hp) (s' : Shared) (e : Value) (c : Str) : Prop :=
  ∃ ea base D,e = .ref ea ∧ P.mg c = some (.ref D) ∧ XLeft P.B l S ι s ι' H' base s' ∧ ∃ h args,base.StaysIn h ∧ h.FunFrames base l ∧ Heap.MadeExcOf h s'.heap ea (.ref D) args
noncomputable def TopIs (A : Around) (env : Env) : Prop := env.frame = some env.locals ∧ ∃ l,A.frames = some (env :: l)
noncomputable def XAcc (P : PEnv) (C : Ctx) (A : Around) (env : Env) (ι : List Addr) (s : Shared) (Q : MFlow → Loc → Hp → Prop) (E : Value → Shared → Prop) : Prop :=
  ∀ l,A.frames = some l → ∀ e s' ι' H' loc' c,(XPost P l (own C env) ι s ι' H' s' e c ∨ XMade P l (own C env) ι s ι' H' s' e c) → EnvR P.B C env ι' s'.heap loc' → Q (.exc c) loc' H' → E e s'
noncomputable def ExX (P : PEnv) (C : Ctx) (d : Nat) (st : Stmt) (loc : Loc) (H : Hp) (Q : MFlow → Loc → Hp → Prop) : Prop :=
  ∀ A E env ι s,W P.B A d ι H s → EnvR P.B C env ι s.heap loc → TopIs A env → XAcc P C A env ι s Q E → wpAny (model P.prog P.w) A (exec st env) (GivesS P.B C env ι s Q) E s
noncomputable def ExsX (P : PEnv) (C : Ctx) (d : Nat) (sts : List Stmt) (loc : Loc) (H : Hp) (Q : MFlow → Loc → Hp → Prop) : Prop :=
  ∀ A E env ι s,W P.B A d ι H s → EnvR P.B C env ι s.heap loc → TopIs A env → XAcc P C A env ι s Q E → wpAny (model P.prog P.w) A (execs sts env) (GivesS P.B C env ι s Q) E s
theorem ExOK.x {st : Stmt} {Q : MFlow → Loc → Hp → Prop} (h : ExOK P C d st loc H Q) : ExX P C d st loc H Q := fun A E env ι s w e _ _=>h A E env ι s w e
theorem ExsOK.x {sts : List Stmt} {Q : MFlow → Loc → Hp → Prop} (h : ExsOK P C d sts loc H Q) : ExsX P C d sts loc H Q := fun A E env ι s w e _ _=>h A E env ι s w e
noncomputable def endX (Q : AV → Hp → Prop) (X : XP) : MFlow → Loc → Hp → Prop
  | .ret v,_,H=>Q v H
  | .next,_,H=>Q .none H
  | .exc c,_,H=>X c H
  | _,_,_=>False
theorem XLeft.out {B : Heap} {l : List Env} {env : Env} {S ι ι' : List Addr} {s s₁ s' : Shared} {H' : Hp} {base h' : Heap} (x : XLeft B (env :: l) S ι s₁ ι' H' base s') (ef : env.frame = some env.locals)
    (keep : ∀ a o,s.heap.get? a = some o → s₁.heap.get? a = some o) (hS : ∀ a ∈ S,s.heap.get? a = none) (hL : s.heap.get? env.locals = none) (hs : ∃ h t,s₁ = { s with heap := h,toks := t })
    (fr : ∀ a ∈ fAs l,∀ o,s.heap.get? a = some o → ∃ es n,o.data = .dict es n) (st : base.StaysIn h') (up : s'.heap.UpToSlots h') : XLeft B l [] ι s ι' H' base { s' with heap := h' } := by
  have off : ∀ a o,s.heap.get? a = some o → a ∉ ι → a ∉ S ++ ι := fun a o e hn m=>(List.mem_append.mp m).elim (fun z=>by rw [hS a z] at e; cases e) hn
  have offF : ∀ a o,s.heap.get? a = some o → a ∉ fAs l → a ∉ fAs (env :: l) := fun a o e hn m=>by
    unfold fAs at m
    rw [List.filterMap_cons,ef] at m
    rcases List.mem_cons.mp m with z | z
    · rw [z,hL] at e; cases e
    · exact hn z
  refine ⟨x.pre,x.hr,st,fun a o e hn=>?_,fun a o e hn hf=>?_,fun a ha=>?_,?_⟩
  · refine x1_2 (x.kept a o (keep a o e) (off a o e hn)) fun sl e1 q1=>?_
    by_cases hf : a ∈ fAs l
    · refine x2_1 (fr a hf o e) fun es n hd=>?_
      obtain ⟨sl',e2⟩ := up a _ e1 fun vs q=>by rw [show ({ o with slots := sl } : Obj).data = o.data from rfl,hd] at q; cases q
      exact ⟨sl',e2,fun c=>absurd hd (c es n)⟩
    · refine x1_1 (x.inb a o (keep a o e) (off a o e hn) (offF a o e hf)) fun sl' e2=>?_
      have e3 := x.stays a _ e2
      rw [e1] at e3
      have e4 : sl' = sl := by injection e3 with q; injection q with _ _ _ q; exact q.symm
      subst e4
      exact ⟨sl',st a _ e2,q1⟩
  · exact x.inb a o (keep a o e) (off a o e hn) (offF a o e hf)
  · rcases x.new a ha with z | z
    · exact .inl z
    · right
      cases y : s.heap.get? a with
      | none=>rfl
      | some o=>rw [keep a o y] at z; cases z
  · refine x2_1 (hs) fun h₁ t₁ eQ2=>?_
    clear hs
    subst eQ2
    refine x2_1 (x.same) fun h₂ t₂ eQ2=>?_
    subst eQ2
    exact ⟨h',t₂,rfl⟩
theorem start_get {params : List Str} {args : List AV} {rest : List (Option Str)} (hrest : params.map some ++ rest = C.vars) (hl : args.length = params.length) {i : Nat} {y : Str} {dd : AV} (hi : C.vars[i]? = some (some y)) (hd : (start C args)[i]? = some (some dd)) : params[i]? = some y ∧ args[i]? = some dd := by
  unfold start at hd
  by_cases hlt : i < args.length
  · rw [List.getElem?_append_left (by rw [List.length_map]; exact hlt),List.getElem?_map] at hd
    rw [← hrest,List.getElem?_append_left (by rw [List.length_map,← hl]; exact hlt),List.getElem?_map] at hi
    exact ⟨x1_2 (Option.map_eq_some_iff.mp hi) fun z h1 h2=>Option.some.inj h2 ▸ h1,x1_2 (Option.map_eq_some_iff.mp hd) fun z h1 h2=>Option.some.inj h2 ▸ h1⟩
  · rw [List.getElem?_append_right (by rw [List.length_map]; exact Nat.not_lt.mp hlt),List.getElem?_replicate] at hd
    split at hd <;> cases hd
theorem start_len {params : List Str} {args : List AV} {rest : List (Option Str)} (hrest : params.map some ++ rest = C.vars) (hl : args.length = params.length) : (start C args).length = C.vars.length := by
  unfold start
  rw [List.length_append,List.length_map,List.length_replicate,Nat.add_sub_cancel']
  rw [hl,← hrest,List.length_append,List.length_map]; exact Nat.le_add_right _ _
theorem call_envR {params : List Str} {args : List AV} {rest : List (Option Str)} {env : Env} {ι : List Addr} {s s₁ : Shared} {vs : List Value} (hrest : params.map some ++ rest = C.vars) (hl : args.length = params.length)
    (kinds : ∀ y,some y ∈ C.vars → C.names.lookup y = some .local ∨ C.names.lookup y = some .cell) (pnd : params.Nodup) (hk : env.scope.kind = .function) (hn : env.scope.names = C.names) (hg : env.globals = mainGlobals) (hb : env.builtins = builtinsNs)
    (lo : ∀ a,env.locals ≤ a → a ∉ ι ∧ P.B.get? a = none) (ic : InCallC s env.locals (bindL env.kindOf (params.zip vs) fun _=>none) env.cells (bindC env.kindOf (params.zip vs) fun _=>none) s₁)
    (kc : ∀ y,C.names.lookup y = some .cell → ∃ c,env.cells.lookup y = some c) (rv : VRs P.B s₁.heap ι args vs) : EnvR P.B C env ι s₁.heap (start C args) := by
  have ek : ∀ y k,C.names.lookup y = k → env.kindOf y = k := fun y k q=>by unfold Env.kindOf; rw [hn]; exact q
  refine ⟨hk,hn,hg,hb,⟨_,ic.toInCall.ns⟩,(lo _ (Nat.le_refl _)).1,(lo _ (Nat.le_refl _)).2,fun y c hm hc=>?_,fun y c hm hc=>⟨_,ic.cell y c hc⟩,fun y z c hy hz hc hc'=>name_of_addr ic.apart (mem_of_lookup hc) (mem_of_lookup hc'),start_len hrest hl,fun i y hi=>?_⟩
  · have ab := ic.above y c (mem_of_lookup hc)
    exact ⟨(lo c (Nat.le_of_lt ab)).1,Nat.ne_of_gt ab,(lo c (Nat.le_of_lt ab)).2⟩
  · refine (kinds y (List.mem_of_getElem? hi)).elim (fun q=>⟨_,.inl ⟨ek _ _ q,_,ic.toInCall.ns,rfl⟩,fun dd hd=>?_⟩) fun q=>(kc y q).elim fun c hc=>⟨_,.inr ⟨.inl (ek _ _ q),c,hc,ic.cell y c hc⟩,fun dd hd=>?_⟩
    · have pr := start_get hrest hl hi hd
      exact x1_2 (rv.get pr.2) fun u hu ru=>⟨u,bindL_at (ek _ _ q) pnd pr.1 hu,ru⟩
    · have pr := start_get hrest hl hi hd
      exact x1_2 (rv.get pr.2) fun u hu ru=>⟨u,bindC_at (ek _ _ q) pnd pr.1 hu,ru⟩
theorem call_w {A : Around} {env : Env} {ι : List Addr} {s s₁ : Shared} (w : W P.B A (d + 1) ι H s) (p₁ : Post P.B ι s ι H s₁) (ef : env.frame = some env.locals) (e : EnvR P.B C env ι s₁.heap loc) : W P.B (A.deeper env) d ι H s₁ := by
  refine ⟨⟨?_,?_,w.room.handled⟩,?_,p₁.hr⟩
  · show A.depth + 1 + d < _; have := w.room.depth; rw [Nat.add_assoc,Nat.add_comm 1 d]; exact this
  · show A.units + 3 + 8 * d + 200 < _; have := w.room.units; exact z103 this
  · refine x1_2 (w.fr.step p₁) fun fl efl q=>⟨env :: fl,by show A.frames.map _ = _; rw [efl]; rfl,fun en hen'=>?_⟩
    refine (List.mem_cons.mp hen').elim (fun z=>?_) (q en)
    rw [z]
    exact e.ns.elim fun m n=>x3_3 n fun o' es' ep' eo' d' _=>⟨by rw [e.kind]; decide,env.locals,o',ef,e.newL,eo',⟨es',ep',d'⟩,e.offL⟩
theorem back_none {s s₁ : Shared} (keep : ∀ a o,s.heap.get? a = some o → s₁.heap.get? a = some o) {a : Addr} (z : s₁.heap.get? a = none) : s.heap.get? a = none := by
  cases y : s.heap.get? a with
  | none=>rfl
  | some o=>rw [keep a o y] at z; cases z
theorem call_out {S ι ι₂ : List Addr} {s s₁ s₂ : Shared} {H₂ : Hp} {h₁ : Heap} {t₁ : Nat} (hs₁ : s₁ = { s with heap := h₁,toks := t₁ }) (keep : ∀ a o,s.heap.get? a = some o → s₁.heap.get? a = some o) (hi : ∀ a ∈ S,s.heap.get? a = none) (p₂ : PostS P.B S ι s₁ ι₂ H₂ s₂) : Post P.B ι s ι₂ H₂ s₂ :=
  ⟨p₂.pre,p₂.hr,fun a o eo hn=>p₂.kept a o (keep a o eo) fun m=>(List.mem_append.mp m).elim (fun z=>by have := hi a z; rw [eo] at this; cases this) hn,fun a ha=>(p₂.new a ha).imp id (back_none keep),x2_1 p₂.same fun h₂ t₂ hs₂=>⟨h₂,t₂,by rw [hs₂,hs₁]⟩⟩
theorem fr_dict {A : Around} {B h : Heap} {ι : List Addr} {fl : List Env} (hfl : ∀ env ∈ fl,env.scope.kind ≠ .module ∧ ∃ L o,env.frame = some L ∧ B.get? L = Option.none ∧ h.get? L = some o ∧ (∃ es n,o.data = .dict es n) ∧ L ∉ ι) :
    ∀ a ∈ fAs fl,∀ o,h.get? a = some o → ∃ es n,o.data = .dict es n := fun a ha o eo =>
  x1_2 (List.mem_filterMap.mp ha) fun en hen q=>x2_5 (hfl en hen).2 fun L o' h1 _ h3 h4 _=>by
    rw [q] at h1
    have := Option.some.inj h1; subst this
    have := Option.some.inj (eo.symm.trans h3); subst this
    exact h4
theorem call_exc {A : Around} {env : Env} {ι ι' : List Addr} {s s₁ s' : Shared} {H' : Hp} {S : List Addr} {fl : List Env} {e' : Value} {c : Str} {R : Value → Shared → Prop} (hdf : (A.deeper env).frames = some (env :: fl)) (ef : env.frame = some env.locals) (hx : XPost P (env :: fl) S ι s₁ ι' H' s' e' c ∨ XMade P (env :: fl) S ι s₁ ι' H' s' e' c)
    (out : ∀ base h',XLeft P.B (env :: fl) S ι s₁ ι' H' base s' → base.StaysIn h' → s'.heap.UpToSlots h' → XLeft P.B fl [] ι s ι' H' base { s' with heap := h' }) (hR : ∀ s'',XPost P fl [] ι s ι' H' s'' e' c → R e' s'') :
    wpAny (model P.prog P.w) (A.deeper env) (leaving env e') (fun _ s''=>R e' s'') (fun e s''=>R e s'') s' := by
  rcases hx with ⟨ea,base,D,rfl,hD,xl,⟨a0,hf⟩,nc⟩ | ⟨ea,base,D,rfl,hD,xl,hh,vs',hb,hfr,hm⟩
  · refine wpAny_mono (calm_leaving.any nc (wpAny_leaves_onW (Q := fun _ s''=>∃ h',s'' = { s' with heap := h' } ∧ Heap.FlyingW base fl ea (.ref D) a0 h' ∧ s'.heap.UpToSlots h') hdf ef hf fun h' hf' up=>⟨h',rfl,hf',up⟩)) (fun _ s'' g=>?_) fun _ _ x=>x
    refine x0_2 (g) fun qQ0 nc'=>?_
    clear g
    obtain ⟨h',rfl,hf',up⟩ := qQ0
    exact hR _ ⟨ea,base,D,rfl,hD,out base h' xl hf'.1 up,⟨a0,hf'⟩,nc'⟩
  · have nc : NoCtx ea s'.heap := x1_2 hm.there fun t he _=>⟨_,_,he,rfl,rfl⟩
    refine wpAny_mono (calm_leaving.any nc (wpAny_leaves_madeW (Q := fun _ s''=>∃ h' t,s'' = { s' with heap := h' } ∧ Heap.FlyingW base fl ea (.ref D) (.ref t) h' ∧ s'.heap.UpToSlots h') hdf ef hb hfr hm fun h' t hf' _ _ up=>⟨h',t,rfl,hf',up⟩)) (fun _ s'' g=>?_) fun _ _ x=>x
    refine x0_2 (g) fun qQ0 nc'=>?_
    clear g
    obtain ⟨h',t,rfl,hf',up⟩ := qQ0
    exact hR _ ⟨ea,base,D,rfl,hD,out base h' xl hf'.1 up,⟨_,hf'⟩,nc'⟩
theorem callX_of {x : Str} {params : List Str} {body : List Stmt} {args : List AV} {Q : AV → Hp → Prop} (ok : P.OK) (fn : FnAt P x C params body) (good : C.good params = true) (hl : args.length = params.length)
    (h : ExsX P C d body (start C args) H (endX Q X)) : CallOK P (d + 1) x args H Q X := fun A ι s vs fa R e w r hR hX=>by
  refine x3_5 (fn.ex) fun fa' o fd h1 h2 h3 h4 qQ7=>?_
  have := Value.ref.inj (Option.some.inj (e.symm.trans h1))
  subst this
  refine x0_5 qQ7 fun h5 h6 h7 h8 q=>x0_5 q fun h9 h10 h11 h12 h13=>?_
  clear q qQ7 h1
  simp only [Ctx.good,Bool.and_eq_true,List.all_eq_true,decide_eq_true_eq] at good
  have g1 := good.1.1.1
  have g2 := good.1.1.2
  refine (List.isPrefixOf_iff_prefix.mp good.1.2).elim fun rest hrest=>?_
  clear good
  have hlv : vs.length = params.length := r.length.trans hl
  have kinds : ∀ y,some y ∈ C.vars → C.names.lookup y = some .local ∨ C.names.lookup y = some .cell := fun y hy=>by
    have := g1 _ hy
    simpa using this
  have pnd : params.Nodup := by
    rw [← hrest] at g2
    exact (List.pairwise_map.mp (List.nodup_append.mp g2).1).imp fun hne hxy=>hne (congrArg some hxy)
  have kc : ∀ {n : Nat} y,C.names.lookup y = some .cell → ∃ c,(cellsFrom n fd.scope.names []).lookup y = some c := fun y hy =>
    (cellsFrom_mem (n := _) (acc := []) (.inl (h5 ▸ mem_of_lookupK hy))).elim fun c hc=>lookup_of_mem hc
  refine codeAny_call_cells (fd := fd) (body := body) (binds := params.zip vs) (Nat.lt_of_le_of_lt (Nat.le_add_right _ _) w.room.depth) (w.hr.base _ _ h2) h3 (ok.nolimit.keeps w.hr.base) (h12.keeps w.hr.base) h4 (h13 vs hlv) h9 (fun y hy=>?_) (fun s₁ ic=>?_) h7 h8 h6
  · have hy1 : y.1 ∈ params := (List.of_mem_zip (show (y.1,y.2) ∈ params.zip vs from hy)).1
    have h5' : fd.scope.names.lookup y.1 = C.names.lookup y.1 := by rw [h5]
    rw [h5']
    exact (kinds _ (by rw [← hrest]; exact List.mem_append.mpr (.inl (List.mem_map.mpr ⟨_,hy1,rfl⟩)))).imp id fun q=>⟨q,(kc _ q).elim fun c hc=>by rw [hc]; rfl⟩
  · generalize hen : callEnvC fd s.heap.objs.size fa = env at ic ⊢
    have el : env.locals = s.heap.objs.size := by rw [← hen]; rfl
    have ef : env.frame = some env.locals := by rw [← hen]; rfl
    have keep := ic.toInCall.keep
    refine x2_1 (ic.toInCall.same) fun h₁ t₁ hs₁=>x1_2 w.fr fun fl efl hfl=>?_
    have p₁ : Post P.B ι s ι H s₁ := by rw [hs₁]; exact Post.keep w.hr (by rw [hs₁] at keep; exact keep)
    have nn : ∀ a,env.locals ≤ a → s.heap.get? a = none := fun a ha=>by
      cases z : s.heap.get? a with
      | none=>rfl
      | some o=>exact absurd (Heap.lt_size z) (Nat.not_lt.mpr (el ▸ ha))
    have envR : EnvR P.B C env ι s₁.heap (start C args) := by
      refine call_envR hrest hl kinds pnd (by rw [← hen]; exact h6) (by rw [← hen]; exact h5) (by rw [← hen]; exact h10) (by rw [← hen]; exact h11) (fun a ha=>⟨fun m=>?_,?_⟩) ic (fun y hy=>by rw [← hen]; exact kc y hy) (p₁.vrs w.hr r)
      · exact (w.hr.mem m).elim fun o eo=>by rw [nn a ha] at eo; cases eo
      · cases z : P.B.get? a with
        | none=>rfl
        | some o=>have := w.hr.base a o z; rw [nn a ha] at this; cases this
    have hi : ∀ a ∈ own C env,s.heap.get? a = none := fun a ha=>(mem_own ha).elim (fun q=>nn a (Nat.le_of_eq q.symm)) fun q=>x1_2 q fun y _ q=>nn a (Nat.le_of_lt (ic.above y a (mem_of_lookup q)))
    have hdf : (A.deeper env).frames = some (env :: fl) := by show A.frames.map _ = _; rw [efl]; rfl
    clear hen
    refine gs (h (A.deeper env) _ env ι s₁ (call_w w p₁ ef envR) envR ⟨ef,fl,hdf⟩ fun l' hl' e' s' ι' H' loc' c hx _ hc=>?_) fun f s₂ ι₂ H₂ loc₂ fl p₂ e₂ r₂ g=>?_
    · have := Option.some.inj (hdf.symm.trans hl')
      subst this
      exact call_exc (R := fun e s=>R (.error e) s) hdf ef hx (fun base h' xl st up=>xl.out ef keep hi (nn _ (Nat.le_refl _)) ⟨h₁,t₁,hs₁⟩ (fr_dict (A := A) hfl) st up) fun s'' q=>hX fl efl _ _ ι' H' c q hc
    · have pp := call_out hs₁ keep hi p₂
      cases fl with
      | next=>cases r₂; exact hR .none s₂ ⟨ι₂,H₂,.none,pp,rfl,g⟩
      | brk=>exact g.elim
      | cont=>exact g.elim
      | ret v=>exact x1_2 r₂ fun u hu ru=>by subst hu; exact hR u s₂ ⟨ι₂,H₂,v,pp,ru,g⟩
      | exc c=>exact r₂.elim
theorem callOK_of {x : Str} {params : List Str} {body : List Stmt} {args : List AV} {Q : AV → Hp → Prop} (ok : P.OK) (fn : FnAt P x C params body) (good : C.good params = true) (hl : args.length = params.length)
    (h : ExsOK P C d body (start C args) H (endOf Q)) : CallOK P (d + 1) x args H Q X :=
  CallOK.x (callX_of ok fn good hl fun A E env ι s w e _ _=>wpAny_mono (h A E env ι s w e) (fun f s' g=>by
    obtain ⟨ι',H',loc',fl,p,e',r,g⟩ := g
    refine ⟨ι',H',loc',fl,p,e',r,?_⟩
    cases fl with
    | exc c=>exact r.elim
    | _=>exact g) fun _ _ x=>x)
end Mine
namespace Mine
open PySem
variable {P : PEnv} {C : Ctx} {d : Nat} {loc : Loc} {H : Hp} {X : XP}
noncomputable def plainArgs (es : List Expr) : Prop := ∀ env pos,(backTo pos (starEach es env)).any (·.1) = false
theorem ev_call {x : Str} {pn pos : Pos} {e0 : Expr} {es : List Expr} {Q : AV → Hp → Prop} (ok : P.OK) (hk : C.names.lookup x = some .globalImplicit) (hd : (x == ("__debug__" : Str)) = false)
    {fa : Addr} {o : Obj} {fd : FuncData} (hg : P.mg x = some (.ref fa)) (ho : P.B.get? fa = some o) (hf : o.data = .func fd)
    (h : EvsOK P C d (e0 :: es) loc H (fun args H'=>CallOK P d x args H' Q X) X) (he : ∀ env,starEach (e0 :: es) env = (false,eval e0 env) :: starEach es env) :
    EvOK P C d (.Call (.Name x pn) (e0 :: es) [] pos) loc H Q X := fun A E env ι s w e a=>by
  refine PyProof.Rows.Call_ (Calls.Name_function_global e.kind (by unfold Env.kindOf; rw [e.names]; exact hk) (Calls.loadGlobal_global (e.glob ▸ ok.g.keeps fun b o e=>w.hr.base b o e) hg ?_) hd)
  refine PyProof.Rows.callWith_def (o := o) (fd := fd) hf (gll (h A E env ι s pos w e a) (fun vs s₁ ι₁ H₁ l p₁ r₁ g=>?_)) (he env)
  refine ⟨p₁.hr.base _ _ ho,wpAny_call (g A ι₁ s₁ vs fa _ hg (w.step p₁) r₁ (fun v s' gv=>gv.before p₁) ?_)⟩
  exact a.step p₁
theorem ev_bi {x : Str} {id : String} {pn pos : Pos} {e0 : Expr} {es : List Expr} {Q : AV → Hp → Prop} (ok : P.OK) (hk : C.names.lookup x = some .globalImplicit) (hd : (x == ("__debug__" : Str)) = false)
    (hg : P.mg x = none) (hb : P.mb x = some (.builtin id))
    (h : EvsOK P C d (e0 :: es) loc H (fun args H'=>OpOK P d (fun vs=>call (.builtin id) vs) args H' Q) X) (he : ∀ env,starEach (e0 :: es) env = (false,eval e0 env) :: starEach es env) (hp : plainArgs es) :
    EvOK P C d (.Call (.Name x pn) (e0 :: es) [] pos) loc H Q X := fun A E env ι s w e a=>by
  refine PyProof.Rows.Call_ (Calls.Name_function_global e.kind (by unfold Env.kindOf; rw [e.names]; exact hk) (Calls.loadGlobal_builtin (e.glob ▸ ok.g.keeps fun b o e=>w.hr.base b o e) hg (e.blt ▸ ok.b.keeps fun b o e=>w.hr.base b o e) hb ?_) hd)
  refine PyProof.Rows.callWith_builtin1 (gll (h A E env ι s pos w e a) (fun vs s₁ ι₁ H₁ l p₁ r₁ g=>?_)) (he env) (hp env pos)
  exact wpAny_mono (g A E ι₁ s₁ vs (w.step p₁) r₁) (fun v s' gv=>gv.before p₁) fun _ _ x=>x
theorem ev_ty {x : Str} {T : String} {pn pos : Pos} {e0 : Expr} {es : List Expr} {Q : AV → Hp → Prop} (ok : P.OK) (hk : C.names.lookup x = some .globalImplicit) (hd : (x == ("__debug__" : Str)) = false)
    (hg : P.mg x = none) (hb : P.mb x = some (.type T))
    (h : EvsOK P C d (e0 :: es) loc H (fun args H'=>OpOK P d (fun vs=>call (.type T) vs) args H' Q) X) (he : ∀ env,starEach (e0 :: es) env = (false,eval e0 env) :: starEach es env) (hp : plainArgs es) :
    EvOK P C d (.Call (.Name x pn) (e0 :: es) [] pos) loc H Q X := fun A E env ι s w e a=>by
  refine PyProof.Rows.Call_ (Calls.Name_function_global e.kind (by unfold Env.kindOf; rw [e.names]; exact hk) (Calls.loadGlobal_builtin (e.glob ▸ ok.g.keeps fun b o e=>w.hr.base b o e) hg (e.blt ▸ ok.b.keeps fun b o e=>w.hr.base b o e) hb ?_) hd)
  refine PyProof.Rows.callWith_type1 (gll (h A E env ι s pos w e a) (fun vs s₁ ι₁ H₁ l p₁ r₁ g=>?_)) (he env) (hp env pos)
  exact wpAny_mono (g A E ι₁ s₁ vs (w.step p₁) r₁) (fun v s' gv=>gv.before p₁) fun _ _ x=>x
theorem ev_isi {x y : Str} {id : String} {tv : Value} {pn pt pos : Pos} {e0 : Expr} {Q : AV → Hp → Prop} (ok : P.OK) (hk : C.names.lookup x = some .globalImplicit) (hd : (x == ("__debug__" : Str)) = false)
    (hg : P.mg x = none) (hb : P.mb x = some (.builtin id)) (hk' : C.names.lookup y = some .globalImplicit) (hd' : (y == ("__debug__" : Str)) = false) (hty : P.mg y = some tv ∨ (P.mg y = none ∧ P.mb y = some tv))
    (h : EvOK P C d e0 loc H (fun v H'=>OpOK P d (fun vs=>call (.builtin id) [vs.getD 0 .none,tv]) [v] H' Q) X) (he : ∀ env,starEach [e0,.Name y pt] env = (false,eval e0 env) :: starEach [.Name y pt] env) :
    EvOK P C d (.Call (.Name x pn) [e0,.Name y pt] [] pos) loc H Q X := fun A E env ι s w e a=>by
  refine PyProof.Rows.Call_ (Calls.Name_function_global e.kind (by unfold Env.kindOf; rw [e.names]; exact hk) (Calls.loadGlobal_builtin (e.glob ▸ ok.g.keeps fun b o e=>w.hr.base b o e) hg (e.blt ▸ ok.b.keeps fun b o e=>w.hr.base b o e) hb ?_) hd)
  refine PyProof.Rows.callWith_builtin1 ?_ (he env) rfl
  refine wpAny_items_cons (gv (h A E env ι s w e a) (fun v s₁ ι₁ H₁ l p₁ r₁ g=>?_)) (he env)
  have e₁ := e.step w.hr p₁
  refine wpAny_items_cons (Calls.Name_function_global e₁.kind (by unfold Env.kindOf; rw [e₁.names]; exact hk') ?_ hd') rfl
  have fin : wpAny (model P.prog P.w) A (spliced (backTo pos (starEach [] env))) (fun vs s₂=>wpAny (model P.prog P.w) A (call (.builtin id) (v :: tv :: vs)) (Gives P.B ι s Q) E s₂) E s₁ :=
    wpAny_items_nil (wpAny_mono (g A E ι₁ s₁ [v] (w.step p₁) ⟨_,_,rfl,r₁,rfl⟩) (fun _ _ gv=>gv.before p₁) fun _ _ x=>x)
  rcases hty with q | ⟨q1,q2⟩
  · exact Calls.loadGlobal_global (e₁.glob ▸ ok.g.keeps fun b o e=>p₁.hr.base b o e) q fin
  · exact Calls.loadGlobal_builtin (e₁.glob ▸ ok.g.keeps fun b o e=>p₁.hr.base b o e) q1 (e₁.blt ▸ ok.b.keeps fun b o e=>p₁.hr.base b o e) q2 fin
noncomputable def MethIs (P : PEnv) (x : AV) (H : Hp) (name : Str) (id : String) : Prop :=
  ∀ A E ι s v (pl : Sem Bool) (Q : Value × List Value → Shared → Prop),HR P.B ι H s.heap → VR P.B s.heap ι x v → Q (.builtin id,[v]) s → wpAny (model P.prog P.w) A (getMethod v name pl) Q E s
theorem ev_meth0 {o : Expr} {name : Str} {apos pos : Pos} {pl : Env → Sem Bool} {Q : AV → Hp → Prop}
    (h : EvOK P C d o loc H (fun x H₁=>∃ id,MethIs P x H₁ name id ∧ OpOK P d (fun vs=>call (.builtin id) vs) [x] H₁ Q) X)
    (he : ∀ env,eval (.Call (.Attribute o name apos) [] [] pos) env = (do
      let ov ← eval o env
      standAt apos.atName
      let (f,first) ← holding [ov] (getMethod ov name (pl env))
      callWith pos f first (backTo pos (starEach [] env)) [])) :
    EvOK P C d (.Call (.Attribute o name apos) [] [] pos) loc H Q X := fun A E env ι s w e a=>by
  refine PyProof.Rows.MethodCall_ (gv (h A E env ι s w e a) (fun v s₁ ι₁ H₁ x p₁ r₁ g=>?_)) (he env)
  refine x1_2 (g) fun id hm g=>?_
  refine hm A E ι₁ s₁ v _ _ p₁.hr r₁ ?_
  refine PyProof.Rows.callWith_method0 (wpAny_mono (g A E ι₁ s₁ [v] (w.step p₁) ⟨_,_,rfl,r₁,rfl⟩) (fun _ _ gv=>gv.before p₁) fun _ _ x=>x)
theorem ev_meth {o : Expr} {name : Str} {apos pos : Pos} {e0 : Expr} {es : List Expr} {pl : Env → Sem Bool} {Q : AV → Hp → Prop}
    (h : EvOK P C d o loc H (fun x H₁=>∃ id,MethIs P x H₁ name id ∧ EvsOK P C d (e0 :: es) loc H₁ (fun args H₂=>OpOK P d (fun vs=>call (.builtin id) vs) (x :: args) H₂ Q) X) X)
    (he : ∀ env,eval (.Call (.Attribute o name apos) (e0 :: es) [] pos) env = (do
      let ov ← eval o env
      standAt apos.atName
      let (f,first) ← holding [ov] (getMethod ov name (pl env))
      callWith pos f first (backTo pos (starEach (e0 :: es) env)) []))
    (hs : ∀ env,starEach (e0 :: es) env = (false,eval e0 env) :: starEach es env) (hp : plainArgs es) :
    EvOK P C d (.Call (.Attribute o name apos) (e0 :: es) [] pos) loc H Q X := fun A E env ι s w e a=>by
  refine PyProof.Rows.MethodCall_ (gv (h A E env ι s w e a) (fun v s₁ ι₁ H₁ x p₁ r₁ g=>?_)) (he env)
  refine x1_2 (g) fun id hm g=>?_
  refine hm A E ι₁ s₁ v _ _ p₁.hr r₁ ?_
  refine PyProof.Rows.callWith_method1 (gll (g A E env ι₁ s₁ pos (w.step p₁) (e.step w.hr p₁) (a.step p₁)) (fun vs s₂ ι₂ H₂ l p₂ r₂ g=>?_)) (hs env) (hp env pos)
  exact wpAny_mono (g A E ι₂ s₂ (v :: vs) ((w.step p₁).step p₂) ⟨_,_,rfl,p₂.vr p₁.hr r₁,r₂⟩) (fun _ _ gv=>(gv.before p₂).before p₁) fun _ _ x=>x
end Mine
namespace Mine
open PySem
variable {P : PEnv} {C : Ctx} {d : Nat} {loc : Loc} {H : Hp} {X : XP}
theorem Post.off {B : Heap} {ι ι' T : List Addr} {H' : Hp} {s s' : Shared} {h' : Heap} {t : Nat} (p : Post B ι s ι' H' s') (ext : ∀ b o,b ∉ T → s'.heap.get? b = some o → h'.get? b = some o) (nt : NoTup T s'.heap) (ho : ∀ a ∈ T,a ∉ ι')
    (hn : ∀ a ∈ T,s.heap.get? a = none) (hb : ∀ a ∈ T,B.get? a = none) : Post B ι s ι' H' { s' with heap := h',toks := t } :=
  ⟨p.pre,p.hr.off ext nt ho hb,fun a o eo hna=>x1_2 (p.kept a o eo hna) fun sl e1 q1=>⟨sl,ext a _ (fun m=>absent (hn a m) eo) e1,q1⟩,p.new,x2_1 p.same fun h₃ t₃ e=>⟨h',t,by rw [e]⟩⟩
theorem Post.gone {B : Heap} {ι ι' : List Addr} {H' : Hp} {s s' : Shared} (p : Post B ι s ι' H' s') {b : Addr} (hb : s'.heap.get? b = none) : s.heap.get? b = none := by
  cases z : s.heap.get? b with
  | none=>rfl
  | some o =>
    by_cases hi : b ∈ ι
    · exact (p.hr.mem (p.pre.subset hi)).elim fun o' eo'=>absent hb eo'
    · exact x1_2 (p.kept b o z hi) fun sl e1 _=>absent hb e1
noncomputable def relab (outer names : List (Str × NameKind)) : List (Str × NameKind) := names.map fun (n,k)=>if (k == .free && outer.lookup n == some .cell) then (n,.cell) else (n,k)
noncomputable def compCtx (C : Ctx) (scope : Scope) (locals : List Str) : Ctx where
  vars := (C.vars.map fun o=>o.bind fun x=>if scope.names.lookup x == some .free then some x else none) ++ locals.map some
  names := relab C.names scope.names
  ro := C.vars.length
noncomputable def compGood (C : Ctx) (scope : Scope) (locals : List Str) : Bool :=
  decide (scope.kind = .function) && decide ((scope.names.map (·.1)).Nodup) && scope.names.all (fun x=>decide (x.2 ≠ .cell)) &&
  scope.names.all (fun x=>x.2 != .free || (C.vars.contains (some x.1) && (C.names.lookup x.1 == some .cell || C.names.lookup x.1 == some .free) && ((relab C.names scope.names).lookup x.1 == some .cell || (relab C.names scope.names).lookup x.1 == some .free))) &&
  locals.all (fun x=>scope.names.lookup x == some .local && (relab C.names scope.names).lookup x == some .local) && decide (locals.Nodup)
theorem lookup_mem {x : Str} {k : NameKind} : ∀ {l : List (Str × NameKind)},(l.map (·.1)).Nodup → (x,k) ∈ l → l.lookup x = some k
  | (n,u) :: r,nd,h=>by
    rw [List.lookup_cons]
    have := List.nodup_cons.mp nd
    rcases List.mem_cons.mp h with e | m
    · rw [(Prod.mk.inj e).1,(Prod.mk.inj e).2]; simp
    · have hx : x ≠ n := fun e=>this.1 (e ▸ List.mem_map.mpr ⟨(x,k),m,rfl⟩)
      have : (x == n) = false := by simpa using hx
      rw [this]
      exact lookup_mem (List.nodup_cons.mp nd).2 m
theorem closure_is {env : Env} : ∀ (names : List (Str × NameKind)) (acc : List (Str × Addr)),(∀ x,(x,NameKind.free) ∈ names → ∃ c,env.cells.lookup x = some c) → (∀ y ∈ acc,env.cells.lookup y.1 = some y.2) →
    ∃ cl : List (Str × Addr),(forIn names acc (fun (x : Str × NameKind) (cs : List (Str × Addr))=>(if x.2 == .free then (do let c ← cellOf env x.1; pure (ForInStep.yield ((x.1,c) :: cs))) else pure (ForInStep.yield cs) : Sem (ForInStep (List (Str × Addr))))) = pure cl) ∧
      (∀ y ∈ cl,env.cells.lookup y.1 = some y.2) ∧ (∀ x,((x,NameKind.free) ∈ names ∨ ∃ c,(x,c) ∈ acc) ↔ ∃ c,(x,c) ∈ cl)
  | [],acc,_,ha=>⟨acc,rfl,ha,fun x=>by simp⟩
  | (n,k) :: r,acc,hf,ha=>by
    rw [List.forIn_cons]
    cases hk : k == NameKind.free with
    | true =>
      have hk' : k = .free := by simpa using hk
      subst hk'
      refine x1_1 (hf n (List.mem_cons_self ..)) fun c hc=>?_
      obtain ⟨cl,e,h1,h2⟩ := closure_is r ((n,c) :: acc) (fun x hx=>hf x (List.mem_cons_of_mem _ hx)) (fun y hy=>(List.mem_cons.mp hy).elim (fun e=>by rw [e]; exact hc) (ha y))
      refine ⟨cl,?_,h1,fun x=>?_⟩
      · have : cellOf env n = pure c := by unfold cellOf; rw [hc]
        simp only [if_true,this]
        exact e
      · rw [← h2 x]
        constructor
        · rintro (h | ⟨c',h⟩)
          · rcases List.mem_cons.mp h with e | m
            · exact .inr ⟨c,by rw [(Prod.mk.inj e).1]; exact List.mem_cons_self ..⟩
            · exact .inl m
          · exact .inr ⟨c',List.mem_cons_of_mem _ h⟩
        · rintro (h | ⟨c',h⟩)
          · exact .inl (List.mem_cons_of_mem _ h)
          · rcases List.mem_cons.mp h with e | m
            · exact .inl (by rw [(Prod.mk.inj e).1]; exact List.mem_cons_self ..)
            · exact .inr ⟨c',m⟩
    | false =>
      refine x1_3 (closure_is r acc (fun x hx=>hf x (List.mem_cons_of_mem _ hx)) ha) fun cl e h1 h2=>?_
      refine ⟨cl,?_,h1,fun x=>?_⟩
      · simp only [Bool.false_eq_true,if_false]
        exact e
      · rw [← h2 x]
        constructor
        · rintro (h | h)
          · rcases List.mem_cons.mp h with e | m
            · rw [← (Prod.mk.inj e).2] at hk; simp at hk
            · exact .inl m
          · exact .inr h
        · rintro (h | h)
          · exact .inl (List.mem_cons_of_mem _ h)
          · exact .inr h
theorem closure_ex {env : Env} {scope : Scope} (hf : ∀ x,(x,NameKind.free) ∈ scope.names → ∃ c,env.cells.lookup x = some c) :
    ∃ cl : List (Str × Addr),closureFor scope env = pure cl ∧ (∀ y ∈ cl,env.cells.lookup y.1 = some y.2) ∧ ∀ x,(x,NameKind.free) ∈ scope.names ↔ ∃ c,(x,c) ∈ cl := by
  refine x1_3 (closure_is (env := env) scope.names [] hf (fun _ h=>nomatch h)) fun cl e h1 h2=>?_
  refine ⟨cl,?_,h1,fun x=>?_⟩
  · show (forIn scope.names ([] : List (Str × Addr)) (fun (x : Str × NameKind) (cs : List (Str × Addr))=>(if x.2 == .free then (do let c ← cellOf env x.1; pure (ForInStep.yield ((x.1,c) :: cs))) else pure (ForInStep.yield cs) : Sem (ForInStep (List (Str × Addr))))) >>= fun cs=>pure cs) = pure cl
    rw [e]; rfl
  · have := h2 x
    simpa using this
noncomputable def CompR (M : Model) (A : Around) (F : Value → Shared → Prop) (elt target : Expr) (ifs : List Expr) (it acc : Value) (env : Env) (stop nxt : Shared → Prop) (r : Option Value) (s₁ : Shared) : Prop := match r with
  | none=>stop s₁
  | some v=>wpAny M A (letOwnedTupleGo target it v) (fun _ s₁'=>wpAny M A (assign target env v) (fun _ s₂ =>
      wpAny M A (forIn ifs true fun c r=>if r = true then do let ok ← isTrue c env (eval c env); pure (ForInStep.yield ok) else pure (ForInStep.yield r)) (fun ok s₃ =>
        if ok = true then wpAny M A (eval elt env) (fun x s₄=>wpAny M A (call (.builtin "list.append") [acc,x]) (fun _ s₅=>nxt s₅) F s₄) F s₃ else nxt s₃) F s₂) F s₁') F s₁
theorem compLoop_go {prog : Program} {w : World} {A : Around} {R : Result → Shared → Prop} {s : Shared} {elt target iter : Expr} {ifs : List Expr} {scope : Scope} {pos : Pos} {it acc : Value} {env : Env} (I : Nat → Shared → Prop)
    (turn : ∀ n s F,I n s → wpAny (model prog w) A (pyNext it) (CompR (model prog w) A F elt target ifs it acc env (R (.ok .next)) fun s₅=>∃ m,m < n ∧ I m s₅) F s)
    (n : Nat) (h : I n s) : codeAny (model prog w) A (.compLoop (.ListComp elt [⟨target,iter,ifs,0⟩] scope pos) 0 it acc env) R s := by
  refine codeAny_loop rfl I (fun n s hI=>?_) n h
  show wpAny _ A ((compTurn (.ListComp elt [⟨target,iter,ifs,0⟩] scope pos) 0 it acc env).onRaise (fun x=>do noteFrame x env; theTreesLotGoes x)) _ _ s
  refine wpAny_noted ?_
  rw [compTurn_list]
  refine wpAny_bind (wpAny_standAt (wpAny_bind (wpAny_mono (turn n s _ hI) (fun r s₁ h₁=>?_) fun _ _ h'=>h')))
  cases r with
  | none=>exact wpAny_pure h₁
  | some v =>
    refine wpAny_bind (wpAny_mono h₁ (fun _ s₁' h₁'=>?_) fun _ _ h'=>h')
    refine wpAny_bind (wpAny_mono h₁' (fun _ s₂ h₂=>wpAny_bind (wpAny_mono h₂ (fun ok s₃ h₃=>?_) fun _ _ h'=>h')) fun _ _ h'=>h')
    cases ok with
    | false=>exact wpAny_pure ⟨rfl,h₃⟩
    | true=>exact wpAny_bind (wpAny_bind (wpAny_mono h₃ (fun x s₄ h₄=>wpAny_bind (wpAny_mono h₄ (fun _ s₅ h₅=>wpAny_pure (wpAny_pure ⟨rfl,h₅⟩)) fun _ _ h'=>h')) fun _ _ h'=>h'))
noncomputable def CondOK (P : PEnv) (C : Ctx) (d : Nat) (ifs : List Expr) (loc : Loc) (H : Hp) (K : Bool → Hp → Prop) : Prop :=
  match ifs with
  | []=>K true H
  | [c]=>TsOK P C d c loc H K XF
  | _=>False
theorem cond_ok {A : Around} {E : Value → Shared → Prop} {env : Env} {ι : List Addr} {s : Shared} {ifs : List Expr} {K : Bool → Hp → Prop} (w : W P.B A d ι H s) (e : EnvR P.B C env ι s.heap loc) (h : CondOK P C d ifs loc H K) :
    wpAny (model P.prog P.w) A (forIn ifs true fun c r=>if r = true then do let ok ← isTrue c env (eval c env); pure (ForInStep.yield ok) else pure (ForInStep.yield r)) (GivesB P.B ι s K) E s := by
  match ifs,h with
  | [],h=>exact wpAny_tests_nil ⟨ι,H,Post.id w.hr,h⟩
  | [c],h=>exact wpAny_tests_one (h A E env ι s w e Acc.no)
structure CompOK (C : Ctx) (scope : Scope) (locals : List Str) : Prop where
  kind : scope.kind = .function
  nodup : (scope.names.map (·.1)).Nodup
  nocell : ∀ x ∈ scope.names,x.2 ≠ .cell
  free : ∀ x,(x,NameKind.free) ∈ scope.names → some x ∈ C.vars ∧ (C.names.lookup x = some .cell ∨ C.names.lookup x = some .free) ∧ ((relab C.names scope.names).lookup x = some .cell ∨ (relab C.names scope.names).lookup x = some .free)
  locs : ∀ x ∈ locals,scope.names.lookup x = some .local ∧ (relab C.names scope.names).lookup x = some .local
  lnd : locals.Nodup
theorem compGood_ok {C : Ctx} {scope : Scope} {locals : List Str} (h : compGood C scope locals = true) : CompOK C scope locals := by
  simp only [compGood,Bool.and_eq_true,decide_eq_true_eq,List.all_eq_true] at h
  refine x0_2 (h) fun qQ0 h6=>?_
  clear h
  obtain ⟨⟨⟨⟨h1,h2⟩,h3⟩,h4⟩,h5⟩ := qQ0
  refine ⟨h1,h2,fun x hx=>by simpa using h3 x hx,fun x hx=>?_,fun x hx=>by simpa using h5 x hx,h6⟩
  have := h4 _ hx
  simpa [and_assoc] using this
structure CpS (P : PEnv) (C' : Ctx) (cenv : Env) (ι₁ : List Addr) (H₁ : Hp) (s₁ : Shared) (wr : List Addr) (D Ca : Addr) : Prop where
  hr : HR P.B ι₁ H₁ s₁.heap
  capd : ∀ x c,cenv.cells.lookup x = some c → ∃ o,s₁.heap.get? c = some o
  ownC : ∀ b ∈ own C' cenv,b = Ca
  wrn : ∀ a ∈ wr,s₁.heap.get? a = none
  wrD : ∀ b ∈ wr,b ≠ D ∧ b ≠ Ca
  nD : s₁.heap.get? D = none
  nC : s₁.heap.get? Ca = none
  ne : D ≠ Ca
  loc : cenv.locals = Ca
structure CpA (P : PEnv) (C' : Ctx) (cenv : Env) (ι₁ : List Addr) (s₁ : Shared) (wr : List Addr) (D : Addr) (l : List AV) (vs : List Value) (ι' : List Addr) (H' : Hp) (s' : Shared) (lc : Loc) : Prop where
  p : Post P.B ι₁ s₁ ι' H' s'
  e : EnvR P.B C' cenv ι' s'.heap lc
  pl : s'.heap.PlainList D (List.toArray vs)
  rl : VRs P.B s'.heap ι' l vs
  wrO : ∀ b ∈ wr,b ∉ ι'
  dO : D ∉ ι'
section
variable {C' : Ctx} {cenv : Env} {ι₁ : List Addr} {H₁ : Hp} {s₁ : Shared} {wr : List Addr} {D Ca : Addr} {l : List AV} {vs : List Value} {ι' : List Addr} {H' : Hp} {s' : Shared} {lc : Loc}
theorem CpA.off (a : CpA P C' cenv ι₁ s₁ wr D l vs ι' H' s' lc) (S : CpS P C' cenv ι₁ H₁ s₁ wr D Ca) {h' : Heap} {t : Nat} (nt : NoTup wr s'.heap) (ext : ∀ b o,b ∉ wr → s'.heap.get? b = some o → h'.get? b = some o) :
    CpA P C' cenv ι₁ s₁ wr D l vs ι' H' { s' with heap := h',toks := t } lc :=
  ⟨a.p.off ext nt a.wrO S.wrn fun b hb=>S.hr.noB (S.wrn b hb),a.e.off ext nt (fun m=>(S.wrD _ m).2 S.loc) (fun x c _ hc m=>(S.capd x c hc).elim fun o eo=>absent (S.wrn c m) eo),
    a.pl.at fun o eo=>ext D o (fun m=>(S.wrD D m).1 rfl) eo,VRs.mono (Kept.of_keeps ext) nt (List.prefix_refl _) _ _ a.rl,a.wrO,a.dO⟩
theorem keepD {S : List Addr} {ha hb : Heap} {us : List Value} (kp : Kept S ha hb) (hn : D ∉ S) (q : ha.PlainList D (List.toArray us)) : hb.PlainList D (List.toArray us) := q.elim fun n eo=>⟨n,kp.exact eo hn fun _ _ z=>by cases z⟩
theorem CpS.own (S : CpS P C' cenv ι₁ H₁ s₁ wr D Ca) {b : Addr} (hb : b ∈ own C' cenv ++ ι') : b = Ca ∨ b ∈ ι' := (List.mem_append.mp hb).imp (S.ownC b) id
theorem CpA.tgt (a : CpA P C' cenv ι₁ s₁ wr D l vs ι' H' s' lc) (S : CpS P C' cenv ι₁ H₁ s₁ wr D Ca) {s₂ : Shared} {lc' : Loc} (q : PostS P.B (own C' cenv) ι' s' ι' H' s₂) (e : EnvR P.B C' cenv ι' s₂.heap lc') : CpA P C' cenv ι₁ s₁ wr D l vs ι' H' s₂ lc' :=
  ⟨⟨a.p.pre,q.hr,fun b o eo hn=>x1_2 (a.p.kept b o eo hn) fun sl e1 z1=>x1_2 (q.kept b _ e1 fun m=>(S.own m).elim (fun z=>absent S.nC (z ▸ eo)) fun z=>(a.p.new b z).elim hn fun u=>absent u eo) fun sl' e2 z2=>⟨sl',e2,fun c=>(z2 c).trans (z1 c)⟩,
      a.p.new,x2_1 a.p.same fun h t e=>x2_1 q.same fun h' t' e'=>⟨h',t',by rw [e',e]⟩⟩,e,keepD q.kept (fun m=>(S.own m).elim S.ne a.dO) a.pl,VRs.mono q.kept (a.e.noTup a.p.hr) (List.prefix_refl _) _ _ a.rl,a.wrO,a.dO⟩
theorem CpA.post (a : CpA P C' cenv ι₁ s₁ wr D l vs ι' H' s' lc) {ι₂ : List Addr} {H₂ : Hp} {s₂ : Shared} (q : Post P.B ι' s' ι₂ H₂ s₂) (th : ∀ a ∈ wr,∃ o,s'.heap.get? a = some o ∧ ∀ vs n,o.data ≠ .seq vs n) : CpA P C' cenv ι₁ s₁ wr D l vs ι₂ H₂ s₂ lc :=
  ⟨a.p.trans q,a.e.step a.p.hr q,keepD q.kept a.dO a.pl,q.vrs a.p.hr a.rl,fun b hb m=>(q.new b m).elim (a.wrO b hb) fun u=>x1_2 (th b hb) fun o eo _=>absent u eo,fun m=>(q.new D m).elim a.dO fun u=>a.pl.elim fun n eo=>absent u eo⟩
theorem plain_noTup {h : Heap} (pl : h.PlainList D (List.toArray vs)) : NoTup [D] h := fun b hb us t=>by
  rw [List.mem_singleton.mp hb] at t
  refine x1_3 t fun o' eo' c' _=>pl.elim fun n eo=>?_
  have := Option.some.inj (eo.symm.trans eo')
  subst this
  simp at c'
theorem CpA.app (a : CpA P C' cenv ι₁ s₁ wr D l vs ι' H' s' lc) (S : CpS P C' cenv ι₁ H₁ s₁ wr D Ca) {h' : Heap} {u : Value} {x : AV} (pl' : h'.PlainList D (List.toArray (vs ++ [u]))) (ext : ∀ b o,b ∉ [D] → s'.heap.get? b = some o → h'.get? b = some o) (r : VR P.B s'.heap ι' x u) :
    CpA P C' cenv ι₁ s₁ wr D (l ++ [x]) (vs ++ [u]) ι' H' { s' with heap := h',toks := s'.toks } lc :=
  have nt := plain_noTup a.pl
  have one : ∀ {Z : Addr → Prop},Z D → ∀ b ∈ [D],Z b := fun z b hb=>List.mem_singleton.mp hb ▸ z
  ⟨a.p.off ext nt (one (Z := fun b=>b ∉ ι') a.dO) (one (Z := fun b=>s₁.heap.get? b = none) S.nD) (one (Z := fun b=>P.B.get? b = none) (S.hr.noB S.nD)),a.e.off ext nt (fun m=>S.ne ((List.mem_singleton.mp m).symm.trans S.loc)) (fun x c _ hc m=>(S.capd x c hc).elim fun o eo=>absent S.nD (List.mem_singleton.mp m ▸ eo)),
    pl',VRs.append (VRs.mono (Kept.of_keeps ext) nt (List.prefix_refl _) _ _ a.rl) ⟨u,[],rfl,VR.mono (Kept.of_keeps ext) nt (List.prefix_refl _) _ _ r,rfl⟩,a.wrO,a.dO⟩
end
inductive CpI (P : PEnv) (C' : Ctx) (cenv : Env) (ι₁ : List Addr) (s₁ : Shared) (wr : List Addr) (D : Addr) (It : Nat → List Addr → Heap → Prop) (loc : Loc) (q m : Nat) (J : Nat → List AV → Hp → Prop) (n : Nat) (s' : Shared) : Prop where
  | mk (k : Nat) (ι' : List Addr) (H' : Hp) (l : List AV) (vs : List Value) (cv : Loc) (hn : n = m + 1 - k) (hk : k ≤ m) (hl : l.length ≤ k) (hcv : cv.length = q) (a : CpA P C' cenv ι₁ s₁ wr D l vs ι' H' s' (loc ++ cv)) (it : It k ι' s'.heap) (j : J k l H')
theorem CpI.el {C' : Ctx} {cenv : Env} {ι₁ : List Addr} {s₁ : Shared} {wr : List Addr} {D : Addr} {It : Nat → List Addr → Heap → Prop} {q m : Nat} {J : Nat → List AV → Hp → Prop} {n : Nat} {s' : Shared} {G : Prop} (h : CpI P C' cenv ι₁ s₁ wr D It loc q m J n s')
    (g : ∀ k ι' H' l vs cv,n = m + 1 - k → k ≤ m → l.length ≤ k → cv.length = q → CpA P C' cenv ι₁ s₁ wr D l vs ι' H' s' (loc ++ cv) → It k ι' s'.heap → J k l H' → G) : G := by
  cases h with | mk k ι' H' l vs cv h1 h2 h3 h4 h5 h6 h7=>exact g k ι' H' l vs cv h1 h2 h3 h4 h5 h6 h7
theorem comp_turn {tt : Bool} {elt tgt : Expr} {ifs : List Expr} {C' : Ctx} {cenv : Env} {ι₁ : List Addr} {H₁ : Hp} {s₁ : Shared} {wr : List Addr} {D Ca I : Addr} {items : List AV} {Cnd : Hp → Prop} {It : Nat → List Addr → Heap → Prop} {Mid : Nat → Value → List Addr → Heap → Prop} {q : Nat} {J : Nat → List AV → Hp → Prop} {K : List AV → Hp → Prop}
    {A : Around} {F : Value → Shared → Prop} {stop : Shared → Prop} {n : Nat} {s' : Shared} (S : CpS P C' cenv ι₁ H₁ s₁ wr D Ca) (w₁ : W P.B A d ι₁ H₁ s₁) (itr : Itr P tt I wr items Cnd It Mid) (ht : tt = true → isTupE tgt = true) (hsz : items.length ≤ sizeLine)
    (turn : ∀ k l H,J k l H → Cnd H ∧ (∀ y,items[k]? = some y → ∀ cv : Loc,cv.length = q → TgOK P C' tgt y (loc ++ cv) (fun l'=>(∃ cv' : Loc,cv'.length = q ∧ l' = loc ++ cv') ∧ CondOK P C' d ifs l' H (fun b H' =>
        if b then EvOK P C' d elt l' H' (fun v H''=>J (k + 1) (l ++ [v]) H'') XF else J (k + 1) l H'))) ∧ (k = items.length → K l H))
    (fin : ∀ ι' H' l vs s' lc,CpA P C' cenv ι₁ s₁ wr D l vs ι' H' s' lc → l.length ≤ sizeLine → K l H' → stop s') (hI : CpI P C' cenv ι₁ s₁ wr D It loc q items.length J n s') :
    wpAny (model P.prog P.w) A (pyNext (.ref I)) (CompR (model P.prog P.w) A F elt tgt ifs (.ref I) (.ref D) cenv stop fun s₅=>∃ m,m < n ∧ CpI P C' cenv ι₁ s₁ wr D It loc q items.length J m s₅) F s' := by
  refine hI.el fun k ι' H' l vs cv hn hk hlk hcv a hit hj=>?_
  clear hI
  refine x0_3 (turn k l H' hj) fun hc htg hend=>?_
  clear turn
  have w' := w₁.step a.p
  have nt0 := ntw (itr.there k ι' _ hit)
  cases hx : items[k]? with
  | none =>
    have hke : k = items.length := Nat.le_antisymm hk (List.getElem?_eq_none_iff.mp hx)
    exact itr.stop A _ ι' H' s' _ w'.room.handled w'.hr hc (hke ▸ hit) fun h' tk' ext=>fin ι' H' l vs _ _ (a.off S nt0 ext) (Nat.le_trans hlk (Nat.le_trans hk hsz)) (hend hke)
  | some y =>
    have hkl : k < items.length := (List.getElem?_eq_some_iff.mp hx).1
    have nx : ∀ {ι₂ H₂ l₂ vs₂ s₂ cv'},cv'.length = q → l₂.length ≤ k + 1 → CpA P C' cenv ι₁ s₁ wr D l₂ vs₂ ι₂ H₂ s₂ (loc ++ cv') → It (k + 1) ι₂ s₂.heap → J (k + 1) l₂ H₂ → ∃ m,m < n ∧ CpI P C' cenv ι₁ s₁ wr D It loc q items.length J m s₂ :=
      fun h1 h2 h3 h4 h5=>⟨_,next_lt hn hkl,k + 1,_,_,_,_,_,rfl,hkl,h2,h1,h3,h4,h5⟩
    refine itr.next A _ ι' H' s' k y _ w'.room.handled w'.hr hc hit hx fun v h₅ tk₅ rv mid ext₅=>?_
    have a₅ := a.off (t := tk₅) S nt0 ext₅
    have nt1 := ntw (itr.thereM k v ι' _ mid)
    refine itr.go tgt A _ ι' { s' with heap := h₅,toks := tk₅ } k v _ ht mid fun h₆ it₆ ext₆=>?_
    have a₆ := a₅.off (t := tk₅) S nt1 ext₆
    refine wpAny_mono (htg y hx cv hcv A _ cenv ι' H' { s' with heap := h₆,toks := tk₅ } v w'.room.handled a₆.p.hr a₆.e (VR.mono (S := wr) (Kept.of_keeps ext₆) nt1 (List.prefix_refl _) _ _ rv)) (fun _ s₇ g=>g.el fun loc₇ q₇ e₇ g=>?_) fun _ _ x=>x
    refine x0_2 (g) fun qQ0 nQ=>?_
    clear g
    revert nQ
    intro g
    obtain ⟨cv',hcv',rfl⟩ := qQ0
    have a₇ := a₆.tgt S q₇ e₇
    have it₇ : It (k + 1) ι' s₇.heap := itr.mono _ _ _ _ _ _ it₆ q₇.kept (a₆.e.noTup a₆.p.hr) (List.prefix_refl _) fun b hb m=>(S.own m).elim (S.wrD b hb).2 (a.wrO b hb)
    refine gb (cond_ok (w₁.step a₇.p) e₇ g) fun ok s₈ ι₈ H₈ q₈ g=>?_
    have a₈ := a₇.post q₈ (itr.there _ _ _ it₇)
    have it₈ : It (k + 1) ι₈ s₈.heap := itr.mono _ _ _ _ _ _ it₇ q₈.kept a₇.p.hr.noTup q₈.pre a₇.wrO
    cases ok with
    | false=>exact nx hcv' (Nat.le_succ_of_le hlk) a₈ it₈ g
    | true =>
      refine gv (g A _ cenv ι₈ s₈ (w₁.step a₈.p) a₈.e Acc.no) fun u s₉ ι₉ H₉ av q₉ rv₉ g=>?_
      have a₉ := a₈.post q₉ (itr.there _ _ _ it₈)
      have it₉ : It (k + 1) ι₉ s₉.heap := itr.mono _ _ _ _ _ _ it₈ q₉.kept a₈.p.hr.noTup q₉.pre a₈.wrO
      refine wpAny_list_append_plain a₉.pl (fun h₁₀ pl₁₀ sb₁₀=>?_) (by rw [List.size_toArray,a₉.rl.length]; exact Nat.le_trans hlk (Nat.le_trans hk hsz))
      have ext₁₀ : ∀ b o,b ∉ [D] → s₉.heap.get? b = some o → h₁₀.get? b = some o := fun b o hb eo=>sb₁₀.extBut b o (fun z=>hb (z ▸ List.mem_singleton.mpr rfl)) eo
      exact nx hcv' (by rw [List.length_append]; exact Nat.succ_le_succ hlk) (a₉.app S (List.push_toArray vs u ▸ pl₁₀) ext₁₀ rv₉) (itr.mono _ _ _ _ _ _ it₉ (Kept.of_keeps ext₁₀) (plain_noTup a₉.pl) (List.prefix_refl _) fun b hb m=>(S.wrD b hb).1 (List.mem_singleton.mp m)) g
theorem relab_names {scope : Scope} {env : Env} (hk : env.scope.kind = .function) (hn : env.scope.names = C.names) : (relabel scope env).names = relab C.names scope.names := by
  unfold relabel relab Env.kindOf
  rw [hk,hn]
  exact List.map_congr_left fun y hy=>by simp
theorem comp_own {scope : Scope} {locals : List Str} {cenv : Env} {Ca : Addr} {cl : List (Str × Addr)} (cg : CompOK C scope locals) (celC : cenv.cells = cl) (locC : cenv.locals = Ca) (cl4 : ∀ x c,cl.lookup x = some c → (x,NameKind.free) ∈ scope.names) : ∀ b ∈ own (compCtx C scope locals) cenv,b = Ca := fun b hb=>by
  refine (List.mem_cons.mp hb).elim (fun q=>by rw [q,locC]) fun m=>?_
  exfalso
  refine x1_2 (List.mem_filterMap.mp m) fun ox hox eb=>?_
  cases ox with
  | none=>cases eb
  | some x =>
    have eb : cenv.cells.lookup x = some b := eb
    rw [celC] at eb
    have hx : some x ∈ locals.map some := by
      have : (compCtx C scope locals).vars.drop (compCtx C scope locals).ro = locals.map some := by
        show List.drop C.vars.length ((C.vars.map _) ++ locals.map some) = _
        rw [List.drop_append_of_le_length (by simp)]
        simp
      rw [this] at hox; exact hox
    refine x1_2 (List.mem_map.mp hx) fun y hy ey=>?_
    cases ey
    have := (cg.locs x hy).1
    rw [lookup_mem cg.nodup (cl4 x b eb)] at this
    cases this
theorem comp_env {scope : Scope} {locals : List Str} {env cenv : Env} {Ca : Addr} {cl : List (Str × Addr)} {ι₁ : List Addr} {H₁ : Hp} {s₁ : Shared} {h₄ : Heap} {m : Str → Option Value} (cg : CompOK C scope locals) (hr : HR P.B ι₁ H₁ s₁.heap) (e₁ : EnvR P.B C env ι₁ s₁.heap loc)
    (hc : compEnvC scope cl Ca env = cenv) (cl1 : ∀ y ∈ cl,env.cells.lookup y.1 = some y.2) (cl2 : ∀ x,(x,NameKind.free) ∈ scope.names ↔ ∃ c,(x,c) ∈ cl) (nC : s₁.heap.get? Ca = none) (ns : h₄.Ns Ca m) (m0 : ∀ x,m x = none) (old : ∀ b o,s₁.heap.get? b = some o → h₄.get? b = some o) :
    EnvR P.B (compCtx C scope locals) cenv ι₁ h₄ (loc ++ List.replicate locals.length none) := by
  have celC : cenv.cells = cl := by rw [← hc]; rfl
  have locC : cenv.locals = Ca := by rw [← hc]; rfl
  have nmC : cenv.scope.names = relab C.names scope.names := by rw [← hc]; exact relab_names e₁.kind e₁.names
  have cl3 : ∀ x c,cenv.cells.lookup x = some c → env.cells.lookup x = some c ∧ (x,NameKind.free) ∈ scope.names := fun x c hc =>
    have hc : cl.lookup x = some c := celC ▸ hc
    ⟨cl1 _ (mem_of_lookup hc),(cl2 x).mpr ⟨c,mem_of_lookup hc⟩⟩
  have kd : ∀ x k,(relab C.names scope.names).lookup x = k → cenv.kindOf x = k := fun x k q=>by unfold Env.kindOf; rw [nmC]; exact q
  refine ⟨by rw [← hc]; exact cg.kind,nmC,by rw [← hc]; exact e₁.glob,by rw [← hc]; exact e₁.blt,⟨_,locC ▸ ns⟩,fun q=>(hr.mem q).elim fun o eo=>absent nC (locC ▸ eo),locC ▸ hr.noB nC,fun x c hm hc=>?_,fun x c hm hc=>?_,fun x y c hx hy hc hc'=>?_,by simp [compCtx,e₁.len],fun i x hi=>?_⟩
  · have q := cl3 x c hc
    have o3 := e₁.offC x c (cg.free x q.2).1 q.1
    exact ⟨o3.1,fun z=>(e₁.isC x c (cg.free x q.2).1 q.1).elim fun ov r=>x1_2 r fun o eo _=>absent nC (z.trans locC ▸ eo),o3.2.2⟩
  · have q := cl3 x c hc
    exact (e₁.isC x c (cg.free x q.2).1 q.1).elim fun ov r=>⟨ov,r.keeps old⟩
  · have q := cl3 x c hc
    have r := cl3 y c hc'
    exact e₁.apart x y c (cg.free x q.2).1 (cg.free y r.2).1 q.1 r.1
  · by_cases hlt : i < C.vars.length
    · have hi' : (C.vars.map fun o=>o.bind fun x=>if scope.names.lookup x == some .free then some x else none)[i]? = some (some x) := by
        rw [← hi]; show _ = ((C.vars.map _) ++ locals.map some)[i]?
        rw [List.getElem?_append_left (by simpa using hlt)]
      rw [List.getElem?_map] at hi'
      refine x1_2 (Option.map_eq_some_iff.mp hi') fun ox eox hox=>?_
      refine x1_2 (Option.bind_eq_some_iff.mp hox) fun y hy hoy=>?_
      clear hox
      subst hy
      by_cases hfree : (scope.names.lookup y == some .free) = true
      · rw [if_pos hfree] at hoy
        have := Option.some.inj hoy
        subst this
        have q2 : (y,NameKind.free) ∈ scope.names := mem_of_lookup (by simpa using hfree)
        refine x0_3 (cg.free y q2) fun _ f2 f3=>x1_2 (e₁.vars i y eox) fun ov hs hv=>?_
        refine hs.elim (fun q=>?_) fun q=>x1_2 q.2 fun c ec rc=>?_
        · have k := q.1
          unfold Env.kindOf at k; rw [e₁.names] at k
          exact f2.elim (fun z=>by rw [z] at k; cases k) fun z=>by rw [z] at k; cases k
        · refine ((cl2 y).mp q2).elim fun c' hc'=>(lookup_of_mem hc').elim fun c'' hc''=>?_
          have h3 : cenv.cells.lookup y = some c'' := by rw [celC]; exact hc''
          have := Option.some.inj (ec.symm.trans (cl3 y c'' h3).1)
          subst this
          refine ⟨ov,.inr ⟨f3.imp (kd _ _) (kd _ _),c,h3,rc.keeps old⟩,fun dd hd=>?_⟩
          rw [List.getElem?_append_left (by rw [e₁.len]; exact hlt)] at hd
          exact x1_2 (hv dd hd) fun v' ev rv=>⟨v',ev,VR.mono (kept_nil_of old) noTup_nil (List.prefix_refl _) _ _ rv⟩
      · rw [if_neg hfree] at hoy; cases hoy
    · have hi' : (locals.map some)[i - C.vars.length]? = some (some x) := by
        rw [← hi]; show _ = ((C.vars.map _) ++ locals.map some)[i]?
        rw [List.getElem?_append_right (by simpa using Nat.not_lt.mp hlt)]
        simp
      refine x1_2 (List.mem_map.mp (List.mem_of_getElem? hi')) fun y hy ey=>?_
      have := Option.some.inj ey
      subst this
      refine ⟨none,.inl ⟨kd _ _ (cg.locs y hy).2,_,locC ▸ ns,m0 y⟩,fun dd hd=>?_⟩
      rw [List.getElem?_append_right (by rw [e₁.len]; exact Nat.not_lt.mp hlt),List.getElem?_replicate] at hd
      split at hd <;> simp at hd
theorem comp_core {tt : Bool} {elt tgt it : Expr} {ifs : List Expr} {scope : Scope} {locals : List Str} {pos : Pos} {use : Option (Value → Sem Unit)} {Qc : Value → Shared → Prop} {K : List AV → Hp → Prop} {A : Around} {E : Value → Shared → Prop} {env : Env} {ι : List Addr} {s : Shared}
    (cg : CompOK C scope locals) (w : W P.B A d ι H s) (e : EnvR P.B C env ι s.heap loc) (a : Acc P A X ι s E)
    (ht : tt = true → isTupE tgt = true) (h : ItEv P tt C d it loc H (fun items Cnd H₁=>items.length ≤ sizeLine ∧ ∃ J : Nat → List AV → Hp → Prop,J 0 [] H₁ ∧ ∀ k l H,J k l H → Cnd H ∧
      (∀ y,items[k]? = some y → ∀ cv : Loc,cv.length = locals.length → TgOK P (compCtx C scope locals) tgt y (loc ++ cv) (fun l'=>(∃ cv' : Loc,cv'.length = locals.length ∧ l' = loc ++ cv') ∧ CondOK P (compCtx C scope locals) d ifs l' H (fun b H' =>
        if b then EvOK P (compCtx C scope locals) d elt l' H' (fun v H''=>J (k + 1) (l ++ [v]) H'') XF else J (k + 1) l H'))) ∧
      (k = items.length → K l H)) X)
    (hs : ∀ x,foldedSetIterable it env x = pure x)
    (fin : ∀ D Ca ι' H' l s' m,Post P.B ι s ι' H' s' → (∃ vs,s'.heap.PlainList D (List.toArray vs) ∧ VRs P.B s'.heap ι' l vs) → s.heap.get? D = none → s.heap.get? Ca = none → D ∉ ι' → Ca ∉ ι' → D ≠ Ca → s'.heap.Ns Ca m → l.length ≤ sizeLine → K l H' →
      compPost (model P.prog P.w) A E use Qc (.ref D) Ca (.ok .next) s') :
    wpAny (model P.prog P.w) A (comprehension (.ListComp elt [⟨tgt,it,ifs,0⟩] scope pos) scope env it.pos (newList []) false (eval it env) use) Qc E s := by
  refine x1_3 (closure_ex (env := env) (scope := scope) fun x hx=>?_) fun cl hcl cl1 cl2=>?_
  · refine x0_3 (cg.free x hx) fun q1 q2 _=>?_
    refine x1_1 (List.getElem_of_mem q1) fun i qQ1=>?_
    obtain ⟨hi,ei⟩ := qQ1
    refine x1_2 (e.vars i x (by rw [List.getElem?_eq_getElem hi,ei])) fun ov hs _=>hs.elim (fun q=>?_) fun q=>q.2.elim fun c r=>⟨c,r.1⟩
    have k := q.1
    unfold Env.kindOf at k; rw [e.names] at k
    exact q2.elim (fun z=>by rw [z] at k; cases k) fun z=>by rw [z] at k; cases k
  refine wpAny_comprehension_free (g := ⟨tgt,it,ifs,0⟩) (gs := []) rfl hs hcl cg.kind (fun x hx hl=>lookup_mem cg.nodup (by rw [← hl]; exact hx)) (gi (h A E env ι s w e a) fun v s₀ ι₁ H₁ items Cnd s₁ p₁ io g=>?_)
  have hsz := g.1
  refine x1_2 g.2 fun J j0 turn=>?_
  clear g
  have w₁ := w.step p₁
  have e₁ := e.step w.hr p₁
  refine io E _ fun I wr It Mid h₂ tk itr it0 wrn k₂=>?_
  refine wpAny_newObj_type (wpAny_newFunctionEnv cg.nocell (by intro y hy; simp at hy) (fun h₄ hns₄ hsb₄=>?_) cg.kind) (by size_fits)
  generalize hD : h₂.objs.size = D at *
  have szH : (h₂.push { cls := .type "list",dict := none,data := .seq ([] : List Value).toArray }).objs.size = D + 1 := by rw [Heap.size_push,hD]
  have hnD : ∀ b o,h₂.get? b = some o → b < D := fun b o eo=>hD ▸ Heap.lt_size eo
  have qD : (h₂.push { cls := .type "list",dict := none,data := .seq ([] : List Value).toArray }).get? D = some { cls := .type "list",dict := none,data := .seq ([] : List Value).toArray } := by rw [← hD]; exact Heap.get?_push_size _ rfl
  generalize hCa : (h₂.push { cls := .type "list",dict := none,data := .seq ([] : List Value).toArray }).objs.size = Ca at *
  have hDCa : D < Ca := by rw [szH]; exact Nat.lt_succ_self _
  have old : ∀ b o,h₂.get? b = some o → h₄.get? b = some o := fun b o eo=>hsb₄.extBut b o (Nat.ne_of_lt (Nat.lt_trans (hnD b o eo) hDCa)) (Heap.get?_push_of_some _ (Heap.get?_push_of_some _ eo))
  have pl₄ : h₄.PlainList D (List.toArray []) := ⟨0,hsb₄.extBut D _ (Nat.ne_of_lt hDCa) (Heap.get?_push_of_some _ qD)⟩
  have no : ∀ b,¬ b < D → s₁.heap.get? b = none := fun b hb=>by
    cases z : s₁.heap.get? b with
    | none=>rfl
    | some o=>exact absurd (hnD b o (k₂ b o z)) hb
  clear hsb₄ qD szH hD hCa
  generalize hcenv : compEnvC scope cl Ca env = cenv
  have celC : cenv.cells = cl := by rw [← hcenv]; rfl
  have S : CpS P (compCtx C scope locals) cenv ι₁ H₁ s₁ wr D Ca := by
    refine ⟨w₁.hr,fun x c hc=>?_,comp_own cg celC (by rw [← hcenv]; rfl) fun x c hc=>(cl2 x).mpr ⟨c,mem_of_lookup hc⟩,wrn,fun b hb=>?_,no D (Nat.lt_irrefl _),no Ca (Nat.not_lt_of_le (Nat.le_of_lt hDCa)),Nat.ne_of_lt hDCa,by rw [← hcenv]; rfl⟩
    · rw [celC] at hc
      exact (e₁.isC x c (cg.free x ((cl2 x).mpr ⟨c,mem_of_lookup hc⟩)).1 (cl1 _ (mem_of_lookup hc))).elim fun ov r=>r.elim fun o z=>⟨o,z.1⟩
    · refine x1_2 (itr.there 0 _ _ it0 b hb) fun o eo _=>?_
      have := hnD b o eo
      exact ⟨Nat.ne_of_lt this,Nat.ne_of_lt (Nat.lt_trans this hDCa)⟩
  have old₁ : ∀ b o,s₁.heap.get? b = some o → h₄.get? b = some o := fun b o eo=>old b o (k₂ b o eo)
  have envR₄ := comp_env cg w₁.hr e₁ hcenv cl1 cl2 S.nC hns₄ (fun _=>rfl) old₁
  have it₄ : It 0 ι₁ h₄ := itr.mono 0 _ _ [] _ _ it0 (kept_nil_of old) noTup_nil (List.prefix_refl _) (fun _ _=>List.not_mem_nil)
  have loop : codeAny (model P.prog P.w) A (.compLoop (.ListComp elt [⟨tgt,it,ifs,0⟩] scope pos) 0 (.ref I) (.ref D) cenv) (compPost (model P.prog P.w) A E use Qc (.ref D) Ca) { s₁ with heap := h₄,toks := tk } := by
    refine compLoop_go (CpI P (compCtx C scope locals) cenv ι₁ s₁ wr D It loc locals.length items.length J) (fun n s' F hI=>comp_turn S w₁ itr ht hsz turn (fun ι' H' l vs s' lc a hl hk=>a.e.ns.elim fun m₅ n₅=>?_) hI) (items.length + 1)
      ⟨0,ι₁,H₁,[],[],List.replicate locals.length none,rfl,Nat.zero_le _,Nat.zero_le _,List.length_replicate,⟨Post.keep w₁.hr old₁,envR₄,pl₄,rfl,fun b hb m=>(w₁.hr.mem m).elim fun o eo=>absent (wrn b hb) eo,fun m=>(w₁.hr.mem m).elim fun o eo=>absent S.nD eo⟩,it₄,j0⟩
    exact fin D Ca ι' H' l s' m₅ (p₁.trans a.p) ⟨vs,a.pl,a.rl⟩ (p₁.gone S.nD) (p₁.gone S.nC) a.dO (S.loc ▸ a.e.offL) S.ne (S.loc ▸ n₅) hl hk
  subst hcenv
  refine codeAny_compStart_list loop ?_
  exact itr.self A _ ι₁ { s₁ with heap := h₄,toks := tk } 0 _ it₄ loop
end Mine
namespace Mine
open PySem
variable {P : PEnv} {C : Ctx} {d : Nat} {loc : Loc} {H : Hp} {X : XP}
theorem HR.adopt {B : Heap} {ι : List Addr} {H : Hp} {h : Heap} (q : HR B ι H h) {a : Addr} (ha : a ∉ ι) (hb : B.get? a = none) {o : AObj} (ho : OR B h (ι ++ [a]) a o) : HR B (ι ++ [a]) (H ++ [o]) h := by
  refine ⟨q.base,fun b m=>?_,?_,by simp [q.len],fun i x e=>?_⟩
  · rcases List.mem_append.mp m with m | m
    · exact q.fresh b m
    · rw [List.mem_singleton.mp m]; exact hb
  · refine List.nodup_append.mpr ⟨q.nodup,by simp,fun x hx y hy e=>?_⟩
    have := List.mem_singleton.mp hy; subst this; subst e
    exact ha hx
  · by_cases hi : i < H.length
    · rw [List.getElem?_append_left hi] at e
      refine x1_2 (q.objs i x e) fun b eb r=>?_
      exact ⟨b,pre_get (List.prefix_append _ _) eb,r.mono (Kept.refl [] h) noTup_nil (List.prefix_append _ _) fun _ e=>e⟩
    · rw [List.getElem?_append_right (Nat.not_lt.mp hi)] at e
      have h0 : i - H.length = 0 := by
        cases z : i - H.length with
        | zero=>rfl
        | succ n=>rw [z] at e; simp at e
      rw [h0] at e
      simp only [List.getElem?_cons_zero,Option.some.injEq] at e
      subst e
      refine ⟨a,?_,ho⟩
      have : i = ι.length := by rw [q.len]; exact z101 hi h0
      subst this
      simp
theorem Post.adopt {B : Heap} {ι ι' : List Addr} {H' : Hp} {s s' : Shared} (p : Post B ι s ι' H' s') {a : Addr} (ha : a ∉ ι') (hs : s.heap.get? a = none) (hb : B.get? a = none) {o : AObj} (ho : OR B s'.heap (ι' ++ [a]) a o) : Post B ι s (ι' ++ [a]) (H' ++ [o]) s' :=
  ⟨p.pre.trans (List.prefix_append _ _),p.hr.adopt ha hb ho,p.kept,fun b m=>(List.mem_append.mp m).elim (p.new b) fun z=>.inr (by rw [List.mem_singleton.mp z]; exact hs),p.same⟩
noncomputable def CompWp (P : PEnv) (tt : Bool) (C : Ctx) (d : Nat) (elt tgt it : Expr) (ifs : List Expr) (scope : Scope) (locals : List Str) (loc : Loc) (H : Hp) (K : List AV → Hp → Prop) (X : XP) : Prop :=
  ItEv P tt C d it loc H (fun items Cnd H₁=>items.length ≤ sizeLine ∧ ∃ J : Nat → List AV → Hp → Prop,J 0 [] H₁ ∧ ∀ k l H,J k l H → Cnd H ∧
      (∀ y,items[k]? = some y → ∀ cv : Loc,cv.length = locals.length → TgOK P (compCtx C scope locals) tgt y (loc ++ cv) (fun l'=>(∃ cv' : Loc,cv'.length = locals.length ∧ l' = loc ++ cv') ∧ CondOK P (compCtx C scope locals) d ifs l' H (fun b H' =>
        if b then EvOK P (compCtx C scope locals) d elt l' H' (fun v H''=>J (k + 1) (l ++ [v]) H'') XF else J (k + 1) l H'))) ∧
      (k = items.length → K l H)) X
theorem ev_comp {tt : Bool} {elt tgt it : Expr} {ifs : List Expr} {scope : Scope} {locals : List Str} {pos : Pos} {Q : AV → Hp → Prop} (cg : CompOK C scope locals)
    (ht : tt = true → isTupE tgt = true) (h : CompWp P tt C d elt tgt it ifs scope locals loc H (fun l H'=>Q (.ref H'.length) (H' ++ [.list l])) X) (hs : ∀ env x,foldedSetIterable it env x = pure x) :
    EvOK P C d (.ListComp elt [⟨tgt,it,ifs,0⟩] scope pos) loc H Q X := fun A E env ι s w e a=>by
  show wpAny _ _ (comprehension (.ListComp elt [⟨tgt,it,ifs,0⟩] scope pos) scope env it.pos (newList []) false (eval it env) none) _ _ _
  refine comp_core cg w e a ht h (hs env) fun D Ca ι' H' l s' m p hd sD sC dO cO hDC ns hl hk=>?_
  refine ⟨m,ns,fun h' sb=>?_⟩
  have bN : ∀ b,s.heap.get? b = none → P.B.get? b = none := fun b hb=>by
    cases z : P.B.get? b with
    | none=>rfl
    | some o=>have := w.hr.base b o z; rw [hb] at this; cases this
  refine x1_2 (hd) fun vs pl rl=>?_
  clear hd
  have ext : ∀ b o,b ∉ [Ca] → s'.heap.get? b = some o → h'.get? b = some o := fun b o hb eo=>sb.extBut b o (fun z=>hb (z ▸ List.mem_singleton.mpr rfl)) eo
  have nt : NoTup [Ca] s'.heap := fun b hb us t=>by
    rw [List.mem_singleton.mp hb] at t
    refine x1_3 (t) fun o' eo' _ qQ3=>?_
    clear t
    refine x1_1 (qQ3) fun n d'=>?_
    clear qQ3
    refine x3_3 (ns) fun o es ep eo d1 _=>?_
    clear ns
    rw [eo] at eo'; cases eo'; rw [d1] at d'; cases d'
  have p' : Post P.B ι s ι' H' { s' with heap := h',toks := s'.toks } := p.off ext nt (fun b hb=>by rw [List.mem_singleton.mp hb]; exact cO) (fun b hb=>by rw [List.mem_singleton.mp hb]; exact sC) (fun b hb=>by rw [List.mem_singleton.mp hb]; exact bN _ sC)
  have pl' : h'.PlainList D vs.toArray := pl.at fun o eo=>ext D o (fun z=>hDC (List.mem_singleton.mp z)) eo
  refine ⟨ι' ++ [D],H' ++ [.list l],.ref H'.length,p'.adopt (o := .list l) dO sD (bN _ sD) ⟨vs,pl',VRs.mono (Kept.of_keeps ext) nt (List.prefix_append _ _) _ _ rl⟩,⟨D,rfl,?_⟩,hk⟩
  rw [← p'.hr.len]; simp
theorem ex_assign' {i : Nat} {x : Str} {v : Expr} {p' pos : Pos} {Q : MFlow → Loc → Hp → Prop} (sl : Slot C i x) (h : EvOK P C d v loc H (fun a H'=>Q .next (loc.set i (some a)) H') XF)
    (hs : ∀ env : Env,env.scope.kind = .function → env.scope.names = C.names → swapsWith v (some (.Name x p')) pos.line env = pure false) : ExOK P C d (.Assign [.Name x p'] v pos) loc H Q := fun A E env ι s w e=>by
  refine wpAny_Assign_Name (gv (h A E env ι s w e Acc.no) (fun u s₁ ι₁ H₁ a p₁ r₁ g=>?_)) (hs env e.kind e.names)
  exact store_ok p₁.hr (e.step w.hr p₁) sl.lo sl.at_ sl.uniq sl.kind r₁ fun s' ps e'=>⟨ι₁,H₁,_,.next,PostS.trans p₁.toS ps e'.offOwn,e',rfl,g⟩
theorem ex_assign_comp {tt : Bool} {elt tgt it : Expr} {ifs : List Expr} {scope : Scope} {locals : List Str} {cpos p' pos : Pos} {i : Nat} {x : Str} {Q : MFlow → Loc → Hp → Prop} (sl : Slot C i x) (cg : CompOK C scope locals)
    (ht : tt = true → isTupE tgt = true) (h : CompWp P tt C d elt tgt it ifs scope locals loc H (fun l H'=>Q .next (loc.set i (some (.ref H'.length))) (H' ++ [.list l])) XF) (hs : ∀ env x,foldedSetIterable it env x = pure x) :
    ExOK P C d (.Assign [.Name x p'] (.ListComp elt [⟨tgt,it,ifs,0⟩] scope cpos) pos) loc H Q := by
  have sw : ∀ env : Env,env.scope.kind = .function → env.scope.names = C.names → swapsWith (.ListComp elt [⟨tgt,it,ifs,0⟩] scope cpos) (some (.Name x p')) pos.line env = pure (C.names.lookup x == some .local && p'.line == cpos.line && !(scope.names.any fun (n,k)=>n == x && (k == .local || k == .cell))) := fun env hk hn=>by
    show (pure (env.blockKind == .function && env.kindOf x == some .local && p'.line == cpos.line && !(scope.names.any fun (n,k)=>n == x && (k == .local || k == .cell))) : Sem Bool) = _
    simp only [Env.blockKind,Env.kindOf,hk,hn]
    rfl
  cases hb : (C.names.lookup x == some .local && p'.line == cpos.line && !(scope.names.any fun (n,k)=>n == x && (k == .local || k == .cell))) with
  | false=>exact ex_assign' sl (ev_comp cg ht h hs) fun env hk hn=>by rw [sw env hk hn,hb]
  | true =>
    intro A E env ι s w e
    rw [exec_Assign_Name_used x p' _ pos (by rw [sw env e.kind e.names,hb])]
    refine wpAny_bind (wpAny_standAt (wpAny_bind ?_))
    show wpAny _ _ (comprehension (.ListComp elt [⟨tgt,it,ifs,0⟩] scope cpos) scope env it.pos (newList []) false (eval it env) (some (assign (.Name x p') env)) >>= fun _=>pure PUnit.unit) _ _ _
    refine wpAny_bind ?_
    refine comp_core (Qc := fun _ s'=>wpAny (model P.prog P.w) A (pure PUnit.unit : Sem PUnit) (fun _ s''=>wpAny (model P.prog P.w) A (pure .next : Sem Flow) (GivesS P.B C env ι s Q) E s'') E s') cg w e Acc.no ht h (hs env) fun D Ca ι' H' l s' m p hd sD sC dO cO hDC ns hl hk=>?_
    have bN : ∀ b,s.heap.get? b = none → P.B.get? b = none := fun b hb=>by
      cases z : P.B.get? b with
      | none=>rfl
      | some o=>have := w.hr.base b o z; rw [hb] at this; cases this
    refine x1_2 (hd) fun vs pl rl=>?_
    clear hd
    have pa : Post P.B ι s (ι' ++ [D]) (H' ++ [.list l]) s' := p.adopt dO sD (bN _ sD) ⟨vs,pl,VRs.mono (Kept.refl [] _) noTup_nil (List.prefix_append _ _) _ _ rl⟩
    have ea := e.step w.hr pa
    have caO : Ca ∉ own C env := fun m=>by
      refine x1_2 (e.isOwn Ca m) fun o eo _=>?_
      rw [sC] at eo; cases eo
    have caI : Ca ∉ ι' ++ [D] := fun m=>(List.mem_append.mp m).elim cO fun z=>hDC (List.mem_singleton.mp z).symm
    have vr : VR P.B s'.heap (ι' ++ [D]) (.ref H'.length) (.ref D) := ⟨D,rfl,by rw [← p.hr.len]; simp⟩
    refine wpAny_assign_Name (store_ok pa.hr ea sl.lo sl.at_ sl.uniq sl.kind vr fun s'' ps e''=>?_)
    -- the comprehension's own table stands as it stood
    have ns'' : ∃ m,s''.heap.Ns Ca m := ⟨m,Ns.of_data ns fun o eo=>by
      refine x1_3 (ps.kept.data eo fun q=>(List.mem_append.mp q).elim caO caI) fun o' eo' d' _=>?_
      exact ⟨o',eo',d'⟩⟩
    refine x1_1 (ns'') fun m'' n''=>?_
    clear ns''
    refine ⟨m'',n'',fun h' sb=>wpAny_pure (wpAny_pure ?_)⟩
    have ext : ∀ b o,b ∉ [Ca] → s''.heap.get? b = some o → h'.get? b = some o := fun b o hb eo=>sb.extBut b o (fun z=>hb (z ▸ List.mem_singleton.mpr rfl)) eo
    have nt : NoTup [Ca] s''.heap := fun b hb us t=>by
      rw [List.mem_singleton.mp hb] at t
      refine x1_3 (t) fun o' eo' _ qQ3=>?_
      clear t
      refine x1_1 (qQ3) fun n d'=>?_
      clear qQ3
      refine x3_3 (n'') fun o es ep eo d1 _=>?_
      clear n''
      rw [eo] at eo'; cases eo'; rw [d1] at d'; cases d'
    have hr' : HR P.B (ι' ++ [D]) (H' ++ [.list l]) h' := ps.hr.off ext nt (fun b hb=>by rw [List.mem_singleton.mp hb]; exact caI) (fun b hb=>by rw [List.mem_singleton.mp hb]; exact bN _ sC)
    have e3 : EnvR P.B C env (ι' ++ [D]) h' (loc.set i (some (.ref H'.length))) := e''.off ext nt (fun z=>caO ((List.mem_singleton.mp z) ▸ List.mem_cons_self ..)) (fun y c hm hc z=>by
      refine x2_2 (e.isC y c hm hc) fun ov o eo _=>?_
      rw [List.mem_singleton.mp z,sC] at eo; cases eo)
    have pf := PostS.trans (pa.toS (S := own C env)) ps e''.offOwn
    refine ⟨ι' ++ [D],H' ++ [.list l],loc.set i (some (.ref H'.length)),.next,⟨pf.pre,hr',fun b o eo hn=>?_,pf.new,?_⟩,e3,rfl,hk⟩
    · refine x1_2 (pf.kept b o eo hn) fun sl' e1 q1=>?_
      exact ⟨sl',ext b _ (fun z=>by rw [List.mem_singleton.mp z,sC] at eo; cases eo) e1,q1⟩
    · refine x2_1 (pf.same) fun h₃ t₃ hs₃=>?_
      exact ⟨h',t₃,by rw [hs₃]⟩
end Mine
namespace Mine
open PySem
variable {P : PEnv} {C : Ctx} {d : Nat} {loc : Loc} {H : Hp} {X : XP}
theorem vrs1 {B h : Heap} {ι : List Addr} {x : AV} {vs : List Value} (r : VRs B h ι [x] vs) : ∃ u,vs = [u] ∧ VR B h ι x u := by
  refine x2_3 (r) fun u t eQ2 r1 r2=>?_
  clear r
  subst eQ2
  exact ⟨u,by rw [show t = [] from r2],r1⟩
theorem vrs2 {B h : Heap} {ι : List Addr} {x y : AV} {vs : List Value} (r : VRs B h ι [x,y] vs) : ∃ u v,vs = [u,v] ∧ VR B h ι x u ∧ VR B h ι y v := by
  refine x2_3 (r) fun u t eQ2 r1 r2=>?_
  clear r
  subst eQ2
  refine x1_2 (vrs1 r2) fun v eQ1 r3=>?_
  subst eQ1
  exact ⟨u,v,rfl,r1,r3⟩
theorem vrs3 {B h : Heap} {ι : List Addr} {x y z : AV} {vs : List Value} (r : VRs B h ι [x,y,z] vs) : ∃ u v w,vs = [u,v,w] ∧ VR B h ι x u ∧ VR B h ι y v ∧ VR B h ι z w := by
  refine x2_3 (r) fun u t eQ2 r1 r2=>?_
  clear r
  subst eQ2
  refine x2_3 (vrs2 r2) fun v w eQ2 r3 r4=>?_
  subst eQ2
  exact ⟨u,v,w,rfl,r1,r3,r4⟩
abbrev BinOK (P : PEnv) (d : Nat) (op : Operator) (x y : AV) (H : Hp) (Q : AV → Hp → Prop) : Prop := OpOK P d (fun vs=>binaryOp op (vs.getD 0 .none) (vs.getD 1 .none)) [x,y] H Q
abbrev CmpOK (P : PEnv) (d : Nat) (op : CmpOp) (x y : AV) (H : Hp) (Q : AV → Hp → Prop) : Prop := OpOK P d (fun vs=>compareOp op (vs.getD 0 .none) (vs.getD 1 .none)) [x,y] H Q
theorem op2 {t : Value → Value → Sem Value} {x y : AV} {Q : AV → Hp → Prop} (h : ∀ A E ι s u v,W P.B A d ι H s → VR P.B s.heap ι x u → VR P.B s.heap ι y v → wpAny (model P.prog P.w) A (t u v) (Gives P.B ι s Q) E s) :
    OpOK P d (fun vs=>t (vs.getD 0 .none) (vs.getD 1 .none)) [x,y] H Q := fun A E ι s vs w r=>by
  refine x2_3 (vrs2 r) fun u v eQ2 r1 r2=>?_
  subst eQ2
  exact h A E ι s u v w r1 r2
theorem bin_add {a b : Int} {Q : AV → Hp → Prop} (h : Q (.int (a + b)) H) : BinOK P d .Add (.int a) (.int b) H Q := op2 fun A E ι s u v w r1 r2=>by
  obtain ⟨t,rfl⟩ := r1; obtain ⟨t',rfl⟩ := r2
  exact PyProof.Rows.add_int (Gives.now _ w.hr (VR.mkInt _ _) h)
theorem bin_sub {a b : Int} {Q : AV → Hp → Prop} (h : Q (.int (a - b)) H) : BinOK P d .Sub (.int a) (.int b) H Q := op2 fun A E ι s u v w r1 r2=>by
  obtain ⟨t,rfl⟩ := r1; obtain ⟨t',rfl⟩ := r2
  exact PyProof.Rows.sub_int (Gives.now _ w.hr (VR.mkInt _ _) h)
theorem bin_mul {a b : Int} {Q : AV → Hp → Prop} (hm : IntMulOk a b) (h : Q (.int (a * b)) H) : BinOK P d .Mult (.int a) (.int b) H Q := op2 fun A E ι s u v w r1 r2=>by
  obtain ⟨t,rfl⟩ := r1; obtain ⟨t',rfl⟩ := r2
  exact PyProof.Rows.mul_int (Gives.now _ w.hr (VR.mkInt _ _) h) hm
theorem bin_mod {a b : Int} {Q : AV → Hp → Prop} (hb : b ≠ 0) (h : Q (.int (a.fmod b)) H) : BinOK P d .Mod (.int a) (.int b) H Q := op2 fun A E ι s u v w r1 r2=>by
  obtain ⟨t,rfl⟩ := r1; obtain ⟨t',rfl⟩ := r2
  exact PyProof.Rows.mod_int' hb (Gives.now _ w.hr (VR.mkInt _ _) h)
theorem bin_fdiv {a b : Int} {Q : AV → Hp → Prop} (hb : b ≠ 0) (hp : Builtin.divisionGoesByPylong a b = false) (h : Q (.int (a.fdiv b)) H) : BinOK P d .FloorDiv (.int a) (.int b) H Q := op2 fun A E ι s u v w r1 r2=>by
  obtain ⟨t,rfl⟩ := r1; obtain ⟨t',rfl⟩ := r2
  exact PyProof.Rows.floordiv_int hb (Gives.now _ w.hr (VR.mkInt _ _) h) (.inl hp)
theorem bin_pow {a n : Int} {Q : AV → Hp → Prop} (hn : 0 ≤ n) (hn2 : n ≤ 1000000) (ha : a.natAbs < 2 ^ 64) (h : Q (.int (a ^ n.toNat)) H) : BinOK P d .Pow (.int a) (.int n) H Q := op2 fun A E ι s u v w r1 r2=>by
  obtain ⟨t,rfl⟩ := r1; obtain ⟨t',rfl⟩ := r2
  exact PyProof.Rows.pow_int_small hn hn2 ha (Gives.now _ w.hr (VR.mkInt _ _) h)
theorem cmp_lt {a b : Int} {Q : AV → Hp → Prop} (h : Q (.bool (decide (a < b))) H) : CmpOK P d .Lt (.int a) (.int b) H Q := op2 fun A E ι s u v w r1 r2=>by
  obtain ⟨t,rfl⟩ := r1; obtain ⟨t',rfl⟩ := r2
  exact PyProof.Rows.lt_int (Gives.same w.hr (VR.mkBool _) h)
theorem cmp_le {a b : Int} {Q : AV → Hp → Prop} (h : Q (.bool (decide (a ≤ b))) H) : CmpOK P d .LtE (.int a) (.int b) H Q := op2 fun A E ι s u v w r1 r2=>by
  obtain ⟨t,rfl⟩ := r1; obtain ⟨t',rfl⟩ := r2
  exact PyProof.Rows.le_int (Gives.same w.hr (VR.mkBool _) h)
theorem cmp_gt {a b : Int} {Q : AV → Hp → Prop} (h : Q (.bool (decide (b < a))) H) : CmpOK P d .Gt (.int a) (.int b) H Q := op2 fun A E ι s u v w r1 r2=>by
  obtain ⟨t,rfl⟩ := r1; obtain ⟨t',rfl⟩ := r2
  exact PyProof.Rows.gt_int (Gives.same w.hr (VR.mkBool _) h)
theorem cmp_ge {a b : Int} {Q : AV → Hp → Prop} (h : Q (.bool (decide (b ≤ a))) H) : CmpOK P d .GtE (.int a) (.int b) H Q := op2 fun A E ι s u v w r1 r2=>by
  obtain ⟨t,rfl⟩ := r1; obtain ⟨t',rfl⟩ := r2
  exact PyProof.Rows.ge_int (Gives.same w.hr (VR.mkBool _) h)
theorem HR.list {B : Heap} {ι : List Addr} {H : Hp} {h : Heap} (q : HR B ι H h) {i : Nat} {a : Addr} {l : List AV} (e : ι[i]? = some a) (hi : H[i]? = some (.list l)) : ∃ vs,h.PlainList a (List.toArray vs) ∧ VRs B h ι l vs := by
  refine x1_2 (q.objs i _ hi) fun a' e' r=>?_
  rw [e] at e'; cases e'; exact r
noncomputable def seqL (H : Hp) : AV → Option (List AV)
  | .ref i=>match H[i]? with | some (.list l)=>some l | _=>none
  | .fro l=>some l
  | _=>none
theorem seqL_is {ι : List Addr} {h : Heap} {x : AV} {v : Value} {l : List AV} (hr : HR P.B ι H h) (r : VR P.B h ι x v) (e : seqL H x = some l) : ∃ a vs,v = .ref a ∧ h.IsList a (List.toArray vs) ∧ VRs P.B h ι l vs := by
  cases x with
  | ref i =>
    refine x1_2 (r) fun a eQ1 ea=>?_
    clear r
    subst eQ1
    simp only [seqL] at e
    split at e
    · rename_i l' hl
      cases e
      refine x1_2 (hr.list ea hl) fun vs pl rl=>?_
      exact ⟨a,vs,rfl,pl.isList,rl⟩
    · cases e
  | fro l' =>
    simp only [seqL,Option.some.injEq] at e
    subst e
    unfold VR at r
    refine x2_3 (r) fun a vs eQ2 bl rl=>?_
    clear r
    subst eQ2
    exact ⟨a,vs,rfl,bl.at fun o eo=>hr.base a o eo,rl⟩
  | _=>simp [seqL] at e
theorem bin_addL {i j : Nat} {l m : List AV} {Q : AV → Hp → Prop} (hx : H[i]? = some (.list l)) (hy : H[j]? = some (.list m)) (hz : l.length + m.length ≤ sizeLine) (h : Q (.ref H.length) (H ++ [.list (l ++ m)])) : BinOK P d .Add (.ref i) (.ref j) H Q := op2 fun A E ι s u v w r1 r2=>by
  refine x1_2 (r1) fun a eQ1 ea=>?_
  clear r1
  subst eQ1
  refine x1_2 (r2) fun b eQ1 eb=>?_
  clear r2
  subst eQ1
  refine x1_2 (w.hr.list ea hx) fun vs qQ1 rl=>?_
  refine x1_1 (qQ1) fun n pl=>?_
  clear qQ1
  refine x1_2 (w.hr.list eb hy) fun ws qQ1 rm=>?_
  refine x1_1 (qQ1) fun n' pm=>?_
  clear qQ1
  refine PySem.P.add_list pl pm ?_ (by simp only [List.size_toArray,rl.length,rm.length]; exact hz)
  have := gives_newList (Q := Q) w.hr (rl.append rm) h
  simpa using this
theorem bin_addT {l m : List AV} {Q : AV → Hp → Prop} (hz : l.length + m.length ≤ sizeLine) (h : Q (.tup (l ++ m)) H) : BinOK P d .Add (.tup l) (.tup m) H Q := op2 fun A E ι s u v w r1 r2=>by
  have r1' := r1
  have r2' := r2
  unfold VR at r1 r2
  refine x2_3 (r1) fun a vs eQ2 qQ3 rl=>?_
  clear r1
  subst eQ2
  refine x3_1 (qQ3) fun n dd sl pl=>?_
  clear qQ3
  refine x2_3 (r2) fun b ws eQ2 qQ3 rm=>?_
  clear r2
  subst eQ2
  refine x3_1 (qQ3) fun n' dd' sl' pm=>?_
  clear qQ3
  have hvl := rl.length
  have hwl := rm.length
  by_cases hv : vs = []
  · have : l = [] := by rw [hv] at hvl; exact List.length_eq_zero_iff.mp hvl.symm
    subst this
    exact concat_meets ⟨_,pl,rfl⟩ ⟨_,pm,rfl⟩ noFill_tuple_add seq_tuple_add PySem.F.slot_tuple_add PySem.F.entry_tuple_add (PySem.F.args_tuple_add_2 _ _)
      (PyProof.Rows.tuple_addW0 a b vs.toArray ws.toArray n n' dd dd' sl sl' (by simp [hv])) ⟨pl,pm,Gives.same w.hr r2' (by simpa using h)⟩
  · by_cases hw : ws = []
    · have : m = [] := by rw [hw] at hwl; exact List.length_eq_zero_iff.mp hwl.symm
      subst this
      exact concat_meets ⟨_,pl,rfl⟩ ⟨_,pm,rfl⟩ noFill_tuple_add seq_tuple_add PySem.F.slot_tuple_add PySem.F.entry_tuple_add (PySem.F.args_tuple_add_2 _ _)
        (PyProof.Rows.tuple_addW1 a b vs.toArray ws.toArray n n' dd dd' sl sl' (by simpa using hv) (by simp [hw])) ⟨pl,pm,Gives.same w.hr r1' (by simpa using h)⟩
    · refine concat_meets ⟨_,pl,rfl⟩ ⟨_,pm,rfl⟩ noFill_tuple_add seq_tuple_add PySem.F.slot_tuple_add PySem.F.entry_tuple_add (PySem.F.args_tuple_add_2 _ _)
        (PyProof.Rows.tuple_addW2 a b vs.toArray ws.toArray n n' dd dd' sl sl' (by simpa using hv) (by simpa using hw) (by simp only [List.size_toArray,hvl,hwl]; exact hz)) ⟨pl,pm,?_⟩
      have := gives_newTuple (Q := Q) w.hr (rl.append rm) h
      simpa using this
theorem bin_addS {x y : Str} {Q : AV → Hp → Prop} (hz : x.length + y.length ≤ sizeLine) (h : Q (.str (x ++ y)) H) : BinOK P d .Add (.str x) (.str y) H Q := op2 fun A E ι s u v w r1 r2=>by
  obtain ⟨k1,t,rfl⟩ := r1; obtain ⟨k2,t',rfl⟩ := r2
  refine PyProof.Rows.add_str (fun t' tk=>Gives.now tk w.hr (VR.mkStr _ _ ?_) h) hz
  unfold PyData.strOk at k1 k2 ⊢
  simp only [Str.cps_append,Array.all_append,k1,k2,Bool.and_self]
mutual
noncomputable def datR (ρ : Nat → Option PyData) : AV → Option PyData
  | .none=>some .none
  | .bool b=>some (.bool b)
  | .int i=>some (.int i)
  | .str x=>some (.str x)
  | .tup l=>(datRs ρ l).map .tuple
  | .ref i=>ρ i
  | .fro l=>(datRs ρ l).map .list
noncomputable def datRs (ρ : Nat → Option PyData) : List AV → Option (List PyData)
  | []=>some []
  | x :: r=>(datR ρ x).bind fun y=>(datRs ρ r).map (y :: ·)
end
noncomputable def rho (H : Hp) : Nat → Nat → Option PyData
  | 0,_=>none
  | n + 1,i=>match H[i]? with
    | some (.list l)=>(datRs (rho H n) l).map .list
    | _=>none
noncomputable def dat (H : Hp) (x : AV) : Option PyData := datR (rho H 4) x
noncomputable def dats (H : Hp) (l : List AV) : Option (List PyData) := datRs (rho H 4) l
noncomputable def RhoOK (P : PEnv) (ι : List Addr) (h : Heap) (ρ : Nat → Option PyData) : Prop := ∀ i d a,ρ i = some d → ι[i]? = some a → (∃ as,Reads h (.ref a) d as) ∧ d.canLay0 = true
mutual
theorem datR_ok {ι : List Addr} {h : Heap} {ρ : Nat → Option PyData} (B : P.B.StaysIn h) (k : RhoOK P ι h ρ) : ∀ (x : AV) (v : Value) (d : PyData),VR P.B h ι x v → datR ρ x = some d → (∃ as,Reads h v d as) ∧ d.canLay0 = true
  | .none,_,_,r,e=>by cases r; cases e; exact ⟨⟨_,Reads.none⟩,rfl⟩
  | .bool b,_,_,r,e=>by cases r; cases e; exact ⟨⟨_,Reads.bool b⟩,rfl⟩
  | .int i,_,_,r,e=>by obtain ⟨t,rfl⟩ := r; cases e; exact ⟨⟨_,Reads.int i t⟩,rfl⟩
  | .str x,_,_,r,e=>by obtain ⟨hx,t,rfl⟩ := r; cases e; exact ⟨⟨_,Reads.str x t⟩,hx⟩
  | .tup l,v,d,r,e=>by
    unfold VR at r
    refine x2_3 (r) fun a vs eQ2 qQ3 rl=>?_
    clear r
    subst eQ2
    refine x3_1 (qQ3) fun n _ _ pt=>?_
    clear qQ3
    simp only [datR,Option.map_eq_some_iff] at e
    refine x1_2 (e) fun ds e1 eQ2=>?_
    clear e
    subst eQ2
    refine x0_2 (datRs_ok B k l vs ds rl e1) fun qQ0 q2=>?_
    obtain ⟨as,q1⟩ := qQ0
    exact ⟨⟨as,Reads.tuple pt rfl rfl q1⟩,q2⟩
  | .ref i,v,d,r,e=>by
    refine x1_2 (r) fun a eQ1 ea=>?_
    clear r
    subst eQ1
    exact k i d a e ea
  | .fro l,v,d,r,e=>by
    unfold VR at r
    refine x2_3 (r) fun a vs eQ2 qQ3 rl=>?_
    clear r
    subst eQ2
    refine x1_3 (qQ3) fun o eo hc nQ=>?_
    clear qQ3
    revert nQ
    intro qQ3
    obtain ⟨n,hd⟩ := qQ3
    simp only [datR,Option.map_eq_some_iff] at e
    refine x1_2 (e) fun ds e1 eQ2=>?_
    clear e
    subst eQ2
    refine x0_2 (datRs_ok B k l vs ds rl e1) fun qQ0 q2=>?_
    obtain ⟨as,q1⟩ := qQ0
    exact ⟨⟨_,Reads.list (B a o eo) hc hd q1⟩,q2⟩
theorem datRs_ok {ι : List Addr} {h : Heap} {ρ : Nat → Option PyData} (B : P.B.StaysIn h) (k : RhoOK P ι h ρ) : ∀ (l : List AV) (vs : List Value) (ds : List PyData),VRs P.B h ι l vs → datRs ρ l = some ds → (∃ as,ReadsAll h vs ds as) ∧ PyData.canLayAll0 ds = true
  | [],_,_,r,e=>by rw [show _ = [] from r]; cases e; exact ⟨⟨_,ReadsAll.nil⟩,rfl⟩
  | x :: l,_,ds,r,e=>by
    refine x2_3 (r) fun v vs eQ2 r1 r2=>?_
    clear r
    subst eQ2
    simp only [datRs,Option.bind_eq_some_iff,Option.map_eq_some_iff] at e
    refine x1_2 (e) fun y e1 qQ2=>?_
    clear e
    refine x1_2 (qQ2) fun ys e2 eQ2=>?_
    clear qQ2
    subst eQ2
    refine x0_2 (datR_ok B k x v y r1 e1) fun qQ0 q2=>?_
    obtain ⟨as,q1⟩ := qQ0
    refine x0_2 (datRs_ok B k l vs ys r2 e2) fun qQ0 q4=>?_
    obtain ⟨bs,q3⟩ := qQ0
    exact ⟨⟨_,ReadsAll.cons q1 q3⟩,by simp [PyData.canLayAll0,q2,q4]⟩
end
theorem rho_ok {ι : List Addr} {h : Heap} (hr : HR P.B ι H h) : ∀ n,RhoOK P ι h (rho H n)
  | 0,_,_,_,e,_=>by cases e
  | n + 1,i,d,a,e,ea=>by
    unfold rho at e
    split at e
    · rename_i l hl
      simp only [Option.map_eq_some_iff] at e
      refine x1_2 (e) fun ds e1 eQ2=>?_
      clear e
      subst eQ2
      refine x1_2 (hr.list ea hl) fun vs qQ1 rl=>?_
      refine x1_1 (qQ1) fun k pl=>?_
      clear qQ1
      refine x0_2 (datRs_ok hr.base (rho_ok hr n) l vs ds rl e1) fun qQ0 q2=>?_
      obtain ⟨as,q1⟩ := qQ0
      exact ⟨⟨_,Reads.list pl rfl rfl q1⟩,q2⟩
    · cases e
theorem dat_ok {ι : List Addr} {h : Heap} {x : AV} {v : Value} {dd : PyData} (hr : HR P.B ι H h) (r : VR P.B h ι x v) (e : dat H x = some dd) : (∃ as,Reads h v dd as) ∧ dd.canLay0 = true :=
  datR_ok hr.base (rho_ok hr 4) x v dd r e
theorem dats_ok {ι : List Addr} {h : Heap} {l : List AV} {vs : List Value} {ds : List PyData} (hr : HR P.B ι H h) (r : VRs P.B h ι l vs) (e : dats H l = some ds) : (∃ as,ReadsAll h vs ds as) ∧ PyData.canLayAll0 ds = true :=
  datRs_ok hr.base (rho_ok hr 4) l vs ds r e
theorem cmp_eq {x y : AV} {dx dy : PyData} {Q : AV → Hp → Prop} (hx : dat H x = some dx) (hy : dat H y = some dy) (hd : dx.depth ≤ 100) (h : Q (.bool (PyData.eqv dx dy)) H) : CmpOK P d .Eq x y H Q := op2 fun A E ι s u v w r1 r2=>by
  refine x0_2 (dat_ok w.hr r1 hx) fun qQ0 q2=>?_
  obtain ⟨as,q1⟩ := qQ0
  refine x0_2 (dat_ok w.hr r2 hy) fun qQ0 q4=>?_
  obtain ⟨bs,q3⟩ := qQ0
  exact SeqAt.compareEq_reads q1 q3 q2 q4 (by have := w.room.units; exact z104 hd this) (Gives.same w.hr (VR.mkBool _) h)
theorem cmp_ne {x y : AV} {dx dy : PyData} {Q : AV → Hp → Prop} (hx : dat H x = some dx) (hy : dat H y = some dy) (hd : dx.depth ≤ 100) (h : Q (.bool !(PyData.eqv dx dy)) H) : CmpOK P d .NotEq x y H Q := op2 fun A E ι s u v w r1 r2=>by
  refine x0_2 (dat_ok w.hr r1 hx) fun qQ0 q2=>?_
  obtain ⟨as,q1⟩ := qQ0
  refine x0_2 (dat_ok w.hr r2 hy) fun qQ0 q4=>?_
  obtain ⟨bs,q3⟩ := qQ0
  exact SeqAt.compareNe_reads q1 q3 q2 q4 (by have := w.room.units; exact z104 hd this) (Gives.same w.hr (VR.mkBool _) h)
end Mine
namespace Mine
open PySem
variable {P : PEnv} {C : Ctx} {d : Nat} {loc : Loc} {H : Hp} {X : XP}
theorem fn1 {f : Value} {x : AV} {Q : AV → Hp → Prop} (h : ∀ A E ι s u,W P.B A d ι H s → VR P.B s.heap ι x u → wpAny (model P.prog P.w) A (call f [u]) (Gives P.B ι s Q) E s) :
    OpOK P d (fun vs=>call f vs) [x] H Q := fun A E ι s vs w r=>by
  refine x1_2 (vrs1 r) fun u eQ1 r1=>?_
  subst eQ1
  exact h A E ι s u w r1
theorem fn2 {f : Value} {x y : AV} {Q : AV → Hp → Prop} (h : ∀ A E ι s u v,W P.B A d ι H s → VR P.B s.heap ι x u → VR P.B s.heap ι y v → wpAny (model P.prog P.w) A (call f [u,v]) (Gives P.B ι s Q) E s) :
    OpOK P d (fun vs=>call f vs) [x,y] H Q := fun A E ι s vs w r=>by
  refine x2_3 (vrs2 r) fun u v eQ2 r1 r2=>?_
  subst eQ2
  exact h A E ι s u v w r1 r2
theorem fn3 {f : Value} {x y z : AV} {Q : AV → Hp → Prop} (h : ∀ A E ι s u v t,W P.B A d ι H s → VR P.B s.heap ι x u → VR P.B s.heap ι y v → VR P.B s.heap ι z t → wpAny (model P.prog P.w) A (call f [u,v,t]) (Gives P.B ι s Q) E s) :
    OpOK P d (fun vs=>call f vs) [x,y,z] H Q := fun A E ι s vs w r=>by
  refine x3_4 (vrs3 r) fun u v t eQ3 r1 r2 r3=>?_
  subst eQ3
  exact h A E ι s u v t w r1 r2 r3
theorem subscripted_ops (sl : Expr) (o i : Value) : ∃ ops,subscripted sl false o i = operate ops (getItem o i) := by
  cases sl with
  | Slice a b c p=>cases c <;> exact ⟨_,rfl⟩
  | _=>exact ⟨_,rfl⟩
abbrev SubOK (P : PEnv) (d : Nat) (eo ei : Expr) (x y : AV) (H : Hp) (Q : AV → Hp → Prop) : Prop := OpOK P d (fun vs=>PyProof.Rows.subscriptTail eo ei (vs.getD 0 .none) (vs.getD 1 .none)) [x,y] H Q
noncomputable def place (k : Int) (n : Nat) : Option Nat := if 0 ≤ k then (if k < n then some k.toNat else none) else if 0 ≤ k + n then some (k + n).toNat else none
theorem seqIndex_place {k : Int} {n j : Nat} (h : place k n = some j) : seqIndex? k n = some j := by
  unfold place at h
  unfold seqIndex?
  by_cases h0 : 0 ≤ k
  · rw [if_pos h0] at h
    rw [if_neg (Int.not_lt.mpr h0)]
    by_cases h1 : k < n
    · rw [if_pos h1] at h
      exact (if_pos (by rw [decide_eq_true h0,decide_eq_true h1]; rfl)).trans h
    · rw [if_neg h1] at h; cases h
  · rw [if_neg h0] at h
    have h0 := Int.not_le.mp h0
    rw [if_pos h0]
    by_cases h1 : 0 ≤ k + n
    · rw [if_pos h1] at h
      exact (if_pos (by rw [decide_eq_true h1,decide_eq_true (show k + n < n by have := Int.add_lt_add_right h0 n; rwa [Int.zero_add] at this)]; rfl)).trans h
    · rw [if_neg h1] at h; cases h
theorem sub_tup {eo ei : Expr} {l : List AV} {k : Int} {j : Nat} {x : AV} {Q : AV → Hp → Prop} (hn : l.length < 2 ^ 62) (hj : place k l.length = some j) (hx : l[j]? = some x) (h : Q x H) : SubOK P d eo ei (.tup l) (.int k) H Q := op2 fun A E ι s u v w r1 r2=>by
  unfold VR at r1
  refine x2_3 (r1) fun a vs eQ2 pt rl=>?_
  clear r1
  subst eQ2
  refine x1_1 (r2) fun t eQ1=>?_
  clear r2
  subst eQ1
  refine x1_2 (rl.get hx) fun z hz rz=>?_
  refine x1_1 (subscripted_ops ei (.ref a) (.int k t)) fun ops ho=>?_
  have hb : -(2 ^ 63) ≤ k ∧ k < 2 ^ 63 := by unfold place at hj; split at hj <;> (try split at hj) <;> (first | cases hj | skip) <;> (first | lia | omega)
  exact PyProof.Rows.tail_any pt.isTup.typeIs PyProof.Rows.slot_tuple_getitem.lookup (PyProof.Rows.getItem_tuple pt.isTup hb.1 hb.2 (by rw [List.size_toArray,rl.length]; exact seqIndex_place hj) (by simpa using hz) (Gives.same w.hr rz h)) ho
theorem sub_list {eo ei : Expr} {o : AV} {l : List AV} {k : Int} {x : AV} {Q : AV → Hp → Prop} (ho : seqL H o = some l) (hn : l.length < 2 ^ 62) (h0 : 0 ≤ k) (hx : l[k.toNat]? = some x) (h : Q x H) : SubOK P d eo ei o (.int k) H Q := op2 fun A E ι s u v w r1 r2=>by
  refine x2_3 (seqL_is w.hr r1 ho) fun a vs eQ2 il rl=>?_
  subst eQ2
  refine x1_1 (r2) fun t eQ1=>?_
  clear r2
  subst eQ1
  refine x1_2 (rl.get hx) fun z hz rz=>?_
  refine x1_1 (subscripted_ops ei (.ref a) (.int k t)) fun ops hops=>?_
  have hlt : k.toNat < l.length := (List.getElem?_eq_some_iff.mp hx).1
  exact PyProof.Rows.tail_any il.typeIs slot_list_getitem.lookup (wpAny_getItem_list il h0 (by exact z105 hn hlt) (by simpa using hz) (Gives.same w.hr rz h)) hops
theorem ERs.pairs (P : PEnv) {B h : Heap} {ι : List Addr} : ∀ {l : List (Int × AV)} {es : List DictEntry},ERs B h ι l es → ∃ kvs : List (Int × Value),Pairs (intKind P.prog P.w) es kvs ∧ kvs.map (·.1) = l.map (·.1) ∧ VRs B h ι (l.map (·.2)) (kvs.map (·.2)) ∧ ∀ e ∈ es,∃ k,(intKind P.prog P.w).is k e.key = true ∧ e.hash = (intKind P.prog P.w).hash k
  | [],es,q=>⟨[],by rw [show es = [] from q]; exact .nil,rfl,rfl,fun e he=>by rw [show es = [] from q] at he; cases he⟩
  | (k,x) :: l,es,q=>by
    refine x3_3 (q) fun t v es' eQ3 rv r=>?_
    clear q
    subst eQ3
    refine x1_4 (ERs.pairs P r) fun kvs p1 p2 p3 p4=>?_
    have hk : (intKind P.prog P.w).is k (.int k t) = true := by simp [intKind,Value.isInt]
    refine ⟨(k,v) :: kvs,.cons hk rfl p1,by simp [p2],⟨v,_,rfl,rv,p3⟩,fun e he=>?_⟩
    rcases List.mem_cons.mp he with rfl | m
    · exact ⟨k,hk,rfl⟩
    · exact p4 e m
theorem pairs_ERs {B h : Heap} {ι : List Addr} {kvs : List (Int × Value)} {es : List DictEntry} (p : Pairs (intKind P.prog P.w) es kvs) : ∀ {l : List (Int × AV)},(∀ e ∈ es,∃ k,(intKind P.prog P.w).is k e.key = true ∧ e.hash = (intKind P.prog P.w).hash k) → kvs.map (·.1) = l.map (·.1) → VRs B h ι (l.map (·.2)) (kvs.map (·.2)) → ERs B h ι l es := by
  induction p with
  | nil=>intro l _ hk hv; cases l with
    | nil=>rfl
    | cons _ _=>cases hk
  | cons h1 h2 h3 ih=>rename_i e kv es kvs; intro l hh hk hv; cases l with
    | nil=>cases hk
    | cons y l =>
      have hz := List.cons.inj hk
      have hz1 : kv.1 = y.1 := hz.1
      refine x2_3 hv fun v' r' e1 rv rr=>x1_2 (hh e (List.mem_cons_self ..)) fun k2 q1 q2=>(Value.isInt_shape q1).elim fun t ht=>?_
      have e2 := List.cons.inj e1
      have e21 : kv.2 = v' := e2.1
      have hkk : k2 = y.1 := ((intKind P.prog P.w).inj _ _ _ q1 h1).trans hz1
      refine ⟨t,kv.2,es,?_,e21 ▸ rv,ih (fun e he=>hh e (List.mem_cons_of_mem _ he)) hz.2 (e2.2 ▸ rr)⟩
      rw [← h2,← hkk,← ht]
      exact congrArg (· :: es) (show e = ⟨hashInt k2,e.key,e.val⟩ by rw [← show e.hash = hashInt k2 from q2])
theorem HR.dict {ι : List Addr} {h : Heap} (q : HR P.B ι H h) {i : Nat} {a : Addr} {l : List (Int × AV)} (e : ι[i]? = some a) (hi : H[i]? = some (.dict l)) :
    ∃ kvs : List (Int × Value),h.DictOf (intKind P.prog P.w) a kvs ∧ kvs.map (·.1) = l.map (·.1) ∧ VRs P.B h ι (l.map (·.2)) (kvs.map (·.2)) := by
  refine x1_4 (q.objs i _ hi) fun a' e' _ nd qQ4=>?_
  refine x2_2 (qQ4) fun es n eo r=>?_
  clear qQ4
  rw [e] at e'; cases e'
  refine x1_4 (ERs.pairs P r) fun kvs p1 p2 p3 p4=>?_
  exact ⟨kvs,⟨_,_,n,eo,⟨rfl,rfl,rfl⟩,rfl,fun e he=>p4 e (by simpa using he),by simpa using p1,by rw [p2]; exact nd⟩,p2,p3⟩
theorem OR.ofDict {ι : List Addr} {h : Heap} {a : Addr} {kvs : List (Int × Value)} {l : List (Int × AV)} (hm : (a == sysModules) = false) (q : h.DictOf (intKind P.prog P.w) a kvs) (hk : kvs.map (·.1) = l.map (·.1)) (hv : VRs P.B h ι (l.map (·.2)) (kvs.map (·.2))) : OR P.B h ι a (.dict l) := by
  refine x3_5 (q) fun o es ep ho qQ4 hd hks qQ7=>?_
  clear q
  refine x0_3 (qQ4) fun h1 h2 h3=>?_
  clear qQ4
  refine x0_2 (qQ7) fun hp hn=>?_
  clear qQ7
  refine ⟨hm,by rw [← hk]; exact hn,es.toList,ep,?_,pairs_ERs hp (fun e he=>hks e (by simpa using he)) hk hv⟩
  obtain ⟨c,dd,dt,sl⟩ := o
  simp only at h1 h2 h3 hd
  subst h1; subst h2; subst h3; subst hd
  simpa using ho
noncomputable def dget (l : List (Int × AV)) (k : Int) : Option AV := (l.find? fun kv=>kv.1 = k).map (·.2)
noncomputable def dset (l : List (Int × AV)) (k : Int) (v : AV) : List (Int × AV) := if l.any (fun kv=>kv.1 = k) then l.map (fun kv=>if kv.1 = k then (kv.1,v) else kv) else l ++ [(k,v)]
theorem find_pos {α : Type} {f : Int × α → Bool} {k : Int} (hf : ∀ x,f x = decide (x.1 = k)) {z : Int × α} {l : List (Int × α)} (h : z.1 = k) : (z :: l).find? f = some z := List.find?_cons_of_pos (by rw [hf]; exact decide_eq_true h)
theorem find_neg {α : Type} {f : Int × α → Bool} {k : Int} (hf : ∀ x,f x = decide (x.1 = k)) {z : Int × α} {l : List (Int × α)} (h : ¬ z.1 = k) : (z :: l).find? f = l.find? f := List.find?_cons_of_neg (by rw [hf]; exact fun q=>h (of_decide_eq_true q))
theorem valueAt_dget {B h : Heap} {ι : List Addr} {k : Int} {l : List (Int × AV)} : ∀ {kvs : List (Int × Value)},kvs.map (·.1) = l.map (·.1) → VRs B h ι (l.map (·.2)) (kvs.map (·.2)) →
    (∀ x,dget l k = some x → ∃ v,valueAt kvs k = some v ∧ VR B h ι x v) ∧ (valueAt kvs k).isSome = (dget l k).isSome := by
  induction l with
  | nil=>intro kvs hk hv; cases kvs with
    | nil=>exact ⟨(fun x e=>nomatch e),rfl⟩
    | cons _ _=>cases hk
  | cons y l ih=>intro kvs hk hv; cases kvs with
    | nil=>cases hk
    | cons z kvs =>
      have hz := List.cons.inj hk
      have hz1 : z.1 = y.1 := hz.1
      refine x2_3 hv fun v' r' e1 rv rr=>?_
      have e2 := List.cons.inj e1
      have i := ih hz.2 (e2.2 ▸ rr)
      unfold valueAt dget at i ⊢
      by_cases hkk : z.1 = k
      · rw [find_pos (fun _=>rfl) hkk,find_pos (fun _=>rfl) (hz1.symm.trans hkk)]
        exact ⟨fun x e=>⟨z.2,rfl,Option.some.inj e ▸ (show z.2 = v' from e2.1) ▸ rv⟩,rfl⟩
      · rw [find_neg (fun _=>rfl) hkk,find_neg (fun _=>rfl) fun q=>hkk (hz1.trans q)]
        exact i
theorem low_not_mods {ι : List Addr} {h : Heap} (hr : HR P.B ι H h) {i : Nat} {a : Addr} {l : List (Int × AV)} (ea : ι[i]? = some a) (hi : H[i]? = some (.dict l)) : (a == sysModules) = false := by
  refine x1_3 (hr.objs i _ hi) fun a' e' hm _=>?_
  rw [ea] at e'; cases e'
  exact hm
theorem cmp_inD {i : Nat} {l : List (Int × AV)} {k : Int} {Q : AV → Hp → Prop} (hi : H[i]? = some (.dict l)) (h : Q (.bool (dget l k).isSome) H) : CmpOK P d .In (.int k) (.ref i) H Q := op2 fun A E ι s u v w r1 r2=>by
  refine x1_1 (r1) fun t eQ1=>?_
  clear r1
  subst eQ1
  refine x1_2 (r2) fun a eQ1 ea=>?_
  clear r2
  subst eQ1
  refine x1_3 (w.hr.dict ea hi) fun kvs hd hk hv=>?_
  refine x0_2 (valueAt_dget (k := k) hk hv) fun _ i2=>?_
  exact wpAny_in_of (knd := intKind P.prog P.w) (k := k) (by simp [intKind,Value.isInt]) (low_not_mods w.hr ea hi) hd.mapOf (Gives.now _ w.hr (VR.mkBool _) (by rw [i2]; exact h))
theorem cmp_notInD {i : Nat} {l : List (Int × AV)} {k : Int} {Q : AV → Hp → Prop} (hi : H[i]? = some (.dict l)) (h : Q (.bool !(dget l k).isSome) H) : CmpOK P d .NotIn (.int k) (.ref i) H Q := op2 fun A E ι s u v w r1 r2=>by
  refine x1_1 (r1) fun t eQ1=>?_
  clear r1
  subst eQ1
  refine x1_2 (r2) fun a eQ1 ea=>?_
  clear r2
  subst eQ1
  refine x1_3 (w.hr.dict ea hi) fun kvs hd hk hv=>?_
  refine x0_2 (valueAt_dget (k := k) hk hv) fun _ i2=>?_
  exact wpAny_notIn_of (knd := intKind P.prog P.w) (k := k) (by simp [intKind,Value.isInt]) (low_not_mods w.hr ea hi) hd.mapOf (Gives.now _ w.hr (VR.mkBool _) (by rw [i2]; exact h))
theorem sub_dict {eo ei : Expr} {i : Nat} {l : List (Int × AV)} {k : Int} {x : AV} {Q : AV → Hp → Prop} (hi : H[i]? = some (.dict l)) (hx : dget l k = some x) (h : Q x H) : SubOK P d eo ei (.ref i) (.int k) H Q := op2 fun A E ι s u v w r1 r2=>by
  refine x1_2 (r1) fun a eQ1 ea=>?_
  clear r1
  subst eQ1
  refine x1_1 (r2) fun t eQ1=>?_
  clear r2
  subst eQ1
  refine x1_3 (w.hr.dict ea hi) fun kvs hd hk hv=>?_
  refine x0_2 (valueAt_dget (k := k) hk hv) fun i1 _=>?_
  refine x1_2 (i1 x hx) fun z hz rz=>?_
  refine x1_1 (subscripted_ops ei (.ref a) (.int k t)) fun ops hops=>?_
  exact PyProof.Rows.tail_any hd.typeIs slot_dict_getitem.lookup (wpAny_getItem_of (knd := intKind P.prog P.w) (k := k) (by simp [intKind,Value.isInt]) hd.mapOf hz (Gives.now _ w.hr rz h)) hops
theorem cmp_in {x y : AV} {l : List AV} {dx : PyData} {ds : List PyData} {Q : AV → Hp → Prop} (hy : seqL H y = some l) (hx : dat H x = some dx) (hl : dats H l = some ds) (hd : dx.depth ≤ 100) (h : Q (.bool (ds.any fun z=>PyData.eqv z dx)) H) : CmpOK P d .In x y H Q := op2 fun A E ι s u v w r1 r2=>by
  refine x0_2 (dat_ok w.hr r1 hx) fun qQ0 q2=>?_
  obtain ⟨as,q1⟩ := qQ0
  refine x2_3 (seqL_is w.hr r2 hy) fun a vs eQ2 qQ3 rl=>?_
  subst eQ2
  refine x1_3 (qQ3) fun o eo hc nQ=>?_
  clear qQ3
  revert nQ
  intro qQ3
  obtain ⟨n,hdt⟩ := qQ3
  refine x0_2 (dats_ok w.hr rl hl) fun qQ0 q4=>?_
  obtain ⟨bs,q3⟩ := qQ0
  exact SeqAt.in_list_reads (Reads.list eo hc hdt q3) q1 q4 q2 (by have := w.room.units; exact z106 hd this) (Gives.same w.hr (VR.mkBool _) h)
theorem cmp_notIn {x y : AV} {l : List AV} {dx : PyData} {ds : List PyData} {Q : AV → Hp → Prop} (hy : seqL H y = some l) (hx : dat H x = some dx) (hl : dats H l = some ds) (hd : dx.depth ≤ 100) (h : Q (.bool !(ds.any fun z=>PyData.eqv z dx)) H) : CmpOK P d .NotIn x y H Q := op2 fun A E ι s u v w r1 r2=>by
  refine x0_2 (dat_ok w.hr r1 hx) fun qQ0 q2=>?_
  obtain ⟨as,q1⟩ := qQ0
  refine x2_3 (seqL_is w.hr r2 hy) fun a vs eQ2 qQ3 rl=>?_
  subst eQ2
  refine x1_3 (qQ3) fun o eo hc nQ=>?_
  clear qQ3
  revert nQ
  intro qQ3
  obtain ⟨n,hdt⟩ := qQ3
  refine x0_2 (dats_ok w.hr rl hl) fun qQ0 q4=>?_
  obtain ⟨bs,q3⟩ := qQ0
  exact SeqAt.notIn_list_reads (Reads.list eo hc hdt q3) q1 q4 q2 (by have := w.room.units; exact z106 hd this) (Gives.same w.hr (VR.mkBool _) h)
theorem cmp_inT {x : AV} {l : List AV} {dx : PyData} {ds : List PyData} {Q : AV → Hp → Prop} (hx : dat H x = some dx) (hl : dats H l = some ds) (hd : dx.depth ≤ 100) (h : Q (.bool (ds.any fun z=>PyData.eqv z dx)) H) : CmpOK P d .In x (.tup l) H Q := op2 fun A E ι s u v w r1 r2=>by
  refine x0_2 (dat_ok w.hr r1 hx) fun qQ0 q2=>?_
  obtain ⟨as,q1⟩ := qQ0
  unfold VR at r2
  refine x2_3 (r2) fun a vs eQ2 qQ3 rl=>?_
  clear r2
  subst eQ2
  refine x3_1 (qQ3) fun n _ _ eo=>?_
  clear qQ3
  refine x0_2 (dats_ok w.hr rl hl) fun qQ0 q4=>?_
  obtain ⟨bs,q3⟩ := qQ0
  exact SeqAt.in_tuple_reads (Reads.tuple eo rfl rfl q3) q1 q4 q2 (by have := w.room.units; exact z106 hd this) (Gives.same w.hr (VR.mkBool _) h)
theorem cmp_notInT {x : AV} {l : List AV} {dx : PyData} {ds : List PyData} {Q : AV → Hp → Prop} (hx : dat H x = some dx) (hl : dats H l = some ds) (hd : dx.depth ≤ 100) (h : Q (.bool !(ds.any fun z=>PyData.eqv z dx)) H) : CmpOK P d .NotIn x (.tup l) H Q := op2 fun A E ι s u v w r1 r2=>by
  refine x0_2 (dat_ok w.hr r1 hx) fun qQ0 q2=>?_
  obtain ⟨as,q1⟩ := qQ0
  unfold VR at r2
  refine x2_3 (r2) fun a vs eQ2 qQ3 rl=>?_
  clear r2
  subst eQ2
  refine x3_1 (qQ3) fun n _ _ eo=>?_
  clear qQ3
  refine x0_2 (dats_ok w.hr rl hl) fun qQ0 q4=>?_
  obtain ⟨bs,q3⟩ := qQ0
  exact SeqAt.notIn_tuple_reads (Reads.tuple eo rfl rfl q3) q1 q4 q2 (by have := w.room.units; exact z106 hd this) (Gives.same w.hr (VR.mkBool _) h)
noncomputable def isSame (x y : AV) : Option Bool := match y with
  | .none=>(match x with | .none=>some true | _=>some false)
  | .bool b=>(match x with | .none=>some false | .int _=>some false | .bool a=>some (a == b) | _=>Option.none)
  | _=>Option.none
theorem VR.isNone {B h : Heap} {ι : List Addr} {x : AV} {u : Value} (r : VR B h ι x u) : isSame x .none = some (u == Value.none) := by
  cases x with
  | none=>rw [show u = _ from r]; rfl
  | bool a=>rw [show u = _ from r]; rfl
  | int i=>exact r.elim fun t e=>e ▸ rfl
  | str i=>exact r.2.elim fun t e=>e ▸ rfl
  | tup l=>unfold VR at r; exact r.elim fun a q=>q.elim fun vs z=>z.1 ▸ rfl
  | ref i=>exact r.elim fun a z=>z.1 ▸ rfl
  | fro l=>unfold VR at r; exact r.elim fun a q=>q.elim fun vs z=>z.1 ▸ rfl
theorem same_val {B h : Heap} {ι : List Addr} {x y : AV} {u v : Value} {b : Bool} (hb : isSame x y = some b) (r1 : VR B h ι x u) (r2 : VR B h ι y v) : (u == v) = b ∧ (v = .none ∨ plainIs u v = true) := by
  cases y with
  | none=>rw [show v = _ from r2]; exact ⟨Option.some.inj (r1.isNone.symm.trans hb),.inl rfl⟩
  | bool e =>
    rw [show v = _ from r2]
    cases x with
    | none=>rw [show u = _ from r1]; exact ⟨Option.some.inj hb,.inr rfl⟩
    | bool a=>rw [show u = _ from r1]; exact ⟨(show (Value.bool a == Value.bool e) = (a == e) by cases a <;> cases e <;> rfl).trans (Option.some.inj hb),.inr rfl⟩
    | int i=>exact r1.elim fun t z=>z ▸ ⟨Option.some.inj hb,.inr rfl⟩
    | _=>exact nomatch (show (Option.none : Option Bool) = some _ from hb)
  | _=>exact nomatch (show (Option.none : Option Bool) = some _ from hb)
theorem cmp_is {x y : AV} {b : Bool} {Q : AV → Hp → Prop} (hb : isSame x y = some b) (h : Q (.bool b) H) : CmpOK P d .Is x y H Q := op2 fun A E ι s u v w r1 r2=>by
  have e := same_val hb r1 r2
  have g : Gives P.B ι s Q (.bool (u == v)) s := e.1.symm ▸ Gives.same w.hr (VR.mkBool _) h
  exact e.2.elim (fun z=>z ▸ is_none (z ▸ g)) fun z=>wpAny_is_plain z g
theorem cmp_isNot {x y : AV} {b : Bool} {Q : AV → Hp → Prop} (hb : isSame x y = some b) (h : Q (.bool !b) H) : CmpOK P d .IsNot x y H Q := op2 fun A E ι s u v w r1 r2=>by
  have e := same_val hb r1 r2
  have g : Gives P.B ι s Q (.bool (!(u == v))) s := e.1.symm ▸ Gives.same w.hr (VR.mkBool _) h
  exact e.2.elim (fun z=>z ▸ isNot_none (z ▸ g)) fun z=>wpAny_isNot_plain z g
theorem fn_lenL {x : AV} {l : List AV} {Q : AV → Hp → Prop} (hx : seqL H x = some l) (hn : l.length < 2 ^ 62) (h : Q (.int l.length) H) : OpOK P d (fun vs=>call (.builtin "len") vs) [x] H Q := fn1 fun A E ι s u w r=>by
  refine x2_3 (seqL_is w.hr r hx) fun a vs eQ2 il rl=>?_
  subst eQ2
  have e : ((List.toArray vs).size : Int) = l.length := by rw [List.size_toArray,rl.length]
  refine Calls.call_len_list il (by exact z107 hn e) (Gives.now _ w.hr (av := .int l.length) ?_ h)
  rw [e]; exact VR.mkInt _ _
theorem fn_lenT {l : List AV} {Q : AV → Hp → Prop} (hn : l.length < 2 ^ 62) (h : Q (.int l.length) H) : OpOK P d (fun vs=>call (.builtin "len") vs) [.tup l] H Q := fn1 fun A E ι s u w r=>by
  unfold VR at r
  refine x2_3 (r) fun a vs eQ2 pt rl=>?_
  clear r
  subst eQ2
  have e : ((List.toArray vs).size : Int) = l.length := by rw [List.size_toArray,rl.length]
  refine PyProof.Rows.len_tuple pt.isTup (by exact z107 hn e) (Gives.now _ w.hr (av := .int l.length) ?_ h)
  rw [e]; exact VR.mkInt _ _
theorem gives_upd {ι : List Addr} {s : Shared} {i : Nat} {a : Addr} {h' : Heap} {l : List AV} {vs : List Value} {v : Value} {x : AV} {Q : AV → Hp → Prop} (hr : HR P.B ι H s.heap) (ea : ι[i]? = some a) (sb : ∀ b o,b ≠ a → s.heap.get? b = some o → h'.get? b = some o)
    (pl : h'.PlainList a (List.toArray vs)) (rl : VRs P.B s.heap ι l vs) (rx : VR P.B s.heap ι x v) (q : Q x (H.set i (.list l))) (t : Nat) : Gives P.B ι s Q v { s with heap := h',toks := t } := by
  have ma : a ∈ ι := List.mem_of_getElem? ea
  exact ⟨ι,_,x,Post.upd (t := t) hr ea sb (o := .list l) ⟨vs,pl,hr.vrs_upd ma sb rl⟩,hr.vr_upd ma sb rx,q⟩
theorem upd_plain {h : Heap} {a : Addr} {its : Array Value} {n : Nat} (e : h.get? a = some { cls := .type "list",dict := none,data := .seq its n,slots := #[] }) (f : Array Value → Array Value) :
    (h.update a (Obj.mapSeq f)).PlainList a (f its) ∧ ∀ b o,b ≠ a → h.get? b = some o → (h.update a (Obj.mapSeq f)).get? b = some o := by
  refine ⟨⟨if (f its).size == its.size then n else n + 1,?_⟩,fun b o hb eb=>(Heap.get?_update_other h _ (Ne.symm hb)).trans eb⟩
  exact Heap.get?_update_self _ e rfl
theorem fn_append {i : Nat} {l : List AV} {x : AV} {Q : AV → Hp → Prop} (hi : H[i]? = some (.list l)) (hn : l.length ≤ sizeLine) (h : Q .none (H.set i (.list (l ++ [x])))) : OpOK P d (fun vs=>call (.builtin "list.append") vs) [.ref i,x] H Q := fn2 fun A E ι s u v w r1 r2=>by
  refine x1_2 (r1) fun a eQ1 ea=>?_
  clear r1
  subst eQ1
  refine x1_2 (w.hr.list ea hi) fun vs qQ1 rl=>?_
  refine x1_1 (qQ1) fun n pl=>?_
  clear qQ1
  refine wpAny_list_append_plain ⟨n,pl⟩ (fun h' pl' sb=>?_) (by rw [List.size_toArray,rl.length]; exact hn)
  exact gives_upd (vs := vs ++ [v]) w.hr ea (fun b o hb eb=>sb.extBut b o hb eb) (by simpa using pl') (rl.append (m := [x]) ⟨v,[],rfl,r2,rfl⟩) VR.mkNone h s.toks
theorem fn_pop {i : Nat} {l : List AV} {x : AV} {Q : AV → Hp → Prop} (hi : H[i]? = some (.list (l ++ [x]))) (hn : l.length + 1 ≤ sizeLine) (h : Q x (H.set i (.list l))) : OpOK P d (fun vs=>call (.builtin "list.pop") vs) [.ref i] H Q := fn1 fun A E ι s u w r1=>by
  refine x1_2 (r1) fun a eQ1 ea=>?_
  clear r1
  subst eQ1
  refine x1_2 (w.hr.list ea hi) fun vs qQ1 rl=>?_
  refine x1_1 (qQ1) fun n pl=>?_
  clear qQ1
  have hlen : vs.length = l.length + 1 := by rw [rl.length]; simp
  refine x1_2 (rl.get (i := l.length) (x := x) (by simp)) fun z hz rz=>?_
  refine call_meets PySem.F.slot_list_pop ⟨_,pl,rfl⟩ PySem.F.entry_list_pop (PySem.F.args_list_pop_1 _) (MeetsSeq.list_pop_last a vs.toArray n z (by simpa [hlen] using hz) (by rw [List.size_toArray,hlen]; exact hn)) ⟨pl,?_⟩
  refine x0_2 (upd_plain pl (fun xs=>xs.eraseIdxIfInBounds (vs.toArray.size - 1))) fun p1 p2=>?_
  have e : vs.toArray.eraseIdxIfInBounds (vs.toArray.size - 1) = (vs.take l.length).toArray := by
    simp only [List.size_toArray,List.eraseIdxIfInBounds_toArray,hlen,Nat.add_sub_cancel]
    congr 1
    rw [List.eraseIdx_eq_take_drop_succ,List.drop_eq_nil_of_le (by exact Nat.le_of_eq hlen)]; simp
  rw [e] at p1
  have rt := rl.take l.length
  rw [List.take_left] at rt
  exact gives_upd (vs := vs.take l.length) w.hr ea p2 p1 rt rz h s.toks
end Mine
namespace Mine
open PySem
inductive BOp where | add | sub | mul | fdiv | mod | pow
inductive COp where | eq | ne | lt | le | gt | ge | is | isNot | isin | notIn
inductive Ty where | int | bool | str | tuple | list
abbrev Fun := Str → List AV → Hp → (AV → Hp → Prop) → Prop
abbrev PQ := AV → Hp → Prop
noncomputable def NoPy (a b : Int) : Prop := Builtin.divisionGoesByPylong a b = false
noncomputable def asB (v : AV) (K : Bool → Prop) : Prop := match v with | .bool b=>K b | _=>False
noncomputable def asI (v : AV) (K : Int → Prop) : Prop := match v with | .int b=>K b | _=>False
theorem asB.ex {v : AV} {K : Bool → Prop} (h : asB v K) : ∃ b,v = .bool b ∧ K b := by
  cases v <;> first | exact h.elim | exact ⟨_,rfl,h⟩
theorem asI.ex {v : AV} {K : Int → Prop} (h : asI v K) : ∃ b,v = .int b ∧ K b := by
  cases v <;> first | exact h.elim | exact ⟨_,rfl,h⟩
noncomputable def asS (v : AV) (K : Str → Prop) : Prop := match v with | .str b=>K b | _=>False
theorem asS.ex {v : AV} {K : Str → Prop} (h : asS v K) : ∃ b,v = .str b ∧ K b := by
  cases v <;> first | exact h.elim | exact ⟨_,rfl,h⟩
noncomputable def asR (v : AV) (K : Nat → Prop) : Prop := match v with | .ref b=>K b | _=>False
theorem asR.ex {v : AV} {K : Nat → Prop} (h : asR v K) : ∃ b,v = .ref b ∧ K b := by
  cases v <;> first | exact h.elim | exact ⟨_,rfl,h⟩
noncomputable def asTp (v : AV) (K : List AV → Prop) : Prop := match v with | .tup b=>K b | _=>False
theorem asTp.ex {v : AV} {K : List AV → Prop} (h : asTp v K) : ∃ b,v = .tup b ∧ K b := by
  cases v <;> first | exact h.elim | exact ⟨_,rfl,h⟩
noncomputable def wpAdd (x y : AV) (H : Hp) (Q : PQ) : Prop :=
  match x with
  | .int a=>asI y fun b=>Q (.int (a + b)) H
  | .ref i=>asR y fun j=>∃ l m,H[i]? = some (.list l) ∧ H[j]? = some (.list m) ∧ l.length + m.length ≤ sizeLine ∧ Q (.ref H.length) (H ++ [.list (l ++ m)])
  | .tup l=>asTp y fun m=>l.length + m.length ≤ sizeLine ∧ Q (.tup (l ++ m)) H
  | .str a=>asS y fun b=>a.length + b.length ≤ sizeLine ∧ Q (.str (a ++ b)) H
  | _=>False
noncomputable def wpBin (op : BOp) (x y : AV) (H : Hp) (Q : PQ) : Prop :=
  match op with
  | .add=>wpAdd x y H Q
  | .sub=>asI x fun a=>asI y fun b=>Q (.int (a - b)) H
  | .mul=>asI x fun a=>asI y fun b=>IntMulOk a b ∧ Q (.int (a * b)) H
  | .fdiv=>asI x fun a=>asI y fun b=>b ≠ 0 ∧ NoPy a b ∧ Q (.int (a.fdiv b)) H
  | .mod=>asI x fun a=>asI y fun b=>b ≠ 0 ∧ Q (.int (a.fmod b)) H
  | .pow=>asI x fun a=>asI y fun n=>0 ≤ n ∧ n ≤ 1000000 ∧ a.natAbs < 2 ^ 64 ∧ Q (.int (a ^ n.toNat)) H
noncomputable def wpIn (x y : AV) (H : Hp) (K : Bool → Prop) : Prop :=
  match y with
  | .ref i=>match H[i]? with
    | some (.list l)=>∃ dx ds,dat H x = some dx ∧ dats H l = some ds ∧ dx.depth ≤ 100 ∧ K (ds.any fun z=>PyData.eqv z dx)
    | some (.dict l)=>∃ k,x = .int k ∧ K (dget l k).isSome
    | none=>False
  | .tup l=>∃ dx ds,dat H x = some dx ∧ dats H l = some ds ∧ dx.depth ≤ 100 ∧ K (ds.any fun z=>PyData.eqv z dx)
  | _=>False
noncomputable def eqD (x y : AV) (H : Hp) (K : Bool → Prop) : Prop := ∃ dx dy,dat H x = some dx ∧ dat H y = some dy ∧ dx.depth ≤ 100 ∧ K (PyData.eqv dx dy)
noncomputable def wpEq (x y : AV) (H : Hp) (K : Bool → Prop) : Prop :=
  match x with
  | .int a=>(match y with | .int b=>K (a == b) | y=>eqD (.int a) y H K)
  | .str a=>(match y with | .str b=>K (a == b) | y=>eqD (.str a) y H K)
  | .bool a=>(match y with | .bool b=>K (a == b) | y=>eqD (.bool a) y H K)
  | x=>eqD x y H K
theorem wpEq.data {x y : AV} {H : Hp} {K : Bool → Prop} (h : wpEq x y H K) : eqD x y H K := by
  cases x with
  | int a =>
    cases y with
    | int b =>
      have g : K (a == b) := h
      exact ⟨.int a,.int b,rfl,rfl,by simp [PyData.depth],by simpa [PyData.eqv] using g⟩
    | _=>exact h
  | str a =>
    cases y with
    | str b =>
      have g : K (a == b) := h
      exact ⟨.str a,.str b,rfl,rfl,by simp [PyData.depth],by simpa [PyData.eqv] using g⟩
    | _=>exact h
  | bool a =>
    cases y with
    | bool b =>
      have g : K (a == b) := h
      exact ⟨.bool a,.bool b,rfl,rfl,by simp [PyData.depth],by simpa [PyData.eqv] using g⟩
    | _=>exact h
  | _=>exact h
noncomputable def wpCmp (op : COp) (x y : AV) (H : Hp) (Q : PQ) : Prop :=
  match op with
  | .eq=>wpEq x y H fun b=>Q (.bool b) H
  | .ne=>wpEq x y H fun b=>Q (.bool !b) H
  | .lt=>asI x fun a=>asI y fun b=>Q (.bool (decide (a < b))) H
  | .le=>asI x fun a=>asI y fun b=>Q (.bool (decide (a ≤ b))) H
  | .gt=>asI x fun a=>asI y fun b=>Q (.bool (decide (b < a))) H
  | .ge=>asI x fun a=>asI y fun b=>Q (.bool (decide (b ≤ a))) H
  | .is=>∃ b,isSame x y = some b ∧ Q (.bool b) H
  | .isNot=>∃ b,isSame x y = some b ∧ Q (.bool !b) H
  | .isin=>wpIn x y H fun b=>Q (.bool b) H
  | .notIn=>wpIn x y H fun b=>Q (.bool !b) H
section
variable {P : PEnv} {d : Nat} {H : Hp}
noncomputable def BOp.op : BOp → Operator | .add=>.Add | .sub=>.Sub | .mul=>.Mult | .fdiv=>.FloorDiv | .mod=>.Mod | .pow=>.Pow
noncomputable def COp.op : COp → CmpOp | .eq=>.Eq | .ne=>.NotEq | .lt=>.Lt | .le=>.LtE | .gt=>.Gt | .ge=>.GtE | .is=>.Is | .isNot=>.IsNot | .isin=>.In | .notIn=>.NotIn
theorem wpAdd_ok {x y : AV} {Q : PQ} (h : wpAdd x y H Q) : BinOK P d .Add x y H Q := by
  cases x with
  | int a=>obtain ⟨b,rfl,h⟩ := asI.ex h; exact bin_add h
  | ref i=>obtain ⟨j,rfl,l,m,h1,h2,h3,h4⟩ := asR.ex h; exact bin_addL h1 h2 h3 h4
  | tup l=>obtain ⟨m,rfl,h⟩ := asTp.ex h; exact bin_addT h.1 h.2
  | str a=>obtain ⟨b,rfl,h⟩ := asS.ex h; exact bin_addS h.1 h.2
  | _=>exact h.elim
theorem wpBin_ok {op : BOp} {x y : AV} {Q : PQ} (h : wpBin op x y H Q) : BinOK P d op.op x y H Q := by
  cases op with
  | add=>exact wpAdd_ok h
  | sub=>obtain ⟨a,rfl,h⟩ := asI.ex h; obtain ⟨b,rfl,h⟩ := asI.ex h; exact bin_sub h
  | mul=>obtain ⟨a,rfl,h⟩ := asI.ex h; obtain ⟨b,rfl,h⟩ := asI.ex h; exact bin_mul h.1 h.2
  | fdiv=>obtain ⟨a,rfl,h⟩ := asI.ex h; obtain ⟨b,rfl,h⟩ := asI.ex h; exact bin_fdiv h.1 h.2.1 h.2.2
  | mod=>obtain ⟨a,rfl,h⟩ := asI.ex h; obtain ⟨b,rfl,h⟩ := asI.ex h; exact bin_mod h.1 h.2
  | pow=>obtain ⟨a,rfl,h⟩ := asI.ex h; obtain ⟨b,rfl,h⟩ := asI.ex h; exact bin_pow h.1 h.2.1 h.2.2.1 h.2.2.2
structure PEnv.OK2 (P : PEnv) : Prop extends P.OK where
  low : ∃ b o,P.B.get? b = some o ∧ sysModules < b
theorem wpIn_ok (ok : P.OK2) {x y : AV} {Q : PQ} (h : wpIn x y H fun b=>Q (.bool b) H) : CmpOK P d .In x y H Q := by
  unfold wpIn at h
  split at h
  · rename_i i
    split at h
    · rename_i l hl
      refine x2_4 (h) fun dx ds h1 h2 h3 h4=>?_
      clear h
      exact cmp_in (by simp [seqL,hl]) h1 h2 h3 h4
    · rename_i l hl
      refine x1_2 (h) fun k eQ1 nQ=>?_
      clear h
      revert nQ
      intro h
      subst eQ1
      exact cmp_inD hl h
    · exact h.elim
  · refine x2_4 (h) fun dx ds h1 h2 h3 h4=>?_
    clear h
    exact cmp_inT h1 h2 h3 h4
  · exact h.elim
theorem wpNotIn_ok (ok : P.OK2) {x y : AV} {Q : PQ} (h : wpIn x y H fun b=>Q (.bool !b) H) : CmpOK P d .NotIn x y H Q := by
  unfold wpIn at h
  split at h
  · rename_i i
    split at h
    · rename_i l hl
      refine x2_4 (h) fun dx ds h1 h2 h3 h4=>?_
      clear h
      exact cmp_notIn (by simp [seqL,hl]) h1 h2 h3 h4
    · rename_i l hl
      refine x1_2 (h) fun k eQ1 nQ=>?_
      clear h
      revert nQ
      intro h
      subst eQ1
      exact cmp_notInD hl h
    · exact h.elim
  · refine x2_4 (h) fun dx ds h1 h2 h3 h4=>?_
    clear h
    exact cmp_notInT h1 h2 h3 h4
  · exact h.elim
theorem wpEq_ok {x y : AV} {Q : PQ} (h : wpEq x y H fun b=>Q (.bool b) H) : CmpOK P d .Eq x y H Q := by
  refine x2_4 (h.data) fun dx dy h1 h2 h3 h4=>?_
  exact cmp_eq h1 h2 h3 h4
theorem wpNe_ok {x y : AV} {Q : PQ} (h : wpEq x y H fun b=>Q (.bool !b) H) : CmpOK P d .NotEq x y H Q := by
  refine x2_4 (h.data) fun dx dy h1 h2 h3 h4=>?_
  exact cmp_ne h1 h2 h3 h4
theorem wpCmp_ok (ok : P.OK2) {op : COp} {x y : AV} {Q : PQ} (h : wpCmp op x y H Q) : CmpOK P d op.op x y H Q := by
  cases op with
  | eq=>exact wpEq_ok h
  | ne=>exact wpNe_ok h
  | lt=>obtain ⟨a,rfl,h⟩ := asI.ex h; obtain ⟨b,rfl,h⟩ := asI.ex h; exact cmp_lt h
  | le=>obtain ⟨a,rfl,h⟩ := asI.ex h; obtain ⟨b,rfl,h⟩ := asI.ex h; exact cmp_le h
  | gt=>obtain ⟨a,rfl,h⟩ := asI.ex h; obtain ⟨b,rfl,h⟩ := asI.ex h; exact cmp_gt h
  | ge=>obtain ⟨a,rfl,h⟩ := asI.ex h; obtain ⟨b,rfl,h⟩ := asI.ex h; exact cmp_ge h
  | is=>obtain ⟨b,h1,h2⟩ := h; exact cmp_is h1 h2
  | isNot=>obtain ⟨b,h1,h2⟩ := h; exact cmp_isNot h1 h2
  | isin=>exact wpIn_ok ok h
  | notIn=>exact wpNotIn_ok ok h
end
end Mine
namespace Mine
open PySem
set_option maxRecDepth 100000
variable {P : PEnv} {C : Ctx} {d : Nat} {loc : Loc} {H : Hp} {X : XP}
noncomputable def Ty.nm : Ty → String | .int => "int" | .bool => "bool" | .str => "str" | .tuple => "tuple" | .list => "list"
noncomputable def isi (H : Hp) (x : AV) (t : Ty) : Bool :=
  match x with
  | .none=>false
  | .bool _=>(match t with | .bool=>true | .int=>true | _=>false)
  | .int _=>(match t with | .int=>true | _=>false)
  | .str _=>(match t with | .str=>true | _=>false)
  | .tup _=>(match t with | .tuple=>true | _=>false)
  | .fro _=>(match t with | .list=>true | _=>false)
  | .ref i=>(match t with | .list=>(match H[i]? with | some (.list _)=>true | _=>false) | _=>false)
theorem isi_ok {x : AV} {t : Ty} {Q : AV → Hp → Prop} (h : Q (.bool (isi H x t)) H) : OpOK P d (fun vs=>call (.builtin "isinstance") [vs.getD 0 .none,.type t.nm]) [x] H Q := fun A E ι s us w rs=>by
  refine x1_2 (vrs1 rs) fun u eQ1 r=>?_
  subst eQ1
  show wpAny (model P.prog P.w) A (call (.builtin "isinstance") [u,.type t.nm]) (Gives P.B ι s Q) E s
  have b0 : ∀ b,Q (.bool b) H → Gives P.B ι s Q (.bool b) s := fun b q=>Gives.same w.hr (VR.mkBool b) q
  have b1 : ∀ b,Q (.bool b) H → Gives P.B ι s Q (.bool b) { s with toks := s.toks + 1 } := fun b q=>Gives.now _ w.hr (VR.mkBool b) q
  cases x with
  | none =>
    cases r
    cases t
    · exact IsiPair.NoneType_int (b1 _ h)
    · exact IsiPair.NoneType_bool (b1 _ h)
    · exact IsiPair.NoneType_str (b1 _ h)
    · exact IsiPair.NoneType_tuple (b1 _ h)
    · exact IsiPair.NoneType_list (b1 _ h)
  | bool b =>
    cases r
    cases t
    · exact IsiPair.bool_int (b0 _ h)
    · exact IsiPair.bool_bool (b0 _ h)
    · exact IsiPair.bool_str (b1 _ h)
    · exact IsiPair.bool_tuple (b1 _ h)
    · exact IsiPair.bool_list (b1 _ h)
  | int i =>
    refine x1_1 (r) fun tk eQ1=>?_
    clear r
    subst eQ1
    cases t
    · exact IsiPair.int_int (b0 _ h)
    · exact IsiPair.int_bool (b1 _ h)
    · exact IsiPair.int_str (b1 _ h)
    · exact IsiPair.int_tuple (b1 _ h)
    · exact IsiPair.int_list (b1 _ h)
  | str y =>
    refine x0_2 (r) fun _ qQ1=>?_
    clear r
    obtain ⟨tk,rfl⟩ := qQ1
    cases t
    · exact IsiPair.str_int (b1 _ h)
    · exact IsiPair.str_bool (b1 _ h)
    · exact IsiPair.str_str (b0 _ h)
    · exact IsiPair.str_tuple (b1 _ h)
    · exact IsiPair.str_list (b1 _ h)
  | tup l =>
    unfold VR at r
    refine x2_3 (r) fun a vs eQ2 qQ3 rl=>?_
    clear r
    subst eQ2
    refine x3_1 (qQ3) fun n _ _ e=>?_
    clear qQ3
    cases t
    · exact IsiPair.tuple_int e rfl (b1 _ h)
    · exact IsiPair.tuple_bool e rfl (b1 _ h)
    · exact IsiPair.tuple_str e rfl (b1 _ h)
    · exact IsiPair.tuple_tuple e rfl (b0 _ h)
    · exact IsiPair.tuple_list e rfl (b1 _ h)
  | fro l =>
    unfold VR at r
    refine x2_3 (r) fun a vs eQ2 qQ3 rl=>?_
    clear r
    subst eQ2
    refine x1_3 (qQ3) fun o e hc _=>?_
    clear qQ3
    have e := w.hr.base _ _ e
    cases t
    · exact IsiPair.list_int e hc (b1 _ h)
    · exact IsiPair.list_bool e hc (b1 _ h)
    · exact IsiPair.list_str e hc (b1 _ h)
    · exact IsiPair.list_tuple e hc (b1 _ h)
    · exact IsiPair.list_list e hc (b0 _ h)
  | ref i =>
    unfold VR at r
    refine x1_2 (r) fun a eQ1 ea=>?_
    clear r
    subst eQ1
    refine x1_2 (w.hr.there ea) fun o eo oo=>?_
    cases o with
    | list l =>
      refine x1_2 (oo) fun vs qQ1 _=>?_
      clear oo
      refine x1_1 (qQ1) fun n e=>?_
      clear qQ1
      cases t
      · exact IsiPair.list_int e rfl (b1 _ h)
      · exact IsiPair.list_bool e rfl (b1 _ h)
      · exact IsiPair.list_str e rfl (b1 _ h)
      · exact IsiPair.list_tuple e rfl (b1 _ h)
      · exact IsiPair.list_list e rfl (b0 _ (by simpa [isi,eo] using h))
    | dict l =>
      refine x0_3 (oo) fun _ _ qQ2=>?_
      clear oo
      refine x2_2 (qQ2) fun vs n e _=>?_
      clear qQ2
      cases t
      · exact IsiPair.dict_int e rfl (b1 _ h)
      · exact IsiPair.dict_bool e rfl (b1 _ h)
      · exact IsiPair.dict_str e rfl (b1 _ h)
      · exact IsiPair.dict_tuple e rfl (b1 _ h)
      · exact IsiPair.dict_list e rfl (b1 _ (by simpa [isi,eo] using h))
theorem fn_intB {b : Bool} {Q : AV → Hp → Prop} (h : Q (.int (if b then 1 else 0)) H) : OpOK P d (fun vs=>call (.type "int") vs) [.bool b] H Q := fn1 fun A E ι s u w r=>by
  cases r
  exact call_int_bool (Gives.now _ w.hr (VR.mkInt _ _) h)
theorem fn_max {a b : Int} {Q : AV → Hp → Prop} (h : Q (.int (if b > a then b else a)) H) : OpOK P d (fun vs=>call (.builtin "max") vs) [.int a,.int b] H Q := fn2 fun A E ι s u v w r1 r2=>by
  obtain ⟨t,rfl⟩ := r1; obtain ⟨t',rfl⟩ := r2
  refine max_two_ints w.room.handled fun h' tk hk=>⟨ι,H,_,Post.keep w.hr hk,?_,h⟩
  split
  · exact VR.mkInt _ _
  · exact VR.mkInt _ _
theorem fn_min {a b : Int} {Q : AV → Hp → Prop} (h : Q (.int (if b < a then b else a)) H) : OpOK P d (fun vs=>call (.builtin "min") vs) [.int a,.int b] H Q := fn2 fun A E ι s u v w r1 r2=>by
  obtain ⟨t,rfl⟩ := r1; obtain ⟨t',rfl⟩ := r2
  refine min_two_ints w.room.handled fun h' tk hk=>⟨ι,H,_,Post.keep w.hr hk,?_,h⟩
  split
  · exact VR.mkInt _ _
  · exact VR.mkInt _ _
theorem VRs.cons {B h : Heap} {ι : List Addr} {x : AV} {v : Value} {l : List AV} {vs : List Value} (a : VR B h ι x v) (b : VRs B h ι l vs) : VRs B h ι (x :: l) (v :: vs) := by unfold VRs; exact ⟨v,vs,rfl,a,b⟩
theorem VRs.kept {B h h' : Heap} {ι ι' : List Addr} (k : ∀ b o,h.get? b = some o → h'.get? b = some o) (p : ι <+: ι') {l : List AV} {vs : List Value} (r : VRs B h ι l vs) : VRs B h' ι' l vs :=
  VRs.mono (kept_nil_of k) noTup_nil p l vs r
theorem fn_listOf {x : AV} {l : List AV} {Q : AV → Hp → Prop} (hx : seqL H x = some l ∨ x = .tup l) (hn : l.length ≤ sizeLine) (h : Q (.ref H.length) (H ++ [.list l])) : OpOK P d (fun vs=>call (.type "list") vs) [x] H Q := fn1 fun A E ι s u w r=>by
  have fin : ∀ a vs T o n,T = "list" ∨ T = "tuple" → VRs P.B s.heap ι l vs → s.heap.get? a = some o → o.cls = .type T → o.data = .seq vs.toArray n →
      wpAny (model P.prog P.w) A (call (.type "list") [.ref a]) (Gives P.B ι s Q) E s := fun a vs T o n hT rl ho hc hd=>by
    refine call_list_seq a hT ho hc hd (fun h' c' hk hnew=>?_) (by rw [List.size_toArray,rl.length]; exact hn)
    refine ⟨_,_,.ref H.length,Post.alloc (t := s.toks) w.hr hk (get_size _) (o := .list l) ⟨vs,⟨c',hnew⟩,rl.kept hk (List.prefix_append _ _)⟩,?_,h⟩
    unfold VR
    exact ⟨_,rfl,by rw [← w.hr.len]; simp⟩
  rcases hx with hx | rfl
  · refine x2_3 (seqL_is w.hr r hx) fun a vs eQ2 il rl=>?_
    subst eQ2
    refine x1_3 (il) fun o ho hc qQ3=>?_
    clear il
    refine x1_1 (qQ3) fun n hd=>?_
    clear qQ3
    exact fin a vs _ o n (.inl rfl) rl ho hc hd
  · unfold VR at r
    refine x2_3 (r) fun a vs eQ2 qQ3 rl=>?_
    clear r
    subst eQ2
    refine x3_1 (qQ3) fun n _ _ e=>?_
    clear qQ3
    exact fin a vs _ _ n (.inr rfl) rl e rfl rfl
theorem fn_tupleOf {x : AV} {l : List AV} {Q : AV → Hp → Prop} (hx : seqL H x = some l) (hn : l.length ≤ sizeLine) (h : Q (.tup l) H) : OpOK P d (fun vs=>call (.type "tuple") vs) [x] H Q := fn1 fun A E ι s u w r=>by
  refine x2_3 (seqL_is w.hr r hx) fun a vs eQ2 il rl=>?_
  subst eQ2
  refine call_tuple_list il (fun h' hk=>?_) (by rw [List.size_toArray,rl.length]; exact hn)
  have hk' : ∀ b o,s.heap.get? b = some o → (h'.push { cls := .type "tuple",data := .seq vs.toArray }).get? b = some o := fun b o e=>Heap.get?_push_of_some _ (hk b o e)
  refine ⟨ι,H,.tup l,Post.keep (t := s.toks) w.hr hk',?_,h⟩
  unfold VR
  exact ⟨_,vs,rfl,PTup.new _ _,rl.kept hk' (List.prefix_refl _)⟩
theorem VRs.bools {B h : Heap} {ι : List Addr} : ∀ {bs : List Bool} {vs : List Value},VRs B h ι (bs.map .bool) vs → vs = bs.map .bool
  | [],_,r=>r
  | b :: bs,vs,r=>by
    refine x2_3 (r) fun v t eQ2 hv ht=>?_
    clear r
    subst eQ2
    rw [VRs.bools ht,show v = .bool b from hv]; rfl
theorem fn_all {x : AV} {bs : List Bool} {Q : AV → Hp → Prop} (hx : seqL H x = some (bs.map .bool)) (h : Q (.bool (bs.all fun b=>b)) H) : OpOK P d (fun vs=>call (.builtin "all") vs) [x] H Q := fn1 fun A E ι s u w r=>by
  refine x2_3 (seqL_is w.hr r hx) fun a vs eQ2 il rl=>?_
  subst eQ2
  have := rl.bools; subst this
  refine call_all_walk (wpAny_pyIter_list il ⟨_,_,_,_,_,_,fun i=>(bs[i]?).getD false,rfl,Walks.list (A := A.in1) w.room.handled s.heap.objs.size a ?_ (bs.map Value.bool).toArray,⟨?_,?_⟩,?_,fun h' tk hk=>?_⟩)
  · rintro rfl; obtain ⟨o,e,_⟩ := il; rw [get_size] at e; cases e
  · exact ⟨_,Heap.get?_push_size _ rfl,rfl,rfl⟩
  · exact il.push _
  · intro i v Q' E' s' hv hq
    simp only [List.getElem?_toArray,List.getElem?_map] at hv
    cases hb : bs[i]? with
    | none=>rw [hb] at hv; simp at hv
    | some b =>
      rw [hb] at hv; simp at hv; subst hv
      simp only [hb,Option.getD_some] at hq
      exact wpAny_truthy_bool hq
  · have hk' : ∀ b o,s.heap.get? b = some o → h'.get? b = some o := fun b o e=>hk b o (fun m=>by
      simp only [List.mem_singleton] at m; subst m; rw [get_size] at e; cases e) (Heap.get?_push_of_some _ e)
    have e : (List.range (bs.map Value.bool).toArray.size).all (fun i=>(bs[i]?).getD false) = bs.all fun b=>b := by
      rw [Bool.eq_iff_iff]
      simp only [List.all_eq_true,List.mem_range,List.size_toArray,List.length_map]
      constructor
      · intro q b hb
        refine x1_1 (List.getElem_of_mem hb) fun i qQ1=>?_
        obtain ⟨hi,rfl⟩ := qQ1
        simpa [hi] using q i hi
      · intro q i hi
        simpa [hi] using q _ (List.getElem_mem hi)
    rw [e]
    exact ⟨ι,H,_,Post.keep w.hr hk',VR.mkBool _,h⟩
theorem fn_any {x : AV} {bs : List Bool} {Q : AV → Hp → Prop} (hx : seqL H x = some (bs.map .bool)) (h : Q (.bool (bs.any fun b=>b)) H) : OpOK P d (fun vs=>call (.builtin "any") vs) [x] H Q := fn1 fun A E ι s u w r=>by
  refine x2_3 (seqL_is w.hr r hx) fun a vs eQ2 il rl=>?_
  subst eQ2
  have := rl.bools; subst this
  refine call_any_walk (wpAny_pyIter_list il ⟨_,_,_,_,_,_,fun i=>(bs[i]?).getD false,rfl,Walks.list (A := A.in1) w.room.handled s.heap.objs.size a ?_ (bs.map Value.bool).toArray,⟨?_,?_⟩,?_,fun h' tk hk=>?_⟩)
  · rintro rfl; obtain ⟨o,e,_⟩ := il; rw [get_size] at e; cases e
  · exact ⟨_,Heap.get?_push_size _ rfl,rfl,rfl⟩
  · exact il.push _
  · intro i v Q' E' s' hv hq
    simp only [List.getElem?_toArray,List.getElem?_map] at hv
    cases hb : bs[i]? with
    | none=>rw [hb] at hv; simp at hv
    | some b =>
      rw [hb] at hv; simp at hv; subst hv
      simp only [hb,Option.getD_some] at hq
      exact wpAny_truthy_bool hq
  · have hk' : ∀ b o,s.heap.get? b = some o → h'.get? b = some o := fun b o e=>hk b o (fun m=>by
      simp only [List.mem_singleton] at m; subst m; rw [get_size] at e; cases e) (Heap.get?_push_of_some _ e)
    have e : (List.range (bs.map Value.bool).toArray.size).any (fun i=>(bs[i]?).getD false) = bs.any fun b=>b := by
      rw [Bool.eq_iff_iff]
      simp only [List.any_eq_true,List.mem_range,List.size_toArray,List.length_map]
      constructor
      · rintro ⟨i,hi,q⟩
        exact ⟨bs[i],List.getElem_mem hi,by simpa [hi] using q⟩
      · rintro ⟨b,hb,q⟩
        refine x1_1 (List.getElem_of_mem hb) fun i qQ1=>?_
        obtain ⟨hi,rfl⟩ := qQ1
        exact ⟨i,hi,by simpa [hi] using q⟩
    rw [e]
    exact ⟨ι,H,_,Post.keep w.hr hk',VR.mkBool _,h⟩
theorem listFits {k : Int} (h0 : 0 ≤ k) (h1 : k < 2 ^ 62) : Builtin.List.listFitsIndex k = true := fitsIndex_of h0 (by exact z108 h1)
theorem fn_popAt {i : Nat} {l : List AV} {k : Int} {x : AV} {Q : AV → Hp → Prop} (hi : H[i]? = some (.list l)) (hn : l.length ≤ sizeLine) (h0 : 0 ≤ k) (h1 : k < 2 ^ 62) (hx : l[k.toNat]? = some x) (h : Q x (H.set i (.list (l.eraseIdx k.toNat)))) :
    OpOK P d (fun vs=>call (.builtin "list.pop") vs) [.ref i,.int k] H Q := fn2 fun A E ι s u v w r1 r2=>by
  refine x1_2 (r1) fun a eQ1 ea=>?_
  clear r1
  subst eQ1
  refine x1_1 (r2) fun t eQ1=>?_
  clear r2
  subst eQ1
  refine x1_2 (w.hr.list ea hi) fun vs qQ1 rl=>?_
  refine x1_1 (qQ1) fun n pl=>?_
  clear qQ1
  refine x1_2 (rl.get hx) fun z hz rz=>?_
  have hlt : k.toNat < l.length := (List.getElem?_eq_some_iff.mp hx).1
  refine call_meets PySem.F.slot_list_pop ⟨_,pl,rfl⟩ PySem.F.entry_list_pop (PySem.F.args_list_pop_2 _ _) (MeetsSeq.list_pop_at a vs.toArray n k t k.toNat z (listFits h0 h1) ?_ (by simpa using hz) (by rw [List.size_toArray,rl.length]; exact hn)) ⟨pl,?_⟩
  · refine seqIndex_place ?_
    unfold place
    rw [if_pos h0,if_pos (by rw [List.size_toArray,rl.length]; exact Int.lt_of_toNat_lt hlt)]
  · refine x0_2 (upd_plain pl (fun xs=>xs.eraseIdxIfInBounds k.toNat)) fun p1 p2=>?_
    have e : vs.toArray.eraseIdxIfInBounds k.toNat = (vs.eraseIdx k.toNat).toArray := by simp
    rw [e] at p1
    have rt : VRs P.B s.heap ι (l.eraseIdx k.toNat) (vs.eraseIdx k.toNat) := by
      rw [List.eraseIdx_eq_take_drop_succ,List.eraseIdx_eq_take_drop_succ]
      exact (rl.take _).append (rl.drop _)
    exact gives_upd w.hr ea p2 p1 rt rz h s.toks
theorem fn_insert {i : Nat} {l : List AV} {k : Int} {x : AV} {Q : AV → Hp → Prop} (hi : H[i]? = some (.list l)) (hn : l.length ≤ sizeLine) (h0 : 0 ≤ k) (h1 : k ≤ l.length) (h : Q .none (H.set i (.list (l.take k.toNat ++ x :: l.drop k.toNat)))) :
    OpOK P d (fun vs=>call (.builtin "list.insert") vs) [.ref i,.int k,x] H Q := fn3 fun A E ι s u v y w r1 r2 r3=>by
  refine x1_2 (r1) fun a eQ1 ea=>?_
  clear r1
  subst eQ1
  refine x1_1 (r2) fun t eQ1=>?_
  clear r2
  subst eQ1
  refine x1_2 (w.hr.list ea hi) fun vs qQ1 rl=>?_
  refine x1_1 (qQ1) fun n pl=>?_
  clear qQ1
  have hsl : (sizeLine : Int) < 2 ^ 62 := by unfold sizeLine; exact z109
  refine call_meets PySem.F.slot_list_insert ⟨_,pl,rfl⟩ PySem.F.entry_list_insert (PySem.F.args_list_insert_3 _ _ _) (AutoListH.list_insert_list_int_val_1 a vs.toArray n k t y (by rw [listFits h0 (by exact z110 hn h1 hsl)]; decide) (by rw [List.size_toArray,rl.length]; exact hn)) ⟨pl,?_⟩
  obtain ⟨p1,p2⟩ := upd_plain pl (fun xs=>have k' := if k < 0 then (k + ((xs.size : Nat) : Int)).toNat else min k.toNat xs.size; (xs.extract 0 k').push y ++ xs.extract k')
  have hk : (if k < 0 then (k + ((vs.toArray.size : Nat) : Int)).toNat else min k.toNat vs.toArray.size) = k.toNat := by
    rw [if_neg (by exact Int.not_lt_of_ge h0),List.size_toArray,rl.length]; exact z111 h1
  have e : (have k' := if k < 0 then (k + ((vs.toArray.size : Nat) : Int)).toNat else min k.toNat vs.toArray.size; (vs.toArray.extract 0 k').push y ++ vs.toArray.extract k') = (vs.take k.toNat ++ y :: vs.drop k.toNat).toArray := by
    simp only [hk]
    apply Array.toList_inj.mp
    simp [List.take_of_length_le]
  rw [e] at p1
  exact gives_upd w.hr ea p2 p1 ((rl.take _).append (VRs.cons r3 (rl.drop _))) VR.mkNone h s.toks
theorem fn_extend {i j : Nat} {l m : List AV} {Q : AV → Hp → Prop} (hi : H[i]? = some (.list l)) (hj : H[j]? = some (.list m)) (hn : l.length + m.length ≤ 1000000) (h : Q .none (H.set i (.list (l ++ m)))) :
    OpOK P d (fun vs=>call (.builtin "list.extend") vs) [.ref i,.ref j] H Q := fn2 fun A E ι s u v w r1 r2=>by
  refine x1_2 (r1) fun a eQ1 ea=>?_
  clear r1
  subst eQ1
  refine x1_2 (w.hr.list ea hi) fun vs qQ1 rl=>?_
  refine x1_1 (qQ1) fun n pl=>?_
  clear qQ1
  have hsl : 1000000 ≤ sizeLine := by unfold sizeLine; exact z112
  have hl := rl.length
  refine x1_2 (r2) fun b eQ1 eb=>?_
  clear r2
  subst eQ1
  refine x1_2 (w.hr.list eb hj) fun ws qQ1 rm=>?_
  refine x1_1 (qQ1) fun n' pm=>?_
  clear qQ1
  have hm := rm.length
  refine call_meets PySem.F.slot_list_extend ⟨_,pl,rfl⟩ PySem.F.entry_list_extend (PySem.F.args_list_extend_2 _ _) (AutoSeq1.list_extend_list_list_0 a vs.toArray n b ws.toArray n' ?_ (by rw [List.size_toArray]; exact z113 hn hsl hl) (by simp only [List.size_toArray]; exact z114 hn hsl hl hm)) ⟨pl,pm,?_⟩
  · simp only [Bool.and_eq_true,not_and]; intro _; simp only [Builtin.List.listTooLong,List.size_toArray,hl,hm,decide_eq_true_eq]; exact z115 hn hsl
  · refine x0_2 (upd_plain pl (fun xs=>xs ++ ws.toArray)) fun p1 p2=>?_
    exact gives_upd (vs := vs ++ ws) w.hr ea p2 (by simpa using p1) (rl.append rm) VR.mkNone h s.toks
theorem fn_clear {i : Nat} {l : List AV} {Q : AV → Hp → Prop} (hi : H[i]? = some (.list l)) (hn : l.length ≤ sizeLine) (h : Q .none (H.set i (.list []))) :
    OpOK P d (fun vs=>call (.builtin "list.clear") vs) [.ref i] H Q := fn1 fun A E ι s u w r1=>by
  refine x1_2 (r1) fun a eQ1 ea=>?_
  clear r1
  subst eQ1
  refine x1_2 (w.hr.list ea hi) fun vs qQ1 rl=>?_
  refine x1_1 (qQ1) fun n pl=>?_
  clear qQ1
  refine call_meets PySem.F.slot_list_clear ⟨_,pl,rfl⟩ PySem.F.entry_list_clear (PySem.F.args_list_clear_1 _) (AutoSeq1.list_clear_list_0 a vs.toArray n (by rw [List.size_toArray,rl.length]; exact hn)) ⟨pl,?_⟩
  refine x0_2 (upd_plain pl (fun _=>#[])) fun p1 p2=>?_
  exact gives_upd (vs := []) (l := []) w.hr ea p2 p1 rfl VR.mkNone h s.toks
end Mine
namespace Mine
open PySem
set_option maxRecDepth 100000
variable {P : PEnv} {C : Ctx} {d : Nat} {loc : Loc} {H : Hp} {X : XP}
noncomputable def ItCall (P : PEnv) (tt : Bool) (d : Nat) (t : List Value → Sem Value) (args : List AV) (H : Hp) (K : List AV → (Hp → Prop) → Hp → Prop) : Prop :=
  ∀ A E ι s vs,W P.B A d ι H s → VRs P.B s.heap ι args vs → wpAny (model P.prog P.w) A (t vs) (fun v s₁=>∃ ι₁ H₁ items Cnd s₀,Post P.B ι s ι₁ H₁ s₀ ∧ ItTail P tt A ι₁ items Cnd v s₀ s₁ ∧ K items Cnd H₁) E s
theorem itEv_ty {tt : Bool} {x : Str} {T : String} {pn pos : Pos} {e0 : Expr} {es : List Expr} {K : List AV → (Hp → Prop) → Hp → Prop} (ok : P.OK) (hk : C.names.lookup x = some .globalImplicit) (hd : (x == ("__debug__" : Str)) = false)
    (hg : P.mg x = none) (hb : P.mb x = some (.type T))
    (h : EvsOK P C d (e0 :: es) loc H (fun args H'=>ItCall P tt d (fun vs=>call (.type T) vs) args H' K) X) (he : ∀ env,starEach (e0 :: es) env = (false,eval e0 env) :: starEach es env) (hp : plainArgs es) :
    ItEv P tt C d (.Call (.Name x pn) (e0 :: es) [] pos) loc H K X := fun A E env ι s w e a=>by
  refine PyProof.Rows.Call_ (Calls.Name_function_global e.kind (by unfold Env.kindOf; rw [e.names]; exact hk) (Calls.loadGlobal_builtin (e.glob ▸ ok.g.keeps fun b o e=>w.hr.base b o e) hg (e.blt ▸ ok.b.keeps fun b o e=>w.hr.base b o e) hb ?_) hd)
  refine PyProof.Rows.callWith_type1 (gll (h A E env ι s pos w e a) (fun vs s₁ ι₁ H₁ l p₁ r₁ g=>?_)) (he env) (hp env pos)
  refine wpAny_mono (g A E ι₁ s₁ vs (w.step p₁) r₁) (fun v s' gv=>?_) fun _ _ x=>x
  refine x5_3 (gv) fun ι₂ H₂ items Cnd s₀ p₂ tl k=>?_
  clear gv
  exact ⟨ι₂,H₂,items,Cnd,s₀,p₁.trans p₂,tl,k⟩
theorem tail_range {tt : Bool} {A : Around} {ι : List Addr} {s : Shared} {a b : Int} {t u v : Tok} {r : Addr} (hr : HR P.B ι H s.heap) (hs : IsRange s.heap r a b 1 t u v) (ha : -(2 ^ 62) ≤ a) (ha' : a < 2 ^ 62) (hb : -(2 ^ 62) ≤ b) (hb' : b < 2 ^ 62) :
    ItTail P tt A ι ((List.range (b - a).toNat).map fun (k : Nat)=>AV.int (a + k)) (fun _=>True) (.ref r) s s := fun E Q h=>by
  refine wpAny_pyIter_range hs (small_one ha ha' hb hb') ?_
  have rs : Builtin.Range.rangeSize a b 1 = ((b - a).toNat : Int) := by rw [rangeSize_one]; split <;> (first | lia | omega)
  rw [rs]
  have nt : ∀ {h₁ : Heap} {x y : Int},IsRangeIter h₁ s.heap.objs.size x y 1 → NoTup [s.heap.objs.size] h₁ := fun q b hb vs t=>by
    rw [List.mem_singleton.mp hb] at t
    refine x1_3 (t) fun o' e' c' _=>?_
    clear t
    rw [q] at e'; cases e'; simp at c'
  refine h s.heap.objs.size [s.heap.objs.size] (fun k ι' h'=>IsRangeIter h' s.heap.objs.size (a + k) (((b - a).toNat : Int) - k) 1) (fun k _ ι' h'=>IsRangeIter h' s.heap.objs.size (a + k + 1) (((b - a).toNat : Int) - k - 1) 1) _ s.toks ?_ ?_ (fun b hb=>by rw [List.mem_singleton.mp hb]; exact get_size _) (fun b o e=>Heap.get?_push_of_some _ e)
  · refine ⟨?_,?_,?_,?_,?_,?_,?_⟩
    · intro k ι₁ ι₂ S h₁ h₂ q kp _ pr hw
      exact kp.exact q (hw _ (List.mem_singleton.mpr rfl)) (fun _ _=>by simp)
    · intro k ι₁ h₁ q b hb
      rw [List.mem_singleton.mp hb]
      exact ⟨_,q,fun vs n=>by simp⟩
    · intro k v ι₁ h₁ q b hb
      rw [List.mem_singleton.mp hb]
      exact ⟨_,q,fun vs n=>by simp⟩
    · intro A E ι₁ H₁ s₁ k x Q hh hr₁ hc q hx hQ
      have hk : k < (b - a).toNat := by
        have := (List.getElem?_eq_some_iff.mp hx).1
        simpa using this
      refine wpAny_pyNext_range_item q (by exact z116 hk) fun h' it' sb=>?_
      refine hQ _ h' (s₁.toks + 1) ?_ it' fun b o hb eb=>sb.extBut b o (fun z=>hb (z ▸ List.mem_singleton.mpr rfl)) eb
      have : x = .int (a + k) := by
        rw [List.getElem?_map,List.getElem?_range hk] at hx
        simpa using hx.symm
      rw [this]; exact VR.mkInt _ _
    · intro tgt A E ι₁ s₁ k v Q _ q hQ
      refine go_plain q rfl (by decide) (hQ s₁.heap ?_ fun _ _ _ e=>e)
      have e1 : a + ((k + 1 : Nat) : Int) = a + k + 1 := by exact z117
      have e2 : ((b - a).toNat : Int) - ((k + 1 : Nat) : Int) = ((b - a).toNat : Int) - k - 1 := by exact z118
      rw [e1,e2]; exact q
    · intro A E ι₁ H₁ s₁ Q hh hr₁ hc q hQ
      refine wpAny_pyNext_range_end hh q (by simp) fun h' ext=>hQ h' s₁.toks fun b o hb eb=>ext b o (fun z=>hb (z ▸ List.mem_singleton.mpr rfl)) eb
    · intro A E ι₁ s₁ k Q q hQ
      exact wpAny_pyIter_rangeiter q hQ
  · show IsRangeIter _ _ (a + ((0 : Nat) : Int)) (((b - a).toNat : Int) - ((0 : Nat) : Int)) 1
    have e1 : a + ((0 : Nat) : Int) = a := by exact z119
    have e2 : ((b - a).toNat : Int) - ((0 : Nat) : Int) = ((b - a).toNat : Int) := by exact Int.sub_eq_iff_eq_add.mpr rfl
    rw [e1,e2]
    exact Heap.get?_push_size _ rfl
theorem it_range1 {tt : Bool} {n : Int} {K : List AV → (Hp → Prop) → Hp → Prop} (h0 : -(2 ^ 62) ≤ n) (h1 : n < 2 ^ 62) (h : K ((List.range n.toNat).map fun (k : Nat)=>AV.int k) (fun _=>True) H) : ItCall P tt d (fun vs=>call (.type "range") vs) [.int n] H K := fun A E ι s vs w rs=>by
  refine x1_2 (vrs1 rs) fun u eQ1 r=>?_
  subst eQ1
  clear rs
  refine x1_1 (r) fun t eQ1=>?_
  clear r
  subst eQ1
  refine call_range_1 ?_
  have p : Post P.B ι s ι H { s with heap := s.heap.push { cls := .type "range",data := .fields #[.int 0 s.toks,.int n t,.int 1 (s.toks + 1)] },toks := s.toks + 1 + 1 } := Post.keep w.hr fun b o e=>Heap.get?_push_of_some _ e
  refine ⟨ι,H,_,_,_,p,tail_range (a := 0) (b := n) p.hr (IsRange.new ..) (by exact Int.neg_ofNat_le_ofNat (2 ^ 62) 0) (by exact z120) h0 h1,?_⟩
  simpa using h
theorem it_range2 {tt : Bool} {a b : Int} {K : List AV → (Hp → Prop) → Hp → Prop} (ha : -(2 ^ 62) ≤ a) (ha' : a < 2 ^ 62) (hb : -(2 ^ 62) ≤ b) (hb' : b < 2 ^ 62) (h : K ((List.range (b - a).toNat).map fun (k : Nat)=>AV.int (a + k)) (fun _=>True) H) : ItCall P tt d (fun vs=>call (.type "range") vs) [.int a,.int b] H K := fun A E ι s vs w rs=>by
  refine x2_3 (vrs2 rs) fun u v eQ2 r1 r2=>?_
  subst eQ2
  clear rs
  refine x1_1 (r1) fun t eQ1=>?_
  clear r1
  subst eQ1
  refine x1_1 (r2) fun t' eQ1=>?_
  clear r2
  subst eQ1
  refine call_range_2 ?_
  have p : Post P.B ι s ι H { s with heap := s.heap.push { cls := .type "range",data := .fields #[.int a t,.int b t',.int 1 s.toks] },toks := s.toks + 1 } := Post.keep w.hr fun b o e=>Heap.get?_push_of_some _ e
  exact ⟨ι,H,_,_,_,p,tail_range (a := a) (b := b) p.hr (IsRange.new ..) ha ha' hb hb',h⟩
theorem it_rev {tt : Bool} {i : Nat} {l : List AV} {K : List AV → (Hp → Prop) → Hp → Prop} (hi : H[i]? = some (.list l)) (h : K l.reverse (fun H'=>H'[i]? = some (.list l)) H) : ItCall P tt d (fun vs=>call (.type "reversed") vs) [.ref i] H K := fun A E ι s vs w rs=>by
  refine x1_2 (vrs1 rs) fun u eQ1 r=>?_
  subst eQ1
  clear rs
  refine x1_2 (r) fun a eQ1 ea=>?_
  clear r
  subst eQ1
  refine x1_2 (w.hr.list ea hi) fun ws pl rl=>?_
  have hlen := rl.length
  refine call_reversed_list pl.isList ?_
  have it0 : (s.heap.push (revObj a (((List.toArray ws).size : Int) - 1))).IsRevIter s.heap.objs.size a ((l.length : Int) - 1) := ⟨_,Heap.get?_push_size _ rfl,rfl,by rw [List.size_toArray,hlen]; rfl⟩
  refine ⟨ι,H,l.reverse,_,s,Post.id w.hr,fun E' Q hq=>?_,h⟩
  refine wpAny_pyIter_revIter it0 ?_
  refine hq s.heap.objs.size [s.heap.objs.size] (fun k ι' h'=>k ≤ l.length ∧ ι'[i]? = some a ∧ h'.IsRevIter s.heap.objs.size a ((l.length : Int) - 1 - k)) (fun k _ ι' h'=>k + 1 ≤ l.length ∧ ι'[i]? = some a ∧ h'.IsRevIter s.heap.objs.size a ((l.length : Int) - 1 - (k + 1 : Nat))) _ s.toks ?_
    ⟨Nat.zero_le _,ea,by simpa using it0⟩ (fun b hb=>by rw [List.mem_singleton.mp hb]; exact get_size _) (fun b o e=>Heap.get?_push_of_some _ e)
  refine ⟨?_,?_,?_,?_,?_,?_,?_⟩
  · rintro k ι₁ ι₂ S h₁ h₂ ⟨q0,q1,o,e,c,dt⟩ kp _ pr hw
    exact ⟨q0,pre_get pr q1,o,kp.exact e (hw _ (List.mem_singleton.mpr rfl)) (fun _ _=>by rw [dt]; simp),c,dt⟩
  · rintro k ι₁ h₁ ⟨_,_,o,e,c,dt⟩ b hb
    rw [List.mem_singleton.mp hb]
    exact ⟨o,e,fun vs n=>by rw [dt]; simp⟩
  · rintro k v ι₁ h₁ ⟨_,_,o,e,c,dt⟩ b hb
    rw [List.mem_singleton.mp hb]
    exact ⟨o,e,fun vs n=>by rw [dt]; simp⟩
  · rintro A E ι₁ H₁ s₁ k x Q hh hr₁ hc ⟨q0,q1,q2⟩ hx hQ
    refine x1_2 (hr₁.objs i _ hc) fun a₂ ea₂ qQ2=>?_
    obtain ⟨vs₂,pl₂,rv₂⟩ := qQ2
    rw [q1] at ea₂; cases ea₂
    have hk : k < l.length := by
      have := (List.getElem?_eq_some_iff.mp hx).1
      simpa using this
    rw [List.getElem?_reverse hk] at hx
    refine x1_2 (rv₂.get hx) fun u hu ru=>?_
    have e1 : (l.length : Int) - 1 - k = ((l.length - 1 - k : Nat) : Int) := by exact z121 hk
    rw [e1] at q2
    refine wpAny_pyNext_rev_item q2 pl₂.isList (x := u) (by simpa using hu) fun h' it' sb=>?_
    have ext : ∀ b o,b ∉ [s.heap.objs.size] → s₁.heap.get? b = some o → h'.get? b = some o := fun b o hb eb=>sb.extBut b o (fun z=>hb (z ▸ List.mem_singleton.mpr rfl)) eb
    refine hQ u h' s₁.toks (VR.mono (S := [s.heap.objs.size]) (Kept.of_keeps ext) (fun b hb vs t=>?_) (List.prefix_refl _) _ _ ru) ⟨hk,q1,?_⟩ ext
    · rw [List.mem_singleton.mp hb] at t
      refine x1_3 (q2) fun o e c dt=>?_
      clear q2
      refine x1_3 (t) fun o' e' c' _=>?_
      clear t
      rw [e] at e'; cases e'; rw [c] at c'; simp at c'
    · have e2 : (l.length : Int) - 1 - (k + 1 : Nat) = ((l.length - 1 - k : Nat) : Int) - 1 := by exact z122 e1
      rw [e2]; exact it'
  · rintro tgt A E ι₁ s₁ k v Q _ ⟨q0,q1,o,e,c,dt⟩ hQ
    exact go_plain e c (by decide) (hQ s₁.heap ⟨q0,q1,o,e,c,dt⟩ fun _ _ _ e=>e)
  · rintro A E ι₁ H₁ s₁ Q hh hr₁ hc ⟨q0,q1,q2⟩ hQ
    have e1 : (l.length : Int) - 1 - (l.reverse.length : Nat) = -1 := by rw [List.length_reverse]; exact Int.sub_eq_iff_eq_add'.mpr rfl
    rw [e1] at q2
    exact wpAny_pyNext_rev_end hh q2 fun h' ext=>hQ h' s₁.toks fun b o hb eb=>ext b o (fun z=>hb (z ▸ List.mem_singleton.mpr rfl)) eb
  · rintro A E ι₁ s₁ k Q ⟨q0,q1,q2⟩ hQ
    exact wpAny_pyIter_revIter q2 hQ
noncomputable def lclip (n : Nat) : Option Int → Nat → Nat
  | some k,_=>min k.toNat n
  | none,dflt=>dflt
noncomputable def lslice {α : Type} (l : List α) (lo hi : Option Int) : List α := (l.drop (lclip l.length lo 0)).take (lclip l.length hi l.length - lclip l.length lo 0)
noncomputable def partOK : Option Int → Prop | some k=>0 ≤ k | none=>True
theorem VRs.slice {B h : Heap} {ι : List Addr} {l : List AV} {vs : List Value} {lo hi : Option Int} (r : VRs B h ι l vs) : VRs B h ι (lslice l lo hi) (lslice vs lo hi) := by
  unfold lslice
  rw [r.length]
  exact (r.drop _).take _
theorem clip_eq {n : Nat} {o : Option Int} {dflt : Nat} (h : partOK o) : o.elim dflt (clipAt n) = lclip n o dflt := by
  cases o with
  | none=>rfl
  | some k =>
    refine x1_1 (Int.eq_ofNat_of_zero_le h) fun j eQ1=>?_
    subst eQ1
    show clipAt n (j : Int) = min _ _
    rw [clipAt_nat]; simp
noncomputable def evPart (P : PEnv) (C : Ctx) (d : Nat) (o : Option Expr) (loc : Loc) (H : Hp) (Q : Option Int → Hp → Prop) (X : XP) : Prop :=
  match o with
  | none=>Q none H
  | some e=>EvOK P C d e loc H (fun v H'=>∃ k,v = .int k ∧ Q (some k) H') X
theorem evPart_ok {o : Option Expr} {Q : Option Int → Hp → Prop} (h : evPart P C d o loc H Q X) : ∀ A E env ι s,W P.B A d ι H s → EnvR P.B C env ι s.heap loc → Acc P A X ι s E →
    wpAny (model P.prog P.w) A (evalPart o env) (fun v s₁=>∃ ι₁ H₁ k,Post P.B ι s ι₁ H₁ s₁ ∧ IsPart v k ∧ Q k H₁) E s := fun A E env ι s w e a=>by
  cases o with
  | none=>exact wpAny_pure ⟨ι,H,none,Post.id w.hr,.none,h⟩
  | some x =>
    refine gv (h A E env ι s w e a) (fun v s₁ ι₁ H₁ av p₁ r₁ g=>?_)
    refine x1_2 (g) fun k eQ1 q=>?_
    clear g
    subst eQ1
    refine x1_1 (r₁) fun t eQ1=>?_
    clear r₁
    subst eQ1
    exact ⟨ι₁,H₁,some k,p₁,.int k t,q⟩
theorem sub_slice {prog : Program} {w : World} {A : Around} {E : Value → Shared → Prop} {env : Env} {s : Shared} {value : Expr} {lower upper : Option Expr} {p pos : Pos} {T id : String} {Q : Value → Shared → Prop}
    (hl : typeLookup (.type T) "__getitem__" = pure (some (.builtin id)))
    (h : wpAny (model prog w) A (eval value env) (fun o s₁=>wpAny (model prog w) A (eval (.Slice lower upper none p) env) (fun i s₂=>s₂.TypeIs o T ∧ wpAny (model prog w) A (getItem o i) Q E s₂) E s₁) E s) :
    wpAny (model prog w) A (eval (.Subscript value (.Slice lower upper none p) pos) env) Q E s := by
  rw [eval_Subscript]
  refine wpAny_bind (wpAny_mono h (fun o s₁ h₁=>wpAny_bind (wpAny_holding (wpAny_mono h₁ (fun i s₂ h₂=>wpAny_bind (wpAny_standAt ?_)) fun _ _ x=>x))) fun _ _ x=>x)
  have fin : wpAny (model prog w) A (operate [i,o] (getItem o i)) (fun r s₃=>wpAny (model prog w) A (letTemporaryGo value o r >>= fun _=>pure r) Q E s₃) E s₂ :=
    wpAny_operating (wpAny_mono h₂.2 (fun r s₃ h₃=>wpAny_bind (wpAny_letTemporaryGo (wpAny_pure h₃))) fun _ _ x=>x)
  first
    | (refine wpAny_bind ?_
       rw [getitemInPython_of_ne h₂.1.not_modules]
       refine wpAny_bind (wpAny_specialOf h₂.1 hl ?_)
       first
         | exact wpAny_pure (wpAny_bind fin)
         | exact wpAny_bind (wpAny_pure (wpAny_bind fin)))
    | (refine wpAny_bind (wpAny_specialOf h₂.1 hl ?_)
       exact wpAny_bind fin)
theorem ev_slice {o : Expr} {lo hi : Option Expr} {p pos : Pos} {Q : AV → Hp → Prop}
    (h : EvOK P C d o loc H (fun x H₁=>evPart P C d lo loc H₁ (fun a H₂=>evPart P C d hi loc H₂ (fun b H₃=>∃ l,seqL H₃ x = some l ∧ l.length ≤ sizeLine ∧ partOK a ∧ partOK b ∧ Q (.ref H₃.length) (H₃ ++ [.list (lslice l a b)])) X) X) X) :
    EvOK P C d (.Subscript o (.Slice lo hi none p) pos) loc H Q X := fun A E env ι s w e a=>by
  refine sub_slice (T := "list") slot_list_getitem.lookup (gv (h A E env ι s w e a) (fun u s₁ ι₁ H₁ x p₁ r₁ g=>?_))
  refine wpAny_Slice (wpAny_mono (evPart_ok g A E env ι₁ s₁ (w.step p₁) (e.step w.hr p₁) (a.step p₁)) (fun v s₂ g=>?_) fun _ _ x=>x)
  refine x3_3 (g) fun ι₂ H₂ ka p₂ ip g=>?_
  have p₁₂ := p₁.trans p₂
  refine wpAny_mono (evPart_ok g A E env ι₂ s₂ (w.step p₁₂) (e.step w.hr p₁₂) (a.step p₁₂)) (fun v' s₃ g=>?_) fun _ _ x=>x
  refine x3_3 (g) fun ι₃ H₃ kb p₃ ip' qQ5=>?_
  clear g
  obtain ⟨l,hl,hsz,oa,ob,q⟩ := qQ5
  refine wpAny_pure ?_
  have p₁₃ := p₁₂.trans p₃
  have rx := p₃.vr p₂.hr (p₂.vr p₁.hr r₁)
  refine x2_3 (seqL_is p₃.hr rx hl) fun ax vs eQ2 il rl=>?_
  subst eQ2
  have hk : ∀ b o,s₃.heap.get? b = some o → (s₃.heap.push { cls := .type "slice",data := .fields #[v,v',.none] }).get? b = some o := fun b o e=>Heap.get?_push_of_some _ e
  have p₄ : Post P.B ι₃ s₃ ι₃ H₃ { s₃ with heap := s₃.heap.push { cls := .type "slice",data := .fields #[v,v',.none] } } := Post.keep (t := s₃.toks) p₃.hr hk
  refine ⟨(il.push _).typeIs,wpAny_getItem_list_slice (il.push _) (Heap.IsSliceOf.new ..) ip ip' .none (by simp) ?_ (by rw [List.size_toArray,rl.length]; exact hsz)⟩
  have e1 : slicePick vs.toArray ka kb none = (lslice vs ka kb).toArray := by
    rw [slicePick_plain,List.size_toArray,clip_eq oa,clip_eq ob]; rfl
  rw [e1]
  have := gives_newList (P := P) (Q := Q) p₄.hr (VRs.slice (lo := ka) (hi := kb) (rl.kept hk (List.prefix_refl _))) q
  exact (this.before p₄).before p₁₃
theorem ev_neg {e : Expr} {pos : Pos} {Q : AV → Hp → Prop} (h : EvOK P C d e loc H (fun v H'=>∃ k,v = .int k ∧ Q (.int (-k)) H') X) : EvOK P C d (.UnaryOp .USub e pos) loc H Q X := fun A E env ι s w ev a=>by
  refine wpAny_UnaryOp (gv (h A E env ι s w ev a) (fun u s₁ ι₁ H₁ av p₁ r₁ g=>?_))
  refine x1_2 (g) fun k eQ1 q=>?_
  clear g
  subst eQ1
  refine x1_1 (r₁) fun t eQ1=>?_
  clear r₁
  subst eQ1
  exact PySem.P.neg_int ((Gives.now _ p₁.hr (VR.mkInt _ _) q).before p₁)
theorem ev_rev {o st : Expr} {p pos : Pos} {Q : AV → Hp → Prop} (ht : ∀ o' r,letTemporaryGo o o' r = pure ())
    (h : EvOK P C d o loc H (fun x H₁=>EvOK P C d st loc H₁ (fun m H₂=>m = .int (-1) ∧ ∃ l,seqL H₂ x = some l ∧ l.length ≤ sizeLine ∧ Q (.ref H₂.length) (H₂ ++ [.list l.reverse])) X) X) :
    EvOK P C d (.Subscript o (.Slice none none (some st) p) pos) loc H Q X := fun A E env ι s w e a=>by
  refine wpAny_Subscript_Slice_step (T := "list") slot_list_getitem.lookup (gv (h A E env ι s w e a) (fun u s₁ ι₁ H₁ x p₁ r₁ g=>?_)) ht
  refine wpAny_Slice ?_
  rw [evalPart_none,evalPart_some]
  refine wpAny_pure (wpAny_pure ?_)
  refine gv (g A E env ι₁ s₁ (w.step p₁) (e.step w.hr p₁) (a.step p₁)) (fun v' s₃ ι₃ H₃ m p₃ rm g=>?_)
  refine x0_2 (g) fun eQ0 qQ1=>?_
  clear g
  subst eQ0
  obtain ⟨l,hl,hsz,q⟩ := qQ1
  refine x1_1 (rm) fun t eQ1=>?_
  clear rm
  subst eQ1
  have rx := p₃.vr p₁.hr r₁
  refine x2_3 (seqL_is p₃.hr rx hl) fun ax vs eQ2 il rl=>?_
  subst eQ2
  have hk : ∀ b o,s₃.heap.get? b = some o → (s₃.heap.push { cls := .type "slice",data := .fields #[.none,.none,.int (-1) t] }).get? b = some o := fun b o e=>Heap.get?_push_of_some _ e
  have p₄ : Post P.B ι₃ s₃ ι₃ H₃ { s₃ with heap := s₃.heap.push { cls := .type "slice",data := .fields #[.none,.none,.int (-1) t] } } := Post.keep (t := s₃.toks) p₃.hr hk
  refine ⟨(il.push _).typeIs,wpAny_getItem_list_slice (il.push _) (Heap.IsSliceOf.new ..) .none .none (.int (-1) t) (by simp) ?_ (by rw [List.size_toArray,rl.length]; exact hsz)⟩
  rw [W.krv_pick]
  have := gives_newList (P := P) (Q := Q) p₄.hr (VRs.reverse (rl.kept hk (List.prefix_refl _))) q
  exact (this.before p₄).before (p₁.trans p₃)
theorem sub_listNeg {eo ei : Expr} {o : AV} {l : List AV} {k : Int} {x : AV} {Q : AV → Hp → Prop} (ho : seqL H o = some l) (hn : l.length < 2 ^ 62) (h0 : k < 0) (h1 : 0 ≤ k + l.length) (hx : l[(k + l.length).toNat]? = some x) (h : Q x H) : SubOK P d eo ei o (.int k) H Q := op2 fun A E ι s u v w r1 r2=>by
  refine x2_3 (seqL_is w.hr r1 ho) fun a vs eQ2 il rl=>?_
  subst eQ2
  refine x1_1 (r2) fun t eQ1=>?_
  clear r2
  subst eQ1
  refine x1_2 (rl.get hx) fun z hz rz=>?_
  refine x1_1 (subscripted_ops ei (.ref a) (.int k t)) fun ops hops=>?_
  have e : (List.toArray vs).size = l.length := by rw [List.size_toArray,rl.length]
  exact PyProof.Rows.tail_any il.typeIs slot_list_getitem.lookup (wpAny_getItem_list_neg il h0 (by rw [e]; exact Int.add_nonneg_iff_neg_le.mp h1) (by exact z123 hn h1) (by rw [e]; simpa using hz) (Gives.same w.hr rz h)) hops
abbrev SetOK (P : PEnv) (d : Nat) (o k x : AV) (H : Hp) (Q : Hp → Prop) : Prop :=
  ∀ A E ι s uo uk ux,W P.B A d ι H s → VR P.B s.heap ι o uo → VR P.B s.heap ι k uk → VR P.B s.heap ι x ux → wpAny (model P.prog P.w) A (setItem uo uk ux) (fun _ s'=>∃ ι' H',Post P.B ι s ι' H' s' ∧ Q H') E s
theorem set_list {i : Nat} {l : List AV} {k : Int} {x : AV} {Q : Hp → Prop} (hi : H[i]? = some (.list l)) (hn : l.length < 2 ^ 62) (h0 : 0 ≤ k) (h1 : k < l.length) (h : Q (H.set i (.list (l.set k.toNat x)))) : SetOK P d (.ref i) (.int k) x H Q := fun A E ι s uo uk ux w r1 r2 r3=>by
  refine x1_2 (r1) fun a eQ1 ea=>?_
  clear r1
  subst eQ1
  refine x1_1 (r2) fun t eQ1=>?_
  clear r2
  subst eQ1
  refine x1_2 (w.hr.list ea hi) fun vs qQ1 rl=>?_
  obtain ⟨n,pl⟩ := qQ1
  have hl : s.heap.IsList a vs.toArray := ⟨_,pl,rfl,n,rfl⟩
  have hlen := rl.length
  unfold setItem
  try with_reducible refine wpAny_holding ?_
  first | refine wpAny_bind (wpAny_pure ?_) | skip
  refine wpAny_bind (wpAny_sequenceKey hl.typeIs (by decide) ?_)
  refine wpAny_bind (wpAny_callSpecial?_slot (name := Str.ofString "__setitem__") hl.typeIs slot_list_setitem
    (wpAny_call_entry slot_list_setitem hl.typeIs entry_list_setitem ?_ (args_list_setitem _ _ _)))
  show wpAny _ _ (Builtin.List.listSubscript? (.int k t) >>= _) _ _ s
  refine wpAny_bind (wpAny_listSubscript_int (fitsIndex_of h0 (by exact z124 hn h1)) ?_)
  refine x1_1 (Int.eq_ofNat_of_zero_le h0) fun j eQ1=>?_
  subst eQ1
  have hj : j < vs.toArray.size := by rw [List.size_toArray]; exact z125 hlen h1
  have hx' : vs.toArray[j]? = some vs.toArray[j] := Array.getElem?_eq_getElem hj
  show wpAny _ _ ((seqItemAt a j >>= fun r=>pure (r.map (j,·))) >>= _) _ _ s
  refine wpAny_bind (wpAny_bind (wpAny_seqItemAt pl rfl (wpAny_pure ?_)))
  rw [hx']
  show wpAny _ _ (setSeqItemAt a j ux >>= _) _ _ s
  refine wpAny_bind (wpAny_setSeqItemAt pl rfl ?_)
  refine x0_2 (upd_plain pl (·.setIfInBounds j ux)) fun p1 p2=>?_
  have ma : a ∈ ι := List.mem_of_getElem? ea
  have e1 : vs.toArray.setIfInBounds j ux = (vs.set j ux).toArray := by simp
  rw [e1] at p1
  have fin : ∃ ι' H',Post P.B ι s ι' H' { s with heap := s.heap.update a (Obj.mapSeq (·.setIfInBounds j ux)) } ∧ Q H' :=
    ⟨ι,_,Post.upd (t := s.toks) w.hr ea p2 (o := .list (l.set j x)) ⟨_,p1,w.hr.vrs_upd ma p2 (rl.set r3)⟩,h⟩
  first
    | exact wpAny_bind (wpAny_pure (wpAny_pure ⟨.none,rfl,wpAny_pure fin⟩))
    | exact wpAny_pure ⟨.none,rfl,wpAny_pure fin⟩
theorem stored_dset {B h : Heap} {ι : List Addr} {k : Int} {x : AV} {v : Value} {l : List (Int × AV)} {kvs : List (Int × Value)} (hk : kvs.map (·.1) = l.map (·.1)) (hv : VRs B h ι (l.map (·.2)) (kvs.map (·.2))) (rx : VR B h ι x v) :
    (stored kvs k v).map (·.1) = (dset l k x).map (·.1) ∧ VRs B h ι ((dset l k x).map (·.2)) ((stored kvs k v).map (·.2)) := by
  have he : (kvs.any fun kv=>decide (kv.1 = k)) = l.any fun kv=>decide (kv.1 = k) := by
    have e1 : ∀ (m : List Int),m.any (fun z=>decide (z = k)) = m.any (fun z=>decide (z = k)) := fun _=>rfl
    have a1 : (kvs.any fun kv=>decide (kv.1 = k)) = (kvs.map (·.1)).any fun z=>decide (z = k) := by rw [List.any_map]; rfl
    have a2 : (l.any fun kv=>decide (kv.1 = k)) = (l.map (·.1)).any fun z=>decide (z = k) := by rw [List.any_map]; rfl
    rw [a1,a2,hk]
  unfold stored dset
  rw [he]
  split
  · rename_i ht
    clear he ht
    induction l generalizing kvs with
    | nil =>
      have : kvs = [] := by simpa using hk
      subst this; exact ⟨rfl,rfl⟩
    | cons y l ih =>
      cases kvs with
      | nil=>simp at hk
      | cons z kvs =>
        obtain ⟨k1,x1⟩ := y
        obtain ⟨k2,v2⟩ := z
        simp only [List.map_cons,List.cons.injEq] at hk
        refine x0_2 (hk) fun eQ0 nQ=>?_
        clear hk
        revert nQ
        intro hk
        subst eQ0
        refine x2_3 (hv) fun v' r' e1 rv rr=>?_
        clear hv
        simp only [List.map_cons,List.cons.injEq] at e1
        refine x0_2 (e1) fun eQ0 eQ1=>?_
        clear e1
        subst eQ0
        subst eQ1
        refine x0_2 (ih hk rr) fun i1 i2=>?_
        by_cases hkk : k2 = k
        · subst hkk
          simp only [List.map_cons,if_true,i1]
          exact ⟨trivial,VRs.cons rx i2⟩
        · simp only [List.map_cons,hkk,if_false,i1]
          exact ⟨trivial,VRs.cons rv i2⟩
  · simp only [List.map_append,hk,List.map_cons,List.map_nil]
    exact ⟨trivial,hv.append (VRs.cons rx rfl)⟩
theorem set_dict {i : Nat} {l : List (Int × AV)} {k : Int} {x : AV} {Q : Hp → Prop} (hi : H[i]? = some (.dict l)) (hn : l.length ≤ sizeLine) (h : Q (H.set i (.dict (dset l k x)))) : SetOK P d (.ref i) (.int k) x H Q := fun A E ι s uo uk ux w r1 r2 r3=>by
  refine x1_2 (r1) fun a eQ1 ea=>?_
  clear r1
  subst eQ1
  refine x1_1 (r2) fun t eQ1=>?_
  clear r2
  subst eQ1
  refine x1_3 (w.hr.dict ea hi) fun kvs hd hk hv=>?_
  have ma : a ∈ ι := List.mem_of_getElem? ea
  have hlen : kvs.length = l.length := by have := congrArg List.length hk; simpa using this
  refine wpAny_setItem_pairs (knd := intKind P.prog P.w) (k := k) (by simp [intKind,Value.isInt]) hd (fun h' hd' sb=>?_) (by exact le_of_eq_of_le hlen hn)
  have p2 : ∀ b o,b ≠ a → s.heap.get? b = some o → h'.get? b = some o := fun b o hb eb=>sb.extBut b o hb eb
  refine x0_2 (stored_dset (k := k) hk hv r3) fun q1 q2=>?_
  exact ⟨ι,_,Post.upd (t := s.toks + 1) w.hr ea p2 (o := .dict (dset l k x)) (OR.ofDict (low_not_mods w.hr ea hi) hd' q1 (w.hr.vrs_upd ma p2 q2)),h⟩
theorem ex_store {o i v : Expr} {p' pos : Pos} {Q : MFlow → Loc → Hp → Prop}
    (h : EvOK P C d v loc H (fun x H₁=>EvOK P C d o loc H₁ (fun y H₂=>EvOK P C d i loc H₂ (fun z H₃=>SetOK P d y z x H₃ (fun H₄=>Q .next loc H₄)) XF) XF) XF)
    (hs : ∀ env,swapsWith v (some (.Subscript o i p')) pos.line env = pure false) : ExOK P C d (.Assign [.Subscript o i p'] v pos) loc H Q := fun A E env ι s w e=>by
  refine wpAny_Assign_Subscript (gv (h A E env ι s w e Acc.no) (fun u s₁ ι₁ H₁ x p₁ r₁ g=>?_)) (hs env)
  refine gv (g A E env ι₁ s₁ (w.step p₁) (e.step w.hr p₁) Acc.no) (fun u' s₂ ι₂ H₂ y p₂ r₂ g=>?_)
  have p₁₂ := p₁.trans p₂
  refine gv (g A E env ι₂ s₂ (w.step p₁₂) (e.step w.hr p₁₂) Acc.no) (fun u'' s₃ ι₃ H₃ z p₃ r₃ g=>?_)
  have p₁₃ := p₁₂.trans p₃
  refine wpAny_mono (g A E ι₃ s₃ u' u'' u (w.step p₁₃) (p₃.vr p₂.hr r₂) r₃ (p₃.vr p₂.hr (p₂.vr p₁.hr r₁))) (fun _ s₄ g=>x2_2 g fun ι₄ H₄ p₄ q=>?_) fun _ _ x=>x
  exact ⟨ι₄,H₄,loc,.next,(p₁₃.trans p₄).toS,e.step w.hr (p₁₃.trans p₄),rfl,q⟩
end Mine
namespace Mine
open PySem
set_option maxRecDepth 100000
variable {P : PEnv} {C : Ctx} {d : Nat} {loc : Loc} {H : Hp} {X : XP}
theorem getMethod_list {M : Model} {A : Around} {E : Value → Shared → Prop} {s : Shared} {l : Addr} {o : Obj} {nm : Str} {id : String} {pl : Sem Bool} {Q : Value × List Value → Shared → Prop} (ho : s.heap.get? l = some o) (hc : o.cls = .type "list") (hd : o.dict = none)
    (hl : typeLookup (.type "list") nm = pure (some (.builtin id))) (ht : typeOf (.builtin id) = pure (.type "method_descriptor"))
    (h : Q (.builtin id,[.ref l]) s) : wpAny M A (getMethod (.ref l) nm pl) Q E s := by
  have hT : s.TypeIs (.ref l) "list" := ⟨o,ho,hc⟩
  unfold getMethod
  refine wpAny_bind (wpAny_specialOf hT list_getattribute ?_)
  show wpAny M A (if (Manifest.canonical "list.__getattribute__" != "object.__getattribute__") = true then _ else _) Q E s
  rw [canon_list_getattribute,if_neg Bool.false_ne_true]
  refine wpAny_bind (wpAny_specialOf hT list_getattr_none ?_)
  refine wpAny_bind (wpAny_specialOf hT hl ?_)
  refine wpAny_bind (wpAny_of_eq ht ?_)
  refine wpAny_bind (wpAny_load ho ?_)
  rw [hd]
  exact wpAny_bind (wpAny_rule (wpAny_pure h))
theorem meth_list {i : Nat} {l : List AV} {nm : Str} {id : String} (hi : H[i]? = some (.list l)) (hl : typeLookup (.type "list") nm = pure (some (.builtin id))) (ht : typeOf (.builtin id) = pure (.type "method_descriptor")) : MethIs P (.ref i) H nm id := fun A E ι s v pl Q hr r h=>by
  refine x1_2 (r) fun a eQ1 ea=>?_
  clear r
  subst eQ1
  refine x1_2 (hr.list ea hi) fun vs qQ1 _=>?_
  obtain ⟨n,e⟩ := qQ1
  exact getMethod_list e rfl rfl hl ht h
theorem fn_lenD {i : Nat} {l : List (Int × AV)} {Q : AV → Hp → Prop} (ok : P.OK2) (hi : H[i]? = some (.dict l)) (hn : l.length < 2 ^ 62) (h : Q (.int l.length) H) : OpOK P d (fun vs=>call (.builtin "len") vs) [.ref i] H Q := fn1 fun A E ι s u w r=>by
  refine x1_2 (r) fun a eQ1 ea=>?_
  clear r
  subst eQ1
  refine x1_3 (w.hr.dict ea hi) fun kvs hd hk hv=>?_
  have hlen : kvs.length = l.length := by have := congrArg List.length hk; simpa using this
  refine call_len_dict (low_not_mods w.hr ea hi) hd (by exact z126 hn hlen) (Gives.now _ w.hr (av := .int l.length) ?_ h)
  rw [hlen]; exact VR.mkInt _ _
theorem ev_dic0 {pos : Pos} {Q : AV → Hp → Prop} (ok : P.OK2) (h : Q (.ref H.length) (H ++ [.dict []])) : EvOK P C d (.Dict [] [] pos) loc H Q X := fun A E env ι s w e a=>by
  refine wpAny_Dict_empty ?_
  have hk : ∀ b o,s.heap.get? b = some o → (s.heap.push { cls := .type "dict",data := .dict #[] }).get? b = some o := fun b o e=>Heap.get?_push_of_some _ e
  refine ⟨_,_,.ref H.length,Post.alloc (t := s.toks) w.hr hk (get_size _) (o := .dict []) ⟨?_,List.nodup_nil,[],0,Heap.get?_push_size _ rfl,rfl⟩,?_,h⟩
  · refine x2_2 (ok.low) fun b o hb hl=>?_
    have := Heap.lt_size (w.hr.base b o hb)
    rw [beq_eq_false_iff_ne]
    intro e
    rw [e] at this
    exact Nat.lt_irrefl _ (Nat.lt_trans hl this)
  · unfold VR
    exact ⟨_,rfl,by rw [← w.hr.len]; simp⟩
theorem ev_cmp2 {l m r : Expr} {o1 o2 : CmpOp} {pos : Pos} {Q : AV → Hp → Prop}
    (h : EvOK P C d l loc H (fun x H₁=>EvOK P C d m loc H₁ (fun y H₂=>CmpOK P d o1 x y H₂ (fun c H₃=>∃ b,c = .bool b ∧ if b then EvOK P C d r loc H₃ (fun z H₄=>CmpOK P d o2 y z H₄ Q) X else Q (.bool false) H₃)) X) X)
    (hm : lastMarks [o1,o2] [m,r] = false) :
    EvOK P C d (.Compare l [o1,o2] [m,r] pos) loc H Q X := fun A E env ι s w e a=>by
  refine PyProof.Rows.Compare_chain (gv (h A E env ι s w e a) (fun u s₁ ι₁ H₁ x p₁ r₁ g=>?_)) hm
  refine PyProof.Rows.chain_link (gv (g A E env ι₁ s₁ (w.step p₁) (e.step w.hr p₁) (a.step p₁)) (fun u' s₂ ι₂ H₂ y p₂ r₂ g=>?_))
  refine gv (g A E ι₂ s₂ [u,u'] ((w.step p₁).step p₂) ⟨_,_,rfl,p₂.vr p₁.hr r₁,_,_,rfl,r₂,rfl⟩) (fun c s₃ ι₃ H₃ cv p₃ r₃ g=>?_)
  refine x1_2 (g) fun b eQ1 nQ=>?_
  clear g
  revert nQ
  intro g
  subst eQ1
  have p₁₃ := (p₁.trans p₂).trans p₃
  cases r₃
  refine wpAny_truthy_bool ?_
  cases b with
  | false=>exact ⟨ι₃,H₃,.bool false,p₁₃,VR.mkBool _,g⟩
  | true =>
    refine PyProof.Rows.chain_last (gv (g A E env ι₃ s₃ (w.step p₁₃) (e.step w.hr p₁₃) (a.step p₁₃)) (fun u'' s₄ ι₄ H₄ z p₄ r₄ g=>?_))
    exact wpAny_mono (g A E ι₄ s₄ [u',u''] (w.step (p₁₃.trans p₄)) ⟨_,_,rfl,p₄.vr p₃.hr (p₃.vr p₂.hr r₂),_,_,rfl,r₄,rfl⟩) (fun _ _ g=>(g.before p₄).before p₁₃) fun _ _ x=>x
theorem ts_cmp2 {l m r : Expr} {o1 o2 : CmpOp} {pos : Pos} {Q : Bool → Hp → Prop}
    (h : EvOK P C d l loc H (fun x H₁=>EvOK P C d m loc H₁ (fun y H₂=>CmpOK P d o1 x y H₂ (fun c H₃=>∃ b,c = .bool b ∧ if b then EvOK P C d r loc H₃ (fun z H₄=>CmpOK P d o2 y z H₄ (fun v H'=>∃ b,v = .bool b ∧ Q b H')) X else Q false H₃)) X) X)
    (hm : lastMarks [o1,o2] [m,r] = false) :
    TsOK P C d (.Compare l [o1,o2] [m,r] pos) loc H Q X := fun A E env ι s w e a=>by
  refine PyProof.Rows.isTrue_chain (gv (h A E env ι s w e a) (fun u s₁ ι₁ H₁ x p₁ r₁ g=>?_)) hm
  refine PyProof.Rows.test_link (gv (g A E env ι₁ s₁ (w.step p₁) (e.step w.hr p₁) (a.step p₁)) (fun u' s₂ ι₂ H₂ y p₂ r₂ g=>?_))
  refine gv (g A E ι₂ s₂ [u,u'] ((w.step p₁).step p₂) ⟨_,_,rfl,p₂.vr p₁.hr r₁,_,_,rfl,r₂,rfl⟩) (fun c s₃ ι₃ H₃ cv p₃ r₃ g=>?_)
  refine x1_2 (g) fun b eQ1 nQ=>?_
  clear g
  revert nQ
  intro g
  subst eQ1
  have p₁₃ := (p₁.trans p₂).trans p₃
  cases r₃
  refine wpAny_truthy_bool ?_
  cases b with
  | false=>exact ⟨ι₃,H₃,p₁₃,g⟩
  | true =>
    refine PyProof.Rows.test_last (gv (g A E env ι₃ s₃ (w.step p₁₃) (e.step w.hr p₁₃) (a.step p₁₃)) (fun u'' s₄ ι₄ H₄ z p₄ r₄ g=>?_))
    exact wpAny_mono (g A E ι₄ s₄ [u',u''] (w.step (p₁₃.trans p₄)) ⟨_,_,rfl,p₄.vr p₃.hr (p₃.vr p₂.hr r₂),_,_,rfl,r₄,rfl⟩) (fun _ _ g=>givesB_of ((g.before p₄).before p₁₃)) fun _ _ x=>x
theorem ex_assignT {elts : List Expr} {k : Nat} {tpos : Pos} {v : Expr} {pos : Pos} {is : List Nat} {Q : MFlow → Loc → Hp → Prop} (n : Names C elts is)
    (h : EvOK P C d v loc H (fun x H'=>∃ ws,x = .tup ws ∧ ws.length = is.length ∧ Q .next (setAll (is.zip ws) loc) H') XF)
    (hs : ∀ env,swapsWithSole [.Tuple elts k tpos] v pos.line env = pure false) (hw : ∀ env,swappedStores [.Tuple elts k tpos] v env = pure none) : ExOK P C d (.Assign [.Tuple elts k tpos] v pos) loc H Q := fun A E env ι s w e=>by
  refine PyProof.Rows.Assign_Tuple (gv (h A E env ι s w e Acc.no) (fun u s₁ ι₁ H₁ x p₁ r₁ g=>?_)) (hs env) (hw env)
  refine x1_3 (g) fun ws eQ1 hl q=>?_
  clear g
  subst eQ1
  refine wpAny_mono (tg_tup (P := P) (k := k) (pos := tpos) (K := fun l=>Q .next l H₁) n hl q A E env ι₁ H₁ s₁ u w.room.handled p₁.hr (e.step w.hr p₁) r₁) (fun _ s₂ g=>?_) fun _ _ x=>x
  obtain ⟨loc',ps,e',q⟩ := g
  exact ⟨ι₁,H₁,loc',.next,PostS.trans p₁.toS ps e'.offOwn,e',rfl,q⟩
mutual
noncomputable def clean : AV → Bool
  | .ref _=>false
  | .tup l=>cleans l
  | .fro l=>cleans l
  | _=>true
noncomputable def cleans : List AV → Bool
  | []=>true
  | x :: l=>clean x && cleans l
end
mutual
theorem VR.clean {B h : Heap} {ι ι' : List Addr} : ∀ {x : AV} {v : Value},clean x = true → VR B h ι x v → VR B h ι' x v
  | .none,_,_,r=>r
  | .bool _,_,_,r=>r
  | .int _,_,_,r=>r
  | .str _,_,_,r=>r
  | .ref _,_,c,_=>by simp [Mine.clean] at c
  | .tup l,v,c,r=>by
    unfold VR at r ⊢
    refine x2_3 (r) fun a vs e t q=>?_
    clear r
    exact ⟨a,vs,e,t,VRs.clean (by simpa [Mine.clean] using c) q⟩
  | .fro l,v,c,r=>by
    unfold VR at r ⊢
    refine x2_3 (r) fun a vs e t q=>?_
    clear r
    exact ⟨a,vs,e,t,VRs.clean (by simpa [Mine.clean] using c) q⟩
theorem VRs.clean {B h : Heap} {ι ι' : List Addr} : ∀ {l : List AV} {vs : List Value},cleans l = true → VRs B h ι l vs → VRs B h ι' l vs
  | [],_,_,r=>r
  | x :: l,vs,c,r=>by
    unfold VRs at r ⊢
    refine x2_3 (r) fun v t e a b=>?_
    clear r
    simp only [cleans,Bool.and_eq_true] at c
    exact ⟨v,t,e,VR.clean c.1 a,VRs.clean c.2 b⟩
end
mutual
theorem VR.shrink {B h h' : Heap} {ι ι' : List Addr} (p : ι <+: ι') : ∀ {x : AV} {v v' : Value},VR B h ι x v → VR B h' ι' x v' → VR B h' ι x v'
  | .none,_,_,_,r=>r
  | .bool _,_,_,_,r=>r
  | .int _,_,_,_,r=>r
  | .str _,_,_,_,r=>r
  | .ref i,_,_,r,r'=>by
    unfold VR at r r' ⊢
    refine x1_2 (r) fun a e g=>?_
    clear r
    refine x1_2 (r') fun a' e' g'=>?_
    clear r'
    have ha : a = a' := by have := pre_get p g; rw [g'] at this; exact (Option.some.inj this).symm
    subst ha
    exact ⟨a,e',g⟩
  | .tup l,_,_,r,r'=>by
    unfold VR at r r' ⊢
    refine x2_3 (r) fun a vs e t q=>?_
    clear r
    refine x2_3 (r') fun a' vs' e' t' q'=>?_
    clear r'
    exact ⟨a',vs',e',t',VRs.shrink p q q'⟩
  | .fro l,_,_,r,r'=>by
    unfold VR at r r' ⊢
    refine x2_3 (r) fun a vs e t q=>?_
    clear r
    refine x2_3 (r') fun a' vs' e' t' q'=>?_
    clear r'
    exact ⟨a',vs',e',t',VRs.shrink p q q'⟩
theorem VRs.shrink {B h h' : Heap} {ι ι' : List Addr} (p : ι <+: ι') : ∀ {l : List AV} {vs vs' : List Value},VRs B h ι l vs → VRs B h' ι' l vs' → VRs B h' ι l vs'
  | [],_,_,_,r=>r
  | x :: l,_,_,r,r'=>by
    unfold VRs at r r' ⊢
    refine x2_3 (r) fun v t e a b=>?_
    clear r
    refine x2_3 (r') fun v' t' e' a' b'=>?_
    clear r'
    exact ⟨v',t',e',VR.shrink p a a',VRs.shrink p b b'⟩
end
theorem ERs.shrink {B h h' : Heap} {ι ι' : List Addr} (p : ι <+: ι') : ∀ {l : List (Int × AV)} {es es' : List DictEntry},ERs B h ι l es → ERs B h' ι' l es' → ERs B h' ι l es'
  | [],_,_,_,r=>r
  | (k,x) :: l,_,_,r,r'=>by
    unfold ERs at r r' ⊢
    refine x3_3 (r) fun t v es e a b=>?_
    clear r
    refine x3_3 (r') fun t' v' es' e' a' b'=>?_
    clear r'
    exact ⟨t',v',es',e',VR.shrink p a a',ERs.shrink p b b'⟩
theorem OR.shrink {B h h' : Heap} {ι ι' : List Addr} (p : ι <+: ι') {a a' : Addr} : ∀ {o : AObj},OR B h ι a o → OR B h' ι' a' o → OR B h' ι a' o
  | .list l,r,r'=>by
    refine x1_2 (r) fun vs _ q=>?_
    clear r
    refine x1_2 (r') fun vs' pl q'=>?_
    clear r'
    exact ⟨vs',pl,VRs.shrink p q q'⟩
  | .dict l,r,r'=>by
    refine x0_3 (r) fun _ _ qQ2=>?_
    clear r
    obtain ⟨es,n,_,q⟩ := qQ2
    refine x0_3 (r') fun hm nd qQ2=>?_
    clear r'
    obtain ⟨es',n',e,q'⟩ := qQ2
    exact ⟨hm,nd,es',n',e,ERs.shrink p q q'⟩
theorem Post.shrink {B : Heap} {ι ι' : List Addr} {s s' : Shared} {H H' : Hp} (hr : HR B ι H s.heap) (p : Post B ι s ι' H' s') (pre : H <+: H') : Post B ι s ι H s' := by
  refine ⟨List.prefix_refl _,⟨p.hr.base,hr.fresh,hr.nodup,hr.len,fun i o e=>?_⟩,p.kept,fun a m=>.inl m,p.same⟩
  refine x1_2 (hr.objs i o e) fun a ea r=>?_
  refine x1_1 (pre) fun t eQ1=>?_
  clear pre
  subst eQ1
  have e' : (H ++ t)[i]? = some o := by
    rw [List.getElem?_append_left (List.getElem?_eq_some_iff.mp e).1]; exact e
  refine x1_2 (p.hr.objs i o e') fun a' ea' r'=>?_
  have ha : a = a' := by have := pre_get p.pre ea; rw [ea'] at this; exact (Option.some.inj this).symm
  subst ha
  exact ⟨a,ea,OR.shrink p.pre r r'⟩
theorem gc_pure {B : Heap} {ι : List Addr} {s s' : Shared} {H : Hp} {Q : AV → Hp → Prop} {v : Value} (hr : HR B ι H s.heap) (g : Gives B ι s (fun x H'=>H <+: H' ∧ Mine.clean x = true ∧ Q x H) v s') : Gives B ι s Q v s' := by
  obtain ⟨ι',H',av,p,r,pre,c,q⟩ := g
  exact ⟨ι,H,av,p.shrink hr pre,VR.clean c r,q⟩
theorem gc_list {B : Heap} {ι : List Addr} {s s' : Shared} {H : Hp} {Q : AV → Hp → Prop} {v : Value} (hr : HR B ι H s.heap) (g : Gives B ι s (fun x H'=>∃ l j,H <+: H' ∧ x = .ref j ∧ H.length ≤ j ∧ H'[j]? = some (.list l) ∧ cleans l = true ∧ Q (.ref H.length) (H ++ [.list l])) v s') : Gives B ι s Q v s' := by
  obtain ⟨ι',H',av,p,r,l,j,pre,rfl,hj,hl,c,q⟩ := g
  refine x1_2 (r) fun a eQ1 ea=>?_
  clear r
  subst eQ1
  refine x1_2 (p.hr.objs j _ hl) fun a' ea' qQ2=>?_
  obtain ⟨vs,pl,rl⟩ := qQ2
  rw [ea] at ea'; cases ea'
  have ps := p.shrink hr pre
  have hn : a ∉ ι := fun m=>by
    refine x1_1 (List.getElem_of_mem m) fun i qQ1=>?_
    obtain ⟨hi,e⟩ := qQ1
    have e1 : ι'[i]? = some a := pre_get p.pre (by rw [List.getElem?_eq_getElem hi,e])
    have hi' : i < ι'.length := (List.getElem?_eq_some_iff.mp e1).1
    have hj' : j < ι'.length := (List.getElem?_eq_some_iff.mp ea).1
    have : i = j := nodup_inj p.hr.nodup hi' hj' (by rw [(List.getElem?_eq_some_iff.mp e1).2,(List.getElem?_eq_some_iff.mp ea).2])
    rw [hr.len] at hi; exact z127 hj hi this
  have hs : s.heap.get? a = none := (p.new a (List.mem_of_getElem? ea)).resolve_left hn
  refine ⟨ι ++ [a],H ++ [.list l],.ref H.length,ps.adopt (o := .list l) hn hs (p.hr.fresh a (List.mem_of_getElem? ea)) ⟨vs,pl,VRs.clean c rl⟩,⟨a,rfl,?_⟩,q⟩
  rw [← hr.len]; simp
theorem call_gc {x : Str} {args : List AV} {Q : AV → Hp → Prop} (h : CallOK P d x args H (fun v H'=>H <+: H' ∧ Mine.clean v = true ∧ Q v H) X) : CallOK P d x args H Q X :=
  fun A ι s vs fa R e w r hR hX=>h A ι s vs fa R e w r (fun v s' g=>hR v s' (gc_pure w.hr g)) hX
theorem call_gcL {x : Str} {args : List AV} {Q : AV → Hp → Prop} (h : CallOK P d x args H (fun v H'=>∃ l j,H <+: H' ∧ v = .ref j ∧ H.length ≤ j ∧ H'[j]? = some (.list l) ∧ cleans l = true ∧ Q (.ref H.length) (H ++ [.list l])) X) : CallOK P d x args H Q X :=
  fun A ι s vs fa R e w r hR hX=>h A ι s vs fa R e w r (fun v s' g=>hR v s' (gc_list w.hr g)) hX
end Mine
namespace Mine
open PySem PyProof.Rows
variable {P : PEnv} {C : Ctx} {d : Nat} {loc : Loc} {H : Hp} {X : XP}
theorem clipI {a : Int} {n : Nat} (h : 0 ≤ a) : (if a < 0 then max (a + n) 0 else min a n) = ((min a.toNat n : Nat) : Int) := by
  rw [if_neg (Int.not_lt.mpr h)]
  refine x1_1 (Int.eq_ofNat_of_zero_le h) fun m eQ1=>?_
  subst eQ1
  rw [Int.toNat_natCast]
  rcases Nat.le_total m n with q | q
  · rw [Nat.min_eq_left q,Int.min_eq_left (Int.ofNat_le.mpr q)]
  · rw [Nat.min_eq_right q,Int.min_eq_right (Int.ofNat_le.mpr q)]
theorem clipO (o : Option Int) (n : Nat) (dI : Int) (dN : Nat) (e : dI = dN) (h : partOK o) : (match (generalizing := false) o with | none=>dI | some v=>if v < 0 then max (v + n) 0 else min v n) = ((lclip n o dN : Nat) : Int) := by
  cases o with
  | none=>exact e
  | some a=>exact clipI h
theorem adjust_nn (lo hi : Option Int) (n : Nat) (h1 : partOK lo) (h2 : partOK hi) : Builtin.Slice.sliceAdjust lo hi 1 (n : Int) = (((lclip n lo 0 : Nat) : Int),((lclip n hi n : Nat) : Int)) := by
  have k1 : ¬ ((1 : Int) < 0) := by decide
  unfold Builtin.Slice.sliceAdjust
  simp only [k1,if_false]
  rw [← clipO lo n 0 0 rfl h1,← clipO hi n n n rfl h2]
  cases lo <;> cases hi <;> rfl
theorem places_nn (a b : Nat) : Builtin.Slice.slicePlaces (a : Int) (b : Int) 1 = b - a := by
  unfold Builtin.Slice.slicePlaces
  have h1 : (1 : Int) > 0 := by exact Int.one_pos
  simp only [h1,if_true,Int.ediv_one]
  split <;> (first | lia | omega)
section
variable {prog : Program} {w : World} {A : Around} {E : Value → Shared → Prop} {s : Shared}
theorem slicePart_of {v : Value} {k : Option Int} {Q : Option Int → Shared → Prop} (p : IsPart v k) (h : Q k s) : wpAny (model prog w) A (Builtin.Slice.slicePartIndex v) Q E s := by
  cases p with
  | none=>exact slicePart_none h
  | int=>exact slicePart_int h
theorem sliceApplied_nn {sl : Addr} {vl vu : Value} {lo hi : Option Int} {n : Nat} {Q : Int × Int × Nat → Shared → Prop} (hs : s.heap.IsSliceOf sl vl vu .none) (pl : IsPart vl lo) (pu : IsPart vu hi) (h1 : partOK lo) (h2 : partOK hi)
    (h : Q (((lclip n lo 0 : Nat) : Int),1,lclip n hi n - lclip n lo 0) s) :
    wpAny (model prog w) A (Builtin.Slice.sliceApplied (.ref sl) (pure (n : Int))) Q E s := by
  refine x1_3 (id hs) fun os hos hcs hds=>?_
  unfold Builtin.Slice.sliceApplied Builtin.Slice.sliceFields
  refine wpAny_bind (wpAny_bind (wpAny_field hos hds (x := vl) rfl (wpAny_bind (wpAny_field hos hds (x := vu) rfl (wpAny_bind (wpAny_field hos hds (x := .none) rfl (wpAny_pure ?_)))))))
  refine wpAny_bind (slicePart_none ?_)
  show wpAny _ _ (if ((1 : Int) == 0) = true then _ else _) _ _ s
  rw [if_neg (by decide)]
  refine wpAny_bind (slicePart_of pl (wpAny_bind (slicePart_of pu (wpAny_bind (wpAny_pure ?_)))))
  show wpAny _ _ (match Builtin.Slice.sliceAdjust lo hi 1 (n : Int) with | (lo,hi)=>pure (lo,(1 : Int),Builtin.Slice.slicePlaces lo hi 1)) _ _ s
  rw [adjust_nn lo hi n h1 h2]
  show wpAny _ _ (pure (((lclip n lo 0 : Nat) : Int),(1 : Int),Builtin.Slice.slicePlaces ((lclip n lo 0 : Nat) : Int) ((lclip n hi n : Nat) : Int) 1)) _ _ s
  rw [places_nn]
  exact wpAny_pure h
theorem pick_nn (xs : Array Value) (a m : Nat) : ((List.range m).filterMap fun (k : Nat)=>xs[((a : Int) + (k : Int) * 1).toNat]?).toArray = ((xs.toList.drop a).take m).toArray := by
  have e : (fun (k : Nat)=>xs[((a : Int) + (k : Int) * 1).toNat]?) = fun k=>xs[a + k]? := by
    funext k
    have : ((a : Int) + (k : Int) * 1).toNat = a + k := by exact z128
    rw [this]
  rw [e]
  have := pick_run xs a m
  rw [List.filterMap_map] at this
  have e2 : ((fun x=>xs[x]?) ∘ fun x=>a + x) = fun k=>xs[a + k]? := rfl
  rw [e2] at this
  rw [this]
theorem getItem_tuple_nn {t sl : Addr} {vs : List Value} {o : Obj} {n : Nat} {vl vu : Value} {lo hi : Option Int} {Q : Value → Shared → Prop} (ho : s.heap.get? t = some o) (hc : o.cls = .type "tuple") (hd : o.data = .seq vs.toArray n) (hs : s.heap.IsSliceOf sl vl vu .none) (pl : IsPart vl lo) (pu : IsPart vu hi) (h1 : partOK lo) (h2 : partOK hi)
    (hw : lslice vs lo hi = vs → Q (.ref t) s)
    (h : Q (.ref s.heap.objs.size) { s with heap := s.heap.push { cls := .type "tuple",data := .seq (lslice vs lo hi).toArray } })
    (hsz : vs.length ≤ sizeLine) : wpAny (model prog w) A (getItem (.ref t) (.ref sl)) Q E s := by
  have ht : s.TypeIs (.ref t) "tuple" := ⟨o,ho,hc⟩
  have hdrop : sizeOk (.seq (lslice vs lo hi).toArray) := by
    show (lslice vs lo hi).toArray.size ≤ sizeLine
    unfold lslice
    rw [List.size_toArray,List.length_take,List.length_drop]
    exact z129 hsz
  refine x1_3 (id hs) fun os hos hcs hds=>?_
  have hTs : s.TypeIs (.ref sl) "slice" := ⟨os,hos,hcs⟩
  unfold getItem
  try with_reducible refine wpAny_holding ?_
  first | refine wpAny_bind (wpAny_pure ?_) | skip
  refine wpAny_bind (wpAny_sequenceKey ht (by decide) ?_)
  refine wpAny_bind (wpAny_callSpecial?_slot (name := Str.ofString "__getitem__") ht slot_tuple_getitem
    (wpAny_call_entry slot_tuple_getitem ht entry_tuple_getitem ?_ (args_tuple_getitem _ _)))
  show wpAny _ _ (Builtin.Tuple.tupleItemsOf (.ref t) >>= _) _ _ s
  refine wpAny_bind (tupleItemsOf_ ⟨o,ho,hc,n,hd⟩ ?_)
  refine wpAny_bind (wpAny_typeOf hTs ?_)
  rw [if_pos (by decide)]
  have hn : ((vs.toArray.size : Nat) : Int) = (vs.length : Int) := by rw [List.size_toArray]
  refine wpAny_bind (sliceApplied_nn (n := vs.toArray.size) hs pl pu h1 h2 ?_)
  rw [List.size_toArray]
  show wpAny _ _ (if (((lclip vs.length lo 0 : Nat) : Int) == 0 && (1 : Int) == 1 && (lclip vs.length hi vs.length - lclip vs.length lo 0) == vs.length) = true then _ else _) _ _ s
  by_cases hcw : (((lclip vs.length lo 0 : Nat) : Int) == 0 && (1 : Int) == 1 && (lclip vs.length hi vs.length - lclip vs.length lo 0) == vs.length) = true
  · rw [if_pos hcw]
    refine wpAny_bind (m := Builtin.Tuple.tupleIsExact _) (wpAny_bind (wpAny_typeOf ht (wpAny_pure ?_)))
    rw [if_pos (by decide)]
    refine wpAny_bind (wpAny_rule ?_)
    refine wpAny_pure ⟨_,rfl,wpAny_pure (hw ?_)⟩
    simp only [Bool.and_eq_true,beq_iff_eq] at hcw
    refine x0_2 (hcw) fun qQ0 e2=>?_
    clear hcw
    obtain ⟨e1,_⟩ := qQ0
    unfold lslice
    rw [e2,show lclip vs.length lo 0 = 0 by exact Int.ofNat_eq_zero.mp e1]; simp
  · rw [if_neg hcw,pick_nn]
    exact wpAny_bind (m := Builtin.Tuple.tupleExact _) (wpAny_newObj_type (wpAny_pure ⟨_,rfl,wpAny_pure h⟩) hdrop)
end
theorem ev_sliceT {o : Expr} {lo hi : Option Expr} {p pos : Pos} {Q : AV → Hp → Prop}
    (h : EvOK P C d o loc H (fun x H₁=>evPart P C d lo loc H₁ (fun a H₂=>evPart P C d hi loc H₂ (fun b H₃=>∃ l,x = .tup l ∧ l.length ≤ sizeLine ∧ partOK a ∧ partOK b ∧ Q (.tup (lslice l a b)) H₃) X) X) X) :
    EvOK P C d (.Subscript o (.Slice lo hi none p) pos) loc H Q X := fun A E env ι s w e a=>by
  refine sub_slice (T := "tuple") slot_tuple_getitem.lookup (gv (h A E env ι s w e a) (fun u s₁ ι₁ H₁ x p₁ r₁ g=>?_))
  refine wpAny_Slice (wpAny_mono (evPart_ok g A E env ι₁ s₁ (w.step p₁) (e.step w.hr p₁) (a.step p₁)) (fun v s₂ g=>?_) fun _ _ x=>x)
  refine x3_3 (g) fun ι₂ H₂ ka p₂ ip g=>?_
  have p₁₂ := p₁.trans p₂
  refine wpAny_mono (evPart_ok g A E env ι₂ s₂ (w.step p₁₂) (e.step w.hr p₁₂) (a.step p₁₂)) (fun v' s₃ g=>?_) fun _ _ x=>x
  refine x3_3 (g) fun ι₃ H₃ kb p₃ ip' qQ5=>?_
  clear g
  obtain ⟨l,rfl,hsz,oa,ob,q⟩ := qQ5
  refine wpAny_pure ?_
  have p₁₃ := p₁₂.trans p₃
  have rx := p₃.vr p₂.hr (p₂.vr p₁.hr r₁)
  have hk : ∀ b o,s₃.heap.get? b = some o → (s₃.heap.push { cls := .type "slice",data := .fields #[v,v',.none] }).get? b = some o := fun b o e=>Heap.get?_push_of_some _ e
  have p₄ : Post P.B ι₃ s₃ ι₃ H₃ { s₃ with heap := s₃.heap.push { cls := .type "slice",data := .fields #[v,v',.none] } } := Post.keep (t := s₃.toks) p₃.hr hk
  have rx' := rx
  unfold VR at rx
  refine x2_3 (rx) fun ta vs eQ2 qQ3 rl=>?_
  clear rx
  subst eQ2
  obtain ⟨n,dc,sl,e⟩ := qQ3
  have e' := hk _ _ e
  refine ⟨⟨_,e',rfl⟩,getItem_tuple_nn e' rfl rfl (Heap.IsSliceOf.new ..) ip ip' oa ob (fun hw=>?_) ?_ (by rw [rl.length]; exact hsz)⟩
  · have hw' : lslice l ka kb = l := by
      have hlen : vs.length = l.length := rl.length
      have e1 : (lslice l ka kb).length = l.length := by
        have e2 := congrArg List.length hw
        unfold lslice at e2 ⊢
        simp only [List.length_take,List.length_drop,hlen] at e2 ⊢
        exact e2
      exact (List.take_sublist _ _ |>.trans (List.drop_sublist _ _)).eq_of_length e1
    rw [hw'] at q
    exact ((Gives.now _ p₄.hr (p₄.vr p₃.hr rx') q).before p₄).before p₁₃
  · have := gives_newTuple (P := P) (Q := Q) p₄.hr (VRs.slice (lo := ka) (hi := kb) (rl.kept hk (List.prefix_refl _))) q
    exact (this.before p₄).before p₁₃
end Mine
namespace Mine
open PySem PyProof.Rows PySem.W
variable {P : PEnv} {C : Ctx} {d : Nat} {loc : Loc} {H : Hp} {X : XP}
theorem VRs.toInts {B h : Heap} {ι : List Addr} : ∀ {ns : List Int} {vs : List Value},VRs B h ι (ns.map .int) vs → IntsAre vs ns
  | [],_,r=>by cases (show _ = [] from r); exact .nil
  | n :: ns,_,r=>by
    refine x2_3 (r) fun v r' eQ2 hv ht=>?_
    clear r
    subst eQ2
    refine x1_1 (hv) fun t eQ1=>?_
    clear hv
    subst eQ1
    exact .cons n t (VRs.toInts ht)
theorem VRs.ofInts {B h : Heap} {ι : List Addr} : ∀ {vs : List Value} {ns : List Int},IntsAre vs ns → VRs B h ι (ns.map .int) vs
  | _,_,.nil=>rfl
  | _,_,.cons n t r=>⟨_,_,rfl,VR.mkInt _ _,VRs.ofInts r⟩
theorem fn_sortedL {x : AV} {ns : List Int} {Q : AV → Hp → Prop} (hx : seqL H x = some (ns.map .int)) (h64 : ns.length < 5000)
    (q : ∀ ms : List Int,ms.Perm ns → ms.Pairwise (· ≤ ·) → Q (.ref H.length) (H ++ [.list (ms.map .int)])) : OpOK P d (fun vs=>call (.builtin "sorted") vs) [x] H Q := fn1 fun A E ι s u w r=>by
  refine x2_3 (seqL_is w.hr r hx) fun a vs eQ2 il rl=>?_
  subst eQ2
  refine sorted_big il rl.toInts (by rw [rl.length,List.length_map]; exact z130 h64) fun out ms h1 h2 h3=>?_
  have hk : ∀ b o,s.heap.get? b = some o → (sortedAll s.heap vs out).get? b = some o := fun b o e=>sortedAll_old e
  refine x1_1 (sortedAll_at s.heap vs out) fun e he=>?_
  have hn : s.heap.get? (s.heap.objs.size + 1) = none := by
    cases e : s.heap.get? (s.heap.objs.size + 1) with
    | none=>rfl
    | some o=>have h1 : s.heap.objs.size + 1 < s.heap.objs.size := Heap.lt_size e; (first | lia | omega)
  refine ⟨_,_,.ref H.length,Post.alloc (t := s.toks) w.hr hk hn (o := .list (ms.map .int)) ⟨out.toList,⟨e,by simpa using he⟩,VRs.ofInts h1⟩,?_,q ms h2 h3⟩
  unfold VR
  exact ⟨_,rfl,by rw [← w.hr.len]; simp⟩
theorem keys_are {prog : Program} {w : World} : ∀ (as : List Value) (ks : List (Int × Value)),as.length = ks.length → (∀ (j : Nat) (v : Value),as[j]? = some v → ∃ k x,ks[j]? = some (k,x) ∧ (intKind prog w).is k v = true) → IntsAre as (ks.map (·.1)) := by
  intro as
  induction as with
  | nil=>intro ks h1 _; have : ks = [] := List.length_eq_zero_iff.mp h1.symm; subst this; exact .nil
  | cons v as ih =>
    intro ks h1 h2
    cases ks with
    | nil=>simp at h1
    | cons p ks =>
      refine x2_2 (h2 0 v rfl) fun k x e hk=>?_
      simp only [List.getElem?_cons_zero,Option.some.injEq] at e
      refine x1_1 (Value.isInt_shape hk) fun t eQ1=>?_
      subst eQ1
      subst e
      exact .cons k t (ih ks (by simpa using h1) fun j v hv=>h2 (j + 1) v (by simpa using hv))
theorem fn_sortedD {i : Nat} {l : List (Int × AV)} {Q : AV → Hp → Prop} (hi : H[i]? = some (.dict l)) (h64 : l.length < 5000)
    (q : ∀ ms : List Int,ms.Perm (l.map (·.1)) → ms.Pairwise (· ≤ ·) → Q (.ref H.length) (H ++ [.list (ms.map .int)])) : OpOK P d (fun vs=>call (.builtin "sorted") vs) [.ref i] H Q := fn1 fun A E ι s u w r=>by
  unfold VR at r
  refine x1_2 (r) fun a eQ1 ha=>?_
  clear r
  subst eQ1
  refine x1_3 (w.hr.dict ha hi) fun kvs hD hk1 hv1=>?_
  have lo : (a == sysModules) = false := by
    refine x1_3 (w.hr.objs i _ hi) fun a' e' h1 _=>?_
    rw [ha] at e'; cases e'; exact h1
  refine x1_1 (hD.dictAt) fun ep hat=>?_
  have hlen : kvs.length = l.length := by have := congrArg List.length hk1; simpa using this
  refine Calls.call_function_entry kind_sorted plain_sorted entry_sorted (args_sorted1 _) ?_
  unfold Builtin.«sorted»
  refine wpAny_bind (m := checkCount "sorted" 1 1 _) (wpAny_pure ?_)
  refine wpAny_bind (kdu_collect (A := A.in1) (kdl_dict (knd := intKind P.prog P.w) (kvs := kvs) (ep := ep) lo) w.room.handled hat (by unfold sizeLine; exact z131 h64 hlen) fun h' tk acc hk hacc=>?_)
  have hl : acc.toList.length = l.length := by rw [Array.length_toList]; exact hacc.1.trans hlen
  have hI : IntsAre acc.toList (l.map (·.1)) := by
    rw [← hk1]
    exact keys_are _ _ (by rw [hl,hlen]) fun j v e=>hacc.2 j v (by rw [← Array.getElem?_toList]; exact e)
  refine wpAny_bind (wpAny_newList ?_ (by rw [hl]; unfold sizeLine; exact z132 h64))
  have hoL : (h'.push { cls := .type "list",data := .seq acc.toList.toArray }).get? h'.objs.size = some (seqObj "list" acc.toList.toArray 0) := Heap.get?_push_size _ rfl
  refine wpAny_bind (wpAny_holding (wpAny_call_entry slot_list_sort ⟨_,hoL,rfl⟩ entry_list_sort (sort_big hoL hI (by rw [hl]; exact z130 h64) fun out ms h1 h2 h3=>⟨_,rfl,?_⟩) (args_list_sort _)))
  refine wpAny_pure ⟨_,rfl,?_⟩
  have hlt : ∀ b o,s.heap.get? b = some o → b < h'.objs.size := fun b o e=>Heap.lt_size (hk b o e)
  have hk2 : ∀ b o,s.heap.get? b = some o → (sortedHeap (h'.push { cls := .type "list",data := .seq acc.toList.toArray }) h'.objs.size acc.toList out).get? b = some o := fun b o e=>by
    rw [sortedHeap_old (Nat.ne_of_lt (hlt b o e)) (by rw [Heap.size_push]; exact Nat.lt_succ_of_lt (hlt b o e))]
    exact Heap.get?_push_of_some _ (hk b o e)
  refine x1_1 (sortedHeap_at (out := out) hoL) fun e he=>?_
  have hn : s.heap.get? h'.objs.size = none := by
    cases e : s.heap.get? h'.objs.size with
    | none=>rfl
    | some o=>exact absurd (hlt _ _ e) (Nat.lt_irrefl _)
  refine ⟨_,_,.ref H.length,Post.alloc (t := tk) w.hr hk2 hn (o := .list (ms.map .int)) ⟨out.toList,⟨e,by simpa using he⟩,VRs.ofInts h1⟩,?_,q ms h2 h3⟩
  unfold VR
  exact ⟨_,rfl,by rw [← w.hr.len]; simp⟩
theorem fn_listD {i : Nat} {l : List (Int × AV)} {Q : AV → Hp → Prop} (hi : H[i]? = some (.dict l)) (hn : l.length ≤ sizeLine)
    (q : Q (.ref H.length) (H ++ [.list ((l.map (·.1)).map .int)])) : OpOK P d (fun vs=>call (.type "list") vs) [.ref i] H Q := fn1 fun A E ι s u w r=>by
  unfold VR at r
  refine x1_2 (r) fun a eQ1 ha=>?_
  clear r
  subst eQ1
  refine x1_3 (w.hr.dict ha hi) fun kvs hD hk1 hv1=>?_
  have lo : (a == sysModules) = false := by
    refine x1_3 (w.hr.objs i _ hi) fun a' e' h1 _=>?_
    rw [ha] at e'; cases e'; exact h1
  refine x1_1 (hD.dictAt) fun ep hat=>?_
  have hlen : kvs.length = l.length := by have := congrArg List.length hk1; simpa using this
  refine kdl_call (kdl_dict (knd := intKind P.prog P.w) (kvs := kvs) (ep := ep) lo) w.room.handled hat (by rw [hlen]; exact hn) fun h' tk acc c hk hS hacc=>?_
  have hI := keys_are (prog := P.prog) (w := P.w) acc.toList kvs (by rw [Array.length_toList]; exact hacc.1) fun j v e=>hacc.2 j v (by rw [← Array.getElem?_toList]; exact e)
  rw [hk1] at hI
  refine ⟨_,_,.ref H.length,Post.alloc (t := tk) w.hr hk (get_size _) (o := .list ((l.map (·.1)).map .int)) ⟨acc.toList,⟨c,by simpa using hS⟩,VRs.ofInts hI⟩,?_,q⟩
  unfold VR
  exact ⟨_,rfl,by rw [← w.hr.len]; simp⟩
end Mine
namespace Mine
open PySem
open AutoSeq1 (wpAny_loadPart')
set_option maxRecDepth 100000
section
variable {prog : Program} {w : World} {A : Around} {E : Value → Shared → Prop} {s : Shared}
theorem nextOf_tup {it t : Addr} {i : Nat} {items : Array Value} {x : Value} {Q : Value → Shared → Prop} (hit : s.heap.IsTupleIter it t i) (ht : s.heap.IsTuple t items) (hx : items[i]? = some x)
    (hQ : ∀ h',h'.IsTupleIter it t (i + 1) → Heap.SameBut it s.heap h' → Q x { s with heap := h' }) : wpAny (model prog w) A (Builtin.SmallTypes.nextOf (.ref it)) Q E s := by
  refine x1_3 (id hit) fun o ho hc hd=>?_
  refine x1_3 (ht) fun ot hot _ qQ3=>?_
  clear ht
  obtain ⟨n,hdt⟩ := qQ3
  unfold Builtin.SmallTypes.nextOf
  refine wpAny_bind (wpAny_callSpecial?_slot (name := Str.ofString "__next__") hit.typeIs F.slot_tuple_iterator_next (wpAny_call_entry F.slot_tuple_iterator_next hit.typeIs F.entry_tuple_iterator_next ?_ (F.args_tuple_iterator_next_1 _)))
  show wpAny _ _ (field (.ref it) 0 >>= _) _ _ s
  refine wpAny_bind (wpAny_field ho hd (x := .ref t) rfl ?_)
  show wpAny _ _ (if (Value.ref t == Value.none) = true then _ else _) _ _ s
  rw [if_neg (show ¬ ((Value.ref t == Value.none) = true) from Bool.false_ne_true)]
  show wpAny _ _ (field (.ref it) 1 >>= _) _ _ s
  refine wpAny_bind (wpAny_field ho hd (x := .int i 0) rfl ?_)
  show wpAny _ _ (seqItems? (.ref t) >>= _) _ _ s
  refine wpAny_bind (wpAny_seqItems hot hdt ?_)
  simp only [Int.toNat_natCast,hx]
  refine wpAny_bind (wpAny_setField ho hd (by simp) (wpAny_pure ⟨x,rfl,wpAny_pure (hQ _ ?_ (Heap.SameBut.update ..))⟩))
  refine ⟨_,Heap.get?_update_self _ ho (Obj.isFreed_of_fields (Obj.data_mapFields hd _)),(Obj.cls_mapFields ..).trans hc,?_⟩
  rw [Obj.data_mapFields hd]; simp [rawInt]
theorem nextOf_tup_end {it t : Addr} {i : Nat} {items : Array Value} {Q : Value → Shared → Prop} (hh : A.handled = none) (hit : s.heap.IsTupleIter it t i) (ht : s.heap.IsTuple t items) (hx : items[i]? = none)
    (hE : ∀ h' e,Heap.ExtBut it s.heap h' → (∃ o,h'.get? e = some o ∧ o.cls = .type "StopIteration") → E (.ref e) { s with heap := h' }) : wpAny (model prog w) A (Builtin.SmallTypes.nextOf (.ref it)) Q E s := by
  refine x1_3 (id hit) fun o ho hc hd=>?_
  refine x1_3 (ht) fun ot hot _ qQ3=>?_
  clear ht
  obtain ⟨n,hdt⟩ := qQ3
  unfold Builtin.SmallTypes.nextOf
  refine wpAny_bind (wpAny_callSpecial?_slot (name := Str.ofString "__next__") hit.typeIs F.slot_tuple_iterator_next (wpAny_call_entry F.slot_tuple_iterator_next hit.typeIs F.entry_tuple_iterator_next ?_ (F.args_tuple_iterator_next_1 _)))
  show wpAny _ _ (field (.ref it) 0 >>= _) _ _ s
  refine wpAny_bind (wpAny_field ho hd (x := .ref t) rfl ?_)
  show wpAny _ _ (if (Value.ref t == Value.none) = true then _ else _) _ _ s
  rw [if_neg (show ¬ ((Value.ref t == Value.none) = true) from Bool.false_ne_true)]
  show wpAny _ _ (field (.ref it) 1 >>= _) _ _ s
  refine wpAny_bind (wpAny_field ho hd (x := .int i 0) rfl ?_)
  show wpAny _ _ (seqItems? (.ref t) >>= _) _ _ s
  refine wpAny_bind (wpAny_seqItems hot hdt ?_)
  simp only [Int.toNat_natCast,hx]
  refine wpAny_bind (wpAny_rule (wpAny_bind (wpAny_setField ho hd (by simp) ?_)))
  show wpAny _ _ (newExc (.type "StopIteration") [] >>= _) _ _ _
  refine wpAny_bind ?_
  simp only [newExc,newTuple]
  refine wpAny_bind (wpAny_newObj_type ?_ (by size_fits))
  refine wpAny_bind (m := firstArgMember _ _) (wpAny_of_eq (a := Value.none) (by first | rfl | (simp only [firstArgMember]; rfl)) ?_)
  refine wpAny_newObj_type ?_ (by size_fits)
  simp only [raiseNew]
  refine wpAny_bind (wpAny_handled ?_)
  first | rw [show A.in1.handled = none from hh] | rw [hh]
  refine wpAny_bind (wpAny_pure (wpAny_throw ?_))
  exact hE _ _ (((Heap.SameBut.update ..).extBut.push _).push _) ⟨_,Heap.get?_push_size _ rfl,rfl⟩
theorem enum_next {e it : Addr} {i : Nat} {x old : Value} {R : Heap → Prop} {Q : Option Value → Shared → Prop} (he : IsEnum s.heap e it i old) (hne : e ≠ it)
    (hR : ∀ h h',R h → (∀ o,h.get? it = some o → h'.get? it = some o) → R h')
    (hn : ∀ A' E' (Q' : Value → Shared → Prop),(∀ h₁,R h₁ → Heap.SameBut it s.heap h₁ → Q' x { s with heap := h₁ }) → wpAny (model prog w) A' (Builtin.SmallTypes.nextOf (.ref it)) Q' E' s)
    (hQ : ∀ h',IsEnumOut h' e it ((i : Int) + 1) x s.heap.objs.size → R h' → h'.get? s.heap.objs.size = some { cls := .type "tuple",data := .seq #[.int i s.toks,x] } →
      (∀ b o,b ≠ e → b ≠ it → s.heap.get? b = some o → h'.get? b = some o) → Q (some (.ref s.heap.objs.size)) { s with heap := h',toks := s.toks + 1 }) : wpAny (model prog w) A (pyNext (.ref e)) Q E s := by
  have hT : s.TypeIs (.ref e) "enumerate" := ⟨_,he,rfl⟩
  unfold pyNext
  refine wpAny_bind (wpAny_attempt (wpAny_callSpecial?_slot (name := Str.ofString "__next__") hT F.slot_enumerate_next (wpAny_call_entry F.slot_enumerate_next hT F.entry_enumerate_next ?_ (F.args_enumerate_next_1 _))))
  obtain ⟨hp,g,d,tk,os⟩ := s
  have hel : e < hp.objs.size := Heap.lt_size he
  show wpAny _ _ (field (.ref e) 2 >>= _) _ _ _
  refine wpAny_bind (wpAny_field he rfl (x := .ref it) rfl ?_)
  refine wpAny_bind (hn _ _ _ fun h₁ r₁ b₁=>?_)
  have e₁ : IsEnum h₁ e it i old := (b₁.2 e hne).trans he
  show wpAny _ _ (field (.ref e) 3 >>= _) _ _ ⟨h₁,g,d,tk,os⟩
  refine wpAny_bind (wpAny_field e₁ rfl (x := rawInt i) rfl ?_)
  show wpAny _ _ (field (.ref e) 4 >>= _) _ _ ⟨h₁,g,d,tk,os⟩
  refine wpAny_bind (wpAny_field e₁ rfl (x := .none) rfl ?_)
  show wpAny _ _ (mkInt i >>= _) _ _ ⟨h₁,g,d,tk,os⟩
  refine wpAny_bind (wpAny_mkInt ?_)
  show wpAny _ _ (setField (.ref e) 3 (rawInt ((i : Int) + 1)) >>= _) _ _ ⟨h₁,g,d,tk + 1,os⟩
  refine wpAny_bind (wpAny_setField_rec e₁ (by simp) fun h₂ e₂ b₂=>?_)
  replace b₂ : Heap.SameBut e h₁ h₂ := b₂
  replace e₂ : IsEnum h₂ e it ((i : Int) + 1) old := e₂
  show wpAny _ _ (setField (.ref e) 4 .none >>= _) _ _ ⟨h₂,g,d,tk + 1,os⟩
  refine wpAny_bind (wpAny_setField_rec e₂ (by simp) fun h₃ e₃ b₃=>?_)
  replace b₃ : Heap.SameBut e h₂ h₃ := b₃
  replace e₃ : IsEnum h₃ e it ((i : Int) + 1) old := e₃
  show wpAny _ _ (newTuple [.int i tk,x] >>= _) _ _ ⟨h₃,g,d,tk + 1,os⟩
  refine wpAny_bind (wpAny_newTuple ?_)
  have sz : h₃.objs.size = hp.objs.size := b₃.1.trans (b₂.1.trans b₁.1)
  generalize hh : h₃.push { cls := .type "tuple",data := .seq #[.int i tk,x] } = h₄
  have e₄ : IsEnum h₄ e it ((i : Int) + 1) old := hh ▸ Heap.get?_push_of_some _ e₃
  have t₄ : h₄.get? hp.objs.size = some { cls := .type "tuple",data := .seq #[.int i tk,x] } := by rw [← hh,← sz]; exact Heap.get?_push_size _ rfl
  have k₄ : ∀ b o,b ≠ e → b ≠ it → hp.get? b = some o → h₄.get? b = some o := fun b o n1 n2 hb=>by
    rw [← hh]; exact Heap.get?_push_of_some _ (b₃.extBut b o n1 (b₂.extBut b o n1 (b₁.extBut b o n2 hb)))
  have i₄ : ∀ o,h₁.get? it = some o → h₄.get? it = some o := fun o ho=>by
    rw [← hh]; exact Heap.get?_push_of_some _ (b₃.extBut it o (Ne.symm hne) (b₂.extBut it o (Ne.symm hne) ho))
  show wpAny _ _ (Builtin.SmallTypes.ownedTupleIsFree (.ref e) >>= _) _ _ ⟨h₄,g,d,tk + 1,os⟩
  rw [sz]
  refine wpAny_bind ?_
  unfold Builtin.SmallTypes.ownedTupleIsFree
  refine wpAny_bind (wpAny_field e₄ rfl (x := .none) rfl (wpAny_pure ?_))
  simp only [if_true]
  refine wpAny_bind (wpAny_rule ?_)
  refine wpAny_bind (wpAny_field e₄ rfl (x := old) rfl ?_)
  refine wpAny_bind (wpAny_setField_rec e₄ (by simp) fun h₅ e₅ b₅=>?_)
  replace b₅ : Heap.SameBut e h₄ h₅ := b₅
  replace e₅ : IsEnum h₅ e it ((i : Int) + 1) x := e₅
  show wpAny _ _ (Builtin.SmallTypes.ownedTupleHandOut (.ref e) (.ref hp.objs.size) >>= _) _ _ ⟨h₅,g,d,tk + 1,os⟩
  refine wpAny_bind ?_
  unfold Builtin.SmallTypes.ownedTupleHandOut
  refine wpAny_bind (wpAny_setField_rec e₅ (by simp) fun h₆ e₆ b₆=>?_)
  replace b₆ : Heap.SameBut e h₅ h₆ := b₆
  replace e₆ : IsEnumOut h₆ e it ((i : Int) + 1) x hp.objs.size := e₆
  refine wpAny_setField_rec e₆ (by simp) fun h₇ e₇ b₇=>?_
  replace b₇ : Heap.SameBut e h₆ h₇ := b₇
  replace e₇ : IsEnumOut h₇ e it ((i : Int) + 1) x hp.objs.size := e₇
  have up : ∀ b o,b ≠ e → h₄.get? b = some o → h₇.get? b = some o := fun b o n hb=>b₇.extBut b o n (b₆.extBut b o n (b₅.extBut b o n hb))
  refine wpAny_bind (wpAny_letGo (wpAny_pure ⟨_,rfl,?_⟩))
  refine wpAny_pure (hQ h₇ e₇ ?_ ?_ ?_)
  · exact hR h₁ h₇ r₁ fun o ho=>up it o (Ne.symm hne) (i₄ o ho)
  · exact up _ _ (Nat.ne_of_gt hel) t₄
  · exact fun b o n1 n2 hb=>up b o n1 (k₄ b o n1 n2 hb)
theorem enum_end {e it : Addr} {i : Int} {old : Value} {Q : Option Value → Shared → Prop} (hh : A.handled = none) (he : IsEnum s.heap e it i old)
    (hn : ∀ (A' : Around) (E' : Value → Shared → Prop) (Q' : Value → Shared → Prop),A'.handled = none → (∀ h' x,Heap.ExtBut it s.heap h' → (∃ o,h'.get? x = some o ∧ o.cls = .type "StopIteration") → E' (.ref x) { s with heap := h' }) → wpAny (model prog w) A' (Builtin.SmallTypes.nextOf (.ref it)) Q' E' s)
    (hQ : ∀ h',Heap.ExtBut it s.heap h' → Q none { s with heap := h' }) : wpAny (model prog w) A (pyNext (.ref e)) Q E s := by
  have hT : s.TypeIs (.ref e) "enumerate" := ⟨_,he,rfl⟩
  unfold pyNext
  refine wpAny_bind (wpAny_attempt (wpAny_callSpecial?_slot (name := Str.ofString "__next__") hT F.slot_enumerate_next (wpAny_call_entry F.slot_enumerate_next hT F.entry_enumerate_next ?_ (F.args_enumerate_next_1 _))))
  show wpAny _ _ (field (.ref e) 2 >>= _) _ _ _
  refine wpAny_bind (wpAny_field he rfl (x := .ref it) rfl ?_)
  refine wpAny_bind (hn _ _ _ hh fun h' x k ⟨o,ho,hc⟩=>?_)
  refine wpAny_bind (wpAny_isInstance (T := "StopIteration") (b := true) ⟨o,ho,hc⟩ isSubtype_stop ?_)
  exact wpAny_pure (hQ _ k)
set_option maxHeartbeats 1000000 in
theorem enum_newT (t : Addr) (items : Array Value) (n : Nat) (dct : Option Addr) (sl : Array (Option Value)) :
    Meets (Builtin.«enumerate.__new__» ⟨[.type "enumerate",.ref t],[]⟩) (fun _ R s=>s.heap.get? t = some { cls := .type "tuple",dict := dct,data := .seq items n,slots := sl } ∧
      R (.ok (.ret (.ref (s.heap.push { cls := .type "tuple_iterator",data := .fields #[.ref t,.int 0 0] }).objs.size)))
        { s with heap := (s.heap.push { cls := .type "tuple_iterator",data := .fields #[.ref t,.int 0 0] }).push { cls := .type "enumerate",data := .fields #[.none,.bool false,.ref s.heap.objs.size,rawInt 0,.none,.none] } }) :=
  .of_wp fun prog w A R s h=>by
    obtain ⟨hp,g,d,tk,os⟩ := s; obtain ⟨hl,h⟩ := h
    have hsub := sub_enumerate
    have hL : Heap.IsTuple (Shared.heap ⟨hp,g,d,tk,os⟩) t items := ⟨_,hl,rfl,n,rfl⟩
    wp_walk using wpAny_loadPart' hl
    refine wpAny_stack_any fun st=>wpAny_pure ?_
    split
    · rename_i c _ _ _ _ _
      cases (c == Value.type "enumerate")
      · wp_walk using wpAny_loadPart' hl,wpAny_pyIter_tuple hL
        exact ⟨_,rfl,h⟩
      · wp_walk using wpAny_loadPart' hl,wpAny_pyIter_tuple hL
        exact ⟨_,rfl,h⟩
    · wp_walk using wpAny_loadPart' hl,wpAny_pyIter_tuple hL
      exact ⟨_,rfl,h⟩
end
variable {P : PEnv} {d : Nat} {H : Hp}
theorem tupE_ex {t : Expr} (h : isTupE t = true) : ∃ es k p,t = .Tuple es k p := by
  cases t <;> first | exact ⟨_,_,_,rfl⟩ | exact absurd h Bool.false_ne_true
noncomputable def enumL (l : List AV) : List AV := l.mapIdx fun i x=>.tup [.int i,x]
theorem enumL_at (l : List AV) (k : Nat) : (enumL l)[k]? = (l[k]?).map fun x=>AV.tup [.int k,x] := by
  unfold enumL; rw [List.getElem?_mapIdx]
theorem enumL_len (l : List AV) : (enumL l).length = l.length := by unfold enumL; rw [List.length_mapIdx]
theorem it_enumT {l : List AV} {K : List AV → (Hp → Prop) → Hp → Prop} (h : K (enumL l) (fun _=>True) H) : ItCall P true d (fun vs=>call (.type "enumerate") vs) [.tup l] H K := fun A E ι s vs w rs=>by
  refine x1_2 (vrs1 rs) fun u eQ1 r=>?_
  subst eQ1
  clear rs
  unfold VR at r
  refine x2_3 (r) fun a vs eQ2 tl rv=>?_
  clear r
  subst eQ2
  refine x3_1 (id tl) fun n dct sl ea=>?_
  refine callType_new F.called_enumerate (by decide) (F.typeCall_enumerate_1 _) (F.newCall_enumerate_1 _) (fun obj=>F.args_object_init_2 obj _) F.entry_enumerate_new (enum_newT a vs.toArray n dct sl) ⟨ea,?_⟩
  have hz : (s.heap.push { cls := .type "tuple_iterator",data := .fields #[.ref a,.int 0 0] }).objs.size = s.heap.objs.size + 1 := Heap.size_push ..
  show _ ∧ _
  rw [hz]
  generalize hh : (s.heap.push { cls := .type "tuple_iterator",data := .fields #[.ref a,.int 0 0] }).push { cls := .type "enumerate",data := .fields #[.none,.bool false,.ref s.heap.objs.size,rawInt 0,.none,.none] } = h₀
  have he : IsEnum h₀ (s.heap.objs.size + 1) s.heap.objs.size 0 .none := by
    rw [← hh,← hz]; exact Heap.get?_push_size _ rfl
  have hi : h₀.IsTupleIter s.heap.objs.size a 0 := ⟨_,by rw [← hh]; exact Heap.get?_push_of_some _ (Heap.get?_push_size _ rfl),rfl,rfl⟩
  have k₀ : ∀ b o,s.heap.get? b = some o → h₀.get? b = some o := fun b o e=>by rw [← hh]; exact Heap.get?_push_of_some _ (Heap.get?_push_of_some _ e)
  clear hh
  refine ⟨⟨_,he,rfl⟩,ι,H,enumL l,fun _=>True,s,Post.id w.hr,fun E' Q hq=>wpAny_pyIter_enum he ?_,h⟩
  generalize hI : s.heap.objs.size + 1 = I at he
  generalize hT : s.heap.objs.size = T at he hi
  have ne : I ≠ T := by exact z133 hI hT
  have nt : ∀ {h₁ : Heap},(∃ o,h₁.get? I = some o ∧ o.cls = .type "enumerate") → (∃ o,h₁.get? T = some o ∧ o.cls = .type "tuple_iterator") → NoTup [I,T] h₁ := fun ⟨o1,e1,c1⟩ ⟨o2,e2,c2⟩ b hb vs t=>by
    refine x1_3 (t) fun o' e' c' _=>?_
    clear t
    simp only [List.mem_cons,List.not_mem_nil,or_false] at hb
    rcases hb with rfl | rfl
    · rw [e1] at e'; cases e'; rw [c1] at c'; simp at c'
    · rw [e2] at e'; cases e'; rw [c2] at c'; simp at c'
  refine hq I [I,T] (fun k ι' h'=>(PTup h' a vs.toArray ∧ VRs P.B h' ι' l vs) ∧ (∃ old,IsEnum h' I T k old) ∧ h'.IsTupleIter T a k) (fun k v ι' h'=>(PTup h' a vs.toArray ∧ VRs P.B h' ι' l vs) ∧ (∃ x A,v = .ref A ∧ IsEnumOut h' I T ((k : Int) + 1) x A) ∧ h'.IsTupleIter T a (k + 1)) h₀ s.toks ?_ ⟨⟨?_,?_⟩,⟨_,he⟩,hi⟩ (fun b hb=>?_) k₀
  · refine ⟨?_,?_,?_,?_,?_,?_,?_⟩
    · rintro k ι₁ ι₂ S h₁ h₂ ⟨q1,⟨old,q2⟩,o,e,c,dt⟩ kp nts pr hw
      exact ⟨⟨istup_kept kp nts q1.1,VRs.mono kp nts pr _ _ q1.2⟩,⟨old,kp.exact q2 (hw _ (by simp)) (fun _ _=>by simp)⟩,o,kp.exact e (hw _ (by simp)) (fun _ _=>by rw [dt]; simp),c,dt⟩
    · rintro k ι₁ h₁ ⟨_,⟨old,q2⟩,o,e,c,dt⟩ b hb
      simp only [List.mem_cons,List.not_mem_nil,or_false] at hb
      rcases hb with rfl | rfl
      · exact ⟨_,q2,fun vs n=>by simp⟩
      · exact ⟨o,e,fun vs n=>by rw [dt]; simp⟩
    · rintro k v ι₁ h₁ ⟨_,⟨x,A',_,q2⟩,o,e,c,dt⟩ b hb
      simp only [List.mem_cons,List.not_mem_nil,or_false] at hb
      rcases hb with rfl | rfl
      · exact ⟨_,q2,fun vs n=>by simp⟩
      · exact ⟨o,e,fun vs n=>by rw [dt]; simp⟩
    · rintro A E ι₁ H₁ s₁ k x Q hh hr₁ hc ⟨q1,⟨old,q2⟩,q3⟩ hx hQ
      rw [enumL_at] at hx
      refine x1_2 (Option.map_eq_some_iff.mp hx) fun y hy eQ2=>?_
      subst eQ2
      refine x1_2 (q1.2.get hy) fun u hu ru=>?_
      refine enum_next (R := fun h'=>h'.IsTupleIter T a (k + 1)) q2 ne (fun h h' ⟨o,e,c,dt⟩ kk=>⟨o,kk o e,c,dt⟩) (fun A' E' Q' hq'=>nextOf_tup q3 q1.1.isTup (by simpa using hu) hq') fun h' eo it' tu kp=>?_
      have ext : ∀ b o,b ∉ [I,T] → s₁.heap.get? b = some o → h'.get? b = some o := fun b o hb eb=>kp b o (fun z=>hb (by simp [z])) (fun z=>hb (by simp [z])) eb
      have nts : NoTup [I,T] s₁.heap := nt ⟨_,q2,rfl⟩ (by obtain ⟨o,e,c,_⟩ := q3; exact ⟨o,e,c⟩)
      refine hQ _ h' (s₁.toks + 1) ?_ ⟨⟨istup_kept (S := [I,T]) (Kept.of_keeps ext) nts q1.1,VRs.mono (S := [I,T]) (Kept.of_keeps ext) nts (List.prefix_refl _) _ _ q1.2⟩,⟨u,_,rfl,eo⟩,it'⟩ ext
      unfold VR
      exact ⟨_,[.int k s₁.toks,u],rfl,⟨0,_,_,tu⟩,VRs.cons (VR.mkInt _ _) (VRs.cons (VR.mono (S := [I,T]) (Kept.of_keeps ext) nts (List.prefix_refl _) _ _ ru) rfl)⟩
    · rintro tgt A E ι₁ s₁ k v Q ht ⟨q1,⟨x,A',rfl,q2⟩,q3⟩ hQ
      have ht := ht rfl
      refine x3_1 (tupE_ex ht) fun es tk pos eQ3=>?_
      subst eQ3
      · refine wpAny_letOwnedTupleGo_enum q2 fun h' e' sb=>?_
        have ext : ∀ b o,b ∉ [I,T] → s₁.heap.get? b = some o → h'.get? b = some o := fun b o hb eb=>sb.extBut b o (fun z=>hb (by simp [z])) eb
        have nts : NoTup [I,T] s₁.heap := nt ⟨_,q2,rfl⟩ (by obtain ⟨o,e,c,_⟩ := q3; exact ⟨o,e,c⟩)
        exact hQ h' ⟨⟨istup_kept (S := [I,T]) (Kept.of_keeps ext) nts q1.1,VRs.mono (S := [I,T]) (Kept.of_keeps ext) nts (List.prefix_refl _) _ _ q1.2⟩,⟨x,by simpa using e'⟩,q3.extBut sb.extBut (Ne.symm ne)⟩ ext
    · rintro A E ι₁ H₁ s₁ Q hh hr₁ hc ⟨q1,⟨old,q2⟩,q3⟩ hQ
      rw [enumL_len] at q2 q3
      refine enum_end hh q2 (fun A' E' Q' h' hE=>nextOf_tup_end h' q3 q1.1.isTup (by simp [q1.2.length]) hE) fun h' ext=>hQ h' s₁.toks fun b o hb eb=>ext b o (fun z=>hb (by simp [z])) eb
    · rintro A E ι₁ s₁ k Q ⟨q1,⟨old,q2⟩,q3⟩ hQ
      exact wpAny_pyIter_enum q2 hQ
  · exact istup_kept (S := []) (kept_nil_of k₀) noTup_nil tl
  · exact VRs.mono (S := []) (kept_nil_of k₀) noTup_nil (List.prefix_refl _) _ _ rv
  · simp only [List.mem_cons,List.not_mem_nil,or_false] at hb
    rcases hb with rfl | rfl
    · cases z : s.heap.get? b with
      | none=>rfl
      | some o=>exact absurd (Heap.lt_size z) (by rw [← hI,hT]; exact Nat.not_lt.mpr (Nat.le_succ _))
    · subst hT; exact get_size _
end Mine
namespace Mine
open PySem
set_option maxRecDepth 100000
variable {P : PEnv} {C : Ctx} {d : Nat} {loc : Loc} {H : Hp} {X : XP}
end Mine
namespace Mine
open PySem
inductive Bi where | len | all | any | sorted | list | tuple | int | min | max
inductive Mt where | append | pop | insert | extend | clear
inductive IK where | plain | range | revd | enum
abbrev KI := List AV → (Hp → Prop) → Hp → Prop
abbrev PF := MFlow → Loc → Hp → Prop
abbrev PL := List AV → Hp → Prop
noncomputable def asT (v : AV) (n : Nat) (K : List AV → Prop) : Prop := match v with | .tup l=>l.length = n ∧ K l | _=>False
noncomputable def as1 (vs : List AV) (K : AV → Prop) : Prop := match vs with | [x]=>K x | _=>False
noncomputable def withL (o : Option (List AV)) (K : List AV → Prop) : Prop := match o with | some l=>K l | none=>False
theorem asT.ex {v : AV} {n : Nat} {K : List AV → Prop} (h : asT v n K) : ∃ l,v = .tup l ∧ l.length = n ∧ K l := by
  cases v <;> first | exact h.elim | exact ⟨_,rfl,h⟩
theorem as1.ex {vs : List AV} {K : AV → Prop} (h : as1 vs K) : ∃ x,vs = [x] ∧ K x := by
  match vs,h with
  | [x],h=>exact ⟨x,rfl,h⟩
theorem withL.ex {o : Option (List AV)} {K : List AV → Prop} (h : withL o K) : ∃ l,o = some l ∧ K l := by
  match o,h with
  | some l,h=>exact ⟨l,rfl,h⟩
noncomputable def anyL (H : Hp) : AV → Option (List AV)
  | .tup l=>some l
  | x=>seqL H x
noncomputable def lstL (H : Hp) : AV → Option (List AV)
  | .ref i=>match H[i]? with
    | some (.list l)=>some l
    | some (.dict l)=>some ((l.map (·.1)).map .int)
    | none=>none
  | x=>anyL H x
noncomputable def tupL : AV → Option (List AV) | .tup l=>some l | _=>none
noncomputable def wpLen (x : AV) (H : Hp) (Q : PQ) : Prop :=
  match x with
  | .tup l=>l.length < 2 ^ 62 ∧ Q (.int l.length) H
  | .fro l=>l.length < 2 ^ 62 ∧ Q (.int l.length) H
  | .ref i=>match H[i]? with
    | some (.list l)=>l.length < 2 ^ 62 ∧ Q (.int l.length) H
    | some (.dict l)=>l.length < 2 ^ 62 ∧ Q (.int l.length) H
    | none=>False
  | _=>False
noncomputable def wpSrt (x : AV) (H : Hp) (Q : PQ) : Prop := ∃ ns : List Int,(seqL H x = some (ns.map .int) ∨ ∃ i l,x = .ref i ∧ H[i]? = some (.dict l) ∧ ns = l.map (·.1)) ∧ ns.length < 5000 ∧ ∀ ms : List Int,ms.Perm ns → ms.Pairwise (· ≤ ·) → Q (.ref H.length) (H ++ [.list (ms.map .int)])
noncomputable def wpMm (vs : List AV) (K : Int → Int → Prop) : Prop := match vs with | [.int a,.int b]=>K a b | _=>False
noncomputable def wpBi (f : Bi) (vs : List AV) (H : Hp) (Q : PQ) : Prop :=
  match f with
  | .len=>as1 vs fun x=>wpLen x H Q
  | .all=>as1 vs fun x=>∃ bs : List Bool,seqL H x = some (bs.map .bool) ∧ Q (.bool (bs.all fun b=>b)) H
  | .any=>as1 vs fun x=>∃ bs : List Bool,seqL H x = some (bs.map .bool) ∧ Q (.bool (bs.any fun b=>b)) H
  | .list=>as1 vs fun x=>withL (lstL H x) fun l=>l.length ≤ sizeLine ∧ Q (.ref H.length) (H ++ [.list l])
  | .tuple=>as1 vs fun x=>withL (seqL H x) fun l=>l.length ≤ sizeLine ∧ Q (.tup l) H
  | .int=>as1 vs fun x=>asB x fun b=>Q (.int (if b then 1 else 0)) H
  | .min=>wpMm vs fun a b=>Q (.int (if b < a then b else a)) H
  | .max=>wpMm vs fun a b=>Q (.int (if b > a then b else a)) H
  | .sorted=>as1 vs fun x=>wpSrt x H Q
noncomputable def isL (H : Hp) (x : AV) : Prop := ∃ i l,x = .ref i ∧ H[i]? = some (.list l)
noncomputable def lstAt (H : Hp) (i : Nat) : Option (List AV) := match H[i]? with | some (.list l)=>some l | _=>none
theorem lstAt_some {H : Hp} {i : Nat} {l : List AV} (h : lstAt H i = some l) : H[i]? = some (.list l) := by
  unfold lstAt at h; split at h
  · cases h; assumption
  · cases h
theorem lstAt_of {H : Hp} {i : Nat} {l : List AV} (h : H[i]? = some (.list l)) : lstAt H i = some l := by
  unfold lstAt; rw [h]
noncomputable def onL (o : AV) (H : Hp) (K : Nat → List AV → Prop) : Prop := match o with | .ref i=>withL (lstAt H i) (K i) | _=>False
theorem onL.ex {o : AV} {H : Hp} {K : Nat → List AV → Prop} (h : onL o H K) : ∃ i l,o = .ref i ∧ H[i]? = some (.list l) ∧ K i l := by
  cases o with
  | ref i=>obtain ⟨l,h1,h2⟩ := withL.ex h; exact ⟨i,l,rfl,lstAt_some h1,h2⟩
  | _=>exact h.elim
theorem onL_ref {i : Nat} {l : List AV} {H : Hp} {K : Nat → List AV → Prop} (h : H[i]? = some (.list l)) : onL (.ref i) H K = K i l := by
  show withL (lstAt H i) _ = _
  rw [lstAt_of h]; rfl
noncomputable def wpIns (vs : List AV) (K : Int → AV → Prop) : Prop := match vs with | [.int k,x]=>K k x | _=>False
noncomputable def wpPop (vs : List AV) (K0 : Prop) (K1 : Int → Prop) : Prop := match vs with | []=>K0 | [.int k]=>K1 k | _=>False
noncomputable def wpMt (m : Mt) (o : AV) (vs : List AV) (H : Hp) (Q : PQ) : Prop := onL o H fun i l =>
  match m with
  | .append=>as1 vs fun x=>l.length ≤ sizeLine ∧ Q .none (H.set i (.list (l ++ [x])))
  | .pop=>wpPop vs (l.length ≤ sizeLine ∧ ∃ l' x,l = l' ++ [x] ∧ Q x (H.set i (.list l'))) fun k=>l.length ≤ sizeLine ∧ 0 ≤ k ∧ k < 2 ^ 62 ∧ ∃ x,l[k.toNat]? = some x ∧ Q x (H.set i (.list (l.eraseIdx k.toNat)))
  | .insert=>wpIns vs fun k x=>l.length ≤ sizeLine ∧ 0 ≤ k ∧ k ≤ l.length ∧ Q .none (H.set i (.list (l.take k.toNat ++ x :: l.drop k.toNat)))
  | .extend=>as1 vs fun y=>onL y H fun _ m=>l.length + m.length ≤ 1000000 ∧ Q .none (H.set i (.list (l ++ m)))
  | .clear=>vs = [] ∧ l.length ≤ sizeLine ∧ Q .none (H.set i (.list []))
noncomputable def wpPlain (x : AV) (H : Hp) (K : KI) : Prop :=
  match x with
  | .ref i=>withL (lstAt H i) fun l=>K l (fun H'=>H'[i]? = some (.list l)) H
  | .fro l=>K l (fun _=>True) H
  | .tup l=>K l (fun _=>True) H
  | .str x=>x.cps.all (· < 128) = true ∧ K (chrs x) (fun _=>True) H
  | _=>False
noncomputable def wpRange (vs : List AV) (H : Hp) (K : KI) : Prop :=
  match vs with
  | [.int n]=>-(2 ^ 62) ≤ n ∧ n < 2 ^ 62 ∧ K ((List.range n.toNat).map fun (k : Nat)=>AV.int k) (fun _=>True) H
  | [.int a,.int b]=>-(2 ^ 62) ≤ a ∧ a < 2 ^ 62 ∧ -(2 ^ 62) ≤ b ∧ b < 2 ^ 62 ∧ K ((List.range (b - a).toNat).map fun (k : Nat)=>AV.int (a + k)) (fun _=>True) H
  | _=>False
noncomputable def wpIt (k : IK) (vs : List AV) (H : Hp) (K : KI) : Prop :=
  match k with
  | .plain=>as1 vs fun x=>wpPlain x H K
  | .range=>wpRange vs H K
  | .revd=>as1 vs fun x=>onL x H fun i l=>K l.reverse (fun H'=>H'[i]? = some (.list l)) H
  | .enum=>as1 vs fun x=>asTp x fun l=>K (enumL l) (fun _=>True) H
noncomputable def unpack (t : Bool) (n : Nat) (y : AV) : Option (List AV) :=
  match t with
  | true=>match y with | .tup l=>if l.length = n then some l else none | _=>none
  | false=>if n = 1 then some [y] else none
noncomputable def wpSet (o k x : AV) (H : Hp) (K : Hp → Prop) : Prop :=
  match o with
  | .ref i=>asI k fun k=>match H[i]? with
    | some (.list l)=>l.length < 2 ^ 62 ∧ 0 ≤ k ∧ k < l.length ∧ K (H.set i (.list (l.set k.toNat x)))
    | some (.dict l)=>l.length ≤ sizeLine ∧ K (H.set i (.dict (dset l k x)))
    | none=>False
  | _=>False
noncomputable def idxL (l : List AV) (k : Int) (H : Hp) (Q : PQ) : Prop := l.length < 2 ^ 62 ∧ ∃ j z,place k l.length = some j ∧ l[j]? = some z ∧ Q z H
noncomputable def wpIdx (x y : AV) (H : Hp) (Q : PQ) : Prop :=
  match x with
  | .ref i=>asI y fun k=>match H[i]? with
    | some (.list l)=>idxL l k H Q
    | some (.dict l)=>∃ z,dget l k = some z ∧ Q z H
    | none=>False
  | .tup l=>asI y fun k=>idxL l k H Q
  | .fro l=>asI y fun k=>idxL l k H Q
  | _=>False
noncomputable def partOf : List AV → Option (Option Int)
  | []=>some none
  | [.int k]=>some (some k)
  | _=>none
noncomputable def withP (vs : List AV) (K : Option Int → Prop) : Prop := match vs with | []=>K none | [.int k]=>0 ≤ k ∧ K (some k) | _=>False
theorem withP.ex {vs : List AV} {K : Option Int → Prop} (h : withP vs K) : ∃ k,partOf vs = some k ∧ partOK k ∧ K k := by
  match vs,h with
  | [],h=>exact ⟨_,rfl,by simp [partOK],h⟩
  | [.int k],h=>exact ⟨_,rfl,by simpa [partOK] using h.1,h.2⟩
noncomputable def ME : Type := Fun → Loc → Hp → PQ → Prop
noncomputable def wpE (Φ : Fun) (m : ME) (loc : Loc) (H : Hp) (Q : PQ) : Prop := m Φ loc H Q
noncomputable def wpEs (Φ : Fun) : List ME → Loc → Hp → PL → Prop
  | [],_,H,Q=>Q [] H
  | e :: es,loc,H,Q=>wpE Φ e loc H fun v H'=>wpEs Φ es loc H' fun vs H''=>Q (v :: vs) H''
noncomputable def wpCs (Φ : Fun) : List ME → Loc → Hp → (Bool → Hp → Prop) → Prop
  | [],_,H,K=>K true H
  | e :: es,loc,H,K=>wpE Φ e loc H fun v H'=>asB v fun b=>if b then wpCs Φ es loc H' K else K false H'
noncomputable def kBin2 (op : BOp) (x : AV) (Q : PQ) : PQ := fun y H=>wpBin op x y H Q
noncomputable def kBin1 (Φ : Fun) (op : BOp) (b : ME) (loc : Loc) (Q : PQ) : PQ := fun x H=>wpE Φ b loc H (kBin2 op x Q)
noncomputable def kCmp2 (op : COp) (x : AV) (Q : PQ) : PQ := fun y H=>wpCmp op x y H Q
noncomputable def kCmp1 (Φ : Fun) (op : COp) (b : ME) (loc : Loc) (Q : PQ) : PQ := fun x H=>wpE Φ b loc H (kCmp2 op x Q)
noncomputable def kC4 (Φ : Fun) (o2 : COp) (c : ME) (loc : Loc) (y : AV) (Q : PQ) (H : Hp) : Bool → Prop := fun t=>if t then wpE Φ c loc H (kCmp2 o2 y Q) else Q (.bool false) H
noncomputable def kC3 (Φ : Fun) (o2 : COp) (c : ME) (loc : Loc) (y : AV) (Q : PQ) : PQ := fun v H=>asB v (kC4 Φ o2 c loc y Q H)
noncomputable def kC2 (Φ : Fun) (o1 o2 : COp) (c : ME) (loc : Loc) (x : AV) (Q : PQ) : PQ := fun y H=>wpCmp o1 x y H (kC3 Φ o2 c loc y Q)
noncomputable def kC1 (Φ : Fun) (o1 o2 : COp) (b c : ME) (loc : Loc) (Q : PQ) : PQ := fun x H=>wpE Φ b loc H (kC2 Φ o1 o2 c loc x Q)
noncomputable def kNotB (Q : PQ) (H : Hp) : Bool → Prop := fun b=>Q (.bool !b) H
noncomputable def kNot (Q : PQ) : PQ := fun v H=>asB v (kNotB Q H)
noncomputable def kNegI (Q : PQ) (H : Hp) : Int → Prop := fun b=>Q (.int (-b)) H
noncomputable def kNeg (Q : PQ) : PQ := fun v H=>asI v (kNegI Q H)
noncomputable def kAndB (Φ : Fun) (b : ME) (loc : Loc) (Q : PQ) (H : Hp) : Bool → Prop := fun t=>if t then wpE Φ b loc H Q else Q (.bool false) H
noncomputable def kAnd (Φ : Fun) (b : ME) (loc : Loc) (Q : PQ) : PQ := fun v H=>asB v (kAndB Φ b loc Q H)
noncomputable def kOrB (Φ : Fun) (b : ME) (loc : Loc) (Q : PQ) (H : Hp) : Bool → Prop := fun t=>if t then Q (.bool true) H else wpE Φ b loc H Q
noncomputable def kOr (Φ : Fun) (b : ME) (loc : Loc) (Q : PQ) : PQ := fun v H=>asB v (kOrB Φ b loc Q H)
noncomputable def kCall (Φ : Fun) (f : Str) (Q : PQ) : PL := fun vs H=>Φ f vs H Q
noncomputable def kBi (f : Bi) (Q : PQ) : PL := fun vs H=>wpBi f vs H Q
noncomputable def kIsi (t : Ty) (Q : PQ) : PQ := fun v H=>Q (.bool (isi H v t)) H
noncomputable def kIdx2 (x : AV) (Q : PQ) : PQ := fun y H=>wpIdx x y H Q
noncomputable def kIdx1 (Φ : Fun) (b : ME) (loc : Loc) (Q : PQ) : PQ := fun x H=>wpE Φ b loc H (kIdx2 x Q)
noncomputable def kS6 (ka kb : Option Int) (Q : PQ) (H : Hp) : List AV → Prop := fun l=>l.length ≤ sizeLine ∧ Q (.ref H.length) (H ++ [.list (lslice l ka kb)])
noncomputable def kS5 (x : AV) (ka : Option Int) (Q : PQ) (H : Hp) : Option Int → Prop := fun kb=>withL (seqL H x) (kS6 ka kb Q H)
noncomputable def kS4 (x : AV) (ka : Option Int) (Q : PQ) : PL := fun vs H=>withP vs (kS5 x ka Q H)
noncomputable def kS3 (Φ : Fun) (hi : List ME) (loc : Loc) (x : AV) (Q : PQ) (H : Hp) : Option Int → Prop := fun ka=>wpEs Φ hi loc H (kS4 x ka Q)
noncomputable def kS2 (Φ : Fun) (hi : List ME) (loc : Loc) (x : AV) (Q : PQ) : PL := fun us H=>withP us (kS3 Φ hi loc x Q H)
noncomputable def kS1 (Φ : Fun) (lo hi : List ME) (loc : Loc) (Q : PQ) : PQ := fun x H=>wpEs Φ lo loc H (kS2 Φ hi loc x Q)
noncomputable def kT6 (ka kb : Option Int) (Q : PQ) (H : Hp) : List AV → Prop := fun l=>l.length ≤ sizeLine ∧ Q (.tup (lslice l ka kb)) H
noncomputable def kT5 (x : AV) (ka : Option Int) (Q : PQ) (H : Hp) : Option Int → Prop := fun kb=>withL (tupL x) (kT6 ka kb Q H)
noncomputable def kT4 (x : AV) (ka : Option Int) (Q : PQ) : PL := fun vs H=>withP vs (kT5 x ka Q H)
noncomputable def kT3 (Φ : Fun) (hi : List ME) (loc : Loc) (x : AV) (Q : PQ) (H : Hp) : Option Int → Prop := fun ka=>wpEs Φ hi loc H (kT4 x ka Q)
noncomputable def kT2 (Φ : Fun) (hi : List ME) (loc : Loc) (x : AV) (Q : PQ) : PL := fun us H=>withP us (kT3 Φ hi loc x Q H)
noncomputable def kT1 (Φ : Fun) (lo hi : List ME) (loc : Loc) (Q : PQ) : PQ := fun x H=>wpEs Φ lo loc H (kT2 Φ hi loc x Q)
noncomputable def kRevL (Q : PQ) (H : Hp) : List AV → Prop := fun l=>l.length ≤ sizeLine ∧ Q (.ref H.length) (H ++ [.list l.reverse])
noncomputable def kRev (Q : PQ) : PQ := fun x H=>withL (seqL H x) (kRevL Q H)
noncomputable def kTup (Q : PQ) : PL := fun vs H=>vs.length ≤ sizeLine ∧ Q (.tup vs) H
noncomputable def kLst (Q : PQ) : PL := fun vs H=>vs.length ≤ sizeLine ∧ Q (.ref H.length) (H ++ [.list vs])
noncomputable def kD3 (n : Nat) (i : Int) (Q : PQ) : PQ := fun y H=>H[n]? = some (.dict []) ∧ Q (.ref n) (H.set n (.dict [(i,y)]))
noncomputable def kD2 (Φ : Fun) (v : ME) (loc : Loc) (n : Nat) (Q : PQ) (H : Hp) : Int → Prop := fun i=>wpE Φ v loc H (kD3 n i Q)
noncomputable def kD1 (Φ : Fun) (v : ME) (loc : Loc) (n : Nat) (Q : PQ) : PQ := fun x H=>asI x (kD2 Φ v loc n Q H)
noncomputable def kM2 (m : Mt) (x : AV) (Q : PQ) : PL := fun vs H=>wpMt m x vs H Q
noncomputable def kM1 (Φ : Fun) (m : Mt) (as : List ME) (loc : Loc) (Q : PQ) : PQ := fun x H=>isL H x ∧ wpEs Φ as loc H (kM2 m x Q)
noncomputable def kE2 (v : AV) (Q : PL) : PL := fun vs H=>Q (v :: vs) H
noncomputable def kE1 (Φ : Fun) (es : List ME) (loc : Loc) (Q : PL) : PQ := fun v H=>wpEs Φ es loc H (kE2 v Q)
noncomputable def kCsB (Φ : Fun) (es : List ME) (loc : Loc) (K : Bool → Hp → Prop) (H : Hp) : Bool → Prop := fun b=>if b then wpCs Φ es loc H K else K false H
noncomputable def kCs (Φ : Fun) (es : List ME) (loc : Loc) (K : Bool → Hp → Prop) : PQ := fun v H=>asB v (kCsB Φ es loc K H)
noncomputable def kIt (k : IK) (K : KI) : PL := fun vs H=>wpIt k vs H K
noncomputable def atL (o : Option (Option AV)) (Q : PQ) (H : Hp) : Prop := match o with | some (some v)=>Q v H | _=>False
theorem atL.ex {o : Option (Option AV)} {Q : PQ} {H : Hp} (h : atL o Q H) : ∃ v,o = some (some v) ∧ Q v H := by
  match o,h with
  | some (some v),h=>exact ⟨v,rfl,h⟩
noncomputable def compI (Φ : Fun) (t : Bool) (n : Nat) (elt : ME) (cond : List ME) (loc : Loc) (Q : PQ) : KI := fun items Cnd H₁=>items.length ≤ sizeLine ∧ ∃ J : Nat → List AV → Hp → Prop,J 0 [] H₁ ∧ ∀ i l H',J i l H' → Cnd H' ∧
      (∀ y,items[i]? = some y → ∃ ws,unpack t n y = some ws ∧ wpCs Φ cond (loc ++ ws.map some) H' fun b H''=>if b then wpE Φ elt (loc ++ ws.map some) H'' fun v H3=>J (i + 1) (l ++ [v]) H3 else J (i + 1) l H'') ∧
      (i = items.length → Q (.ref H'.length) (H' ++ [.list l]))
namespace ME
noncomputable def cst (v : AV) : ME := fun _ _ H Q=>Q v H
noncomputable def loc (i : Nat) : ME := fun _ loc H Q=>atL loc[i]? Q H
noncomputable def bin (op : BOp) (a b : ME) : ME := fun Φ loc H Q=>wpE Φ a loc H (kBin1 Φ op b loc Q)
noncomputable def cmp (op : COp) (a b : ME) : ME := fun Φ loc H Q=>wpE Φ a loc H (kCmp1 Φ op b loc Q)
noncomputable def cmp2 (o1 o2 : COp) (a b c : ME) : ME := fun Φ loc H Q=>wpE Φ a loc H (kC1 Φ o1 o2 b c loc Q)
noncomputable def not (a : ME) : ME := fun Φ loc H Q=>wpE Φ a loc H (kNot Q)
noncomputable def neg (a : ME) : ME := fun Φ loc H Q=>wpE Φ a loc H (kNeg Q)
noncomputable def and2 (a b : ME) : ME := fun Φ loc H Q=>wpE Φ a loc H (kAnd Φ b loc Q)
noncomputable def or2 (a b : ME) : ME := fun Φ loc H Q=>wpE Φ a loc H (kOr Φ b loc Q)
noncomputable def call (f : Str) (as : List ME) : ME := fun Φ loc H Q=>wpEs Φ as loc H (kCall Φ f Q)
noncomputable def bi (f : Bi) (as : List ME) : ME := fun Φ loc H Q=>wpEs Φ as loc H (kBi f Q)
noncomputable def isi (a : ME) (t : Ty) : ME := fun Φ loc H Q=>wpE Φ a loc H (kIsi t Q)
noncomputable def idx (a b : ME) : ME := fun Φ loc H Q=>wpE Φ a loc H (kIdx1 Φ b loc Q)
noncomputable def slc (a : ME) (lo hi : List ME) : ME := fun Φ loc H Q=>wpE Φ a loc H (kS1 Φ lo hi loc Q)
noncomputable def slcT (a : ME) (lo hi : List ME) : ME := fun Φ loc H Q=>wpE Φ a loc H (kT1 Φ lo hi loc Q)
noncomputable def rev (a : ME) : ME := fun Φ loc H Q=>wpE Φ a loc H (kRev Q)
noncomputable def tup (es : List ME) : ME := fun Φ loc H Q=>wpEs Φ es loc H (kTup Q)
noncomputable def lst (es : List ME) : ME := fun Φ loc H Q=>wpEs Φ es loc H (kLst Q)
noncomputable def dic1 (k v : ME) : ME := fun Φ loc H Q=>wpE Φ k loc (H ++ [.dict []]) (kD1 Φ v loc H.length Q)
noncomputable def dic0 : ME := fun Φ loc H Q=>Q (.ref H.length) (H ++ [.dict []])
noncomputable def comp (t : Bool) (n : Nat) (elt : ME) (k : IK) (its cond : List ME) : ME := fun Φ loc H Q=>wpEs Φ its loc H (kIt k (compI Φ t n elt cond loc Q))
noncomputable def meth (m : Mt) (o : ME) (as : List ME) : ME := fun Φ loc H Q=>wpE Φ o loc H (kM1 Φ m as loc Q)
end ME
noncomputable def MS : Type := Fun → Loc → Hp → PF → Prop
noncomputable def wpS (Φ : Fun) (m : MS) (loc : Loc) (H : Hp) (Q : PF) : Prop := m Φ loc H Q
noncomputable def seqF (Q : PF) (K : Loc → Hp → Prop) : PF := fun fl loc H=>match fl with | .next=>K loc H | .cont=>Q .cont loc H | .brk=>Q .brk loc H | .ret v=>Q (.ret v) loc H | .exc c=>Q (.exc c) loc H
noncomputable def wpSs (Φ : Fun) : List MS → Loc → Hp → PF → Prop
  | [],loc,H,Q=>Q .next loc H
  | s :: ss,loc,H,Q=>wpS Φ s loc H (seqF Q fun loc' H'=>wpSs Φ ss loc' H' Q)
noncomputable def thenS (Φ : Fun) (ss : List MS) (Q : PF) : PF := seqF Q fun loc' H'=>wpSs Φ ss loc' H' Q
noncomputable def kAsg (i : Nat) (loc : Loc) (Q : PF) : PQ := fun v H=>Q .next (loc.set i (some v)) H
noncomputable def kAsgTL (is : List Nat) (loc : Loc) (Q : PF) (H : Hp) : List AV → Prop := fun ws=>Q .next (setAll (is.zip ws) loc) H
noncomputable def kAsgT (is : List Nat) (loc : Loc) (Q : PF) : PQ := fun v H=>asT v is.length (kAsgTL is loc Q H)
noncomputable def kSto4 (loc : Loc) (Q : PF) : Hp → Prop := fun H=>Q .next loc H
noncomputable def kSto3 (x y : AV) (loc : Loc) (Q : PF) : PQ := fun z H=>wpSet y z x H (kSto4 loc Q)
noncomputable def kSto2 (Φ : Fun) (k : ME) (x : AV) (loc : Loc) (Q : PF) : PQ := fun y H=>wpE Φ k loc H (kSto3 x y loc Q)
noncomputable def kSto1 (Φ : Fun) (o k : ME) (loc : Loc) (Q : PF) : PQ := fun x H=>wpE Φ o loc H (kSto2 Φ k x loc Q)
noncomputable def kIteB (Φ : Fun) (a b : List MS) (loc : Loc) (Q : PF) (H : Hp) : Bool → Prop := fun c=>if c then wpSs Φ a loc H Q else wpSs Φ b loc H Q
noncomputable def kIte (Φ : Fun) (a b : List MS) (loc : Loc) (Q : PF) : PQ := fun v H=>asB v (kIteB Φ a b loc Q H)
noncomputable def kRet (loc : Loc) (Q : PF) : PQ := fun v H=>Q (.ret v) loc H
noncomputable def kExp (loc : Loc) (Q : PF) : PQ := fun _ H=>Q .next loc H
noncomputable def whlK (J : Nat → Loc → Hp → Prop) (n : Nat) (Q : PF) : PF := fun fl l H=>match fl with
  | .next=>∃ m,m < n ∧ J m l H
  | .cont=>∃ m,m < n ∧ J m l H
  | .brk=>Q .next l H
  | .ret v=>Q (.ret v) l H
  | .exc _=>False
noncomputable def kWhlB (Φ : Fun) (b : List MS) (J : Nat → Loc → Hp → Prop) (n : Nat) (loc : Loc) (Q : PF) (H : Hp) : Bool → Prop := fun c=>if c then wpSs Φ b loc H (whlK J n Q) else Q .next loc H
noncomputable def kWhl (Φ : Fun) (b : List MS) (J : Nat → Loc → Hp → Prop) (n : Nat) (loc : Loc) (Q : PF) : PQ := fun v H=>asB v (kWhlB Φ b J n loc Q H)
noncomputable def forK (J : Nat → Loc → Hp → Prop) (i : Nat) (Q : PF) : PF := fun fl l H=>match fl with
  | .next=>J (i + 1) l H
  | .cont=>J (i + 1) l H
  | .brk=>Q .next l H
  | .ret v=>Q (.ret v) l H
  | .exc _=>False
noncomputable def forI (Φ : Fun) (t : Bool) (is : List Nat) (b : List MS) (loc : Loc) (Q : PF) : KI := fun items Cnd H₁=>∃ J : Nat → Loc → Hp → Prop,J 0 loc H₁ ∧ ∀ i loc H,J i loc H → Cnd H ∧
      (∀ y,items[i]? = some y → ∃ ws,unpack t is.length y = some ws ∧ wpSs Φ b (setAll (is.zip ws) loc) H (forK J i Q)) ∧
      (i = items.length → Q .next loc H)
namespace MS
noncomputable def asg (i : Nat) (e : ME) : MS := fun Φ loc H Q=>wpE Φ e loc H (kAsg i loc Q)
noncomputable def asgT (is : List Nat) (e : ME) : MS := fun Φ loc H Q=>wpE Φ e loc H (kAsgT is loc Q)
noncomputable def sto (o k e : ME) : MS := fun Φ loc H Q=>wpE Φ e loc H (kSto1 Φ o k loc Q)
noncomputable def ite (t : ME) (a b : List MS) : MS := fun Φ loc H Q=>wpE Φ t loc H (kIte Φ a b loc Q)
noncomputable def whl (t : ME) (b : List MS) : MS := fun Φ loc H Q=>∃ (J : Nat → Loc → Hp → Prop) (n : Nat),J n loc H ∧ ∀ n loc H,J n loc H → wpE Φ t loc H (kWhl Φ b J n loc Q)
noncomputable def forr (t : Bool) (is : List Nat) (k : IK) (its : List ME) (b : List MS) : MS := fun Φ loc H Q=>wpEs Φ its loc H (kIt k (forI Φ t is b loc Q))
noncomputable def ret (e : ME) : MS := fun Φ loc H Q=>wpE Φ e loc H (kRet loc Q)
noncomputable def ret0 : MS := fun _ loc H Q=>Q (.ret .none) loc H
noncomputable def expr (e : ME) : MS := fun Φ loc H Q=>wpE Φ e loc H (kExp loc Q)
end MS
structure MF where
  params : Nat
  vars : Nat
  body : List MS
noncomputable def wpF (Φ : Fun) (f : MF) (args : List AV) (H : Hp) (Q : PQ) : Prop :=
  args.length = f.params ∧ wpSs Φ f.body (args.map some ++ List.replicate (f.vars - f.params) none) H (endOf Q)
end Mine
namespace Mine
open PySem
noncomputable def slotB (C : Ctx) (i : Nat) (x : Str) : Bool :=
  decide (C.ro ≤ i) && (C.vars[i]? == some (some x)) && (C.vars.zipIdx.all fun p=>p.1 != some x || p.2 == i) && (C.names.lookup x == some .local || C.names.lookup x == some .cell)
theorem Slot.of {C : Ctx} {i : Nat} {x : Str} (h : slotB C i x = true) : Slot C i x := by
  simp only [slotB,Bool.and_eq_true,decide_eq_true_eq,beq_iff_eq,List.all_eq_true,Bool.or_eq_true,bne_iff_ne,ne_eq] at h
  refine x0_2 (h) fun qQ0 h4=>?_
  clear h
  obtain ⟨⟨h1,h2⟩,h3⟩ := qQ0
  refine ⟨h1,h2,fun j hj=>?_,h4⟩
  have := h3 (some x,j) (by rw [List.mk_mem_zipIdx_iff_getElem?]; exact hj)
  simpa using this
structure GT where
  fns : List Str
  csts : List (Str × AV)
noncomputable def Bi.nm : Bi → Str | .len => "len" | .all => "all" | .any => "any" | .sorted => "sorted" | .list => "list" | .tuple => "tuple" | .int => "int" | .min => "min" | .max => "max"
noncomputable def Bi.val : Bi → Value | .len=>.builtin "len" | .all=>.builtin "all" | .any=>.builtin "any" | .sorted=>.builtin "sorted" | .list=>.type "list" | .tuple=>.type "tuple" | .int=>.type "int" | .min=>.builtin "min" | .max=>.builtin "max"
noncomputable def Ty.ps : Ty → Str | .int => "int" | .bool => "bool" | .str => "str" | .tuple => "tuple" | .list => "list"
noncomputable def Mt.nm : Mt → Str | .append => "append" | .pop => "pop" | .insert => "insert" | .extend => "extend" | .clear => "clear"
noncomputable def Mt.id : Mt → String | .append => "list.append" | .pop => "list.pop" | .insert => "list.insert" | .extend => "list.extend" | .clear => "list.clear"
inductive ITy where | range | revd | enum
noncomputable def ITy.ik : ITy → IK | .range=>.range | .revd=>.revd | .enum=>.enum
noncomputable def ITy.str : ITy → Str | .range => "range" | .revd => "reversed" | .enum => "enumerate"
noncomputable def ITy.nm : ITy → String | .range => "range" | .revd => "reversed" | .enum => "enumerate"
structure GOK (P : PEnv) (G : GT) : Prop extends P.OK2 where
  fns : ∀ x,G.fns.contains x = true → ∃ fa o fd,P.mg x = some (.ref fa) ∧ P.B.get? fa = some o ∧ o.data = .func fd
  csts : ∀ x v,G.csts.lookup x = some v → ∃ u,P.mg x = some u ∧ ∀ h ι,P.B.StaysIn h → VR P.B h ι v u
  blt : ∀ b : Bi,P.mg b.nm = none ∧ P.mb b.nm = some b.val
  ty : ∀ t : Ty,P.mg t.ps = none ∧ P.mb t.ps = some (.type t.nm)
  isi : P.mg "isinstance" = none ∧ P.mb "isinstance" = some (.builtin "isinstance")
  its : ∀ t : ITy,P.mg t.str = none ∧ P.mb t.str = some (.type t.nm)
structure GN (C : Ctx) (x : Str) : Prop where
  look : C.names.lookup x = some .globalImplicit
  dbg : (x == ("__debug__" : Str)) = false
structure MethForm (o : Expr) (name : Str) (apos pos : Pos) (es : List Expr) : Prop where
  he : ∀ env,eval (.Call (.Attribute o name apos) es [] pos) env = (do
      let ov ← eval o env
      standAt apos.atName
      let (f,first) ← holding [ov] (getMethod ov name (do return (← importBound o env).getD true))
      callWith pos f first (backTo pos (starEach es env)) [])
noncomputable def FunOK (P : PEnv) (d : Nat) (Φ : Fun) : Prop := ∀ f args H Q,Φ f args H Q → CallOK P d f args H Q XF
noncomputable def SndP (P : PEnv) (C : Ctx) (d : Nat) (e : Expr) (loc : Loc) (H : Hp) (Q : PQ) : Prop :=
  EvOK P C d e loc H Q XF ∧ ∀ K : Bool → Hp → Prop,(∀ v H',Q v H' → asB v fun b=>K b H') → TsOK P C d e loc H K XF
theorem SndP.plain {P : PEnv} {C : Ctx} {d : Nat} {e : Expr} {loc : Loc} {H : Hp} {Q : PQ} (ev : EvOK P C d e loc H Q XF) (ht : ∀ env whole,isTrue e env whole = (do let v ← whole; standAt e.pos; holding [v] (truthy v))) : SndP P C d e loc H Q :=
  ⟨ev,fun K hk=>ts_plain (ev.mono fun v H' q=>(hk v H' q).ex) ht⟩
structure CE (G : GT) (C : Ctx) (m : ME) (e : Expr) : Prop where
  star : ∀ rest env,starEach (e :: rest) env = (false,eval e env) :: starEach rest env
  marks : ∀ op,behindInMarks op e = false
  folded : ∀ env x,foldedSetIterable e env x = pure x
  snd : ∀ {P d Φ},GOK P G → FunOK P d Φ → ∀ {loc H Q},wpE Φ m loc H Q → SndP P C d e loc H Q
structure CEs (G : GT) (C : Ctx) (ms : List ME) (es : List Expr) : Prop where
  plain : plainArgs es
  snd : ∀ {P d Φ},GOK P G → FunOK P d Φ → ∀ {loc H} {Q : PL},wpEs Φ ms loc H Q → EvsOK P C d es loc H Q XF
structure CO (G : GT) (C : Ctx) (ms : List ME) (o : Option Expr) : Prop where
  snd : ∀ {P d Φ},GOK P G → FunOK P d Φ → ∀ {loc H} {Q : PL} {K : Option Int → Hp → Prop},wpEs Φ ms loc H Q → (∀ vs H',Q vs H' → ∃ k,partOf vs = some k ∧ K k H') → evPart P C d o loc H K XF
noncomputable def IK.tt : IK → Bool
  | .enum=>true
  | _=>false
structure CI (G : GT) (C : Ctx) (k : IK) (ms : List ME) (e : Expr) : Prop where
  folded : ∀ env x,foldedSetIterable e env x = pure x
  snd : ∀ {P d Φ},GOK P G → FunOK P d Φ → ∀ {loc H} {K : KI},wpEs Φ ms loc H (kIt k K) → ItEv P k.tt C d e loc H K XF
structure CC (G : GT) (C : Ctx) (ms : List ME) (es : List Expr) : Prop where
  snd : ∀ {P d Φ},GOK P G → FunOK P d Φ → ∀ {loc H} {K K' : Bool → Hp → Prop},(∀ b H,K b H → K' b H) → wpCs Φ ms loc H K → CondOK P C d es loc H K'
structure CS (G : GT) (C : Ctx) (m : MS) (st : Stmt) : Prop where
  snd : ∀ {P d Φ},GOK P G → FunOK P d Φ → ∀ {loc H} {Q : PF},wpS Φ m loc H Q → ExOK P C d st loc H Q
structure CSs (G : GT) (C : Ctx) (ms : List MS) (sts : List Stmt) : Prop where
  snd : ∀ {P d Φ},GOK P G → FunOK P d Φ → ∀ {loc H} {Q : PF},wpSs Φ ms loc H Q → ExsOK P C d sts loc H Q
end Mine
namespace Mine
open PySem
variable {P : PEnv} {C : Ctx} {d : Nat} {loc : Loc} {H : Hp} {X : XP}
theorem EvOK.len {e : Expr} {Q : PQ} (h : loc.length = C.vars.length → EvOK P C d e loc H Q X) : EvOK P C d e loc H Q X := fun A E env ι s w r a=>h r.len A E env ι s w r a
theorem ExOK.len {e : Stmt} {Q : PF} (h : loc.length = C.vars.length → ExOK P C d e loc H Q) : ExOK P C d e loc H Q := fun A E env ι s w r=>h r.len A E env ι s w r
theorem idxL_ok {eo ei : Expr} {o : AV} {l : List AV} {k : Int} {Q : PQ} (ho : seqL H o = some l) (hh : idxL l k H Q) : SubOK P d eo ei o (.int k) H Q := by
  refine x0_2 (hh) fun h1 qQ1=>?_
  clear hh
  obtain ⟨j,z,hp,hz,q⟩ := qQ1
  unfold place at hp
  split at hp
  · split at hp
    · cases hp
      exact sub_list ho h1 (by assumption) hz q
    · cases hp
  · split at hp
    · cases hp
      exact sub_listNeg ho h1 (by (first | lia | omega)) (by assumption) hz q
    · cases hp
theorem wpIdx_ok {eo ei : Expr} {x y : AV} {Q : PQ} (h : wpIdx x y H Q) : SubOK P d eo ei x y H Q := by
  cases x with
  | ref i =>
    refine x1_2 (asI.ex h) fun k eQ1 g=>?_
    subst eQ1
    split at g
    · rename_i hl; exact idxL_ok (by simp [seqL,hl]) g
    · rename_i hl; obtain ⟨z,h1,h2⟩ := g; exact sub_dict hl h1 h2
    · exact g.elim
  | tup l =>
    refine x1_3 (asI.ex h) fun k eQ1 h1 qQ3=>?_
    subst eQ1
    obtain ⟨j,z,hp,hz,q⟩ := qQ3
    exact sub_tup h1 hp hz q
  | fro l =>
    refine x1_2 (asI.ex h) fun k eQ1 nQ2=>?_
    subst eQ1
    revert nQ2
    intro h
    exact idxL_ok rfl h
  | _=>exact h.elim
theorem OpOK.mono {t : List Value → Sem Value} {args : List AV} {Q Q' : PQ} (h : OpOK P d t args H Q) (q : ∀ a H',Q a H' → Q' a H') : OpOK P d t args H Q' :=
  fun A E ι s vs w r=>wpAny_mono (h A E ι s vs w r) (fun _ _ g=>g.mono q) fun _ _ x=>x
noncomputable def Bi.call (f : Bi) (vs : List Value) : Sem Value := PySem.call f.val vs
theorem wpLen_ok (ok : P.OK2) {x : AV} {Q : PQ} (h : wpLen x H Q) : OpOK P d (fun us=>Bi.len.call us) [x] H Q := by
  cases x with
  | ref i =>
    simp only [wpLen] at h
    split at h
    · rename_i hl; exact fn_lenL (by simp [seqL,hl]) h.1 h.2
    · rename_i hl; exact fn_lenD ok hl h.1 h.2
    · exact h.elim
  | tup l=>exact fn_lenT h.1 h.2
  | fro l=>exact fn_lenL rfl h.1 h.2
  | _=>exact h.elim
theorem wpMm.ex {vs : List AV} {K : Int → Int → Prop} (h : wpMm vs K) : ∃ a b,vs = [.int a,.int b] ∧ K a b := by
  match vs,h with
  | [.int a,.int b],h=>exact ⟨a,b,rfl,h⟩
theorem wpBi_ok (ok : P.OK2) {f : Bi} {vs : List AV} {Q : PQ} (h : wpBi f vs H Q) : OpOK P d (fun us=>f.call us) vs H Q := by
  cases f with
  | len=>obtain ⟨x,rfl,h⟩ := as1.ex h; exact wpLen_ok ok h
  | all=>obtain ⟨x,rfl,bs,h1,h2⟩ := as1.ex h; exact fn_all h1 h2
  | any=>obtain ⟨x,rfl,bs,h1,h2⟩ := as1.ex h; exact fn_any h1 h2
  | list =>
    refine x1_2 (as1.ex h) fun x eQ1 nQ2=>?_
    subst eQ1
    revert nQ2
    intro h
    refine x1_3 (withL.ex h) fun l h1 h2 h3=>?_
    cases x with
    | ref i =>
      cases hi : H[i]? with
      | none=>simp [lstL,hi] at h1
      | some o =>
        cases o with
        | list m=>exact fn_listOf (.inl (by simp [lstL,hi] at h1; simp [seqL,hi,h1])) h2 h3
        | dict m =>
          have : (m.map (·.1)).map AV.int = l := by simpa [lstL,hi] using h1
          subst this
          exact fn_listD hi (by simpa using h2) h3
    | tup m=>exact fn_listOf (.inr (by rw [Option.some.inj (show some m = some l from h1)])) h2 h3
    | fro m=>exact fn_listOf (.inl h1) h2 h3
    | _=>exact fn_listOf (.inl h1) h2 h3
  | tuple =>
    refine x1_2 (as1.ex h) fun x eQ1 nQ2=>?_
    subst eQ1
    revert nQ2
    intro h
    refine x1_3 (withL.ex h) fun l h1 h2 h3=>?_
    exact fn_tupleOf h1 h2 h3
  | int =>
    refine x1_2 (as1.ex h) fun x eQ1 nQ2=>?_
    subst eQ1
    revert nQ2
    intro h
    refine x1_2 (asB.ex h) fun b eQ1 nQ2=>?_
    subst eQ1
    revert nQ2
    intro h
    exact fn_intB h
  | min=>obtain ⟨a,b,rfl,h⟩ := wpMm.ex h; exact fn_min h
  | max=>obtain ⟨a,b,rfl,h⟩ := wpMm.ex h; exact fn_max h
  | sorted =>
    refine x1_2 (as1.ex h) fun x eQ1 qQ2=>?_
    subst eQ1
    obtain ⟨ns,h1,h2,h3⟩ := qQ2
    rcases h1 with h1 | ⟨i,l,rfl,h1,rfl⟩
    · exact fn_sortedL h1 h2 h3
    · exact fn_sortedD h1 (by simpa using h2) h3
theorem wpPop.ex {vs : List AV} {K0 : Prop} {K1 : Int → Prop} (h : wpPop vs K0 K1) : (vs = [] ∧ K0) ∨ ∃ k,vs = [.int k] ∧ K1 k := by
  cases vs with
  | nil=>exact .inl ⟨rfl,h⟩
  | cons x r =>
    cases r with
    | nil=>cases x <;> first | exact (show False from h).elim | exact .inr ⟨_,rfl,h⟩
    | cons y r=>cases x <;> exact (show False from h).elim
theorem wpIns.ex {vs : List AV} {K : Int → AV → Prop} (h : wpIns vs K) : ∃ k x,vs = [.int k,x] ∧ K k x := by
  cases vs with
  | nil=>exact (show False from h).elim
  | cons x r =>
    cases r with
    | nil=>cases x <;> exact (show False from h).elim
    | cons y r =>
      cases r with
      | nil=>cases x <;> first | exact (show False from h).elim | exact ⟨_,_,rfl,h⟩
      | cons z r=>cases x <;> exact (show False from h).elim
theorem wpMt_ok {m : Mt} {x : AV} {vs : List AV} {Q : PQ} (h : wpMt m x vs H Q) : OpOK P d (fun us=>PySem.call (.builtin m.id) us) (x :: vs) H Q := by
  refine x2_3 (onL.ex h) fun i l eQ2 hl nQ4=>?_
  subst eQ2
  revert nQ4
  intro h
  cases m with
  | append=>obtain ⟨x,rfl,h⟩ := as1.ex h; exact fn_append hl h.1 h.2
  | pop =>
    rcases wpPop.ex h with ⟨rfl,h1,l',x,rfl,q⟩ | ⟨k,rfl,h1,h2,h3,x,h4,q⟩
    · exact fn_pop hl (by simpa using h1) q
    · exact fn_popAt hl h1 h2 h3 h4 q
  | insert =>
    refine x2_5 (wpIns.ex h) fun k x eQ2 h1 h2 h3 q=>?_
    subst eQ2
    exact fn_insert hl h1 h2 h3 q
  | extend =>
    refine x1_2 (as1.ex h) fun y eQ1 nQ2=>?_
    subst eQ1
    revert nQ2
    intro h
    refine x2_4 (onL.ex h) fun j m eQ2 h1 h2 q=>?_
    subst eQ2
    exact fn_extend hl h1 h2 q
  | clear=>obtain ⟨rfl,h1,q⟩ := h; exact fn_clear hl h1 q
theorem meth_mt {i : Nat} {l : List AV} (m : Mt) (hi : H[i]? = some (.list l)) : MethIs P (.ref i) H m.nm m.id := by
  cases m
  · exact meth_list hi PySem.F.slot_list_append.lookup PySem.F.type_list_append
  · exact meth_list hi PySem.F.slot_list_pop.lookup PySem.F.type_list_pop
  · exact meth_list hi PySem.F.slot_list_insert.lookup PySem.F.type_list_insert
  · exact meth_list hi PySem.F.slot_list_extend.lookup PySem.F.type_list_extend
  · exact meth_list hi PySem.F.slot_list_clear.lookup PySem.F.type_list_clear
theorem wpSet_ok {o k x : AV} {K : Hp → Prop} (h : wpSet o k x H K) : SetOK P d o k x H K := by
  cases o with
  | ref i =>
    refine x1_2 (asI.ex h) fun k eQ1 g=>?_
    subst eQ1
    split at g
    · rename_i hl; exact set_list hl g.1 g.2.1 g.2.2.1 g.2.2.2
    · rename_i hl; exact set_dict hl g.1 g.2
    · exact g.elim
  | _=>exact h.elim
theorem setAll_at {L : Loc} : ∀ {ws : List AV} {cv : Loc},cv.length = ws.length → setAll (((List.range ws.length).map (L.length + ·)).zip ws) (L ++ cv) = L ++ ws.map some := by
  have key : ∀ (ws : List AV) (pre : Loc) (cv : Loc),cv.length = ws.length → setAll (((List.range ws.length).map (pre.length + ·)).zip ws) (pre ++ cv) = pre ++ ws.map some := by
    intro ws
    induction ws with
    | nil=>intro pre cv h; have : cv = [] := List.length_eq_zero_iff.mp h; subst this; rfl
    | cons w ws ih =>
      intro pre cv h
      cases cv with
      | nil=>simp at h
      | cons c cv =>
        have e1 : (List.range (w :: ws).length).map (pre.length + ·) = pre.length :: (List.range ws.length).map ((pre ++ [some w]).length + ·) := by
          rw [List.length_cons,List.range_succ_eq_map]
          simp only [List.map_cons,Nat.add_zero,List.map_map,List.cons.injEq,true_and]
          apply List.map_congr_left
          intro a _
          simp only [Function.comp,List.length_append,List.length_cons,List.length_nil]
          exact z134
        rw [e1]
        show setAll (((List.range ws.length).map ((pre ++ [some w]).length + ·)).zip ws) ((pre ++ c :: cv).set pre.length (some w)) = _
        have e2 : (pre ++ c :: cv).set pre.length (some w) = (pre ++ [some w]) ++ cv := by
          rw [List.set_append_right _ _ (Nat.le_refl _)]; simp
        rw [e2,ih (pre ++ [some w]) cv (by simpa using h)]
        simp
  intro ws cv h
  exact key ws L cv h
end Mine
namespace Mine
open PySem
set_option maxHeartbeats 4000000
variable {P : PEnv} {d : Nat} {G : GT} {Φ : Fun} {C : Ctx}
theorem ts_and1 {e : Expr} {pos : Pos} {loc : Loc} {H : Hp} {K : Bool → Hp → Prop} (h : TsOK P C d e loc H K XF) : TsOK P C d (.BoolOp .And [e] pos) loc H K XF :=
  ts_and (h.mono fun b H' k=>by cases b with | false=>exact k | true=>exact ts_and_nil k)
theorem ts_or1 {e : Expr} {pos : Pos} {loc : Loc} {H : Hp} {K : Bool → Hp → Prop} (h : TsOK P C d e loc H K XF) : TsOK P C d (.BoolOp .Or [e] pos) loc H K XF :=
  ts_or (h.mono fun b H' k=>by cases b with | true=>exact k | false=>exact ts_or_nil k)
theorem it_plain {x : AV} {H : Hp} {K : KI} (h : wpPlain x H K) : ∃ items Cnd,ItOK P x H items Cnd ∧ K items Cnd H := by
  cases x with
  | ref i=>obtain ⟨l,h1,h2⟩ := withL.ex h; exact ⟨_,_,it_list (lstAt_some h1),h2⟩
  | fro l=>exact ⟨_,_,it_fro,h⟩
  | tup l=>exact ⟨_,_,it_tup,h⟩
  | str x=>exact ⟨_,_,it_str h.1,h.2⟩
  | _=>exact h.elim
theorem it_ty {t : ITy} {vs : List AV} {H : Hp} {K : KI} (h : wpIt t.ik vs H K) : ItCall P t.ik.tt d (fun us=>PySem.call (.type t.nm) us) vs H K := by
  cases t with
  | range =>
    match vs,h with
    | [.int n],h=>exact it_range1 h.1 h.2.1 h.2.2
    | [.int a,.int b],h=>exact it_range2 h.1 h.2.1 h.2.2.1 h.2.2.2.1 h.2.2.2.2
  | revd =>
    refine x1_2 (as1.ex h) fun x eQ1 nQ2=>?_
    subst eQ1
    revert nQ2
    intro h
    refine x2_3 (onL.ex h) fun i l eQ2 h1 h2=>?_
    subst eQ2
    exact it_rev h1 h2
  | enum =>
    refine x1_2 (as1.ex h) fun x eQ1 nQ2=>?_
    subst eQ1
    revert nQ2
    intro h
    refine x1_2 (asTp.ex h) fun l eQ1 nQ2=>?_
    subst eQ1
    revert nQ2
    intro h
    exact it_enumT h
theorem CEs.nil : CEs G C [] [] := ⟨fun _ _=>rfl,fun ok hΦ _ _ _ w=>evs_nil w⟩
theorem CEs.cons {a : ME} {as : List ME} {x : Expr} {xs : List Expr} (hx : CE G C a x) (hs : CEs G C as xs) : CEs G C (a :: as) (x :: xs) :=
  ⟨fun env pos=>by rw [hx.star]; have := hs.plain env pos; simpa [backTo] using this,
   fun ok hΦ _ _ _ w=>evs_cons ((hx.snd ok hΦ (Q := fun v H'=>wpEs _ as _ H' fun vs H''=>_) w).1.mono fun v H' w=>hs.snd ok hΦ w) fun env=>hx.star _ env⟩
theorem CO.none : CO G C [] none := ⟨fun ok hΦ _ _ _ _ w hk=>by
  refine x1_2 (hk [] _ w) fun k h1 h2=>?_
  cases h1
  exact h2⟩
theorem CO.some {a : ME} {x : Expr} (hx : CE G C a x) : CO G C [a] (some x) := ⟨fun ok hΦ _ _ _ _ w hk=>by
  refine (hx.snd ok hΦ w).1.mono fun v H' q=>?_
  refine x1_2 (hk _ _ q) fun k h1 h2=>?_
  cases v with
  | int i=>cases h1; exact ⟨i,rfl,h2⟩
  | _=>cases h1⟩
theorem CI.plain {a : ME} {x : Expr} (hx : CE G C a x) : CI G C .plain [a] x :=
  ⟨hx.folded,fun ok hΦ _ _ _ w=>itEv_of ((hx.snd ok hΦ w).1.mono fun x H₁ w=>it_plain w)⟩
theorem CI.ty {a : ME} {as : List ME} {x : Expr} {xs : List Expr} {pn pos : Pos} {t : ITy} (gn : GN C t.str) (hx : CE G C a x) (hs : CEs G C as xs) : CI G C t.ik (a :: as) (.Call (.Name t.str pn) (x :: xs) [] pos) :=
  ⟨fun _ _=>rfl,fun ok hΦ _ _ _ w=>itEv_ty ok.toOK gn.look gn.dbg (ok.its t).1 (ok.its t).2 (((CEs.cons hx hs).snd ok hΦ w).mono fun vs H'' w=>it_ty w) (fun env=>hx.star _ env) hs.plain⟩
theorem CC.nil : CC G C [] [] := ⟨fun ok hΦ _ _ _ _ hk w=>hk _ _ w⟩
theorem CC.one {a : ME} {x : Expr} (hx : CE G C a x) : CC G C [a] [x] := ⟨fun ok hΦ _ _ _ _ hk w=>by
  refine (hx.snd ok hΦ w).2 _ fun v H' q=>?_
  refine x1_2 (asB.ex q) fun b eQ1 nQ2=>?_
  subst eQ1
  revert nQ2
  intro q
  cases b with
  | false=>exact hk _ _ q
  | true=>exact hk _ _ q⟩
namespace CE
theorem int {i : Int} {k : Nat} {pos : Pos} : CE G C (.cst (.int i)) (.Constant (.int i) k pos) := ⟨fun _ _=>rfl,fun _=>rfl,fun _ _=>rfl,fun ok hΦ _ _ _ w=>.plain (ev_int w) fun _ _=>rfl⟩
theorem str {x : Str} {k : Nat} {pos : Pos} (hx : PyData.strOk x = true) : CE G C (.cst (.str x)) (.Constant (.str x) k pos) := ⟨fun _ _=>rfl,fun _=>rfl,fun _ _=>rfl,fun ok hΦ _ _ _ w=>.plain (ev_str hx w) fun _ _=>rfl⟩
theorem bool {x : Bool} {k : Nat} {pos : Pos} : CE G C (.cst (.bool x)) (.Constant (.bool x) k pos) := ⟨fun _ _=>rfl,fun _=>rfl,fun _ _=>rfl,fun ok hΦ _ _ _ w=>.plain (ev_bool w) fun _ _=>rfl⟩
theorem none {k : Nat} {pos : Pos} : CE G C (.cst .none) (.Constant .none k pos) := ⟨fun _ _=>rfl,fun _=>rfl,fun _ _=>rfl,fun ok hΦ _ _ _ w=>.plain (ev_none w) fun _ _=>rfl⟩
theorem glob {x : Str} {v : AV} {pos : Pos} (hg : G.csts.lookup x = some v) (gn : GN C x) : CE G C (.cst v) (.Name x pos) := ⟨fun _ _=>rfl,fun _=>rfl,fun _ _=>rfl,fun ok hΦ _ _ _ w=>by
  refine x1_2 (ok.csts _ _ hg) fun u h1 h2=>?_
  exact .plain (ev_glob ok.toOK gn.dbg h1 h2 w gn.look) fun _ _=>rfl⟩
theorem loc {i : Nat} {x : Str} {pos : Pos} (h1 : C.vars[i]? = some (some x)) (h2 : (x == ("__debug__" : Str)) = false) (h3 : (x == ("__classdict__" : Str)) = false) : CE G C (.loc i) (.Name x pos) := ⟨fun _ _=>rfl,fun _=>rfl,fun _ _=>rfl,fun ok hΦ _ _ _ w=>by
  refine x1_2 (atL.ex w) fun v hv q=>?_
  exact .plain (ev_loc h1 h2 h3 hv q) fun _ _=>rfl⟩
section
variable {a b c : ME} {x y z : Expr} {pos : Pos}
theorem bin {op : BOp} (ha : CE G C a x) (hb : CE G C b y) : CE G C (.bin op a b) (.BinOp x op.op y pos) := ⟨fun _ _=>rfl,fun _=>rfl,fun _ _=>rfl,fun ok hΦ _ _ _ w =>
  .plain (ev_bin ((ha.snd ok hΦ w).1.mono fun x H₁ w=>(hb.snd ok hΦ w).1.mono fun y H₂ w=>wpBin_ok w)) fun _ _=>rfl⟩
theorem cmp {op : COp} (ha : CE G C a x) (hb : CE G C b y) : CE G C (.cmp op a b) (.Compare x [op.op] [y] pos) := ⟨fun _ _=>rfl,fun _=>rfl,fun _ _=>rfl,fun ok hΦ _ _ _ w =>
  ⟨ev_cmp ((ha.snd ok hΦ w).1.mono fun x H₁ w=>(hb.snd ok hΦ w).1.mono fun y H₂ w=>wpCmp_ok ok.toOK2 w) (hb.marks _),
   fun K hk=>ts_cmp ((ha.snd ok hΦ w).1.mono fun x H₁ w=>(hb.snd ok hΦ w).1.mono fun y H₂ w=>OpOK.mono (wpCmp_ok ok.toOK2 w) fun v H' q=>(hk v H' q).ex) (hb.marks _)⟩⟩
theorem cmp2 {o1 o2 : COp} (ha : CE G C a x) (hb : CE G C b y) (hc : CE G C c z) : CE G C (.cmp2 o1 o2 a b c) (.Compare x [o1.op,o2.op] [y,z] pos) := ⟨fun _ _=>rfl,fun _=>rfl,fun _ _=>rfl,fun ok hΦ _ _ _ w=>by
  refine ⟨?_,fun K hk=>?_⟩
  · refine ev_cmp2 ((ha.snd ok hΦ w).1.mono fun x H₁ w=>(hb.snd ok hΦ w).1.mono fun y H₂ w=>OpOK.mono (wpCmp_ok ok.toOK2 w) fun v H' q=>?_) (hc.marks _)
    refine x1_2 (asB.ex q) fun t eQ1 nQ2=>?_
    subst eQ1
    revert nQ2
    intro q
    refine ⟨t,rfl,?_⟩
    cases t with
    | false=>exact q
    | true=>exact (hc.snd ok hΦ q).1.mono fun z H₄ w=>wpCmp_ok ok.toOK2 w
  · refine ts_cmp2 ((ha.snd ok hΦ w).1.mono fun x H₁ w=>(hb.snd ok hΦ w).1.mono fun y H₂ w=>OpOK.mono (wpCmp_ok ok.toOK2 w) fun v H' q=>?_) (hc.marks _)
    refine x1_2 (asB.ex q) fun t eQ1 nQ2=>?_
    subst eQ1
    revert nQ2
    intro q
    refine ⟨t,rfl,?_⟩
    cases t with
    | false=>exact hk _ _ q
    | true=>exact (hc.snd ok hΦ q).1.mono fun z H₄ w=>OpOK.mono (wpCmp_ok ok.toOK2 w) fun v H' q=>(hk v H' q).ex⟩
theorem not (ha : CE G C a x) : CE G C (.not a) (.UnaryOp .Not x pos) := ⟨fun _ _=>rfl,fun _=>rfl,fun _ _=>rfl,fun ok hΦ _ _ _ w =>
  ⟨ev_not ((ha.snd ok hΦ w).1.mono fun v H' q=>asB.ex q),fun K hk=>ts_not ((ha.snd ok hΦ w).2 _ fun v H' q=>by
    refine x1_2 (asB.ex q) fun b eQ1 nQ2=>?_
    subst eQ1
    revert nQ2
    intro q
    exact hk _ _ q)⟩⟩
theorem neg (ha : CE G C a x) : CE G C (.neg a) (.UnaryOp .USub x pos) := ⟨fun _ _=>rfl,fun _=>rfl,fun _ _=>rfl,fun ok hΦ _ _ _ w =>
  .plain (ev_neg ((ha.snd ok hΦ w).1.mono fun v H' q=>asI.ex q)) fun _ _=>rfl⟩
theorem and2 (ha : CE G C a x) (hb : CE G C b y) : CE G C (.and2 a b) (.BoolOp .And [x,y] pos) := ⟨fun _ _=>rfl,fun _=>rfl,fun _ _=>rfl,fun ok hΦ _ _ _ w=>by
  refine ⟨ev_and ((ha.snd ok hΦ w).1.mono fun v H' w=>?_),fun K hk=>ts_and ((ha.snd ok hΦ w).2 _ fun v H' w=>?_)⟩
  · refine x1_2 (asB.ex w) fun t eQ1 nQ2=>?_
    subst eQ1
    revert nQ2
    intro w
    refine ⟨t,rfl,?_⟩
    cases t with
    | false=>exact w
    | true=>exact ev_bool1 (hb.snd ok hΦ w).1
  · refine x1_2 (asB.ex w) fun t eQ1 nQ2=>?_
    subst eQ1
    revert nQ2
    intro w
    show (if t then _ else _)
    cases t with
    | false=>exact hk _ _ w
    | true=>exact ts_and1 ((hb.snd ok hΦ w).2 K hk)⟩
theorem or2 (ha : CE G C a x) (hb : CE G C b y) : CE G C (.or2 a b) (.BoolOp .Or [x,y] pos) := ⟨fun _ _=>rfl,fun _=>rfl,fun _ _=>rfl,fun ok hΦ _ _ _ w=>by
  refine ⟨ev_or ((ha.snd ok hΦ w).1.mono fun v H' w=>?_),fun K hk=>ts_or ((ha.snd ok hΦ w).2 _ fun v H' w=>?_)⟩
  · refine x1_2 (asB.ex w) fun t eQ1 nQ2=>?_
    subst eQ1
    revert nQ2
    intro w
    refine ⟨t,rfl,?_⟩
    cases t with
    | true=>exact w
    | false=>exact ev_bool1 (hb.snd ok hΦ w).1
  · refine x1_2 (asB.ex w) fun t eQ1 nQ2=>?_
    subst eQ1
    revert nQ2
    intro w
    show (if t then _ else _)
    cases t with
    | true=>exact hk _ _ w
    | false=>exact ts_or1 ((hb.snd ok hΦ w).2 K hk)⟩
theorem and3 {r : List Expr} (ha : CE G C a x) (hb : CE G C b (.BoolOp .And (y :: z :: r) pos)) : CE G C (.and2 a b) (.BoolOp .And (x :: y :: z :: r) pos) := ⟨fun _ _=>rfl,fun _=>rfl,fun _ _=>rfl,fun ok hΦ _ _ _ w=>by
  refine ⟨ev_and ((ha.snd ok hΦ w).1.mono fun v H' w=>?_),fun K hk=>ts_and ((ha.snd ok hΦ w).2 _ fun v H' w=>?_)⟩
  · refine x1_2 (asB.ex w) fun t eQ1 nQ2=>?_
    subst eQ1
    revert nQ2
    intro w
    refine ⟨t,rfl,?_⟩
    cases t with
    | false=>exact w
    | true=>exact (hb.snd ok hΦ w).1
  · refine x1_2 (asB.ex w) fun t eQ1 nQ2=>?_
    subst eQ1
    revert nQ2
    intro w
    show (if t then _ else _)
    cases t with
    | false=>exact hk _ _ w
    | true=>exact (hb.snd ok hΦ w).2 K hk⟩
theorem or3 {r : List Expr} (ha : CE G C a x) (hb : CE G C b (.BoolOp .Or (y :: z :: r) pos)) : CE G C (.or2 a b) (.BoolOp .Or (x :: y :: z :: r) pos) := ⟨fun _ _=>rfl,fun _=>rfl,fun _ _=>rfl,fun ok hΦ _ _ _ w=>by
  refine ⟨ev_or ((ha.snd ok hΦ w).1.mono fun v H' w=>?_),fun K hk=>ts_or ((ha.snd ok hΦ w).2 _ fun v H' w=>?_)⟩
  · refine x1_2 (asB.ex w) fun t eQ1 nQ2=>?_
    subst eQ1
    revert nQ2
    intro w
    refine ⟨t,rfl,?_⟩
    cases t with
    | true=>exact w
    | false=>exact (hb.snd ok hΦ w).1
  · refine x1_2 (asB.ex w) fun t eQ1 nQ2=>?_
    subst eQ1
    revert nQ2
    intro w
    show (if t then _ else _)
    cases t with
    | true=>exact hk _ _ w
    | false=>exact (hb.snd ok hΦ w).2 K hk⟩
theorem call {f : Str} {as : List ME} {xs : List Expr} {pn : Pos} (hf : G.fns.contains f = true) (gn : GN C f) (hx : CE G C a x) (hs : CEs G C as xs) : CE G C (.call f (a :: as)) (.Call (.Name f pn) (x :: xs) [] pos) := ⟨fun _ _=>rfl,fun _=>rfl,fun _ _=>rfl,fun ok hΦ _ _ _ w=>by
  refine x3_3 (ok.fns _ hf) fun fa o fd h1 h2 h3=>?_
  exact .plain (ev_call ok.toOK gn.look gn.dbg h1 h2 h3 (((CEs.cons hx hs).snd ok hΦ w).mono fun vs H' w=>hΦ _ _ _ _ w) fun env=>hx.star _ env) fun _ _=>rfl⟩
theorem bi {as : List ME} {xs : List Expr} {pn : Pos} {f : Bi} (gn : GN C f.nm) (hx : CE G C a x) (hs : CEs G C as xs) : CE G C (.bi f (a :: as)) (.Call (.Name f.nm pn) (x :: xs) [] pos) := ⟨fun _ _=>rfl,fun _=>rfl,fun _ _=>rfl,fun {P d Φ} ok hΦ _ _ _ w=>by
  refine x0_2 (ok.blt f) fun h1 h2=>?_
  have hev := ((CEs.cons hx hs).snd ok hΦ w).mono fun vs H' w=>wpBi_ok (P := P) (d := d) ok.toOK2 w
  refine .plain ?_ fun _ _=>rfl
  cases f
  · exact ev_bi ok.toOK gn.look gn.dbg h1 h2 hev (fun env=>hx.star _ env) hs.plain
  · exact ev_bi ok.toOK gn.look gn.dbg h1 h2 hev (fun env=>hx.star _ env) hs.plain
  · exact ev_bi ok.toOK gn.look gn.dbg h1 h2 hev (fun env=>hx.star _ env) hs.plain
  · exact ev_bi ok.toOK gn.look gn.dbg h1 h2 hev (fun env=>hx.star _ env) hs.plain
  · exact ev_ty ok.toOK gn.look gn.dbg h1 h2 hev (fun env=>hx.star _ env) hs.plain
  · exact ev_ty ok.toOK gn.look gn.dbg h1 h2 hev (fun env=>hx.star _ env) hs.plain
  · exact ev_ty ok.toOK gn.look gn.dbg h1 h2 hev (fun env=>hx.star _ env) hs.plain
  · exact ev_bi ok.toOK gn.look gn.dbg h1 h2 hev (fun env=>hx.star _ env) hs.plain
  · exact ev_bi ok.toOK gn.look gn.dbg h1 h2 hev (fun env=>hx.star _ env) hs.plain⟩
theorem isi {pn pt : Pos} {t : Ty} (gn : GN C "isinstance") (gt : GN C t.ps) (hx : CE G C a x) : CE G C (.isi a t) (.Call (.Name "isinstance" pn) [x,.Name t.ps pt] [] pos) := ⟨fun _ _=>rfl,fun _=>rfl,fun _ _=>rfl,fun ok hΦ _ _ _ w =>
  .plain (ev_isi ok.toOK gn.look gn.dbg ok.isi.1 ok.isi.2 gt.look gt.dbg (.inr (ok.ty t)) ((hx.snd ok hΦ w).1.mono fun v H' w=>isi_ok w) fun env=>hx.star _ env) fun _ _=>rfl⟩
theorem idx (ha : CE G C a x) (hb : CE G C b y) : CE G C (.idx a b) (.Subscript x y pos) := ⟨fun _ _=>rfl,fun _=>rfl,fun _ _=>rfl,fun ok hΦ _ _ _ w =>
  .plain (ev_sub ((ha.snd ok hΦ w).1.mono fun x H₁ w=>(hb.snd ok hΦ w).1.mono fun y H₂ w=>wpIdx_ok w)) fun _ _=>rfl⟩
theorem slc {p : Pos} {lo hi : List ME} {l h : Option Expr} (ha : CE G C a x) (hl : CO G C lo l) (hh : CO G C hi h) : CE G C (.slc a lo hi) (.Subscript x (.Slice l h .none p) pos) := ⟨fun _ _=>rfl,fun _=>rfl,fun _ _=>rfl,fun ok hΦ _ _ _ w=>by
  refine .plain (ev_slice ((ha.snd ok hΦ w).1.mono fun x H₁ w=>?_)) fun _ _=>rfl
  refine hl.snd ok hΦ w fun us H₂ w=>?_
  refine x1_3 (withP.ex w) fun ka h1 h2 w=>?_
  refine ⟨ka,h1,hh.snd ok hΦ w fun vs H₃ w=>?_⟩
  refine x1_3 (withP.ex w) fun kb h3 h4 w=>?_
  refine x1_3 (withL.ex w) fun l h5 h6 q=>?_
  exact ⟨kb,h3,l,h5,h6,h2,h4,q⟩⟩
theorem slcT {p : Pos} {lo hi : List ME} {l h : Option Expr} (ha : CE G C a x) (hl : CO G C lo l) (hh : CO G C hi h) : CE G C (.slcT a lo hi) (.Subscript x (.Slice l h .none p) pos) := ⟨fun _ _=>rfl,fun _=>rfl,fun _ _=>rfl,fun ok hΦ _ _ _ w=>by
  refine .plain (ev_sliceT ((ha.snd ok hΦ w).1.mono fun x H₁ w=>?_)) fun _ _=>rfl
  refine hl.snd ok hΦ w fun us H₂ w=>?_
  refine x1_3 (withP.ex w) fun ka h1 h2 w=>?_
  refine ⟨ka,h1,hh.snd ok hΦ w fun vs H₃ w=>?_⟩
  refine x1_3 (withP.ex w) fun kb h3 h4 w=>?_
  refine x1_3 (withL.ex w) fun l h5 h6 q=>?_
  cases x with
  | tup m=>cases h5; exact ⟨kb,h3,_,rfl,h6,h2,h4,q⟩
  | _=>cases h5⟩
theorem rev {n : Str} {px p p1 p2 : Pos} {k : Nat} (ha : CE G C a (.Name n px)) : CE G C (.rev a) (.Subscript (.Name n px) (.Slice .none .none (some (.UnaryOp .USub (.Constant (.int 1) k p1) p2)) p) pos) := ⟨fun _ _=>rfl,fun _=>rfl,fun _ _=>rfl,fun ok hΦ _ _ _ w=>by
  refine .plain (ev_rev (fun _ _=>rfl) ((ha.snd ok hΦ w).1.mono fun x H₁ w=>?_)) fun _ _=>rfl
  exact ev_neg (ev_int ⟨1,rfl,rfl,withL.ex w⟩)⟩
theorem tup {as : List ME} {xs : List Expr} {k : Nat} (hs : CEs G C as xs) : CE G C (.tup as) (.Tuple xs k pos) := ⟨fun _ _=>rfl,fun _=>rfl,fun _ _=>rfl,fun ok hΦ _ _ _ w=>.plain (ev_tup (hs.snd ok hΦ w)) fun _ _=>rfl⟩
theorem lst {as : List ME} {xs : List Expr} (hs : CEs G C as xs) : CE G C (.lst as) (.List xs pos) := ⟨fun _ _=>rfl,fun _=>rfl,fun _ _=>rfl,fun ok hΦ _ _ _ w=>.plain (ev_lst (hs.snd ok hΦ w)) fun _ _=>rfl⟩
theorem dic0 : CE G C .dic0 (.Dict [] [] pos) := ⟨fun _ _=>rfl,fun _=>rfl,fun _ _=>rfl,fun ok hΦ _ _ _ w=>.plain (ev_dic0 ok.toOK2 w) fun _ _=>rfl⟩
theorem meth0 {m : Mt} {apos : Pos} (ho : CE G C a x) (hf : MethForm x m.nm apos pos []) : CE G C (.meth m a []) (.Call (.Attribute x m.nm apos) [] [] pos) := ⟨fun _ _=>rfl,fun _=>rfl,fun _ _=>rfl,fun ok hΦ _ _ _ w=>by
  refine .plain (ev_meth0 (pl := fun env=>do return (← importBound _ env).getD true) ((ho.snd ok hΦ w).1.mono fun x H₁ w=>?_) hf.he) fun _ _=>rfl
  refine x0_2 (w) fun qQ0 nQ1=>?_
  clear w
  obtain ⟨i,l,rfl,hl⟩ := qQ0
  revert nQ1
  intro w
  exact ⟨m.id,meth_mt m hl,wpMt_ok w⟩⟩
theorem meth {m : Mt} {apos : Pos} {as : List ME} {xs : List Expr} (ho : CE G C a x) (hx : CE G C b y) (hs : CEs G C as xs) (hf : MethForm x m.nm apos pos (y :: xs)) : CE G C (.meth m a (b :: as)) (.Call (.Attribute x m.nm apos) (y :: xs) [] pos) := ⟨fun _ _=>rfl,fun _=>rfl,fun _ _=>rfl,fun ok hΦ _ _ _ w=>by
  refine .plain (ev_meth (pl := fun env=>do return (← importBound _ env).getD true) ((ho.snd ok hΦ w).1.mono fun x H₁ w=>?_) hf.he (fun env=>hx.star _ env) hs.plain) fun _ _=>rfl
  refine x0_2 (w) fun qQ0 nQ1=>?_
  clear w
  obtain ⟨i,l,rfl,hl⟩ := qQ0
  revert nQ1
  intro w
  exact ⟨m.id,meth_mt m hl,((CEs.cons hx hs).snd ok hΦ w).mono fun vs H₂ w=>wpMt_ok w⟩⟩
end
end CE
noncomputable def TgtOK (C : Ctx) (t : Bool) (n : Nat) (scope : Scope) (locals : List Str) (xt : Expr) : Prop :=
  locals.length = n ∧ ∀ {P : PEnv} {y : AV} {ws : List AV} {loc cv : Loc} {K : Loc → Prop},unpack t n y = some ws → loc.length = C.vars.length → cv.length = locals.length → K (loc ++ ws.map some) → ws.length = locals.length ∧ TgOK P (compCtx C scope locals) xt y (loc ++ cv) K
theorem unpack_false {n : Nat} {y : AV} {ws : List AV} (h : unpack false n y = some ws) : n = 1 ∧ ws = [y] := by
  unfold unpack at h
  simp only at h
  split at h
  · cases h; exact ⟨by assumption,rfl⟩
  · cases h
theorem unpack_true {n : Nat} {y : AV} {ws : List AV} (h : unpack true n y = some ws) : y = .tup ws ∧ ws.length = n := by
  unfold unpack at h
  simp only at h
  split at h
  · split at h
    · cases h; exact ⟨rfl,by assumption⟩
    · cases h
  · cases h
theorem TgtOK.one {scope : Scope} {x : Str} {px : Pos} (sl : Slot (compCtx C scope [x]) C.vars.length x) : TgtOK C false 1 scope [x] (.Name x px) := ⟨rfl,fun {P y ws loc cv K} hu hlen hcv hk=>by
  refine x0_2 (unpack_false hu) fun _ eQ1=>?_
  subst eQ1
  refine ⟨rfl,tg_name sl ?_⟩
  obtain ⟨c,rfl⟩ : ∃ c,cv = [c] := by
    match cv,hcv with
    | [c],_=>exact ⟨c,rfl⟩
  rw [← hlen,List.set_append_right _ _ (Nat.le_refl _)]
  simpa using hk⟩
theorem TgtOK.tup {scope : Scope} {n : Nat} {locals : List Str} {ts : List Expr} {tk : Nat} {tp : Pos} (hl : locals.length = n) (nm : Names (compCtx C scope locals) ts ((List.range n).map (C.vars.length + ·))) : TgtOK C true n scope locals (.Tuple ts tk tp) := ⟨hl,fun {P y ws loc cv K} hu hlen hcv hk=>by
  refine x0_2 (unpack_true hu) fun eQ0 hw=>?_
  subst eQ0
  refine ⟨by rw [hw,hl],tg_tup nm (by simp [hw]) ?_⟩
  have := setAll_at (L := loc) (ws := ws) (cv := cv) (by rw [hcv,hl,hw])
  rw [hw,hlen] at this
  rw [this]; exact hk⟩
theorem comp_wp {t : Bool} {n : Nat} {elt : ME} {k : IK} {its cond : List ME} {xe xt xi : Expr} {ifs : List Expr} {scope : Scope} {locals : List Str} {loc : Loc} {H : Hp} {Q : PQ}
    (ok : GOK P G) (hΦ : FunOK P d Φ) (hi : CI G C k its xi) (he : CE G (compCtx C scope locals) elt xe) (hc : CC G (compCtx C scope locals) cond ifs) (tg : TgtOK C t n scope locals xt) (hlen : loc.length = C.vars.length)
    (w : wpE Φ (.comp t n elt k its cond) loc H Q) : CompWp P k.tt C d xe xt xi ifs scope locals loc H (fun l H'=>Q (.ref H'.length) (H' ++ [.list l])) XF := by
  refine (hi.snd ok hΦ w).mono fun items Cnd H₁ hw=>?_
  refine x0_2 (hw) fun hs qQ1=>?_
  clear hw
  obtain ⟨J,j0,turn⟩ := qQ1
  refine ⟨hs,J,j0,fun i l H' hj=>?_⟩
  refine x0_3 (turn i l H' hj) fun h1 h2 h3=>?_
  refine ⟨h1,fun y hy cv hcv=>?_,h3⟩
  refine x1_2 (h2 y hy) fun ws hu hw=>?_
  have hwl := (tg.2 (P := P) (K := fun _=>True) hu hlen hcv trivial).1
  refine (tg.2 hu hlen hcv ⟨⟨_,by rw [List.length_map]; exact hwl,rfl⟩,hc.snd ok hΦ (fun b H'' hb=>?_) hw⟩).2
  cases b with
  | false=>exact hb
  | true=>exact (he.snd ok hΦ hb).1
structure CL (G : GT) (C : Ctx) (t : Bool) (n : Nat) (elt : ME) (k : IK) (its cond : List ME) (xe xt xi : Expr) (ifs : List Expr) (scope : Scope) (locals : List Str) : Prop where
  cg : CompOK C scope locals
  hi : CI G C k its xi
  he : CE G (compCtx C scope locals) elt xe
  hc : CC G (compCtx C scope locals) cond ifs
  tg : TgtOK C t n scope locals xt
theorem CE.comp {t : Bool} {n : Nat} {elt : ME} {k : IK} {its cond : List ME} {xe xt xi : Expr} {ifs : List Expr} {scope : Scope} {locals : List Str} {pos : Pos} (h : CL G C t n elt k its cond xe xt xi ifs scope locals) (hk : k.tt = true → isTupE xt = true) :
    CE G C (.comp t n elt k its cond) (.ListComp xe [⟨xt,xi,ifs,0⟩] scope pos) := ⟨fun _ _=>rfl,fun _=>rfl,fun _ _=>rfl,fun ok hΦ _ _ _ w =>
  .plain (EvOK.len fun hlen=>ev_comp h.cg hk (comp_wp ok hΦ h.hi h.he h.hc h.tg hlen w) h.hi.folded) fun _ _=>rfl⟩
end Mine
namespace Mine
open PySem
set_option maxHeartbeats 4000000
variable {P : PEnv} {d : Nat} {G : GT} {Φ : Fun} {C : Ctx}
theorem ExOK.mono {st : Stmt} {loc : Loc} {H : Hp} {Q Q' : PF} (h : ExOK P C d st loc H Q) (q : ∀ f l H,Q f l H → Q' f l H) : ExOK P C d st loc H Q' :=
  fun A E env ι s w e=>wpAny_mono (h A E env ι s w e) (fun f s' g=>by
    obtain ⟨ι',H',loc',fl,p,e',r,z⟩ := g
    exact ⟨ι',H',loc',fl,p,e',r,q _ _ _ z⟩) fun _ _ x=>x
namespace CS
section
variable {a b c : ME} {x y z : Expr} {pos p : Pos} {n : Str} {i : Nat}
theorem asg (sl : Slot C i n) (ha : CE G C a x) (hs : ∀ env,swapsWith x (some (.Name n p)) pos.line env = pure false) : CS G C (.asg i a) (.Assign [.Name n p] x pos) := ⟨fun ok hΦ _ _ _ w=>ex_assign sl (ha.snd ok hΦ w).1 hs⟩
theorem asgC {t : Bool} {m : Nat} {elt : ME} {k : IK} {its cond : List ME} {xe xt xi : Expr} {ifs : List Expr} {scope : Scope} {locals : List Str} {cpos : Pos} (sl : Slot C i n) (h : CL G C t m elt k its cond xe xt xi ifs scope locals) (hk : k.tt = true → isTupE xt = true) :
    CS G C (.asg i (.comp t m elt k its cond)) (.Assign [.Name n p] (.ListComp xe [⟨xt,xi,ifs,0⟩] scope cpos) pos) := ⟨fun ok hΦ loc _ Q w =>
  ExOK.len fun hlen=>ex_assign_comp sl h.cg hk (comp_wp (Q := fun v H'=>Q .next (loc.set i (some v)) H') ok hΦ h.hi h.he h.hc h.tg hlen w) h.hi.folded⟩
theorem asgT {is : List Nat} {ts : List Expr} {k : Nat} {tp : Pos} (nm : Names C ts is) (ha : CE G C a x) (hs : ∀ env,swapsWithSole [.Tuple ts k tp] x pos.line env = pure false) (hw : ∀ env,swappedStores [.Tuple ts k tp] x env = pure none) : CS G C (.asgT is a) (.Assign [.Tuple ts k tp] x pos) :=
  ⟨fun ok hΦ _ _ _ w=>ex_assignT nm ((ha.snd ok hΦ w).1.mono fun v H' q=>asT.ex q) hs hw⟩
theorem sto (hc : CE G C c z) (ha : CE G C a x) (hb : CE G C b y) (hs : ∀ env,swapsWith z (some (.Subscript x y p)) pos.line env = pure false) : CS G C (.sto a b c) (.Assign [.Subscript x y p] z pos) := ⟨fun ok hΦ _ _ _ w =>
  ex_store ((hc.snd ok hΦ w).1.mono fun x H₁ w=>(ha.snd ok hΦ w).1.mono fun y H₂ w=>(hb.snd ok hΦ w).1.mono fun z H₃ w=>wpSet_ok w) hs⟩
theorem ite {ma mb : List MS} {xa xb : List Stmt} (ht : CE G C a x) (ha : CSs G C ma xa) (hb : CSs G C mb xb) : CS G C (.ite a ma mb) (.If x xa xb pos) := ⟨fun ok hΦ _ _ _ w =>
  ex_if ((ht.snd ok hΦ w).2 _ fun v H' q=>by
    refine x1_2 (asB.ex q) fun c eQ1 nQ2=>?_
    subst eQ1
    revert nQ2
    intro q
    show (if c then _ else _)
    cases c with
    | false=>exact hb.snd ok hΦ q
    | true=>exact ha.snd ok hΦ q)⟩
theorem whl {mb : List MS} {xb : List Stmt} (ht : CE G C a x) (hb : CSs G C mb xb) : CS G C (.whl a mb) (.While x xb [] pos) := ⟨fun ok hΦ _ _ _ w=>by
  refine x2_2 (w) fun J n j0 turn=>?_
  clear w
  refine ex_while J n j0 fun n loc H hj=>(ht.snd ok hΦ (turn n loc H hj)).2 _ fun v H' q=>?_
  refine x1_2 (asB.ex q) fun c eQ1 nQ2=>?_
  subst eQ1
  revert nQ2
  intro q
  show (if c then _ else _)
  cases c with
  | false=>exact q
  | true=>exact hb.snd ok hΦ q⟩
theorem for1 {k : IK} {its : List ME} {mb : List MS} {xb : List Stmt} (sl : Slot C i n) (hi : CI G C k its x) (hb : CSs G C mb xb) (hk : k.tt = false) : CS G C (.forr false [i] k its mb) (.For (.Name n p) x xb [] pos) := ⟨fun ok hΦ _ _ _ w=>by
  refine ex_for_gen (fun z=>by rw [hk] at z; cases z) ((hi.snd ok hΦ w).mono fun items Cnd H₁ q=>?_) hi.folded
  refine x1_2 (q) fun J j0 turn=>?_
  clear q
  refine ⟨J,j0,fun i loc H hj=>?_⟩
  refine x0_3 (turn i loc H hj) fun h1 h2 h3=>?_
  refine ⟨h1,fun y hy=>?_,h3⟩
  refine x1_2 (h2 y hy) fun ws hu hw=>?_
  refine x0_2 (unpack_false hu) fun _ eQ1=>?_
  subst eQ1
  exact tg_name sl (hb.snd ok hΦ hw)⟩
theorem forT {is : List Nat} {k : IK} {its : List ME} {mb : List MS} {xb : List Stmt} {ts : List Expr} {tk : Nat} {tp : Pos} (nm : Names C ts is) (hi : CI G C k its x) (hb : CSs G C mb xb) : CS G C (.forr true is k its mb) (.For (.Tuple ts tk tp) x xb [] pos) := ⟨fun ok hΦ _ _ _ w=>by
  refine ex_for_gen (fun _=>rfl) ((hi.snd ok hΦ w).mono fun items Cnd H₁ q=>?_) hi.folded
  refine x1_2 (q) fun J j0 turn=>?_
  clear q
  refine ⟨J,j0,fun i loc H hj=>?_⟩
  refine x0_3 (turn i loc H hj) fun h1 h2 h3=>?_
  refine ⟨h1,fun y hy=>?_,h3⟩
  refine x1_2 (h2 y hy) fun ws hu hw=>?_
  refine x0_2 (unpack_true hu) fun eQ0 hl=>?_
  subst eQ0
  exact tg_tup nm hl (hb.snd ok hΦ hw)⟩
theorem ret (ha : CE G C a x) : CS G C (.ret a) (.Return (some x) pos) := ⟨fun ok hΦ _ _ _ w=>ex_ret (ha.snd ok hΦ w).1⟩
theorem expr (ha : CE G C a x) (hs : ∀ env,swapsWith x none pos.line env = pure false) : CS G C (.expr a) (.Expr x pos) := ⟨fun ok hΦ _ _ _ w=>ex_expr (ha.snd ok hΦ w).1 hs⟩
end
end CS
theorem CSs.nil : CSs G C [] [] := ⟨fun ok hΦ _ _ _ w=>exs_nil w⟩
theorem CSs.cons {m : MS} {ms : List MS} {x : Stmt} {xs : List Stmt} (hx : CS G C m x) (hs : CSs G C ms xs) : CSs G C (m :: ms) (x :: xs) := ⟨fun ok hΦ _ _ _ w =>
  exs_cons ((hx.snd ok hΦ w).mono fun fl l H' q=>by
    cases fl with
    | next=>exact hs.snd ok hΦ q
    | _=>exact q)⟩
theorem soundF (ok : GOK P G) (hΦ : FunOK P d Φ) {x : Str} {params : List Str} {body : List Stmt} {f : MF} {args : List AV} {H : Hp} {Q : PQ} (fn : FnAt P x C params body) (good : C.good params = true) (cs : CSs G C f.body body) (hp : params.length = f.params) (hv : C.vars.length = f.vars)
    (w : wpF Φ f args H Q) : CallOK P (d + 1) x args H Q XF := by
  refine x0_2 (w) fun hl w=>?_
  refine callOK_of ok.toOK fn good (by rw [hl,hp]) (cs.snd ok hΦ ?_)
  unfold start
  rw [hv,hl]; exact w
end Mine
namespace Mine
open PySem
variable {Φ : Fun} {loc : Loc} {H : Hp} {Q : PQ}
theorem sp_b {K : Bool → Prop} {b : Bool} (h1 : b = true → K true) (h2 : b = false → K false) : K b := by
  cases b with
  | true=>exact h1 rfl
  | false=>exact h2 rfl
theorem sp_d {K : Bool → Prop} {p : Prop} {i : Decidable p} (h1 : p → K true) (h2 : ¬ p → K false) : K (@decide p i) :=
  sp_b (fun h=>h1 (of_decide_eq_true h)) fun h=>h2 (of_decide_eq_false h)
theorem sp_n {K : Bool → Prop} {p : Prop} {i : Decidable p} (h1 : ¬ p → K true) (h2 : p → K false) : K (!(@decide p i)) :=
  sp_b (fun h=>h1 (by simpa using h)) fun h=>h2 (by simpa using h)
theorem withL_some {l : List AV} {K : List AV → Prop} : withL (some l) K = K l := rfl
theorem e_cst {v : AV} : wpE Φ (.cst v) loc H Q = Q v H := rfl
theorem e_loc0 {v : AV} : wpE Φ (.loc 0) (some v :: loc) H Q = Q v H := rfl
theorem e_locS {i : Nat} {o : Option AV} : wpE Φ (.loc (i + 1)) (o :: loc) H Q = wpE Φ (.loc i) loc H Q := rfl
theorem e_bin {op : BOp} {a b : ME} : wpE Φ (.bin op a b) loc H Q = wpE Φ a loc H (kBin1 Φ op b loc Q) := rfl
theorem k_bin1 {op : BOp} {b : ME} {x : AV} : kBin1 Φ op b loc Q x H = wpE Φ b loc H (kBin2 op x Q) := rfl
theorem k_bin2 {op : BOp} {x y : AV} : kBin2 op x Q y H = wpBin op x y H Q := rfl
theorem e_cmp {op : COp} {a b : ME} : wpE Φ (.cmp op a b) loc H Q = wpE Φ a loc H (kCmp1 Φ op b loc Q) := rfl
theorem k_cmp1 {op : COp} {b : ME} {x : AV} : kCmp1 Φ op b loc Q x H = wpE Φ b loc H (kCmp2 op x Q) := rfl
theorem k_cmp2 {op : COp} {x y : AV} : kCmp2 op x Q y H = wpCmp op x y H Q := rfl
theorem e_cmp2 {o1 o2 : COp} {a b c : ME} : wpE Φ (.cmp2 o1 o2 a b c) loc H Q = wpE Φ a loc H (kC1 Φ o1 o2 b c loc Q) := rfl
theorem k_c1 {o1 o2 : COp} {b c : ME} {x : AV} : kC1 Φ o1 o2 b c loc Q x H = wpE Φ b loc H (kC2 Φ o1 o2 c loc x Q) := rfl
theorem k_c2 {o1 o2 : COp} {c : ME} {x y : AV} : kC2 Φ o1 o2 c loc x Q y H = wpCmp o1 x y H (kC3 Φ o2 c loc y Q) := rfl
theorem k_c3 {o2 : COp} {c : ME} {y : AV} {b : Bool} : kC3 Φ o2 c loc y Q (.bool b) H = kC4 Φ o2 c loc y Q H b := rfl
theorem k_c4t {o2 : COp} {c : ME} {y : AV} : kC4 Φ o2 c loc y Q H true = wpE Φ c loc H (kCmp2 o2 y Q) := rfl
theorem k_c4f {o2 : COp} {c : ME} {y : AV} : kC4 Φ o2 c loc y Q H false = Q (.bool false) H := rfl
theorem e_not {a : ME} : wpE Φ (.not a) loc H Q = wpE Φ a loc H (kNot Q) := rfl
theorem k_not {b : Bool} : kNot Q (.bool b) H = Q (.bool !b) H := rfl
theorem e_neg {a : ME} : wpE Φ (.neg a) loc H Q = wpE Φ a loc H (kNeg Q) := rfl
theorem k_neg {b : Int} : kNeg Q (.int b) H = Q (.int (-b)) H := rfl
theorem e_and2 {a b : ME} : wpE Φ (.and2 a b) loc H Q = wpE Φ a loc H (kAnd Φ b loc Q) := rfl
theorem k_and {b : ME} {t : Bool} : kAnd Φ b loc Q (.bool t) H = kAndB Φ b loc Q H t := rfl
theorem k_andt {b : ME} : kAndB Φ b loc Q H true = wpE Φ b loc H Q := rfl
theorem k_andf {b : ME} : kAndB Φ b loc Q H false = Q (.bool false) H := rfl
theorem e_or2 {a b : ME} : wpE Φ (.or2 a b) loc H Q = wpE Φ a loc H (kOr Φ b loc Q) := rfl
theorem k_or {b : ME} {t : Bool} : kOr Φ b loc Q (.bool t) H = kOrB Φ b loc Q H t := rfl
theorem k_ort {b : ME} : kOrB Φ b loc Q H true = Q (.bool true) H := rfl
theorem k_orf {b : ME} : kOrB Φ b loc Q H false = wpE Φ b loc H Q := rfl
theorem e_call {f : Str} {as : List ME} : wpE Φ (.call f as) loc H Q = wpEs Φ as loc H (kCall Φ f Q) := rfl
theorem k_call {f : Str} {vs : List AV} : kCall Φ f Q vs H = Φ f vs H Q := rfl
theorem e_bi {f : Bi} {as : List ME} : wpE Φ (.bi f as) loc H Q = wpEs Φ as loc H (kBi f Q) := rfl
theorem k_bi {f : Bi} {vs : List AV} : kBi f Q vs H = wpBi f vs H Q := rfl
theorem e_isi {a : ME} {t : Ty} : wpE Φ (.isi a t) loc H Q = wpE Φ a loc H (kIsi t Q) := rfl
theorem k_isi {v : AV} {t : Ty} : kIsi t Q v H = Q (.bool (isi H v t)) H := rfl
theorem e_idx {a b : ME} : wpE Φ (.idx a b) loc H Q = wpE Φ a loc H (kIdx1 Φ b loc Q) := rfl
theorem k_idx1 {b : ME} {x : AV} : kIdx1 Φ b loc Q x H = wpE Φ b loc H (kIdx2 x Q) := rfl
theorem k_idx2 {x y : AV} : kIdx2 x Q y H = wpIdx x y H Q := rfl
theorem e_slc {a : ME} {lo hi : List ME} : wpE Φ (.slc a lo hi) loc H Q = wpE Φ a loc H (kS1 Φ lo hi loc Q) := rfl
theorem k_s1 {lo hi : List ME} {x : AV} : kS1 Φ lo hi loc Q x H = wpEs Φ lo loc H (kS2 Φ hi loc x Q) := rfl
theorem k_s2n {hi : List ME} {x : AV} : kS2 Φ hi loc x Q [] H = wpEs Φ hi loc H (kS4 x none Q) := rfl
theorem k_s2o {hi : List ME} {x : AV} {k : Int} : kS2 Φ hi loc x Q [.int k] H = (0 ≤ k ∧ wpEs Φ hi loc H (kS4 x (some k) Q)) := rfl
theorem k_s4n {x : AV} {ka : Option Int} : kS4 x ka Q [] H = withL (seqL H x) (kS6 ka none Q H) := rfl
theorem k_s4o {x : AV} {ka : Option Int} {k : Int} : kS4 x ka Q [.int k] H = (0 ≤ k ∧ withL (seqL H x) (kS6 ka (some k) Q H)) := rfl
theorem k_s6 {ka kb : Option Int} {l : List AV} : kS6 ka kb Q H l = (l.length ≤ sizeLine ∧ Q (.ref H.length) (H ++ [.list (lslice l ka kb)])) := rfl
theorem e_slcT {a : ME} {lo hi : List ME} : wpE Φ (.slcT a lo hi) loc H Q = wpE Φ a loc H (kT1 Φ lo hi loc Q) := rfl
theorem k_t1 {lo hi : List ME} {x : AV} : kT1 Φ lo hi loc Q x H = wpEs Φ lo loc H (kT2 Φ hi loc x Q) := rfl
theorem k_t2n {hi : List ME} {x : AV} : kT2 Φ hi loc x Q [] H = wpEs Φ hi loc H (kT4 x none Q) := rfl
theorem k_t2o {hi : List ME} {x : AV} {k : Int} : kT2 Φ hi loc x Q [.int k] H = (0 ≤ k ∧ wpEs Φ hi loc H (kT4 x (some k) Q)) := rfl
theorem k_t4n {l : List AV} {ka : Option Int} : kT4 (.tup l) ka Q [] H = (l.length ≤ sizeLine ∧ Q (.tup (lslice l ka none)) H) := rfl
theorem k_t4o {l : List AV} {ka : Option Int} {k : Int} : kT4 (.tup l) ka Q [.int k] H = (0 ≤ k ∧ l.length ≤ sizeLine ∧ Q (.tup (lslice l ka (some k))) H) := rfl
theorem e_rev {a : ME} : wpE Φ (.rev a) loc H Q = wpE Φ a loc H (kRev Q) := rfl
theorem e_tup {es : List ME} : wpE Φ (.tup es) loc H Q = wpEs Φ es loc H (kTup Q) := rfl
theorem k_tup {vs : List AV} : kTup Q vs H = (vs.length ≤ sizeLine ∧ Q (.tup vs) H) := rfl
theorem e_lst {es : List ME} : wpE Φ (.lst es) loc H Q = wpEs Φ es loc H (kLst Q) := rfl
theorem k_lst {vs : List AV} : kLst Q vs H = (vs.length ≤ sizeLine ∧ Q (.ref H.length) (H ++ [.list vs])) := rfl
theorem e_dic0 : wpE Φ .dic0 loc H Q = Q (.ref H.length) (H ++ [.dict []]) := rfl
theorem e_dic1 {k v : ME} : wpE Φ (.dic1 k v) loc H Q = wpE Φ k loc (H ++ [.dict []]) (kD1 Φ v loc H.length Q) := rfl
theorem k_d1 {v : ME} {n : Nat} {i : Int} : kD1 Φ v loc n Q (.int i) H = wpE Φ v loc H (kD3 n i Q) := rfl
theorem k_d3 {n : Nat} {i : Int} {y : AV} : kD3 n i Q y H = (H[n]? = some (.dict []) ∧ Q (.ref n) (H.set n (.dict [(i,y)]))) := rfl
theorem e_meth {m : Mt} {o : ME} {as : List ME} : wpE Φ (.meth m o as) loc H Q = wpE Φ o loc H (kM1 Φ m as loc Q) := rfl
theorem k_m1 {m : Mt} {as : List ME} {x : AV} : kM1 Φ m as loc Q x H = (isL H x ∧ wpEs Φ as loc H (kM2 m x Q)) := rfl
theorem k_m2 {m : Mt} {x : AV} {vs : List AV} : kM2 m x Q vs H = wpMt m x vs H Q := rfl
theorem es_nil {Q : List AV → Hp → Prop} : wpEs Φ [] loc H Q = Q [] H := rfl
theorem es_cons {e : ME} {es : List ME} {Q : List AV → Hp → Prop} : wpEs Φ (e :: es) loc H Q = wpE Φ e loc H (kE1 Φ es loc Q) := rfl
theorem k_e1 {es : List ME} {Q : List AV → Hp → Prop} {v : AV} : kE1 Φ es loc Q v H = wpEs Φ es loc H (kE2 v Q) := rfl
theorem k_e2 {Q : List AV → Hp → Prop} {v : AV} {vs : List AV} : kE2 v Q vs H = Q (v :: vs) H := rfl
theorem cs_nil {K : Bool → Hp → Prop} : wpCs Φ [] loc H K = K true H := rfl
theorem cs_cons {e : ME} {es : List ME} {K : Bool → Hp → Prop} : wpCs Φ (e :: es) loc H K = wpE Φ e loc H (kCs Φ es loc K) := rfl
theorem k_cs {es : List ME} {K : Bool → Hp → Prop} {b : Bool} : kCs Φ es loc K (.bool b) H = kCsB Φ es loc K H b := rfl
theorem k_cst {es : List ME} {K : Bool → Hp → Prop} : kCsB Φ es loc K H true = wpCs Φ es loc H K := rfl
theorem k_csf {es : List ME} {K : Bool → Hp → Prop} : kCsB Φ es loc K H false = K false H := rfl
theorem k_it {k : IK} {K : KI} {vs : List AV} : kIt k K vs H = wpIt k vs H K := rfl
theorem b_add {a b : Int} : wpBin .add (.int a) (.int b) H Q = Q (.int (a + b)) H := rfl
theorem b_sub {a b : Int} : wpBin .sub (.int a) (.int b) H Q = Q (.int (a - b)) H := rfl
theorem b_mul {a b : Int} : wpBin .mul (.int a) (.int b) H Q = (IntMulOk a b ∧ Q (.int (a * b)) H) := rfl
theorem b_mod {a b : Int} : wpBin .mod (.int a) (.int b) H Q = (b ≠ 0 ∧ Q (.int (a.fmod b)) H) := rfl
theorem b_fdiv {a b : Int} : wpBin .fdiv (.int a) (.int b) H Q = (b ≠ 0 ∧ NoPy a b ∧ Q (.int (a.fdiv b)) H) := rfl
theorem b_pow {a b : Int} : wpBin .pow (.int a) (.int b) H Q = (0 ≤ b ∧ b ≤ 1000000 ∧ a.natAbs < 2 ^ 64 ∧ Q (.int (a ^ b.toNat)) H) := rfl
theorem b_addT {l m : List AV} : wpBin .add (.tup l) (.tup m) H Q = (l.length + m.length ≤ sizeLine ∧ Q (.tup (l ++ m)) H) := rfl
theorem b_addL {i j : Nat} {l m : List AV} (h1 : H[i]? = some (.list l)) (h2 : H[j]? = some (.list m)) : wpBin .add (.ref i) (.ref j) H Q = (l.length + m.length ≤ sizeLine ∧ Q (.ref H.length) (H ++ [.list (l ++ m)])) := by
  simp [wpBin,wpAdd,asR,h1,h2]
theorem c_lt {a b : Int} : wpCmp .lt (.int a) (.int b) H Q = Q (.bool (decide (a < b))) H := rfl
theorem c_le {a b : Int} : wpCmp .le (.int a) (.int b) H Q = Q (.bool (decide (a ≤ b))) H := rfl
theorem c_gt {a b : Int} : wpCmp .gt (.int a) (.int b) H Q = Q (.bool (decide (b < a))) H := rfl
theorem c_ge {a b : Int} : wpCmp .ge (.int a) (.int b) H Q = Q (.bool (decide (b ≤ a))) H := rfl
theorem c_eqI {a b : Int} : wpCmp .eq (.int a) (.int b) H Q = Q (.bool (decide (a = b))) H := by
  show Q (.bool (a == b)) H = _
  rw [show (a == b) = decide (a = b) from rfl]
theorem c_neI {a b : Int} : wpCmp .ne (.int a) (.int b) H Q = Q (.bool (!decide (a = b))) H := by
  show Q (.bool !(a == b)) H = _
  rw [show (a == b) = decide (a = b) from rfl]
theorem c_eqS {a b : Str} : wpCmp .eq (.str a) (.str b) H Q = Q (.bool (a == b)) H := rfl
theorem c_neS {a b : Str} : wpCmp .ne (.str a) (.str b) H Q = Q (.bool (!(a == b))) H := rfl
theorem c_eqB {a b : Bool} : wpCmp .eq (.bool a) (.bool b) H Q = Q (.bool (a == b)) H := rfl
theorem c_neB {a b : Bool} : wpCmp .ne (.bool a) (.bool b) H Q = Q (.bool (!(a == b))) H := rfl
theorem i_list {i : Nat} {l : List AV} {k : Int} (h : H[i]? = some (.list l)) : wpIdx (.ref i) (.int k) H Q = idxL l k H Q := by simp [wpIdx,asI,h]
theorem i_dict {i : Nat} {l : List (Int × AV)} {k : Int} (h : H[i]? = some (.dict l)) : wpIdx (.ref i) (.int k) H Q = (∃ z,dget l k = some z ∧ Q z H) := by simp [wpIdx,asI,h]
theorem i_tup {l : List AV} {k : Int} : wpIdx (.tup l) (.int k) H Q = (l.length < 2 ^ 62 ∧ ∃ j z,place k l.length = some j ∧ l[j]? = some z ∧ Q z H) := rfl
theorem i_tup0 {v : AV} {l : List AV} : wpIdx (.tup (v :: l)) (.int 0) H Q = ((v :: l).length < 2 ^ 62 ∧ Q v H) := by
  rw [i_tup]; simp [place]
theorem i_tup1 {v u : AV} {l : List AV} : wpIdx (.tup (u :: v :: l)) (.int 1) H Q = ((u :: v :: l).length < 2 ^ 62 ∧ Q v H) := by
  rw [i_tup]
  have : place 1 (u :: v :: l).length = some 1 := by unfold place; simp; exact Int.compare_eq_gt.mp rfl
  rw [this]; simp
theorem i_tup2 {v u t : AV} {l : List AV} : wpIdx (.tup (t :: u :: v :: l)) (.int 2) H Q = ((t :: u :: v :: l).length < 2 ^ 62 ∧ Q v H) := by
  rw [i_tup]
  have : place 2 (t :: u :: v :: l).length = some 2 := by unfold place; simp; exact Int.compare_eq_gt.mp rfl
  rw [this]; simp
theorem idx_at {x : AV} {l : List AV} {k : Int} {z : AV} (hx : anyL H x = some l) (hn : l.length < 2 ^ 62) (h0 : 0 ≤ k) (hz : l[k.toNat]? = some z) (q : Q z H) : wpIdx x (.int k) H Q := by
  have hlt : k.toNat < l.length := (List.getElem?_eq_some_iff.mp hz).1
  have hp : place k l.length = some k.toNat := by unfold place; rw [if_pos h0,if_pos (by exact Int.lt_of_toNat_lt hlt)]
  cases x with
  | tup m=>cases hx; exact ⟨hn,_,_,hp,hz,q⟩
  | fro m=>cases hx; exact ⟨hn,_,_,hp,hz,q⟩
  | ref i =>
    simp only [anyL,seqL] at hx
    split at hx
    · rename_i h; cases hx; rw [i_list h]; exact ⟨hn,_,_,hp,hz,q⟩
    · cases hx
  | _=>simp [anyL,seqL] at hx
theorem l_tup {l : List AV} : wpBi .len [.tup l] H Q = (l.length < 2 ^ 62 ∧ Q (.int l.length) H) := rfl
theorem l_fro {l : List AV} : wpBi .len [.fro l] H Q = (l.length < 2 ^ 62 ∧ Q (.int l.length) H) := rfl
theorem l_list {i : Nat} {l : List AV} (h : H[i]? = some (.list l)) : wpBi .len [.ref i] H Q = (l.length < 2 ^ 62 ∧ Q (.int l.length) H) := by simp [wpBi,as1,wpLen,h]
theorem l_dict {i : Nat} {l : List (Int × AV)} (h : H[i]? = some (.dict l)) : wpBi .len [.ref i] H Q = (l.length < 2 ^ 62 ∧ Q (.int l.length) H) := by simp [wpBi,as1,wpLen,h]
theorem t_list {i : Nat} {l : List AV} (h : H[i]? = some (.list l)) : wpBi .tuple [.ref i] H Q = (l.length ≤ sizeLine ∧ Q (.tup l) H) := by simp [wpBi,as1,withL,seqL,h]
theorem g_list {i : Nat} {l : List AV} (h : H[i]? = some (.list l)) : wpBi .list [.ref i] H Q = (l.length ≤ sizeLine ∧ Q (.ref H.length) (H ++ [.list l])) := by simp [wpBi,as1,withL,lstL,h]
theorem g_tup {l : List AV} : wpBi .list [.tup l] H Q = (l.length ≤ sizeLine ∧ Q (.ref H.length) (H ++ [.list l])) := rfl
theorem n_bool {b : Bool} : wpBi .int [.bool b] H Q = Q (.int (if b then 1 else 0)) H := rfl
theorem n_min {a b : Int} : wpBi .min [.int a,.int b] H Q = Q (.int (if b < a then b else a)) H := rfl
theorem n_max {a b : Int} : wpBi .max [.int a,.int b] H Q = Q (.int (if b > a then b else a)) H := rfl
theorem a_all {i : Nat} {bs : List Bool} (h : H[i]? = some (.list (bs.map .bool))) : wpBi .all [.ref i] H Q ↔ Q (.bool (bs.all fun b=>b)) H := by
  have inj : ∀ {a b : List Bool},a.map AV.bool = b.map AV.bool → a = b := fun {a b} e=>List.map_inj_right (fun _ _ h=>AV.bool.inj h) |>.mp e
  simp only [wpBi,as1,seqL,h,Option.some.injEq]
  constructor
  · rintro ⟨cs,e,q⟩; rw [inj e]; exact q
  · exact fun q=>⟨bs,rfl,q⟩
theorem m_append {i : Nat} {l : List AV} {x : AV} (h : H[i]? = some (.list l)) : wpMt .append (.ref i) [x] H Q = (l.length ≤ sizeLine ∧ Q .none (H.set i (.list (l ++ [x])))) := onL_ref h
theorem isL_ref {i : Nat} {l : List AV} (h : H[i]? = some (.list l)) : isL H (.ref i) := ⟨i,l,rfl,h⟩
section
variable {Q : PF}
theorem ss_nil : wpSs Φ [] loc H Q = Q .next loc H := rfl
theorem thenS_next {ss : List MS} : thenS Φ ss Q .next loc H = wpSs Φ ss loc H Q := rfl
theorem thenS_ret {ss : List MS} {v : AV} : thenS Φ ss Q (.ret v) loc H = Q (.ret v) loc H := rfl
theorem ss_cons {s : MS} {ss : List MS} : wpSs Φ (s :: ss) loc H Q = wpS Φ s loc H (thenS Φ ss Q) := rfl
theorem s_asg {i : Nat} {e : ME} : wpS Φ (.asg i e) loc H Q = wpE Φ e loc H (kAsg i loc Q) := rfl
theorem k_asg {i : Nat} {v : AV} : kAsg i loc Q v H = Q .next (loc.set i (some v)) H := rfl
theorem s_asgT {is : List Nat} {e : ME} : wpS Φ (.asgT is e) loc H Q = wpE Φ e loc H (kAsgT is loc Q) := rfl
theorem k_asgT {is : List Nat} {l : List AV} : kAsgT is loc Q (.tup l) H = (l.length = is.length ∧ Q .next (setAll (is.zip l) loc) H) := rfl
theorem s_sto {o k e : ME} : wpS Φ (.sto o k e) loc H Q = wpE Φ e loc H (kSto1 Φ o k loc Q) := rfl
theorem k_sto1 {o k : ME} {x : AV} : kSto1 Φ o k loc Q x H = wpE Φ o loc H (kSto2 Φ k x loc Q) := rfl
theorem k_sto2 {k : ME} {x y : AV} : kSto2 Φ k x loc Q y H = wpE Φ k loc H (kSto3 x y loc Q) := rfl
theorem k_sto3 {x y z : AV} : kSto3 x y loc Q z H = wpSet y z x H (kSto4 loc Q) := rfl
theorem k_sto4 : kSto4 loc Q H = Q .next loc H := rfl
theorem s_ite {t : ME} {a b : List MS} : wpS Φ (.ite t a b) loc H Q = wpE Φ t loc H (kIte Φ a b loc Q) := rfl
theorem k_ite {a b : List MS} {c : Bool} : kIte Φ a b loc Q (.bool c) H = kIteB Φ a b loc Q H c := rfl
theorem k_itet {a b : List MS} : kIteB Φ a b loc Q H true = wpSs Φ a loc H Q := rfl
theorem k_itef {a b : List MS} : kIteB Φ a b loc Q H false = wpSs Φ b loc H Q := rfl
theorem s_ret {e : ME} : wpS Φ (.ret e) loc H Q = wpE Φ e loc H (kRet loc Q) := rfl
theorem k_ret {v : AV} : kRet loc Q v H = Q (.ret v) loc H := rfl
theorem s_ret0 : wpS Φ .ret0 loc H Q = Q (.ret .none) loc H := rfl
theorem s_expr {e : ME} : wpS Φ (.expr e) loc H Q = wpE Φ e loc H (kExp loc Q) := rfl
theorem k_exp {v : AV} : kExp loc Q v H = Q .next loc H := rfl
theorem end_ret {R : PQ} {v : AV} : endOf R (.ret v) loc H = R v H := rfl
theorem end_next {R : PQ} : endOf R .next loc H = R .none H := rfl
theorem whl_next {J : Nat → Loc → Hp → Prop} {n : Nat} (m : Nat) (hm : m < n) (h : J m loc H) : whlK J n Q .next loc H := ⟨m,hm,h⟩
theorem whlK_ret {J : Nat → Loc → Hp → Prop} {n : Nat} {v : AV} : whlK J n Q (.ret v) loc H = Q (.ret v) loc H := rfl
theorem k_whl {b : List MS} {J : Nat → Loc → Hp → Prop} {n : Nat} {c : Bool} : kWhl Φ b J n loc Q (.bool c) H = kWhlB Φ b J n loc Q H c := rfl
theorem k_whlt {b : List MS} {J : Nat → Loc → Hp → Prop} {n : Nat} : kWhlB Φ b J n loc Q H true = wpSs Φ b loc H (whlK J n Q) := rfl
theorem k_whlf {b : List MS} {J : Nat → Loc → Hp → Prop} {n : Nat} : kWhlB Φ b J n loc Q H false = Q .next loc H := rfl
theorem s_whl {t : ME} {b : List MS} (J : Nat → Loc → Hp → Prop) (n : Nat) (h0 : J n loc H)
    (turn : ∀ n loc H,J n loc H → wpE Φ t loc H (kWhl Φ b J n loc Q)) : wpS Φ (.whl t b) loc H Q := ⟨J,n,h0,turn⟩
theorem for_next {J : Nat → Loc → Hp → Prop} {n : Nat} (h : J (n + 1) loc H) : forK J n Q .next loc H := h
theorem forK_ret {J : Nat → Loc → Hp → Prop} {n : Nat} {v : AV} : forK J n Q (.ret v) loc H = Q (.ret v) loc H := rfl
theorem s_for {t : Bool} {is : List Nat} {k : IK} {its : List ME} {b : List MS} : wpS Φ (.forr t is k its b) loc H Q = wpEs Φ its loc H (kIt k (forI Φ t is b loc Q)) := rfl
theorem for_intro {t : Bool} {is : List Nat} {b : List MS} {items : List AV} {Cnd : Hp → Prop} (J : Nat → Loc → Hp → Prop) (h0 : J 0 loc H) (turn : ∀ i loc H,J i loc H → Cnd H ∧
      (∀ y,items[i]? = some y → ∃ ws,unpack t is.length y = some ws ∧ wpSs Φ b (setAll (is.zip ws) loc) H (forK J i Q)) ∧
      (i = items.length → Q .next loc H)) : forI Φ t is b loc Q items Cnd H := ⟨J,h0,turn⟩
end
theorem r_one {n : Int} {K : KI} : wpIt .range [.int n] H K = (-(2 ^ 62) ≤ n ∧ n < 2 ^ 62 ∧ K ((List.range n.toNat).map fun (k : Nat)=>AV.int k) (fun _=>True) H) := rfl
theorem r_two {a b : Int} {K : KI} : wpIt .range [.int a,.int b] H K = (-(2 ^ 62) ≤ a ∧ a < 2 ^ 62 ∧ -(2 ^ 62) ≤ b ∧ b < 2 ^ 62 ∧ K ((List.range (b - a).toNat).map fun (k : Nat)=>AV.int (a + k)) (fun _=>True) H) := rfl
theorem r_tup {l : List AV} {K : KI} : wpIt .plain [.tup l] H K = K l (fun _=>True) H := rfl
theorem r_enum {l : List AV} {K : KI} : wpIt .enum [.tup l] H K = K (enumL l) (fun _=>True) H := rfl
theorem r_list {i : Nat} {l : List AV} {K : KI} (h : H[i]? = some (.list l)) : wpIt .plain [.ref i] H K = K l (fun H'=>H'[i]? = some (.list l)) H := by
  show withL (lstAt H i) _ = _
  rw [lstAt_of h]; rfl
theorem r_rev {i : Nat} {l : List AV} {K : KI} (h : H[i]? = some (.list l)) : wpIt .revd [.ref i] H K = K l.reverse (fun H'=>H'[i]? = some (.list l)) H := by
  show onL (.ref i) H (fun i l=>K l.reverse (fun H'=>H'[i]? = some (.list l)) H) = _
  rw [onL_ref h]
theorem e_comp {t : Bool} {n : Nat} {elt : ME} {k : IK} {its cond : List ME} : wpE Φ (.comp t n elt k its cond) loc H Q = wpEs Φ its loc H (kIt k (compI Φ t n elt cond loc Q)) := rfl
theorem comp_pure {t : Bool} {n : Nat} {elt : ME} {cond : List ME} {items : List AV} {Cnd : Hp → Prop} (p : AV → Option AV) (hs : items.length ≤ sizeLine) (hc : Cnd H)
    (turn : ∀ y ∈ items,∃ ws,unpack t n y = some ws ∧ (∀ K : Bool → Hp → Prop,K (p y).isSome H → wpCs Φ cond (loc ++ ws.map some) H K) ∧ ∀ v,p y = some v → ∀ Q : PQ,Q v H → wpE Φ elt (loc ++ ws.map some) H Q)
    (q : Q (.ref H.length) (H ++ [.list (items.filterMap p)])) : compI Φ t n elt cond loc Q items Cnd H := by
  refine ⟨hs,fun i l H'=>H' = H ∧ l = (items.take i).filterMap p,⟨rfl,by simp⟩,?_⟩
  rintro i l H' ⟨rfl,rfl⟩
  refine ⟨hc,fun y hy=>?_,fun e=>by rw [e,List.take_length]; exact q⟩
  refine x1_3 (turn y (List.mem_of_getElem? hy)) fun ws hu h1 h2=>?_
  refine ⟨ws,hu,h1 _ ?_⟩
  have et : items.take (i + 1) = items.take i ++ [y] := by
    rw [List.take_add_one,hy]; rfl
  cases hp : p y with
  | none =>
    show H' = H' ∧ _
    refine ⟨rfl,?_⟩
    rw [et,List.filterMap_append]; simp [hp]
  | some v =>
    refine h2 v hp _ ⟨rfl,?_⟩
    rw [et,List.filterMap_append]; simp [hp]
theorem comp_map {t : Bool} {n : Nat} {elt : ME} {items : List AV} {Cnd : Hp → Prop} (p : AV → AV) (hs : items.length ≤ sizeLine) (hc : Cnd H)
    (turn : ∀ y ∈ items,∃ ws,unpack t n y = some ws ∧ ∀ Q : PQ,Q (p y) H → wpE Φ elt (loc ++ ws.map some) H Q)
    (q : Q (.ref H.length) (H ++ [.list (items.map p)])) : compI Φ t n elt [] loc Q items Cnd H := by
  refine comp_pure (fun y=>some (p y)) hs hc (fun y hy=>?_) (by simpa using q)
  refine x1_2 (turn y hy) fun ws hu h=>?_
  exact ⟨ws,hu,fun K k=>by rw [cs_nil]; exact k,fun v hv=>by cases hv; exact h⟩
end Mine
namespace Mine
open PySem PySem.W PyProof.Rows
set_option maxRecDepth 100000
noncomputable def freeB (p : Program) (loose : List Str) (x : Str) : Bool :=
  !(startupNames.contains x) && !((looseW p loose).contains x) && !(((recsOf p).map (·.name)).contains x) && !(((litsOf p).map (·.1)).contains x) && !(((clssOf p (looseW p loose)).map (·.name)).contains x)
section
variable {p : Program} {loose : List Str} {R : WRecords} {XP : (Str → Option Value) → Heap → Prop} {w : World} {s₀ : Shared} {mg mb : Str → Option Value} {h : Heap} {prog : Program}
theorem free_of (G : Ground p loose R XP w s₀ mg mb h) {x : Str} (hx : freeB p loose x = true) : mg x = none := by
  simp only [freeB,Bool.and_eq_true,Bool.not_eq_true',List.contains_eq_mem,decide_eq_false_iff_not] at hx
  refine x0_2 (hx) fun qQ0 h5=>?_
  clear hx
  obtain ⟨⟨⟨h1,h2⟩,h3⟩,h4⟩ := qQ0
  exact G.T.free x h1 h2 h3 h4 h5
theorem ok2_of (G : Ground p loose R XP w s₀ mg mb h) : (PEnv.mk prog w h mg mb).OK2 where
  g := G.T.g
  b := G.T.b
  nolimit := G.T.nolimit
  low := by
    refine x1_2 (G.T.nodigits) fun _ qQ1 _=>?_
    obtain ⟨o,_,_,ho,_⟩ := qQ1
    exact ⟨_,o,ho,by decide⟩
noncomputable def bnames : List Str := ["len", "all", "any", "sorted", "list", "tuple", "int", "min", "max", "bool", "str", "isinstance", "range", "reversed", "enumerate"]
theorem boot_bi (b : Bi) : bootBuiltins b.nm = some b.val := by cases b <;> decide +kernel
theorem boot_ty (b : Ty) : bootBuiltins b.ps = some (.type b.nm) := by cases b <;> decide +kernel
theorem boot_its (b : ITy) : bootBuiltins b.str = some (.type b.nm) := by cases b <;> decide +kernel
theorem boot_isi : bootBuiltins "isinstance" = some (.builtin "isinstance") := by decide +kernel
theorem nm_bi (b : Bi) : b.nm ∈ bnames ∧ b.nm ≠ "__name__" := by cases b <;> decide +kernel
theorem nm_ty (b : Ty) : b.ps ∈ bnames ∧ b.ps ≠ "__name__" := by cases b <;> decide +kernel
theorem nm_its (b : ITy) : b.str ∈ bnames ∧ b.str ≠ "__name__" := by cases b <;> decide +kernel
theorem nm_isi : ("isinstance" : Str) ∈ bnames ∧ ("isinstance" : Str) ≠ "__name__" := by decide +kernel
theorem gok_of {Γ : GT} (G : Ground p loose R XP w s₀ mg mb h) (hb : bnames.all (fun x=>freeB p loose x) = true) (hf : Γ.fns.all (fun x=>((recsOf p).map (·.name)).contains x) = true)
    (hc : ∀ x v,Γ.csts.lookup x = some v → ∃ u,mg x = some u ∧ ∀ h' ι,h.StaysIn h' → VR h h' ι v u) : GOK (PEnv.mk prog w h mg mb) Γ := by
  have fr : ∀ x,x ∈ bnames ∧ x ≠ "__name__" → mg x = none ∧ mb x = bootBuiltins x := fun x hx=>⟨free_of G (List.all_eq_true.mp hb x hx.1),G.T.builtins x hx.2⟩
  refine { toOK2 := ok2_of G,fns := fun x hx=>?_,csts := hc,blt := fun b=>?_,ty := fun b=>?_,isi := ?_,its := fun b=>?_ }
  · have := List.all_eq_true.mp hf x (by simpa using hx)
    simp only [List.contains_eq_mem,decide_eq_true_eq,List.mem_map] at this
    refine x1_2 (this) fun d hd eQ2=>?_
    clear this
    subst eQ2
    refine x5_3 (G.T.fn d hd) fun a o pm code doc h1 h2 qQ7=>?_
    obtain ⟨h3,_⟩ := qQ7
    exact ⟨a,o,_,h1,h2,h3⟩
  · obtain ⟨h1,h2⟩ := fr _ (nm_bi b); exact ⟨h1,h2.trans (boot_bi b)⟩
  · obtain ⟨h1,h2⟩ := fr _ (nm_ty b); exact ⟨h1,h2.trans (boot_ty b)⟩
  · obtain ⟨h1,h2⟩ := fr _ nm_isi; exact ⟨h1,h2.trans boot_isi⟩
  · obtain ⟨h1,h2⟩ := fr _ (nm_its b); exact ⟨h1,h2.trans (boot_its b)⟩
structure FnOK (p : Program) (Γ : GT) (x : Str) (vars params : List Str) (f : MF) : Prop where
  ex : ∃ d,d ∈ recsOf p ∧ d.name = x ∧ d.scope.kind = .function ∧ d.scope.isCoroutine = false ∧ d.scope.isGenerator = false ∧ (Ctx.mk (vars.map some) d.scope.names 0).good params = true ∧
    CSs Γ ⟨vars.map some,d.scope.names,0⟩ f.body d.body ∧ params.length = f.params ∧ vars.length = f.vars ∧
    ∀ pm cd doc vals,vals.length = params.length → bindArgs (Calls.docDef d.name d.params d.body d.scope pm cd doc) ⟨vals,[]⟩ = pure (params.zip vals)
theorem FnOK.call {Γ : GT} {x : Str} {vars params : List Str} {f : MF} {n : Nat} {Φ : Fun} {args : List AV} {H : Hp} {Q : PQ} (fn : FnOK p Γ x vars params f) (G : Ground p loose R XP w s₀ mg mb h) (ok : GOK (PEnv.mk prog w h mg mb) Γ)
    (hΦ : ∀ f args H Q,Φ f args H Q → CallOK (PEnv.mk prog w h mg mb) n f args H Q XF) (wp : wpF Φ f args H Q) : CallOK (PEnv.mk prog w h mg mb) (n + 1) x args H Q XF := by
  refine x1_6 (fn.ex) fun d hd eQ2 k1 k2 k3 qQ6=>?_
  subst eQ2
  obtain ⟨good,cs,hp,hv,hb⟩ := qQ6
  refine x5_3 (G.T.fn d hd) fun a o pm code doc h1 h2 qQ7=>?_
  obtain ⟨h3,h4⟩ := qQ7
  refine soundF ok hΦ (C := ⟨vars.map some,d.scope.names,0⟩) (params := params) ⟨⟨a,o,_,h1,h2,h3,rfl,rfl,k1,k2,k3,rfl,rfl,rfl,h4,fun vals hl=>hb pm code doc vals hl⟩⟩ good cs hp (by rw [List.length_map]; exact hv) wp
theorem finish {c : ClaimW} {cl : Str → Option Addr} {mean : ExcName → Option Value} {wargs : List WData} {s₁ : Shared} {fa l : Addr} {vs : List Value} {ns : List Int} {n : Nat} (hmg : mg "law" = some (.ref fa)) (hg : s₁.gens = #[]) (hn : n < 200)
    (hL : s₁.heap.IsList l vs.toArray) (hI : IntsAre vs ns) (hr : ∀ cls,c.raises wargs cls = false) (hp : c.post wargs (.bool true) wargs = true)
    (hc : CallOK (PEnv.mk prog w s₁.heap mg mb) n "law" [.fro (ns.map .int)] [] (fun v _=>v = .bool true) XF) :
    codeAny (model prog w) callerA (.call (.ref fa) ⟨[.ref l],[]⟩) (GoodWG c cl mean wargs s₁) s₁ := by
  have rs : ∀ {vs : List Value} {ns : List Int},IntsAre vs ns → VRs s₁.heap s₁.heap [] (ns.map .int) vs := fun {vs ns} q=>by
    induction q with
    | nil=>rfl
    | cons _ _ _ ih=>exact VRs.cons (VR.mkInt _ _) ih
  refine hc callerA [] s₁ [.ref l] fa _ hmg ⟨⟨?_,?_,rfl⟩,⟨[],rfl,(fun e he=>nomatch he)⟩,(⟨fun b o e=>e,(fun a ha=>nomatch ha),List.nodup_nil,rfl,(fun i o e=>by simp at e)⟩ : HR s₁.heap [] [] s₁.heap)⟩ ⟨_,[],rfl,?_,rfl⟩ (fun v s' g=>?_) Acc.no
  · show 1 + claimMargin + n < recursionLimit
    unfold claimMargin recursionLimit; exact z135 hn
  · show 4 + 8 * n + 200 < cLine
    unfold cLine; exact z136 hn
  · unfold VR; exact ⟨l,vs,rfl,hL,rs hI⟩
  · obtain ⟨ι',H',av,p,r,rfl⟩ := g
    cases r
    refine x2_1 (p.same) fun h' t' eQ2=>?_
    subst eQ2
    refine GoodW.toG ⟨.inl ⟨_,.bool true,[],rfl,hr,.bool true,hp,fun _=>⟨List.nodup_nil,fun a ha=>nomatch ha⟩⟩,fun b o e=>p.hr.base b o e,rfl,hg⟩
end
theorem post_true (l : OpenLaw) (args : List WData) : l.row.claim.post args (.bool true) args = true :=
  postW_of (r := l.row.toRowW) (X := true) rfl (w_eq_bool (k := true) (l := true) (w_res rfl) w_lit) rfl
end Mine
namespace Mine
open PySem
theorem place_nn {k : Int} {n : Nat} (h0 : 0 ≤ k) (h1 : k < n) : place k n = some k.toNat := by
  unfold place; rw [if_pos h0,if_pos h1]
theorem log2_lt {n k : Nat} (h : n < 2 ^ k) (hk : 0 < k) : n.log2 < k := by
  by_cases h0 : n = 0
  · subst h0; simpa using hk
  · exact (Nat.log2_lt h0).mpr h
theorem intBits_le {a : Int} {k : Nat} (h : a.natAbs < 2 ^ k) : Builtin.Int.intBits a ≤ k := by
  unfold Builtin.Int.intBits
  split
  · exact Nat.zero_le _
  · rename_i h0
    have hk : 0 < k := by
      rcases Nat.eq_zero_or_pos k with rfl | hk
      · simp at h; simp [h] at h0
      · exact hk
    exact log2_lt h hk
theorem mulOk_left {a b : Int} (h : a.natAbs < 2 ^ 64) : IntMulOk a b := IntMulOk.of_left (intBits_le h)
theorem mulOk_right {a b : Int} (h : b.natAbs < 2 ^ 64) : IntMulOk a b := IntMulOk.of_right (intBits_le h)
theorem noPy {a b : Int} (h : b.natAbs < 2 ^ 9000) : NoPy a b := by
  unfold NoPy Builtin.divisionGoesByPylong
  simp only [gt_iff_lt,Bool.and_eq_false_imp,decide_eq_true_eq]
  intro h1
  exfalso
  split at h1
  · exact Nat.not_succ_le_zero 300 h1
  · have := log2_lt h (by exact Nat.zero_lt_succ 8999)
    exact z137 h1 this
theorem noPyS {a b : Int} (h : b.natAbs < 2 ^ 64) : NoPy a b := noPy (Nat.lt_of_lt_of_le h (Nat.pow_le_pow_right (by decide) (by decide)))
theorem fmod_nn {a b : Int} (h : 0 ≤ b) : a.fmod b = a % b := Int.fmod_eq_emod_of_nonneg a h
theorem fdiv_nn {a b : Int} (h : 0 ≤ b) : a.fdiv b = a / b := Int.fdiv_eq_ediv_of_nonneg a h
theorem sz0 : ([] : List AV).length ≤ sizeLine := by simp [sizeLine]
theorem sz1 {a0 : AV} : [a0].length ≤ sizeLine := by simp [sizeLine]
theorem sz2 {a0 a1 : AV} : [a0,a1].length ≤ sizeLine := by simp [sizeLine]
theorem st2 {a0 a1 : AV} : [a0,a1].length ≤ 1000 := by simp
theorem sz3 {a0 a1 a2 : AV} : [a0,a1,a2].length ≤ sizeLine := by simp [sizeLine]
theorem st3 {a0 a1 a2 : AV} : [a0,a1,a2].length ≤ 1000 := by simp
theorem su3 {a0 a1 a2 : AV} : [a0,a1,a2].length < 2 ^ 62 := by simp
theorem st4 {a0 a1 a2 a3 : AV} : [a0,a1,a2,a3].length ≤ 1000 := by simp
end Mine
namespace Mine
open PySem
noncomputable def wps := And.intro @ss_nil <| And.intro @ss_cons <| And.intro @thenS_next <| And.intro @thenS_ret <| And.intro @s_asg <| And.intro @s_asgT <| And.intro @s_sto <| And.intro @s_ite <| And.intro @s_ret <| And.intro @s_ret0 <| And.intro @s_expr <| And.intro @s_for <| And.intro @whlK_ret <| And.intro @forK_ret <| And.intro @end_ret <| And.intro @end_next <| And.intro @k_bin1 <| And.intro @k_bin2 <| And.intro @k_cmp1 <| And.intro @k_cmp2 <| And.intro @k_c1 <| And.intro @k_c2 <| And.intro @k_c3 <| And.intro @k_c4t <| And.intro @k_c4f <| And.intro @k_not <| And.intro @k_neg <| And.intro @k_and <| And.intro @k_andt <| And.intro @k_andf <| And.intro @k_or <| And.intro @k_ort <| And.intro @k_orf <| And.intro @k_call <| And.intro @k_bi <| And.intro @k_isi <| And.intro @k_idx1 <| And.intro @k_idx2 <| And.intro @k_s1 <| And.intro @k_s2n <| And.intro @k_s2o <| And.intro @k_s4n <| And.intro @k_s4o <| And.intro @k_s6 <| And.intro @k_t1 <| And.intro @k_t2n <| And.intro @k_t2o <| And.intro @k_t4n <| And.intro @k_t4o <| And.intro @k_tup <| And.intro @k_lst <| And.intro @k_m1 <| And.intro @k_m2 <| And.intro @k_e1 <| And.intro @k_e2 <| And.intro @k_cs <| And.intro @k_cst <| And.intro @k_csf <| And.intro @k_it <| And.intro @k_asg <| And.intro @k_asgT <| And.intro @k_sto1 <| And.intro @k_sto2 <| And.intro @k_sto3 <| And.intro @k_sto4 <| And.intro @k_ite <| And.intro @k_itet <| And.intro @k_itef <| And.intro @k_ret <| And.intro @k_exp <| And.intro @k_whl <| And.intro @k_whlt <| And.intro @k_whlf <| And.intro @e_cst <| And.intro @e_loc0 <| And.intro @e_locS <| And.intro @e_bin <| And.intro @e_cmp <| And.intro @e_cmp2 <| And.intro @e_not <| And.intro @e_neg <| And.intro @e_and2 <| And.intro @e_or2 <| And.intro @e_call <| And.intro @e_bi <| And.intro @e_isi <| And.intro @e_idx <| And.intro @e_slc <| And.intro @e_slcT <| And.intro @e_rev <| And.intro @e_tup <| And.intro @e_lst <| And.intro @e_dic0 <| And.intro @e_dic1 <| And.intro @k_d1 <| And.intro @k_d3 <| And.intro @r_enum <| And.intro @e_meth <| And.intro @e_comp <| And.intro @es_nil <| And.intro @es_cons <| And.intro @cs_nil <| And.intro @cs_cons <| And.intro @withL_some <| And.intro @b_add <| And.intro @b_sub <| And.intro @b_mul <| And.intro @b_mod <| And.intro @b_fdiv <| And.intro @b_pow <| And.intro @b_addT <| And.intro @c_lt <| And.intro @c_le <| And.intro @c_gt <| And.intro @c_ge <| And.intro @c_eqI <| And.intro @c_neI <| And.intro @c_eqS <| And.intro @c_neS <| And.intro @c_eqB <| And.intro @c_neB <| And.intro @i_tup0 <| And.intro @i_tup1 <| And.intro @i_tup2 <| And.intro @l_tup <| And.intro @l_fro <| And.intro @g_tup <| And.intro @n_bool <| And.intro @n_min <| And.intro @n_max <| And.intro @r_one <| And.intro @r_two @r_tup
theorem set0 {α : Type} {a b : α} {l : List α} : (a :: l).set 0 b = b :: l := rfl
theorem setS {α : Type} {a b : α} {l : List α} {n : Nat} : (a :: l).set (n + 1) b = a :: l.set n b := rfl
theorem mapC {α β : Type} {f : α → β} {a : α} {l : List α} : (a :: l).map f = f a :: l.map f := rfl
theorem mapN {α β : Type} {f : α → β} : ([] : List α).map f = [] := rfl
theorem appC {α : Type} {a : α} {l m : List α} : (a :: l) ++ m = a :: (l ++ m) := rfl
theorem appN {α : Type} {l : List α} : [] ++ l = l := rfl
theorem repS {α : Type} {a : α} {n : Nat} : List.replicate (n + 1) a = a :: List.replicate n a := rfl
theorem repZ {α : Type} {a : α} : List.replicate 0 a = [] := rfl
theorem sAc {i : Nat} {v : AV} {r : List (Nat × AV)} {loc : Loc} : setAll ((i,v) :: r) loc = setAll r (loc.set i (some v)) := rfl
theorem sAn {loc : Loc} : setAll [] loc = loc := rfl
theorem zipC {α β : Type} {a : α} {b : β} {l : List α} {m : List β} : (a :: l).zip (b :: m) = (a,b) :: l.zip m := rfl
theorem zipN {α β : Type} {l : List β} : ([] : List α).zip l = [] := rfl
theorem zipM {α β : Type} {l : List α} : l.zip ([] : List β) = [] := by cases l <;> rfl
noncomputable def lst := And.intro @set0 <| And.intro @setS <| And.intro @mapC <| And.intro @mapN <| And.intro @appC <| And.intro @appN <| And.intro @repS <| And.intro @repZ <| And.intro @sAc <| And.intro @sAn <| And.intro @zipC <| And.intro @zipN <| And.intro @zipM <| And.intro Bool.not_true Bool.not_false
theorem all0 {P : List Value → Prop} (h : P []) : ∀ vals : List Value,vals.length = 0 → P vals := fun vals e=>by
  rw [List.eq_nil_of_length_eq_zero e]; exact h
theorem all1 {P : List Value → Prop} (h : ∀ a,P [a]) (vals : List Value) (e : vals.length = 1) : P vals := by
  cases vals with
  | nil=>cases e
  | cons a r=>exact all0 (P := fun l=>P (a :: l)) (h a) r (Nat.succ.inj e)
theorem all2 {P : List Value → Prop} (h : ∀ a b,P [a,b]) (vals : List Value) (e : vals.length = 2) : P vals := by
  cases vals with
  | nil=>cases e
  | cons a r=>exact all1 (P := fun l=>P (a :: l)) (h a) r (Nat.succ.inj e)
theorem all3 {P : List Value → Prop} (h : ∀ a b c,P [a,b,c]) (vals : List Value) (e : vals.length = 3) : P vals := by
  cases vals with
  | nil=>cases e
  | cons a r=>exact all2 (P := fun l=>P (a :: l)) (h a) r (Nat.succ.inj e)
theorem all4 {P : List Value → Prop} (h : ∀ a b c d,P [a,b,c,d]) (vals : List Value) (e : vals.length = 4) : P vals := by
  cases vals with
  | nil=>cases e
  | cons a r=>exact all3 (P := fun l=>P (a :: l)) (h a) r (Nat.succ.inj e)
end Mine
namespace Mine
open PySem
local macro_rules | `(tactic| walk_at "wp")=>do
  let pre ← ("ss_nil ss_cons thenS_next thenS_ret s_asg s_asgT s_sto s_ite s_ret s_ret0 s_expr s_for whlK_ret forK_ret end_ret end_next k_bin1 k_bin2 k_cmp1 k_cmp2 k_c1 k_c2 k_c3 k_c4t k_c4f k_not k_neg k_and k_andt k_andf k_or k_ort k_orf k_call k_bi k_isi k_idx1 k_idx2 k_s1 k_s2n k_s2o k_s4n k_s4o k_s6 k_t1 k_t2n k_t2o k_t4n k_t4o k_tup k_lst k_m1 k_m2 k_e1 k_e2 k_cs k_cst k_csf k_it k_asg k_asgT k_sto1 k_sto2 k_sto3 k_sto4 k_ite k_itet k_itef k_ret k_exp k_whl k_whlt k_whlf e_cst e_loc0 e_locS e_bin e_cmp e_cmp2 e_not e_neg e_and2 e_or2 e_call e_bi e_isi e_idx e_slc e_slcT e_rev e_tup e_lst e_dic0 e_dic1 k_d1 k_d3 r_enum e_meth e_comp es_nil es_cons cs_nil cs_cons withL_some b_add b_sub b_mul b_mod b_fdiv b_pow b_addT c_lt c_le c_gt c_ge c_eqI c_neI c_eqS c_neS c_eqB c_neB i_tup0 i_tup1 i_tup2 l_tup l_fro g_tup n_bool n_min n_max r_one r_two r_tup".splitOn " ").toArray.mapM fun n=>`(Lean.Parser.Tactic.simpLemma| ↓ $(Lean.mkIdent n.toName):term)
  let post ← ("set0 setS mapC mapN appC appN repS repZ sAc sAn zipC zipN zipM Bool.not_true Bool.not_false".splitOn " ").toArray.mapM fun n=>`(Lean.Parser.Tactic.simpLemma| $(Lean.mkIdent n.toName):term)
  let all : Lean.TSyntaxArray [``Lean.Parser.Tactic.simpStar,``Lean.Parser.Tactic.simpErase,``Lean.Parser.Tactic.simpLemma] := (pre ++ post).map fun x=>⟨x.raw⟩
  `(tactic| try simp only [$all,*])
local macro_rules | `(tactic| walk_at "om")=>`(tactic| first | decide | with_reducible assumption | with_reducible exact Int.emod_nonneg _ (by decide) | with_reducible exact Int.emod_lt_of_pos _ (by decide) | omega)
local macro_rules | `(tactic| walk_at "sd")=>`(tactic| first | decide | exact Nat.le_of_ble_eq_true rfl | rfl | exact noPyS (by decide) | with_reducible assumption | omega | (simp [sizeLine]; done))
local macro_rules | `(tactic| walk_at "go")=>`(tactic| ((walk_at "wp"); repeat (with_reducible refine And.intro ?sd ?_; (case sd=>walk_at "sd"))))
local macro_rules | `(tactic| walk_at "wx")=>`(tactic| try simp -implicitDefEqProofs only [↓wps,lst])
local macro_rules | `(tactic| walk_at "gx")=>`(tactic| ((walk_at "wx"); repeat (with_reducible refine And.intro ?sd ?_; (case sd=>walk_at "sd"))))
section
open PySem
set_option maxHeartbeats 1000000
abbrev CK (P : PEnv) (n : Nat) : Fun := fun f a H Q=>CallOK P n f a H Q XF
noncomputable def m_law_cell_at : MF := ⟨2,2,
  [.ite (.cmp .lt (.loc 1) (.bi .len [.loc 0])) [.ret (.idx (.loc 0) (.loc 1))] [],
  .ret (.cst (.int 0))]⟩
noncomputable def m_law_whole : MF := ⟨1,1,
  [.ret (.and2 (.isi (.loc 0) .int) (.not (.isi (.loc 0) .bool)))]⟩
noncomputable def m_powered : MF := ⟨3,4,
  [.asg 3 (.bin .mod (.cst (.int 1)) (.loc 2)),
  .asg 0 (.bin .mod (.loc 0) (.loc 2)),
  .whl (.cmp .gt (.loc 1) (.cst (.int 0))) [.ite (.cmp .eq (.bin .mod (.loc 1) (.cst (.int 2))) (.cst (.int 1))) [.asg 3 (.bin .mod (.bin .mul (.loc 3) (.loc 0)) (.loc 2))] [],
    .asg 0 (.bin .mod (.bin .mul (.loc 0) (.loc 0)) (.loc 2)),
    .asg 1 (.bin .fdiv (.loc 1) (.cst (.int 2)))],
  .ret (.loc 3)]⟩
noncomputable def m_law_mixed : MF := ⟨3,6,
  [.asg 3 (.lst []),
  .asg 4 (.cst (.int 7)),
  .forr false [5] .range [.loc 2] [.asg 4 (.bin .mod (.bin .add (.bin .add (.bin .add (.bin .mul (.loc 4) (.cst (.int 48271))) (.call "_law_cell_at" [.loc 0,.bin .add (.loc 1) (.loc 5)])) (.bin .mul (.cst (.int 31)) (.loc 5))) (.cst (.int 1))) (.cst (.int 2147483647))),
    .expr (.meth .append (.loc 3) [.loc 4])],
  .ret (.loc 3)]⟩
theorem mulOk_200 {a b : Int} (ha : a.natAbs < 2 ^ 200) (hb : b.natAbs < 2 ^ 200) : IntMulOk a b :=
  IntMulOk.of_bits (Nat.le_trans (intBits_le ha) (by decide)) (Nat.le_trans (intBits_le hb) (by decide))
theorem noPy200 {a b : Int} (h : b.natAbs < 2 ^ 200) : NoPy a b := noPy (Nat.lt_of_lt_of_le h (Nat.pow_le_pow_right (by decide) (by decide)))
noncomputable def SCell (Φ : Fun) : Prop := ∀ (l : List Int) (k : Int) (H : Hp) (Q : PQ),0 ≤ k → l.length ≤ 63 → Q (.int ((l[k.toNat]?).getD 0)) H → Φ "_law_cell_at" [.fro (l.map .int),.int k] H Q
theorem cell_at {Φ : Fun} {l : List Int} {k : Int} {H : Hp} {Q : PQ} (hk : 0 ≤ k) (hl : l.length ≤ 63) (h : Q (.int ((l[k.toNat]?).getD 0)) H) : wpF Φ m_law_cell_at [.fro (l.map .int),.int k] H Q := by
  ((refine ⟨rfl,?_⟩; simp only [lst,Nat.reduceSub,Nat.sub_self,List.replicate]))
  simp only [m_law_cell_at]
  walk_at "wp"
  refine ⟨by simp; exact z138 hl,?_⟩
  refine sp_d (fun hlt=>?_) (fun hlt=>?_)
  · walk_at "wp"
    simp at hlt
    refine idx_at rfl (by simp; exact z138 hl) hk (z := .int (l[k.toNat]'(by exact (Int.toNat_lt hk).mpr hlt))) (by simp) ?_
    have e : l[k.toNat]? = some (l[k.toNat]'(by exact (Int.toNat_lt hk).mpr hlt)) := List.getElem?_eq_getElem (by exact (Int.toNat_lt hk).mpr hlt)
    rw [e] at h; exact h
  · walk_at "wp"
    simp at hlt
    have e : l[k.toNat]? = none := List.getElem?_eq_none (by exact z139 hlt)
    rw [e] at h; exact h
theorem whole {Φ : Fun} {i : Int} {H : Hp} {Q : PQ} (h : Q (.bool true) H) : wpF Φ m_law_whole [.int i] H Q := by
  ((refine ⟨rfl,?_⟩; simp only [lst,Nat.reduceSub,Nat.sub_self,List.replicate]))
  simp only [m_law_whole]
  walk_at "wp"
  simp only [isi]
  walk_at "wp"
  exact h
noncomputable def pw (b e m : Int) : Int := b ^ e.toNat % m
theorem natAbs_lt {x m : Int} (h0 : 0 ≤ x) (h1 : x < m) (hm : m ≤ 10 ^ 32) : x.natAbs < 2 ^ 200 := by
  have : x.natAbs < 10 ^ 32 := by exact z140 h0 h1 hm
  exact Nat.lt_of_lt_of_le this (by decide)
noncomputable def SPow (Φ : Fun) : Prop := ∀ (b e m : Int) (H : Hp) (Q : PQ),0 ≤ e → 1 ≤ m → m ≤ 10 ^ 32 → Q (.int (pw b e m)) H → Φ "powered" [.int b,.int e,.int m] H Q
theorem pow_emod (y m : Int) (k : Nat) : (y % m) ^ k % m = y ^ k % m := by
  induction k with
  | zero=>rw [Int.pow_zero,Int.pow_zero]
  | succ k ih=>rw [Int.pow_succ,Int.pow_succ,Int.mul_emod,ih,Int.emod_emod_of_dvd _ (Int.dvd_refl m),← Int.mul_emod]
theorem pow_step (b f : Int) (e : Nat) (m : Int) : (if e % 2 = 1 then f * b % m else f) * (b * b % m) ^ (e / 2) % m = f * b ^ e % m := by
  have h2 : b ^ e = (b * b) ^ (e / 2) * b ^ (e % 2) := by
    have : b * b = b ^ 2 := by rw [Int.pow_succ,Int.pow_succ,Int.pow_zero,Int.one_mul]
    rw [this,← Int.pow_mul,← Int.pow_add]
    congr 1; exact z141
  have h3 : ∀ (k : Nat) (x y : Int),x * (y % m) ^ k % m = x * y ^ k % m := fun k x y=>by
    rw [Int.mul_emod,pow_emod,← Int.mul_emod]
  rw [h3,h2]
  split
  · rename_i h1
    rw [h1,Int.pow_succ,Int.pow_zero,Int.one_mul,Int.mul_emod (f * b % m),Int.emod_emod_of_dvd _ (Int.dvd_refl m),← Int.mul_emod]
    congr 1
    rw [Int.mul_comm ((b * b) ^ (e / 2)) b,Int.mul_assoc]
  · rename_i h1
    have : e % 2 = 0 := by exact Nat.mod_two_ne_one.mp h1
    rw [this,Int.pow_zero,Int.mul_one]
theorem powered {Φ : Fun} {b e m : Int} {H : Hp} {Q : PQ} (he : 0 ≤ e) (hm : 1 ≤ m) (hm2 : m ≤ 10 ^ 32) (h : Q (.int (pw b e m)) H) : wpF Φ m_powered [.int b,.int e,.int m] H Q := by
  ((refine ⟨rfl,?_⟩; simp only [lst,Nat.reduceSub,Nat.sub_self,List.replicate]))
  simp only [m_powered]
  walk_at "wp"
  simp only [fmod_nn (show (0 : Int) ≤ m by exact Int.le_of_lt hm)]
  refine ⟨by exact Ne.symm (Int.ne_of_lt hm),by exact Ne.symm (Int.ne_of_lt hm),?_⟩
  refine s_whl (fun n loc H'=>∃ (f b' : Int) (e' : Nat),loc = [some (.int b'),some (.int e'),some (.int m),some (.int f)] ∧ H' = H ∧ 0 ≤ f ∧ f < m ∧ 0 ≤ b' ∧ b' < m ∧ e' = n ∧ f * b' ^ e' % m = b ^ e.toNat % m) e.toNat ⟨1 % m,b % m,e.toNat,?_,rfl,Int.emod_nonneg _ (by exact Ne.symm (Int.ne_of_lt hm)),Int.emod_lt_of_pos _ (by exact Int.lt_of_add_one_le hm),Int.emod_nonneg _ (by exact Ne.symm (Int.ne_of_lt hm)),Int.emod_lt_of_pos _ (by exact Int.lt_of_add_one_le hm),rfl,?_⟩ ?_
  · rw [Int.toNat_of_nonneg he]
  · rw [Int.mul_emod,Int.emod_emod_of_dvd _ (Int.dvd_refl m),pow_emod,← Int.mul_emod,Int.one_mul]
  · rintro n loc H' ⟨f,b',e',rfl,rfl,hf0,hf1,hb0,hb1,rfl,hi⟩
    have kf : f.natAbs < 2 ^ 200 := natAbs_lt hf0 hf1 hm2
    have kb : b'.natAbs < 2 ^ 200 := natAbs_lt hb0 hb1 hm2
    walk_at "wp"
    refine sp_d (fun hpos=>?_) (fun hpos=>?_)
    · walk_at "wp"
      simp only [fmod_nn (show (0 : Int) ≤ 2 by walk_at "om")]
      refine ⟨by decide,?_⟩
      have st := pow_step b' f e' m
      have e2 : ((e' : Int) / 2) = ((e' / 2 : Nat) : Int) := by exact z142
      have hlt : e' / 2 < e' := by exact z143 hpos
      have bb0 := Int.emod_nonneg (b' * b') (show m ≠ 0 by exact z144 hf0 hf1)
      have bb1 := Int.emod_lt_of_pos (b' * b') (show 0 < m by exact Int.lt_of_le_of_lt hb0 hb1)
      refine sp_d (fun h1=>?_) (fun h1=>?_)
      · walk_at "wp"
        simp only [fmod_nn (show (0 : Int) ≤ m by exact z145 bb0 bb1),fdiv_nn (show (0 : Int) ≤ 2 by walk_at "om")]
        have h1' : e' % 2 = 1 := by exact Eq.symm ((fun {m n}=>Int.ofNat_inj.mp) (id (Eq.symm h1)))
        rw [if_pos h1'] at st
        refine ⟨mulOk_200 kf kb,by exact z144 bb0 bb1,mulOk_200 kb kb,by exact z144 bb0 bb1,by decide,noPy200 (by decide),?_⟩
        exact whl_next (e' / 2) hlt ⟨f * b' % m,b' * b' % m,e' / 2,by rw [e2],rfl,Int.emod_nonneg _ (by exact z144 bb0 bb1),Int.emod_lt_of_pos _ (by exact Int.lt_of_le_of_lt bb0 bb1),bb0,bb1,rfl,by rw [st]; exact hi⟩
      · walk_at "wp"
        simp only [fmod_nn (show (0 : Int) ≤ m by exact z145 bb0 bb1),fdiv_nn (show (0 : Int) ≤ 2 by walk_at "om")]
        have h1' : ¬ e' % 2 = 1 := by exact ne_of_apply_ne Int.ofNat h1
        rw [if_neg h1'] at st
        refine ⟨mulOk_200 kb kb,by exact z144 bb0 bb1,by decide,noPy200 (by decide),?_⟩
        exact whl_next (e' / 2) hlt ⟨f,b' * b' % m,e' / 2,by rw [e2],rfl,hf0,hf1,bb0,bb1,rfl,by rw [st]; exact hi⟩
    · walk_at "wp"
      have : e' = 0 := by exact z146 hpos
      subst this
      rw [Int.pow_zero,Int.mul_one,Int.emod_eq_of_lt hf0 hf1] at hi
      show Q (.int f) H'
      rw [hi]; exact h
structure CellsB (B : Int) (cs : List Int) (n : Nat) : Prop where
  len : cs.length = n
  bd : ∀ c ∈ cs,0 ≤ c ∧ c < B
abbrev Cells (cs : List Int) (n : Nat) : Prop := CellsB 4294967296 cs n
theorem CellsB.up {cs : List Int} {n : Nat} (h : CellsB 2147483647 cs n) : Cells cs n := ⟨h.len,fun c hc=>by have := h.bd c hc; exact z147 this⟩
noncomputable def SMixedA (Φ : Fun) : Prop := ∀ (l : List Int) (a : Int) (n : Nat) (H : Hp) (Q : PQ),0 ≤ a → l.length ≤ 63 → n ≤ 1000 → (∀ cs,CellsB 2147483647 cs n → Q (.ref H.length) (H ++ [.list (cs.map .int)])) → Φ "_law_mixed" [.fro (l.map .int),.int a,.int n] H Q
theorem mixedA {Φ : Fun} (c : SCell Φ) {l : List Int} {a : Int} {n : Nat} {H : Hp} {Q : PQ} (ha : 0 ≤ a) (hl : l.length ≤ 63) (hn : n ≤ 1000) (h : ∀ cs,CellsB 2147483647 cs n → Q (.ref H.length) (H ++ [.list (cs.map .int)])) : wpF Φ m_law_mixed [.fro (l.map .int),.int a,.int n] H Q := by
  ((refine ⟨rfl,?_⟩; simp only [lst,Nat.reduceSub,Nat.sub_self,List.replicate]))
  simp only [m_law_mixed]
  walk_at "wp"
  refine ⟨by decide,by exact z148,by exact z149 hn,?_⟩
  refine for_intro (fun i loc H'=>∃ (cs : List Int) (more : Int) (o : Option AV),CellsB 2147483647 cs i ∧ 0 ≤ more ∧ more < 2147483647 ∧ H' = H ++ [.list (cs.map .int)] ∧ loc = [some (.fro (l.map .int)),some (.int a),some (.int n),some (.ref H.length),some (.int more),o]) ⟨[],7,none,⟨rfl,fun c hc=>by simp at hc⟩,by walk_at "om",by walk_at "om",rfl,rfl⟩ ?_
  rintro i loc H' ⟨cs,more,o,hc,h0,h1,rfl,rfl⟩
  refine ⟨trivial,fun y hy=>?_,fun hi=>?_⟩
  · have hlt : i < n := by
      have := (List.getElem?_eq_some_iff.mp hy).1
      simpa using this
    rw [List.getElem?_map,List.getElem?_range (by simpa using hlt)] at hy
    simp only [Option.map_some,Option.some.injEq] at hy
    subst hy
    refine ⟨[.int i],rfl,?_⟩
    walk_at "wp"
    refine ⟨mulOk_left (Nat.lt_of_le_of_lt (show more.natAbs ≤ 2147483647 by exact z150 h0 h1) (by decide)),?_⟩
    refine c l _ _ _ (by exact z151 ha) hl ?_
    walk_at "wp"
    simp only [fmod_nn (show (0 : Int) ≤ 2147483647 by walk_at "om")]
    refine ⟨mulOk_left (by decide),by decide,?_⟩
    generalize hx : (more * 48271 + (l[(a + i).toNat]?).getD 0 + 31 * i + 1) % 2147483647 = x
    have x0 : 0 ≤ x := by rw [← hx]; exact Int.emod_nonneg _ (by decide)
    have x1 : x < 2147483647 := by rw [← hx]; exact Int.emod_lt_of_pos _ (by decide)
    have hg : (H ++ [AObj.list (cs.map AV.int)])[H.length]? = some (.list (cs.map AV.int)) := by simp
    refine ⟨isL_ref hg,?_⟩
    rw [m_append hg]
    refine ⟨by rw [List.length_map,hc.len]; unfold sizeLine; exact z152 hn hlt,?_⟩
    walk_at "wp"
    refine for_next ⟨cs ++ [x],x,some (.int i),⟨by simp [hc.len],fun c' hc'=>?_⟩,x0,x1,?_,rfl⟩
    · rcases List.mem_append.mp hc' with m | m
      · exact hc.bd c' m
      · simp at m; rw [m]; exact ⟨x0,x1⟩
    · rw [List.set_append_right _ _ (Nat.le_refl _)]; simp
  · walk_at "wp"
    have : i = n := by simpa using hi
    subst this
    exact h cs hc
end
section
open PySem
set_option maxHeartbeats 2000000
noncomputable def m_law_power : MF := ⟨3,6,
  [.asg 3 (.lst []),
  .whl (.cmp .gt (.loc 1) (.cst (.int 0))) [.expr (.meth .append (.loc 3) [.bin .mod (.loc 1) (.cst (.int 2))]),
    .asg 1 (.bin .fdiv (.loc 1) (.cst (.int 2)))],
  .asg 4 (.bin .mod (.cst (.int 1)) (.loc 2)),
  .forr false [5] .revd [.loc 3] [.asg 4 (.bin .mod (.bin .mul (.loc 4) (.loc 4)) (.loc 2)),
    .ite (.cmp .eq (.loc 5) (.cst (.int 1))) [.asg 4 (.bin .mod (.bin .mul (.loc 4) (.loc 0)) (.loc 2))] []],
  .ret (.loc 4)]⟩
noncomputable def m_law_round : MF := ⟨3,5,
  [.ite (.cmp .ne (.call "_law_power" [.loc 1,.bin .sub (.loc 0) (.cst (.int 1)),.loc 0]) (.cst (.int 1))) [.ret (.cst (.bool false))] [],
  .forr true [3,4] .plain [.loc 2] [.ite (.cmp .eq (.call "_law_power" [.loc 1,.bin .fdiv (.bin .sub (.loc 0) (.cst (.int 1))) (.loc 3),.loc 0]) (.cst (.int 1))) [.ret (.cst (.bool false))] []],
  .ret (.cst (.bool true))]⟩
noncomputable def m_law_is_prime : MF := ⟨1,2,
  [.asg 1 (.cst (.int 2)),
  .whl (.cmp .le (.bin .mul (.loc 1) (.loc 1)) (.loc 0)) [.ite (.cmp .eq (.bin .mod (.loc 0) (.loc 1)) (.cst (.int 0))) [.ret (.cst (.bool false))] [],
    .asg 1 (.bin .add (.loc 1) (.cst (.int 1)))],
  .ret (.cmp .gt (.loc 0) (.cst (.int 1)))]⟩
noncomputable def m_law_factors : MF := ⟨1,4,
  [.asg 1 (.lst []),
  .asg 2 (.cst (.int 2)),
  .whl (.cmp .gt (.loc 0) (.cst (.int 1))) [.asg 3 (.cst (.int 0)),
    .whl (.cmp .eq (.bin .mod (.loc 0) (.loc 2)) (.cst (.int 0))) [.asg 0 (.bin .fdiv (.loc 0) (.loc 2)),
      .asg 3 (.bin .add (.loc 3) (.cst (.int 1)))],
    .ite (.cmp .gt (.loc 3) (.cst (.int 0))) [.expr (.meth .append (.loc 1) [.tup [.loc 2,.loc 3]])] [],
    .asg 2 (.bin .add (.loc 2) (.cst (.int 1)))],
  .ret (.bi .tuple [.loc 1])]⟩
noncomputable def m_law_prime_row : MF := ⟨2,4,
  [.ite (.cmp .eq (.loc 0) (.cst (.int 2))) [.ret (.tup [.cst (.int 2),.cst (.str "first"),.tup []])] [],
  .asg 2 (.call "_law_factors" [.bin .sub (.loc 0) (.cst (.int 1))]),
  .asg 3 (.bin .add (.cst (.int 1)) (.bin .mod (.loc 1) (.bin .sub (.loc 0) (.cst (.int 1))))),
  .whl (.not (.call "_law_round" [.loc 0,.loc 3,.loc 2])) [.asg 3 (.bin .add (.bin .mod (.loc 3) (.bin .sub (.loc 0) (.cst (.int 1)))) (.cst (.int 1)))],
  .ret (.tup [.loc 0,.cst (.str "prime"),.tup [.loc 3,.loc 2]])]⟩
noncomputable def m_law_parted_row : MF := ⟨2,6,
  [.asg 2 (.comp false 1 (.loc 6) .range [.cst (.int 2),.loc 0] [.cmp .eq (.bin .mod (.loc 0) (.loc 6)) (.cst (.int 0))]),
  .asg 3 (.comp false 1 (.loc 6) .range [.cst (.int 2),.bin .sub (.loc 0) (.cst (.int 1))] [.cmp .eq (.bin .mod (.bin .mul (.loc 6) (.loc 6)) (.loc 0)) (.cst (.int 1))]),
  .asg 4 (.idx (.loc 2) (.bin .mod (.bin .fdiv (.loc 1) (.cst (.int 4))) (.bi .len [.loc 2]))),
  .ite (.and2 (.cmp .eq (.bin .mod (.loc 1) (.cst (.int 4))) (.cst (.int 0))) (.cmp .gt (.bi .len [.loc 3]) (.cst (.int 0)))) [.ret (.tup [.loc 0,.cst (.str "root"),.tup [.idx (.loc 3) (.bin .mod (.bin .fdiv (.loc 1) (.cst (.int 4))) (.bi .len [.loc 3]))]])] [],
  .ite (.cmp .gt (.bin .mod (.loc 1) (.cst (.int 4))) (.cst (.int 1))) [.ret (.tup [.loc 0,.cst (.str "split"),.tup [.loc 4,.bin .fdiv (.loc 0) (.loc 4)]])] [],
  .asg 5 (.bin .add (.cst (.int 1)) (.bin .mod (.bin .fdiv (.loc 1) (.cst (.int 4))) (.bin .sub (.loc 0) (.cst (.int 1))))),
  .whl (.cmp .eq (.call "_law_power" [.loc 5,.bin .sub (.loc 0) (.cst (.int 1)),.loc 0]) (.cst (.int 1))) [.asg 5 (.bin .add (.bin .mod (.loc 5) (.bin .sub (.loc 0) (.cst (.int 1)))) (.cst (.int 1)))],
  .ret (.tup [.loc 0,.cst (.str "power"),.tup [.loc 5]])]⟩
noncomputable def m_law_big_row : MF := ⟨1,5,
  [.asg 1 (.lst [.tup [.cst (.int 65537),.cst (.int 3),.tup [.tup [.cst (.int 2),.cst (.int 16)]]],.tup [.cst (.int 998244353),.cst (.int 3),.tup [.tup [.cst (.int 2),.cst (.int 23)],.tup [.cst (.int 7),.cst (.int 1)],.tup [.cst (.int 17),.cst (.int 1)]]]]),
  .asg 1 (.bin .add (.loc 1) (.lst [.tup [.cst (.int 2013265921),.cst (.int 31),.tup [.tup [.cst (.int 2),.cst (.int 27)],.tup [.cst (.int 3),.cst (.int 1)],.tup [.cst (.int 5),.cst (.int 1)]]],.tup [.cst (.int 4179340454199820289),.cst (.int 3),.tup [.tup [.cst (.int 2),.cst (.int 57)],.tup [.cst (.int 29),.cst (.int 1)]]]])),
  .asgT [2,3,4] (.idx (.loc 1) (.bin .mod (.loc 0) (.cst (.int 4)))),
  .asg 3 (.call "_law_power" [.loc 3,.idx (.lst [.cst (.int 1),.cst (.int 11),.cst (.int 13),.cst (.int 19),.cst (.int 23)]) (.bin .mod (.bin .fdiv (.loc 0) (.cst (.int 4))) (.cst (.int 5))),.loc 2]),
  .ret (.tup [.loc 2,.cst (.str "prime"),.tup [.loc 3,.loc 4]])]⟩
noncomputable def m_law_great_row : MF := ⟨2,4,
  [.asg 2 (.bin .add (.cst (.int 2)) (.bin .mod (.bin .add (.bin .mul (.loc 0) (.cst (.int 2147483647))) (.loc 1)) (.bin .pow (.cst (.int 10)) (.cst (.int 15))))),
  .asg 3 (.bin .add (.cst (.int 2)) (.bin .mod (.bin .add (.bin .mul (.loc 1) (.cst (.int 2147483647))) (.loc 0)) (.bin .sub (.bin .pow (.cst (.int 10)) (.cst (.int 15))) (.cst (.int 9))))),
  .ite (.cmp .eq (.bin .mod (.loc 0) (.cst (.int 3))) (.cst (.int 0))) [.ret (.tup [.bin .mul (.loc 2) (.loc 3),.cst (.str "split"),.tup [.loc 2,.loc 3]])] [],
  .ite (.cmp .eq (.bin .mod (.loc 0) (.cst (.int 3))) (.cst (.int 1))) [.ret (.tup [.bin .mul (.loc 2) (.loc 3),.cst (.str "power"),.tup [.loc 2]])] [],
  .ret (.tup [.bin .sub (.bin .mul (.bin .add (.loc 3) (.cst (.int 1))) (.bin .add (.loc 3) (.cst (.int 1)))) (.cst (.int 1)),.cst (.str "root"),.tup [.bin .add (.loc 3) (.cst (.int 1))]])]⟩
noncomputable def m_law_needs : MF := ⟨1,1,
  [.ite (.cmp .eq (.idx (.loc 0) (.cst (.int 1))) (.cst (.str "prime"))) [.ret (.comp true 2 (.loc 1) .plain [.idx (.idx (.loc 0) (.cst (.int 2))) (.cst (.int 1))] [])] [],
  .ret (.lst [])]⟩
noncomputable def m_law_closed : MF := ⟨3,5,
  [.whl (.cmp .gt (.bi .len [.loc 1]) (.cst (.int 0))) [.asg 3 (.meth .pop (.loc 1) []),
    .ite (.cmp .notIn (.loc 3) (.loc 0)) [.asg 4 (.idx (.loc 2) (.bin .mod (.bin .add (.loc 3) (.bi .len [.loc 0])) (.bi .len [.loc 2]))),
      .ite (.call "_law_is_prime" [.loc 3]) [.sto (.loc 0) (.loc 3) (.call "_law_prime_row" [.loc 3,.loc 4])] [.sto (.loc 0) (.loc 3) (.call "_law_parted_row" [.loc 3,.loc 4])],
      .expr (.meth .extend (.loc 1) [.call "_law_needs" [.idx (.loc 0) (.loc 3)]])] []],
  .ret (.comp false 1 (.idx (.loc 0) (.loc 5)) .plain [.bi .sorted [.loc 0]] [])]⟩
noncomputable def m_law_rows_by : MF := ⟨1,4,
  [.asg 1 (.dic0),
  .asg 2 (.comp false 1 (.bin .add (.cst (.int 2)) (.bin .mod (.bin .fdiv (.idx (.loc 0) (.loc 4)) (.cst (.int 6))) (.idx (.lst [.cst (.int 40),.cst (.int 398)]) (.bin .mod (.bin .fdiv (.idx (.loc 0) (.loc 4)) (.cst (.int 2400))) (.cst (.int 2)))))) .range [.bin .add (.cst (.int 1)) (.bin .mod (.idx (.loc 0) (.cst (.int 0))) (.cst (.int 5)))] []),
  .ite (.cmp .eq (.bin .mod (.idx (.loc 0) (.cst (.int 6))) (.cst (.int 4))) (.cst (.int 1))) [.asg 3 (.call "_law_big_row" [.bin .fdiv (.idx (.loc 0) (.cst (.int 6))) (.cst (.int 4))]),
    .sto (.loc 1) (.idx (.loc 3) (.cst (.int 0))) (.loc 3),
    .expr (.meth .extend (.loc 2) [.call "_law_needs" [.loc 3]])] [],
  .ite (.cmp .eq (.bin .mod (.idx (.loc 0) (.cst (.int 7))) (.cst (.int 4))) (.cst (.int 1))) [.asg 3 (.call "_law_great_row" [.idx (.loc 0) (.cst (.int 7)),.idx (.loc 0) (.cst (.int 5))]),
    .sto (.loc 1) (.idx (.loc 3) (.cst (.int 0))) (.loc 3)] [],
  .ret (.call "_law_closed" [.loc 1,.loc 2,.loc 0])]⟩
theorem at_new {H : Hp} {o : AObj} : (H ++ [o])[H.length]? = some o := by simp
theorem pre_new {H : Hp} {t : Hp} : H <+: H ++ t := List.prefix_append _ _
theorem pre_set {H H' : Hp} {i : Nat} {o : AObj} (p : H <+: H') (h : H.length ≤ i) : H <+: H'.set i o := by
  obtain ⟨t,rfl⟩ := p
  rw [List.set_append_right _ _ h]; exact List.prefix_append _ _
theorem pre_at {H H' : Hp} {i : Nat} {o : AObj} (p : H <+: H') (h : H[i]? = some o) : H'[i]? = some o := by
  obtain ⟨t,rfl⟩ := p
  rw [List.getElem?_append_left (List.getElem?_eq_some_iff.mp h).1]; exact h
theorem szL {n : Nat} (h : n ≤ 1000) : n ≤ sizeLine := by unfold sizeLine; exact z153 h
theorem szB {n : Nat} (h : n ≤ 100000) : n ≤ sizeLine := by unfold sizeLine; exact z154 h
noncomputable def hv (l : List Int) (a : Nat) : Nat := l.foldl (fun a x=>2 * a + x.toNat) a
theorem hv_snoc (l : List Int) (x : Int) (a : Nat) : hv (l ++ [x]) a = 2 * hv l a + x.toNat := by simp [hv,List.foldl_append]
theorem hv_cons (l : List Int) (x : Int) (a : Nat) : hv (x :: l) a = hv l (2 * a + x.toNat) := rfl
noncomputable def SPower (Φ : Fun) : Prop := ∀ (b e m : Int) (H : Hp) (Q : PQ),b.natAbs < 2 ^ 200 → 0 ≤ e → e < 10 ^ 32 → 1 ≤ m → m ≤ 10 ^ 32 → Q (.int (pw b e m)) H → Φ "_law_power" [.int b,.int e,.int m] H Q
theorem power {Φ : Fun} {b e m : Int} {H : Hp} {Q : PQ} (hb : b.natAbs < 2 ^ 200) (e0 : 0 ≤ e) (e1 : e < 10 ^ 32) (m0 : 1 ≤ m) (m1 : m ≤ 10 ^ 32) (h : ∀ H',H <+: H' → Q (.int (pw b e m)) H') : wpF Φ m_law_power [.int b,.int e,.int m] H Q := by
  ((refine ⟨rfl,?_⟩; simp only [lst,Nat.reduceSub,Nat.sub_self,List.replicate]))
  simp only [m_law_power]
  walk_at "go"
  refine s_whl (fun n loc H'=>∃ (bs : List Int),loc = [some (.int b),some (.int n),some (.int m),some (.ref H.length),none,none] ∧ H' = H ++ [.list (bs.map .int)] ∧ (∀ x ∈ bs,x = 0 ∨ x = 1) ∧ hv bs.reverse n = e.toNat ∧ n * 2 ^ bs.length ≤ e.toNat) e.toNat ⟨[],by rw [Int.toNat_of_nonneg e0],rfl,(fun x hx=>by cases hx),rfl,by simp⟩ ?_
  rintro n loc H' ⟨bs,rfl,rfl,h01,hh,hle⟩
  walk_at "wp"
  have hg : (H ++ [AObj.list (bs.map AV.int)])[H.length]? = some (.list (bs.map AV.int)) := at_new
  refine sp_d (fun hn=>?_) (fun hn=>?_)
  · walk_at "go"
    have hl : bs.length ≤ 200 := by
      rcases Nat.lt_or_ge bs.length 200 with h | h
      · exact Nat.le_of_succ_le h
      · exfalso
        have h1 : 2 ^ 200 ≤ 2 ^ bs.length := Nat.pow_le_pow_right (by decide) h
        have h2 : 2 ^ bs.length ≤ n * 2 ^ bs.length := Nat.le_mul_of_pos_left _ (by exact Int.natCast_pos.mp hn)
        have h3 : e.toNat < 10 ^ 32 := by exact z155 e1
        have h4 : (10 : Nat) ^ 32 < 2 ^ 200 := by decide
        exact z156 hle h1 h2 h3
    refine ⟨isL_ref hg,?_⟩
    walk_at "go"
    rw [m_append hg]
    refine ⟨szL (by simp; exact z157 hl),?_⟩
    walk_at "go"
    (simp only [fmod_nn,fdiv_nn,Int.reduceLE])
    refine whl_next (n / 2) (by exact z143 hn) ⟨bs ++ [(n : Int) % 2],by rw [show ((n : Int) / 2) = ((n / 2 : Nat) : Int) by exact z142],?_,fun x hx=>?_,?_,?_⟩
    · rw [List.set_append_right _ _ (Nat.le_refl _)]; simp
    · rcases List.mem_append.mp hx with hx | hx
      · exact h01 x hx
      · rw [List.mem_singleton.mp hx]; exact z158
    · rw [List.reverse_append,List.reverse_singleton,List.singleton_append,hv_cons,← hh]
      congr 1; exact z159
    · rw [List.length_append,List.length_singleton,Nat.pow_succ]
      have : n / 2 * (2 ^ bs.length * 2) = (n / 2 * 2) * 2 ^ bs.length := by rw [Nat.mul_comm (2 ^ bs.length) 2,Nat.mul_assoc]
      rw [this]
      exact Nat.le_trans (Nat.mul_le_mul_right _ (by exact z160)) hle
  · walk_at "wp"
    have n0 : n = 0 := by exact z146 hn
    subst n0
    refine ⟨by exact Ne.symm (Int.ne_of_lt m0),?_⟩
    rw [r_rev hg]
    simp only [fmod_nn (show (0 : Int) ≤ m by exact Int.le_of_lt m0)]
    have key : ∀ (a : Nat) (x : Int),x = 0 ∨ x = 1 → (if x = 1 then (b ^ a % m * (b ^ a % m) % m) * b % m else b ^ a % m * (b ^ a % m) % m) = b ^ (2 * a + x.toNat) % m := by
      intro a x hx
      have h2 : b ^ a % m * (b ^ a % m) % m = b ^ (2 * a) % m := by rw [← Int.mul_emod,← Int.pow_add]; congr 2; exact z161
      rcases hx with rfl | rfl
      · rw [if_neg (by decide),h2]; rfl
      · rw [if_pos rfl,h2,Int.mul_emod,Int.emod_emod_of_dvd _ (Int.dvd_refl m),← Int.mul_emod,← Int.pow_succ]; rfl
    refine for_intro (fun i loc H'=>∃ (f : Int) (o : Option AV),H' = H ++ [AObj.list (bs.map .int)] ∧ 0 ≤ f ∧ f < m ∧ f = b ^ hv (bs.reverse.take i) 0 % m ∧ loc = [some (.int b),some (.int 0),some (.int m),some (.ref H.length),some (.int f),o]) ⟨1 % m,none,rfl,Int.emod_nonneg _ (by exact Ne.symm (Int.ne_of_lt m0)),Int.emod_lt_of_pos _ (by exact Int.lt_of_add_one_le m0),by simp [hv],rfl⟩ ?_
    rintro i loc H' ⟨f,o,rfl,f0,f1,hf,rfl⟩
    refine ⟨hg,fun y hy=>?_,fun hi=>?_⟩
    · rw [← List.map_reverse,List.getElem?_map] at hy
      obtain ⟨x,hx,rfl⟩ := Option.map_eq_some_iff.mp hy
      have x01 : x = 0 ∨ x = 1 := h01 x (by have := List.mem_of_getElem? hx; simpa using this)
      have ht : bs.reverse.take (i + 1) = bs.reverse.take i ++ [x] := by rw [List.take_add_one,hx]; rfl
      have kf : f.natAbs < 2 ^ 200 := natAbs_lt f0 f1 m1
      have ff0 := Int.emod_nonneg (f * f) (show m ≠ 0 by exact z144 f0 f1)
      have ff1 := Int.emod_lt_of_pos (f * f) (show 0 < m by exact Int.lt_of_le_of_lt f0 f1)
      have kff : (f * f % m).natAbs < 2 ^ 200 := natAbs_lt ff0 ff1 m1
      have kk := key (hv (bs.reverse.take i) 0) x x01
      rw [← hf] at kk
      refine ⟨[.int x],rfl,?_⟩
      walk_at "wp"
      refine ⟨mulOk_200 kf kf,by exact z144 ff0 ff1,?_⟩
      simp only [fmod_nn (show (0 : Int) ≤ m by exact z145 ff0 ff1)]
      refine sp_d (fun h1=>?_) (fun h1=>?_)
      · walk_at "wp"
        refine ⟨mulOk_200 kff hb,by exact z144 ff0 ff1,?_⟩
        simp only [fmod_nn (show (0 : Int) ≤ m by exact z145 ff0 ff1)]
        rw [if_pos h1] at kk
        exact for_next ⟨_,_,rfl,Int.emod_nonneg _ (by exact z144 ff0 ff1),Int.emod_lt_of_pos _ (by exact Int.lt_of_le_of_lt ff0 ff1),by rw [ht,hv_snoc]; exact kk,rfl⟩
      · walk_at "wp"
        rw [if_neg h1] at kk
        exact for_next ⟨_,_,rfl,ff0,ff1,by rw [ht,hv_snoc]; exact kk,rfl⟩
    · walk_at "wp"
      have hl : bs.reverse.take i = bs.reverse := List.take_of_length_le (by rw [hi]; simp)
      rw [hl,hh] at hf
      rw [hf]
      exact h _ pre_new
noncomputable def prAV (p : Int × Int) : AV := .tup [.int p.1,.int p.2]
noncomputable def psT (ps : List (Int × Int)) : AV := .tup (ps.map prAV)
noncomputable def roundB (n b : Int) (ps : List (Int × Int)) : Bool := decide (pw b (n - 1) n = 1) && ps.all fun p=>!decide (pw b ((n - 1) / p.1) n = 1)
noncomputable def SRound (Φ : Fun) : Prop := ∀ (n b : Int) (ps : List (Int × Int)) (H : Hp) (Q : PQ),2 ≤ n → n ≤ 10 ^ 32 → b.natAbs < 2 ^ 200 → (∀ p ∈ ps,1 ≤ p.1 ∧ p.1.natAbs < 2 ^ 200) → Q (.bool (roundB n b ps)) H → Φ "_law_round" [.int n,.int b,psT ps] H Q
theorem round {Φ : Fun} (c : SPower Φ) {n b : Int} {ps : List (Int × Int)} {H : Hp} {Q : PQ} (n0 : 2 ≤ n) (n1 : n ≤ 10 ^ 32) (hb : b.natAbs < 2 ^ 200) (hp : ∀ p ∈ ps,1 ≤ p.1 ∧ p.1.natAbs < 2 ^ 200) (h : Q (.bool (roundB n b ps)) H) : wpF Φ m_law_round [.int n,.int b,psT ps] H Q := by
  unfold psT
  ((refine ⟨rfl,?_⟩; simp only [lst,Nat.reduceSub,Nat.sub_self,List.replicate]))
  simp only [m_law_round]
  walk_at "wp"
  refine c b (n - 1) n H _ hb (by exact z162 n0) (by exact Int.sub_one_lt_of_le n1) (by exact Int.le_of_lt n0) n1 ?_
  walk_at "wp"
  refine sp_n (fun h1=>?_) (fun h1=>?_)
  · walk_at "wp"
    rw [show roundB n b ps = false by simp [roundB,h1]] at h; exact h
  walk_at "wp"
  have hr : roundB n b ps = ps.all fun p=>!decide (pw b ((n - 1) / p.1) n = 1) := by simp [roundB,h1]
  rw [hr] at h
  refine for_intro (fun i loc H'=>H' = H ∧ (∃ o1 o2,loc = [some (.int n),some (.int b),some (.tup (ps.map prAV)),o1,o2]) ∧ (ps.drop i).all (fun p=>!decide (pw b ((n - 1) / p.1) n = 1)) = ps.all fun p=>!decide (pw b ((n - 1) / p.1) n = 1)) ⟨rfl,⟨none,none,rfl⟩,by simp⟩ ?_
  rintro i loc H' ⟨rfl,⟨o1,o2,rfl⟩,hd⟩
  refine ⟨trivial,fun y hy=>?_,fun hi=>?_⟩
  · rw [List.getElem?_map] at hy
    obtain ⟨p,hpp,rfl⟩ := Option.map_eq_some_iff.mp hy
    obtain ⟨hlt,e⟩ := List.getElem?_eq_some_iff.mp hpp
    have hpm := hp p (List.mem_of_getElem? hpp)
    rw [List.drop_eq_getElem_cons hlt,e,List.all_cons] at hd
    refine ⟨[.int p.1,.int p.2],rfl,?_⟩
    walk_at "wp"
    refine ⟨by exact z163 hpm,noPy200 hpm.2,?_⟩
    simp only [fdiv_nn (show (0 : Int) ≤ p.1 by exact z164 hpm)]
    have d0 : 0 ≤ (n - 1) / p.1 := Int.ediv_nonneg (by exact z162 n0) (by exact z164 hpm)
    have d1 : (n - 1) / p.1 ≤ n - 1 := Int.ediv_le_self _ (by exact z162 n0)
    refine c b ((n - 1) / p.1) n H' _ hb d0 (by exact z165 n1 d1) (by exact z166 d0 d1) n1 ?_
    walk_at "wp"
    refine sp_d (fun h2=>?_) (fun h2=>?_)
    · walk_at "wp"
      rw [show (!decide (pw b ((n - 1) / p.1) n = 1)) = false by simp [h2],Bool.false_and] at hd
      rw [← hd] at h; exact h
    · walk_at "wp"
      rw [show (!decide (pw b ((n - 1) / p.1) n = 1)) = true by simp [h2],Bool.true_and] at hd
      exact for_next ⟨rfl,⟨_,_,rfl⟩,hd⟩
  · walk_at "wp"
    have : ps.drop i = [] := by rw [hi]; simp
    rw [this] at hd
    rw [← hd] at h; exact h
end
section
open PySem
set_option maxHeartbeats 2000000
noncomputable def isPB (n : Nat) : Bool := decide (1 < n) && (List.range n).all fun d=>decide (d < 2) || !decide (n % d = 0)
theorem isPB_false {n d : Nat} (d2 : 2 ≤ d) (dn : d < n) (h : n % d = 0) : isPB n = false := by
  cases e : isPB n with
  | false=>rfl
  | true =>
    simp only [isPB,Bool.and_eq_true,List.all_eq_true,List.mem_range,Bool.or_eq_true,decide_eq_true_eq,Bool.not_eq_true',decide_eq_false_iff_not] at e
    rcases e.2 d dn with h1 | h1
    · (first | lia | omega)
    · exact absurd h h1
theorem isPB_true {n : Nat} (n1 : 1 < n) (h : ∀ d,2 ≤ d → d < n → n % d ≠ 0) : isPB n = true := by
  simp only [isPB,Bool.and_eq_true,List.all_eq_true,List.mem_range,Bool.or_eq_true,decide_eq_true_eq,Bool.not_eq_true',decide_eq_false_iff_not]
  refine ⟨n1,fun d hd=>?_⟩
  rcases Nat.lt_or_ge d 2 with h1 | h1
  · exact .inl h1
  · exact .inr (h d h1 hd)
theorem isPB_no {n : Nat} (n2 : 2 ≤ n) (h : isPB n = false) : ∃ d,2 ≤ d ∧ d < n ∧ n % d = 0 := by
  apply Classical.byContradiction
  intro hc
  have : isPB n = true := isPB_true (by exact Nat.lt_of_succ_le n2) fun d h1 h2 h3=>hc ⟨d,h1,h2,h3⟩
  rw [this] at h; cases h
noncomputable def SIsP (Φ : Fun) : Prop := ∀ (n : Nat) (H : Hp) (Q : PQ),2 ≤ n → n ≤ 1000000 → Q (.bool (isPB n)) H → Φ "_law_is_prime" [.int n] H Q
theorem is_prime {Φ : Fun} {n : Nat} {H : Hp} {Q : PQ} (n2 : 2 ≤ n) (n6 : n ≤ 1000000) (h : Q (.bool (isPB n)) H) : wpF Φ m_law_is_prime [.int n] H Q := by
  ((refine ⟨rfl,?_⟩; simp only [lst,Nat.reduceSub,Nat.sub_self,List.replicate]))
  simp only [m_law_is_prime]
  walk_at "wp"
  refine s_whl (fun k loc H'=>∃ a : Nat,k = n - a ∧ 2 ≤ a ∧ a ≤ n ∧ H' = H ∧ loc = [some (.int n),some (.int a)] ∧ ∀ d,2 ≤ d → d < a → n % d ≠ 0) (n - 2) ⟨2,rfl,by walk_at "om",by walk_at "om",rfl,rfl,fun d h1 h2=>by exact z167 h1 h2⟩ ?_
  rintro k loc H' ⟨a,rfl,a2,an,rfl,rfl,hd⟩
  walk_at "wp"
  refine ⟨mulOk_left (by exact z168 n6 an),?_⟩
  refine sp_d (fun hle=>?_) (fun hle=>?_)
  · have hle' : a * a ≤ n := by
      have : ((a * a : Nat) : Int) ≤ n := by rw [Int.natCast_mul]; exact hle
      exact Int.ofNat_le.mp this
    have han : a < n := by
      have : 2 * a ≤ a * a := Nat.mul_le_mul_right _ a2
      exact z169 a2 hle' this
    walk_at "wp"
    refine ⟨by exact z170 a2,?_⟩
    simp only [fmod_nn (show (0 : Int) ≤ a by exact z171)]
    refine sp_d (fun h0=>?_) (fun h0=>?_)
    · walk_at "wp"
      rw [isPB_false a2 han (by walk_at "om")] at h; exact h
    · walk_at "wp"
      refine whl_next (n - (a + 1)) (by exact z172 han) ⟨a + 1,rfl,by exact Nat.le_add_right_of_le a2,by exact Nat.succ_le_of_lt han,rfl,rfl,fun d h1 h2=>?_⟩
      rcases Nat.lt_or_ge d a with h3 | h3
      · exact hd d h1 h3
      · have : d = a := by exact Nat.eq_of_le_of_lt_succ h3 h2
        subst this
        (first | lia | omega)
  · walk_at "wp"
    have hgt : n < a * a := by
      have : ¬ ((a * a : Nat) : Int) ≤ n := by rw [Int.natCast_mul]; exact hle
      exact z173 this
    rw [isPB_true (by exact Nat.lt_of_lt_of_le a2 an) (fun d d2 dn h0=>?_)] at h
    · rw [show decide ((1 : Int) < n) = true by simp; exact z174 a2 an]; exact h
    · rcases Nat.lt_or_ge d a with h3 | h3
      · exact hd d d2 h3 h0
      · have e1 : n = d * (n / d) := (Nat.mul_div_cancel' (Nat.dvd_of_mod_eq_zero h0)).symm
        have q2 : 2 ≤ n / d := by
          rcases Nat.lt_or_ge (n / d) 2 with h4 | h4
          · have : d * (n / d) ≤ d * 1 := Nat.mul_le_mul_left _ (by exact Nat.le_of_lt_succ h4)
            exact z175 dn e1 this
          · exact h4
        have qa : n / d < a := by
          rcases Nat.lt_or_ge (n / d) a with h4 | h4
          · exact h4
          · have : a * a ≤ d * (n / d) := Nat.mul_le_mul h3 h4
            exact z176 hgt e1 this
        refine hd (n / d) q2 qa ?_
        exact Nat.mod_eq_zero_of_dvd ⟨d,by rw [Nat.mul_comm]; exact e1⟩
noncomputable def strip : Nat → Nat → Nat → Nat × Nat
  | 0,m,_=>(m,0)
  | k + 1,m,a=>if m % a = 0 then ((strip k (m / a) a).1,(strip k (m / a) a).2 + 1) else (m,0)
noncomputable def facL : Nat → Nat → Nat → List (Int × Int)
  | 0,_,_=>[]
  | k + 1,m,a=>if m ≤ 1 then [] else if 0 < (strip m m a).2 then ((a : Int),((strip m m a).2 : Int)) :: facL k (strip m m a).1 (a + 1) else facL k (strip m m a).1 (a + 1)
noncomputable def facF (n : Nat) : List (Int × Int) := facL n n 2
theorem strip_facts {a : Nat} (a2 : 2 ≤ a) : ∀ (k m : Nat),1 ≤ m → m ≤ k → 1 ≤ (strip k m a).1 ∧ (strip k m a).1 % a ≠ 0 ∧ (strip k m a).1 ∣ m ∧ (strip k m a).1 ≤ m
  | 0,m,h1,h2=>by (first | lia | omega)
  | k + 1,m,h1,h2=>by
    unfold strip
    split
    · rename_i h0
      have hq : 1 ≤ m / a := by
        have := Nat.le_of_dvd h1 (Nat.dvd_of_mod_eq_zero h0)
        exact (Nat.le_div_iff_mul_le (by exact Nat.zero_lt_of_lt a2)).mpr (by exact z177 this)
      have hlt : m / a < m := Nat.div_lt_self h1 a2
      obtain ⟨g1,g2,g3,g4⟩ := strip_facts a2 k (m / a) hq (by exact z178 h2 hlt)
      exact ⟨g1,g2,Nat.dvd_trans g3 (Nat.div_dvd_of_dvd (Nat.dvd_of_mod_eq_zero h0)),by show _ ≤ m; (first | lia | omega)⟩
    · rename_i h0
      exact ⟨h1,h0,Nat.dvd_refl _,Nat.le_refl _⟩
theorem strip_step {k m a : Nat} (h : m % a = 0) : strip (k + 1) m a = ((strip k (m / a) a).1,(strip k (m / a) a).2 + 1) := if_pos h
noncomputable def SFact (Φ : Fun) : Prop := ∀ (n : Nat) (H : Hp) (Q : PQ),1 ≤ n → n ≤ 20000 → Q (psT (facF n)) H → Φ "_law_factors" [.int n] H Q
theorem factors {Φ : Fun} {n : Nat} {H : Hp} {Q : PQ} (n1 : 1 ≤ n) (n5 : n ≤ 20000) (h : ∀ H',H <+: H' → Q (psT (facF n)) H') : wpF Φ m_law_factors [.int n] H Q := by
  ((refine ⟨rfl,?_⟩; simp only [lst,Nat.reduceSub,Nat.sub_self,List.replicate]))
  simp only [m_law_factors]
  walk_at "go"
  refine s_whl (fun k loc H'=>∃ (m a : Nat) (fs : List (Int × Int)) (o : Option AV),loc = [some (.int m),some (.ref H.length),some (.int a),o] ∧ H' = H ++ [.list (fs.map prAV)] ∧ 1 ≤ m ∧ m ≤ n ∧ 2 ≤ a ∧ (∀ d,2 ≤ d → d < a → m % d ≠ 0) ∧ n + 2 = k + a ∧ fs ++ facL k m a = facF n ∧ fs.length + 2 ≤ a) n ⟨n,2,[],none,rfl,rfl,n1,Nat.le_refl _,Nat.le_refl _,(fun d h1 h2=>by exact z167 h1 h2),rfl,rfl,Nat.le_refl _⟩ ?_
  rintro k loc H' ⟨m,a,fs,o,rfl,rfl,m1,mn,a2,hd,hk,hf,hfl⟩
  walk_at "wp"
  refine sp_d (fun hm=>?_) (fun hm=>?_)
  · have ham : a ≤ m := by
      rcases Nat.lt_or_ge m a with h1 | h1
      · exact absurd (Nat.mod_self m) (hd m (by exact Int.ofNat_le.mp hm) h1)
      · exact h1
    obtain ⟨j,rfl⟩ : ∃ j,k = j + 1 := ⟨k - 1,by exact z179 mn hk ham⟩
    obtain ⟨s1,s2,s3,s4⟩ := strip_facts a2 m m m1 (Nat.le_refl _)
    unfold facL at hf
    rw [if_neg (by exact z180 hm)] at hf
    walk_at "wp"
    refine s_whl (fun i loc H'=>∃ (m' t : Nat),loc = [some (.int m'),some (.ref H.length),some (.int a),some (.int t)] ∧ H' = H ++ [.list (fs.map prAV)] ∧ 1 ≤ m' ∧ m' ≤ i ∧ i ≤ m ∧ t + i ≤ m ∧ (strip i m' a).1 = (strip m m a).1 ∧ (strip i m' a).2 + t = (strip m m a).2) m ⟨m,0,rfl,rfl,m1,Nat.le_refl _,Nat.le_refl _,by exact z181,rfl,by exact z182⟩ ?_
    rintro i loc H' ⟨m',t,rfl,rfl,m1',mi,im,ti,e1,e2⟩
    walk_at "wp"
    refine ⟨by exact z183 hfl,?_⟩
    simp only [fmod_nn (show (0 : Int) ≤ a by exact z171)]
    refine sp_d (fun h0=>?_) (fun h0=>?_)
    · have h0' : m' % a = 0 := by (first | lia | omega)
      obtain ⟨i',rfl⟩ : ∃ j,i = j + 1 := ⟨i - 1,by exact z184 m1' mi⟩
      rw [strip_step h0'] at e1 e2
      have hq : 1 ≤ m' / a := by
        have := Nat.le_of_dvd m1' (Nat.dvd_of_mod_eq_zero h0')
        exact (Nat.le_div_iff_mul_le (by exact Nat.zero_lt_of_lt hfl)).mpr (by exact z177 this)
      have hlt : m' / a < m' := Nat.div_lt_self m1' a2
      walk_at "wp"
      refine ⟨by exact z183 hfl,noPyS (by exact z185 n5 hk),?_⟩
      simp only [fdiv_nn (show (0 : Int) ≤ a by exact z171)]
      exact whl_next i' (by exact z186) ⟨m' / a,t + 1,by rw [Int.natCast_ediv]; rfl,rfl,hq,by exact z178 mi hlt,by exact z187 ti,by exact z188 ti,e1,by simp only at e2; exact z189 e2⟩
    · have h0' : m' % a ≠ 0 := by (first | lia | omega)
      have e3 : strip i m' a = (m',0) := by
        cases i with
        | zero=>rfl
        | succ i=>unfold strip; rw [if_neg h0']
      rw [e3] at e1 e2
      simp only at e1 e2
      have hs : strip m m a = (m',t) := by
        apply Prod.ext
        · exact e1.symm
        · simp only; exact z190 e2
      rw [hs] at hf s1 s2 s3 s4
      simp only at hf s1 s2 s3 s4
      have hg : (H ++ [AObj.list (fs.map prAV)])[H.length]? = some (.list (fs.map prAV)) := at_new
      have hd' : ∀ d,2 ≤ d → d < a + 1 → m' % d ≠ 0 := by
        intro d h1 h2 h3
        rcases Nat.lt_or_ge d a with h4 | h4
        · refine hd d h1 h4 (Nat.mod_eq_zero_of_dvd (Nat.dvd_trans (Nat.dvd_of_mod_eq_zero h3) s3))
        · have : d = a := by exact Nat.eq_of_le_of_lt_succ h4 h2
          subst this; exact s2 h3
      walk_at "wp"
      refine sp_d (fun ht=>?_) (fun ht=>?_)
      · rw [if_pos (by exact Int.natCast_pos.mp ht)] at hf
        walk_at "wp"
        refine ⟨isL_ref hg,by walk_at "sd",?_⟩
        rw [m_append hg]
        refine ⟨szB (by simp; exact z191 n5 hfl hk),?_⟩
        walk_at "wp"
        refine whl_next j (by exact z186) ⟨m',a + 1,fs ++ [((a : Int),(t : Int))],_,rfl,?_,s1,by exact Nat.le_trans s4 mn,by exact z192 hfl,hd',by exact z193 hk,by rw [List.append_assoc]; exact hf,by simp; exact z194 hfl⟩
        rw [List.set_append_right _ _ (Nat.le_refl _)]; simp [prAV]
      · rw [if_neg (by exact z195 ht)] at hf
        walk_at "wp"
        exact whl_next j (by exact z186) ⟨m',a + 1,fs,_,rfl,rfl,s1,by exact Nat.le_trans s4 mn,by exact z192 hfl,hd',by exact z193 hk,hf,by exact Nat.le_add_right_of_le hfl⟩
  · walk_at "wp"
    have hm1 : m = 1 := by exact z196 m1 hm
    subst hm1
    have e : facL k 1 a = [] := by
      cases k with
      | zero=>rfl
      | succ k=>unfold facL; rw [if_pos (Nat.le_refl _)]
    rw [e,List.append_nil] at hf
    rw [t_list at_new]
    refine ⟨szB ?_,?_⟩
    · have : facL k 1 a = [] := e
      simp
      rcases Nat.lt_or_ge a 900 with h1 | h1
      · exact z197 n5 hk hfl
      · exact z197 n5 hk hfl
    · walk_at "wp"
      rw [hf]
      exact h _ pre_new
end
section
open PySem
set_option maxHeartbeats 2000000
theorem idx_any {H : Hp} {Q : PQ} {i : Nat} {l : List AV} {k : Int} (h : H[i]? = some (.list l)) (hn : l.length ≤ 1000) (h0 : 0 ≤ k) (h1 : k < l.length) (q : ∀ z ∈ l,Q z H) : wpIdx (.ref i) (.int k) H Q := by
  rw [i_list h]
  exact ⟨by exact z198 hn,k.toNat,l[k.toNat]'(by exact (Int.toNat_lt h0).mpr h1),place_nn h0 h1,List.getElem?_eq_getElem _,q _ (List.getElem_mem _)⟩
theorem cel_at {H : Hp} {Q : PQ} {i n : Nat} {cs : List Int} {k : Int} (h : H[i]? = some (.list (cs.map .int))) (hc : Cells cs n) (hn : n ≤ 1000) (h0 : 0 ≤ k) (h1 : k < n) (q : ∀ c,0 ≤ c → c < 4294967296 → Q (.int c) H) : wpIdx (.ref i) (.int k) H Q := by
  have hl := hc.len
  refine idx_any h (by simp; exact z199 hn hl) h0 (by (first | exact Int.emod_lt_of_pos _ (by decide) | (simp; exact lt_of_lt_of_eq h1 (congrArg Nat.cast (id (Eq.symm hl)))))) fun z hz=>?_
  obtain ⟨c,h1,rfl⟩ := List.mem_map.mp hz
  exact q c (hc.bd c h1).1 (hc.bd c h1).2
theorem len_at {H : Hp} {Q : PQ} {i : Nat} {l : List AV} (h : H[i]? = some (.list l)) (hn : l.length ≤ 1000) (q : Q (.int l.length) H) : wpBi .len [.ref i] H Q := by
  rw [l_list h]; exact ⟨by exact z198 hn,q⟩
noncomputable def prodI : List (Int × Int) → Int
  | []=>1
  | p :: r=>p.1 ^ p.2.toNat * prodI r
theorem prodI_app (a b : List (Int × Int)) : prodI (a ++ b) = prodI a * prodI b := by
  induction a with
  | nil=>simp [prodI]
  | cons p r ih=>simp only [List.cons_append,prodI,ih,Int.mul_assoc]
theorem pow_pos' {q : Int} (h : 1 ≤ q) (n : Nat) : 1 ≤ q ^ n := by
  induction n with
  | zero=>simp
  | succ n ih =>
    rw [Int.pow_succ]
    have := Int.mul_le_mul ih h (by decide) (by exact Int.le_of_lt ih)
    simpa using this
theorem pow_mono' {q : Int} (h : 1 ≤ q) {a b : Nat} (hab : a ≤ b) : q ^ a ≤ q ^ b := by
  obtain ⟨c,rfl⟩ := Nat.exists_eq_add_of_le hab
  rw [Int.pow_add]
  have h1 := pow_pos' h a
  have := Int.mul_le_mul (Int.le_refl (q ^ a)) (pow_pos' h c) (by decide) (by exact Int.le_of_lt h1)
  simpa using this
theorem prodI_pos {ps : List (Int × Int)} (h : ∀ p ∈ ps,1 ≤ p.1) : 1 ≤ prodI ps := by
  induction ps with
  | nil=>decide
  | cons p r ih =>
    have h1 := pow_pos' (h p (List.mem_cons_self ..)) p.2.toNat
    have h2 := ih fun x hx=>h x (List.mem_cons_of_mem _ hx)
    have := Int.mul_le_mul h1 h2 (by decide) (by exact Int.le_of_lt h1)
    simpa [prodI] using this
theorem prod_at {ps : List (Int × Int)} {i : Nat} {p : Int × Int} (h : ps[i]? = some p) : prodI ps = prodI (ps.take i) * (p.1 ^ p.2.toNat * prodI (ps.drop (i + 1))) := by
  obtain ⟨hi,e⟩ := List.getElem?_eq_some_iff.mp h
  conv=>lhs; rw [← List.take_append_drop i ps,prodI_app,List.drop_eq_getElem_cons hi,e]
  rfl
theorem prod_take {ps : List (Int × Int)} {i : Nat} {p : Int × Int} (h : ps[i]? = some p) : prodI (ps.take (i + 1)) = prodI (ps.take i) * p.1 ^ p.2.toNat := by
  rw [List.take_add_one,h,prodI_app]
  simp [prodI]
theorem prod_le {ps : List (Int × Int)} (hp : ∀ p ∈ ps,1 ≤ p.1) {i j : Nat} {p : Int × Int} (h : ps[i]? = some p) (hj : j ≤ p.2.toNat) : prodI (ps.take i) * p.1 ^ j ≤ prodI ps := by
  have h1 : 1 ≤ prodI (ps.take i) := prodI_pos fun x hx=>hp x (List.mem_of_mem_take hx)
  have h2 : 1 ≤ prodI (ps.drop (i + 1)) := prodI_pos fun x hx=>hp x (List.mem_of_mem_drop hx)
  have h3 := pow_mono' (hp p (List.mem_of_getElem? h)) hj
  have h4 := pow_pos' (hp p (List.mem_of_getElem? h)) j
  rw [prod_at h]
  refine Int.mul_le_mul_of_nonneg_left ?_ (by exact Int.le_of_lt h1)
  have := Int.mul_le_mul h3 h2 (by decide) (by exact z200 h3 h4)
  simpa using this
inductive Rw where
  | first
  | prime (n b : Int) (ps : List (Int × Int))
  | split (n a b : Int)
  | power (n b : Int)
  | root (n b : Int)
noncomputable def Rw.av : Rw → AV
  | .first=>.tup [.int 2,.str "first",.tup []]
  | .prime n b ps=>.tup [.int n,.str "prime",.tup [.int b,psT ps]]
  | .split n a b=>.tup [.int n,.str "split",.tup [.int a,.int b]]
  | .power n b=>.tup [.int n,.str "power",.tup [.int b]]
  | .root n b=>.tup [.int n,.str "root",.tup [.int b]]
noncomputable def Rw.num : Rw → Int
  | .first=>2
  | .prime n _ _=>n
  | .split n _ _=>n
  | .power n _=>n
  | .root n _=>n
noncomputable def Rw.needs : Rw → List Int
  | .prime _ _ ps=>ps.map (·.1)
  | _=>[]
noncomputable def Ris (ps : List (Int × Int)) : Prop := ps.Pairwise fun p q=>p.1 < q.1
noncomputable def Rw.ok : Rw → Prop
  | .first=>True
  | .prime n b ps=>3 ≤ n ∧ n < 10 ^ 30 - 2000 ∧ 1 ≤ b ∧ b ≤ n ∧ ps ≠ [] ∧ ps.length ≤ 10 ∧ (∀ p ∈ ps,2 ≤ p.1 ∧ p.1 ≤ 20000 ∧ 1 ≤ p.2 ∧ p.2 ≤ 100) ∧ Ris ps
  | .split n a b=>2 ≤ a ∧ 2 ≤ b ∧ a < 10 ^ 16 ∧ b < 10 ^ 16 ∧ n = a * b ∧ n < 10 ^ 30 - 2000
  | .power n b=>2 ≤ n ∧ n < 10 ^ 30 - 2000 ∧ 1 ≤ b ∧ b ≤ n
  | .root n b=>2 ≤ n ∧ n < 10 ^ 30 - 2000 ∧ 1 ≤ b ∧ b ≤ n
noncomputable def Rw.tells : Rw → Bool
  | .first=>true
  | .prime _ _ _=>true
  | _=>false
noncomputable def Rw.sem : Rw → Prop
  | .first=>True
  | .prime n b ps=>b < n ∧ prodI ps = n - 1 ∧ roundB n b ps = true ∧ ∀ p ∈ ps,isPB p.1.toNat = true ∧ p.1 < 402
  | .split _ _ _=>True
  | .power n b=>b < n ∧ pw b (n - 1) n ≠ 1
  | .root n b=>1 < b ∧ b < n - 1 ∧ b * b % n = 1
noncomputable def Rw.tru (r : Rw) : Prop := r.sem ∧ (r.num ≤ 401 → r.tells = isPB r.num.toNat)
noncomputable def nx (n : Nat) : List Int := if isPB n && decide (3 ≤ n) then (facF (n - 1)).map (·.1) else []
noncomputable def roundN (n b : Nat) (ps : List (Int × Int)) : Bool := Nat.beq (b ^ (n - 1) % n) 1 && ps.all fun p=>!Nat.beq (b ^ ((n - 1) / p.1.toNat) % n) 1
noncomputable def chk (n : Nat) : Bool := !isPB n || Nat.ble n 2 || ((facF (n - 1)).all (fun p=>Nat.ble 2 p.1.toNat && Nat.ble p.1.toNat 401 && Nat.ble 1 p.2.toNat && Nat.ble p.2.toNat 100) && Nat.ble (facF (n - 1)).length 10 && !(facF (n - 1)).isEmpty && decide (prodI (facF (n - 1)) = n - 1) && decide ((facF (n - 1)).Pairwise fun p q=>p.1 < q.1) && (facF (n - 1)).all (fun p=>isPB p.1.toNat) && (List.range n).any fun b=>Nat.ble 1 b && roundN n b (facF (n - 1)))
theorem chk_all : (List.range 402).all chk = true := by decide +kernel
theorem pw_nat {b e m : Nat} : pw (b : Int) (e : Int) (m : Int) = ((b ^ e % m : Nat) : Int) := by
  unfold pw; rw [Int.toNat_natCast]; simp
theorem round_nat {n b : Nat} {ps : List (Int × Int)} (hn : 1 ≤ n) (hp : ∀ p ∈ ps,0 ≤ p.1) (h : roundN n b ps = true) : roundB n b ps = true := by
  simp only [roundN,Bool.and_eq_true,List.all_eq_true,Bool.not_eq_true'] at h
  simp only [roundB,Bool.and_eq_true,List.all_eq_true,Bool.not_eq_true',decide_eq_true_eq,decide_eq_false_iff_not]
  refine ⟨?_,fun p hpm=>?_⟩
  · rw [show (n : Int) - 1 = ((n - 1 : Nat) : Int) by exact z201 hn,pw_nat,Nat.eq_of_beq_eq_true h.1]; rfl
  · have h1 := h.2 p hpm
    have h2 := hp p hpm
    rw [show (n : Int) - 1 = ((n - 1 : Nat) : Int) by exact z201 hn,show p.1 = ((p.1.toNat : Nat) : Int) by exact Int.eq_natCast_toNat.mpr h2,← Int.natCast_ediv,pw_nat]
    intro e
    exact Nat.ne_of_beq_eq_false h1 (by exact Eq.symm ((fun {m n}=>Int.ofNat_inj.mp) (id (Eq.symm e))))
theorem prime_tab {n : Nat} (n3 : 3 ≤ n) (n4 : n ≤ 401) (hp : isPB n = true) : (∀ p ∈ facF (n - 1),2 ≤ p.1 ∧ p.1 < 402 ∧ 1 ≤ p.2 ∧ p.2 ≤ 100) ∧ (facF (n - 1)).length ≤ 10 ∧ facF (n - 1) ≠ [] ∧ prodI (facF (n - 1)) = n - 1 ∧ Ris (facF (n - 1)) ∧ (∀ p ∈ facF (n - 1),isPB p.1.toNat = true) ∧ ∃ r : Nat,1 ≤ r ∧ r < n ∧ roundB n r (facF (n - 1)) = true := by
  have h := List.all_eq_true.mp chk_all n (List.mem_range.mpr (by exact Nat.lt_succ_of_le n4))
  simp only [chk,hp,Bool.not_true,Bool.false_or,Bool.or_eq_true,Bool.and_eq_true,List.all_eq_true,List.any_eq_true,List.mem_range,Nat.ble_eq,Bool.not_eq_true',List.isEmpty_eq_false_iff,decide_eq_true_eq] at h
  rcases h with h | ⟨⟨⟨⟨⟨⟨h1,h2⟩,h3⟩,g1⟩,g2⟩,g3⟩,r,h4,h5,h6⟩
  · (first | lia | omega)
  · have hb : ∀ p ∈ facF (n - 1),2 ≤ p.1 ∧ p.1 < 402 ∧ 1 ≤ p.2 ∧ p.2 ≤ 100 := fun p hp=>by
      obtain ⟨⟨⟨a1,a2⟩,a3⟩,a4⟩ := h1 p hp
      (first | lia | omega)
    exact ⟨hb,h2,h3,g1,g2,g3,r,h5,h4,round_nat (by exact Nat.one_le_of_lt h4) (fun p hp=>by have := hb p hp; exact z202 this) h6⟩
noncomputable def rnd (n b r : Nat) : Nat := if b ≤ r then r - b else r + (n - 1) - b
theorem rnd_step {n b r : Nat} (n2 : 2 ≤ n) (b1 : 1 ≤ b) (bn : b < n) (r1 : 1 ≤ r) (rn : r < n) (h : b ≠ r) : 1 ≤ b % (n - 1) + 1 ∧ b % (n - 1) + 1 < n ∧ rnd n (b % (n - 1) + 1) r < rnd n b r := by
  rcases Nat.lt_or_ge b (n - 1) with h1 | h1
  · rw [Nat.mod_eq_of_lt h1]
    unfold rnd
    refine ⟨by exact z203,by exact Nat.add_lt_of_lt_sub h1,?_⟩
    split <;> split <;> (first | lia | omega)
  · have : b = n - 1 := by exact z204 bn h1
    rw [this,Nat.mod_self]
    unfold rnd
    refine ⟨by walk_at "om",by exact z205 rn h this,?_⟩
    split <;> split <;> (first | lia | omega)
noncomputable def SPRow (Φ : Fun) : Prop := ∀ (n : Nat) (c : Int) (H : Hp) (Q : PQ),2 ≤ n → n ≤ 401 → isPB n = true → 0 ≤ c → (∀ r : Rw,r.ok → r.tru → r.num = n → r.needs = nx n → Q r.av H) → Φ "_law_prime_row" [.int n,.int c] H Q
theorem prime_row {Φ : Fun} (cf : SFact Φ) (cr : SRound Φ) {n : Nat} {c : Int} {H : Hp} {Q : PQ} (n2 : 2 ≤ n) (n4 : n ≤ 401) (hp : isPB n = true) (c0 : 0 ≤ c) (h : ∀ r : Rw,r.ok → r.tru → r.num = n → r.needs = nx n → Q r.av H) : wpF Φ m_law_prime_row [.int n,.int c] H Q := by
  ((refine ⟨rfl,?_⟩; simp only [lst,Nat.reduceSub,Nat.sub_self,List.replicate]))
  simp only [m_law_prime_row]
  walk_at "wp"
  refine sp_d (fun e2=>?_) (fun e2=>?_)
  · walk_at "go"
    have : n = 2 := by exact Eq.symm ((fun {m n}=>Int.ofNat_inj.mp) (id (Eq.symm e2)))
    subst this
    exact h .first trivial ⟨trivial,fun _=>hp.symm⟩ rfl rfl
  walk_at "wp"
  have n3 : 3 ≤ n := by exact z206 n2 e2
  have e1 : (n : Int) - 1 = ((n - 1 : Nat) : Int) := by exact z207 n3
  obtain ⟨t1,t2,t3,t4,t5,t6,r,r1,rn,hr⟩ := prime_tab n3 n4 hp
  rw [e1]
  refine cf (n - 1) H _ (by exact z208 r1 rn) (by exact z209 n4) ?_
  walk_at "wp"
  rw [e1]
  refine ⟨by exact z210 r1 rn,?_⟩
  rw [fmod_nn (by exact z211)]
  have b0 := Int.emod_nonneg c (show ((n - 1 : Nat) : Int) ≠ 0 by exact z210 r1 rn)
  have b1 := Int.emod_lt_of_pos c (show 0 < ((n - 1 : Nat) : Int) by exact z212 r1 rn)
  refine s_whl (fun k loc H'=>∃ b : Nat,k = rnd n b r ∧ 1 ≤ b ∧ b < n ∧ H' = H ∧ loc = [some (.int n),some (.int c),some (psT (facF (n - 1))),some (.int b)]) _ ⟨(1 + c % ((n - 1 : Nat) : Int)).toNat,rfl,by exact z213 b0,by exact z214 b0 b1,rfl,by rw [Int.toNat_of_nonneg (by exact z215 b0)]⟩ ?_
  rintro k loc H' ⟨b,rfl,bb1,bb2,rfl,rfl⟩
  walk_at "wp"
  refine cr n b (facF (n - 1)) H' _ (by exact z216 b0 b1) (by exact z217 n4) (by exact z218 n4 bb2) (fun p hp=>by have := t1 p hp; exact z219 this) ?_
  walk_at "wp"
  refine sp_b (b := !roundB n b (facF (n - 1))) (fun h1=>?_) (fun h1=>?_)
  · walk_at "wp"
    rw [e1]
    refine ⟨by exact z220 b0 b1,?_⟩
    rw [fmod_nn (by exact z211)]
    have hne : b ≠ r := fun e=>by rw [e,hr] at h1; cases h1
    obtain ⟨g1,g2,g3⟩ := rnd_step n2 bb1 bb2 r1 rn hne
    exact whl_next _ g3 ⟨b % (n - 1) + 1,rfl,g1,g2,rfl,by rw [Int.natCast_add,Int.natCast_emod]; rfl⟩
  · walk_at "go"
    refine h (.prime n b (facF (n - 1))) ⟨by exact Int.toNat_le.mp n3,by exact z221 n4,by exact Int.toNat_le.mp bb1,by exact z222 bb2,t3,t2,fun p hp=>by have := t1 p hp; exact z223 this,t5⟩ ⟨⟨by show (b : Int) < n; exact Int.ofNat_lt.mpr bb2,t4,by simpa using h1,fun p hp=>⟨t6 p hp,(t1 p hp).2.1⟩⟩,fun _=>by rw [show (Rw.prime (n : Int) b (facF (n - 1))).num.toNat = n from Int.toNat_natCast n,hp]; rfl⟩ rfl ?_
    simp only [Rw.needs,nx,hp,Bool.true_and]
    rw [if_pos (by simpa using n3)]
end
section
open PySem
set_option maxHeartbeats 2000000
noncomputable def pickI (f : Int → Bool) (y : AV) : Option AV := match y with | .int a=>if f a then some (.int a) else none | _=>none
theorem pick_mem {f : Int → Bool} {m : Nat} {z : AV} (h : z ∈ ((List.range m).map fun (k : Nat)=>AV.int (2 + k)).filterMap (pickI f)) : ∃ a : Int,z = .int a ∧ 2 ≤ a ∧ a < 2 + m ∧ f a = true := by
  obtain ⟨y,hy,e⟩ := List.mem_filterMap.mp h
  obtain ⟨k,hk,rfl⟩ := List.mem_map.mp hy
  have := List.mem_range.mp hk
  simp only [pickI] at e
  split at e
  · cases e; exact ⟨_,rfl,by exact z224,by exact z225 this,by assumption⟩
  · cases e
theorem pick_in {f : Int → Bool} {m : Nat} {a : Int} (h2 : 2 ≤ a) (hm : a < 2 + m) (hf : f a = true) : AV.int a ∈ ((List.range m).map fun (k : Nat)=>AV.int (2 + k)).filterMap (pickI f) := by
  refine List.mem_filterMap.mpr ⟨.int a,List.mem_map.mpr ⟨(a - 2).toNat,List.mem_range.mpr (by exact z226 h2 hm),?_⟩,by simp [pickI,hf]⟩
  congr 1; exact z227 h2
theorem pick_len {f : Int → Bool} {l : List AV} : (l.filterMap (pickI f)).length ≤ l.length := List.length_filterMap_le _ _
theorem pow_not_one {n : Nat} {a : Int} (n2 : 2 ≤ n) (a2 : 2 ≤ a) (h : (n : Int) % a = 0) : pw a ((n : Int) - 1) n ≠ 1 := by
  unfold pw
  intro e
  have hd : a ∣ (n : Int) := Int.dvd_of_emod_eq_zero h
  have h1 : (a ^ ((n : Int) - 1).toNat % (n : Int)) % a = a ^ ((n : Int) - 1).toNat % a := Int.emod_emod_of_dvd _ hd
  rw [e] at h1
  obtain ⟨k,hk⟩ : ∃ k,((n : Int) - 1).toNat = k + 1 := ⟨n - 2,by exact z228 n2⟩
  rw [hk,Int.pow_succ,Int.mul_emod_left,Int.emod_eq_of_lt (by walk_at "om") (by exact Int.lt_of_add_one_le a2)] at h1
  exact z229 h1
theorem idx_anyB {H : Hp} {Q : PQ} {i : Nat} {l : List AV} {k : Int} (h : H[i]? = some (.list l)) (hn : l.length ≤ 100000) (h0 : 0 ≤ k) (h1 : k < l.length) (q : ∀ z ∈ l,Q z H) : wpIdx (.ref i) (.int k) H Q := by
  rw [i_list h]
  exact ⟨by exact z230 hn,k.toNat,l[k.toNat]'(by exact (Int.toNat_lt h0).mpr h1),place_nn h0 h1,List.getElem?_eq_getElem _,q _ (List.getElem_mem _)⟩
theorem len_atB {H : Hp} {Q : PQ} {i : Nat} {l : List AV} (h : H[i]? = some (.list l)) (hn : l.length ≤ 100000) (q : Q (.int l.length) H) : wpBi .len [.ref i] H Q := by
  rw [l_list h]; exact ⟨by exact z230 hn,q⟩
noncomputable def SPart (Φ : Fun) : Prop := ∀ (n : Nat) (c : Int) (H : Hp) (Q : PQ),2 ≤ n → n ≤ 20000 → isPB n = false → 0 ≤ c → (∀ r : Rw,r.ok → r.tru → r.num = n → r.needs = [] → Q r.av H) → Φ "_law_parted_row" [.int n,.int c] H Q
theorem parted_row {Φ : Fun} (cp : SPower Φ) {n : Nat} {c : Int} {H : Hp} {Q : PQ} (n2 : 2 ≤ n) (n4 : n ≤ 20000) (hp : isPB n = false) (c0 : 0 ≤ c) (h : ∀ r : Rw,r.ok → r.tru → r.num = n → r.needs = [] → ∀ H',H <+: H' → Q r.av H') : wpF Φ m_law_parted_row [.int n,.int c] H Q := by
  obtain ⟨dv,dv2,dvn,hdv⟩ := isPB_no n2 hp
  have cc : ∀ {r : Rw},r.num = n → r.tells = false → (r.num ≤ 401 → r.tells = isPB r.num.toNat) := fun {r} e t _=>by rw [e,Int.toNat_natCast,hp,t]
  ((refine ⟨rfl,?_⟩; simp only [lst,Nat.reduceSub,Nat.sub_self,List.replicate]))
  simp only [m_law_parted_row]
  walk_at "wp"
  refine ⟨by decide,by decide,by exact z148,by exact z231 n4,?_⟩
  refine comp_pure (pickI fun a=>decide ((n : Int) % a = 0)) (by rw [List.length_map,List.length_range]; exact szB (by exact z232 n4)) trivial (fun y hy=>?_) ?_
  · obtain ⟨k,hk,rfl⟩ := List.mem_map.mp hy
    have hk := List.mem_range.mp hk
    refine ⟨[.int (2 + k)],rfl,fun K q=>?_,fun v hv Q' q=>?_⟩
    · walk_at "wp"
      refine ⟨by exact z233,?_⟩
      simp only [fmod_nn (show (0 : Int) ≤ 2 + k by exact z234)]
      have : (pickI (fun a=>decide ((n : Int) % a = 0)) (.int (2 + k))).isSome = decide ((n : Int) % (2 + k) = 0) := by
        simp only [pickI]
        split <;> simp_all
      rw [this] at q
      refine sp_b (b := decide ((n : Int) % (2 + k) = 0)) (fun h1=>?_) (fun h1=>?_)
      · rw [h1] at q; walk_at "wp"; exact q
      · rw [h1] at q; walk_at "wp"; exact q
    · simp only [pickI] at hv
      split at hv
      · cases hv
        walk_at "wp"
        exact q
      · cases hv
  generalize hP : (((List.range ((n : Int) - 2).toNat).map fun (k : Nat)=>AV.int (2 + k)).filterMap (pickI fun a=>decide ((n : Int) % a = 0))) = PL
  have hPm : ∀ z ∈ PL,∃ a : Int,z = .int a ∧ 2 ≤ a ∧ a < n ∧ (n : Int) % a = 0 := by
    intro z hz
    rw [← hP] at hz
    obtain ⟨a,e,h1,h2,h3⟩ := pick_mem hz
    exact ⟨a,e,h1,by exact z235 h1 h2,by simpa using h3⟩
  have hP1 : 1 ≤ PL.length := by
    have : AV.int dv ∈ PL := by rw [← hP]; exact pick_in (by exact Int.toNat_le.mp dv2) (by exact z236 dvn) (by simp; (first | lia | omega))
    exact List.length_pos_of_mem this
  have hPl : PL.length ≤ 20000 := by rw [← hP]; refine Nat.le_trans pick_len ?_; simp; exact z237 n4
  clear hP
  walk_at "wp"
  refine ⟨by decide,by decide,by exact z238,by exact z239 n4,?_⟩
  refine comp_pure (pickI fun a=>decide (a * a % n = 1)) (by rw [List.length_map,List.length_range]; exact szB (by exact z240 n4)) trivial (fun y hy=>?_) ?_
  · obtain ⟨k,hk,rfl⟩ := List.mem_map.mp hy
    have hk := List.mem_range.mp hk
    refine ⟨[.int (2 + k)],rfl,fun K q=>?_,fun v hv Q' q=>?_⟩
    · walk_at "wp"
      refine ⟨mulOk_left (by exact z241 n4 hk),by exact z242 hk,?_⟩
      simp only [fmod_nn (show (0 : Int) ≤ n by exact z171)]
      have : (pickI (fun a=>decide (a * a % (n : Int) = 1)) (.int (2 + k))).isSome = decide ((2 + (k : Int)) * (2 + k) % n = 1) := by
        simp only [pickI]
        split <;> simp_all
      rw [this] at q
      refine sp_b (b := decide ((2 + (k : Int)) * (2 + k) % n = 1)) (fun h1=>?_) (fun h1=>?_)
      · rw [h1] at q; walk_at "wp"; exact q
      · rw [h1] at q; walk_at "wp"; exact q
    · simp only [pickI] at hv
      split at hv
      · cases hv
        walk_at "wp"
        exact q
      · cases hv
  generalize hR : (((List.range ((n : Int) - 1 - 2).toNat).map fun (k : Nat)=>AV.int (2 + k)).filterMap (pickI fun a=>decide (a * a % n = 1))) = RL
  have hRm : ∀ z ∈ RL,∃ a : Int,z = .int a ∧ 2 ≤ a ∧ a < n - 1 ∧ a * a % n = 1 := by
    intro z hz
    rw [← hR] at hz
    obtain ⟨a,e,h1,h2,h3⟩ := pick_mem hz
    exact ⟨a,e,h1,by exact z243 h1 h2,by simpa using h3⟩
  have hRl : RL.length ≤ 20000 := by rw [← hR]; refine Nat.le_trans pick_len ?_; simp; exact z244 n4
  clear hR
  generalize hH1 : H ++ [AObj.list PL] ++ [AObj.list RL] = H1
  have hp1 : H <+: H1 := by rw [← hH1]; exact pre_new.trans pre_new
  have hgP : H1[H.length]? = some (.list PL) := by rw [← hH1]; exact pre_at pre_new at_new
  have hgR : H1[(H ++ [AObj.list PL]).length]? = some (.list RL) := by rw [← hH1]; exact at_new
  generalize (H ++ [AObj.list PL]).length = jR at hgR
  walk_at "go"
  refine len_atB hgP (by exact z245 hPl) ?_
  walk_at "wp"
  refine ⟨by exact Int.natCast_ne_zero_iff_pos.mpr hP1,?_⟩
  simp only [fmod_nn (show (0 : Int) ≤ PL.length by exact z171),fdiv_nn (show (0 : Int) ≤ 4 by walk_at "om"),fmod_nn (show (0 : Int) ≤ 4 by walk_at "om")]
  refine idx_anyB hgP (by exact z245 hPl) (Int.emod_nonneg _ (by exact Int.natCast_ne_zero_iff_pos.mpr hP1)) (Int.emod_lt_of_pos _ (by exact Int.natCast_pos.mpr hP1)) fun z hz=>?_
  obtain ⟨a,rfl,a2,an,ha⟩ := hPm z hz
  have pwl : wpSs Φ (m_law_parted_row.body.drop 4) [some (.int n),some (.int c),some (.ref H.length),some (.ref jR),some (.int a),none] H1 (endOf Q) := by
    simp only [m_law_parted_row,List.drop]
    walk_at "go"
    (simp only [fmod_nn,fdiv_nn,Int.reduceLE])
    refine sp_d (fun h1=>?_) (fun h1=>?_)
    · walk_at "wp"
      refine ⟨by exact z246 a2,noPyS (by exact z247 n4 a2 an),by walk_at "sd",by walk_at "sd",?_⟩
      simp only [fdiv_nn (show (0 : Int) ≤ a by exact z248 a2)]
      have hmul : (n : Int) = a * ((n : Int) / a) := (Int.mul_ediv_cancel' (Int.dvd_of_emod_eq_zero ha)).symm
      have q2 : 2 ≤ (n : Int) / a := by
        rcases Int.lt_or_le ((n : Int) / a) 2 with h4 | h4
        · have : a * ((n : Int) / a) ≤ a * 1 := Int.mul_le_mul_of_nonneg_left (by exact Int.le_iff_lt_add_one.mpr h4) (by exact z248 a2)
          exact z249 an hmul this
        · exact h4
      have q3 : (n : Int) / a ≤ n := Int.ediv_le_self _ (by exact z171)
      exact h (.split n a ((n : Int) / a)) ⟨a2,q2,by exact z250 n4 an,by exact z251 n4 q3,hmul,by exact z252 n4⟩ ⟨trivial,cc rfl rfl⟩ rfl rfl _ hp1
    · walk_at "wp"
      have e1 : (n : Int) - 1 = ((n - 1 : Nat) : Int) := by exact z253 a2 an
      rw [e1]
      refine ⟨by decide,noPyS (by decide),by exact z254 a2 an,?_⟩
      rw [fdiv_nn (by walk_at "om"),fmod_nn (by exact z211)]
      have b0 := Int.emod_nonneg (c / 4) (show ((n - 1 : Nat) : Int) ≠ 0 by exact z254 a2 an)
      have b1 := Int.emod_lt_of_pos (c / 4) (show 0 < ((n - 1 : Nat) : Int) by exact z255 a2 an)
      refine s_whl (fun k loc H'=>∃ b : Nat,k = rnd n b a.toNat ∧ 1 ≤ b ∧ b < n ∧ H' = H1 ∧ loc = [some (.int n),some (.int c),some (.ref H.length),some (.ref jR),some (.int a),some (.int b)]) _ ⟨(1 + c / 4 % ((n - 1 : Nat) : Int)).toNat,rfl,by exact z213 b0,by exact z214 b0 b1,rfl,by rw [Int.toNat_of_nonneg (by exact z215 b0)]⟩ ?_
      rintro k loc H' ⟨b,rfl,bb1,bb2,rfl,rfl⟩
      walk_at "wp"
      refine cp b (n - 1) n _ _ (by exact z256 n4 bb2) (by exact z257 bb2) (by exact z258 n4) (by exact z259 bb2) (by exact z260 n4) ?_
      walk_at "wp"
      refine sp_d (fun h1=>?_) (fun h1=>?_)
      · walk_at "wp"
        rw [e1]
        refine ⟨by exact z210 bb1 bb2,?_⟩
        rw [fmod_nn (by exact z211)]
        have hne : b ≠ a.toNat := fun e=>by
          have : ((b : Nat) : Int) = a := by exact z261 bb1 e
          rw [this] at h1
          exact pow_not_one n2 a2 ha h1
        obtain ⟨g1,g2,g3⟩ := rnd_step n2 bb1 bb2 (show 1 ≤ a.toNat by exact z262 a2) (show a.toNat < n by exact z263 a2 an) hne
        exact whl_next _ g3 ⟨b % (n - 1) + 1,rfl,g1,g2,rfl,by rw [Int.natCast_add,Int.natCast_emod]; rfl⟩
      · walk_at "go"
        exact h (.power n b) ⟨by exact z264 bb1 bb2,by exact z252 n4,by exact Int.toNat_le.mp bb1,by exact z222 bb2⟩ ⟨⟨by show (b : Int) < n; exact Int.ofNat_lt.mpr bb2,h1⟩,cc rfl rfl⟩ rfl rfl _ hp1
  walk_at "go"
  (simp only [fmod_nn,fdiv_nn,Int.reduceLE])
  refine sp_d (fun h1=>?_) (fun h1=>?_)
  · walk_at "wp"
    refine len_atB hgR (by exact z245 hRl) ?_
    walk_at "wp"
    refine sp_d (fun h2=>?_) (fun h2=>?_)
    · walk_at "go"
      refine len_atB hgR (by exact z245 hRl) ?_
      walk_at "wp"
      refine ⟨by exact Ne.symm (Int.ne_of_lt h2),?_⟩
      simp only [fmod_nn (show (0 : Int) ≤ RL.length by exact z171),fdiv_nn (show (0 : Int) ≤ 4 by walk_at "om")]
      refine idx_anyB hgR (by exact z245 hRl) (Int.emod_nonneg _ (by exact Ne.symm (Int.ne_of_lt h2))) (Int.emod_lt_of_pos _ (by walk_at "om")) fun z hz=>?_
      obtain ⟨x,rfl,x2,xn,xx⟩ := hRm z hz
      walk_at "go"
      exact h (.root n x) ⟨by exact z265 x2 xn,by exact z252 n4,by exact Int.le_of_lt x2,by exact z266 xn⟩ ⟨⟨by exact Int.lt_of_add_one_le x2,xn,xx⟩,cc rfl rfl⟩ rfl rfl _ hp1
    · simp only [k_ite,k_itef,ss_nil,thenS_next]
      exact pwl
  · simp only [k_andf,k_ite,k_itef,ss_nil,thenS_next]
    exact pwl
end
section
open PySem
set_option maxHeartbeats 2000000
noncomputable def nxN (n : Nat) : List Nat := (nx n).map Int.toNat
noncomputable def trT : Nat → Nat → Nat
  | 0,_=>0
  | k + 1,n=>1 + ((nxN n).map fun q=>trT k q).sum
noncomputable def tr2 : Nat → Nat → Nat
  | 0,_=>0
  | k + 1,n=>(if n = 2 then 0 else 1) + ((nxN n).map fun q=>tr2 k q).sum
noncomputable def T (n : Nat) : Nat := trT 12 n
noncomputable def T2 (n : Nat) : Nat := tr2 12 n
noncomputable def chT (n : Nat) : Bool := Nat.beq (T n) (1 + ((nxN n).map T).sum) && Nat.beq (T2 n) ((if Nat.beq n 2 then 0 else 1) + ((nxN n).map T2).sum) && Nat.ble (T n) 20 && Nat.ble (T2 n) 7 && (nxN n).all (fun q=>Nat.ble 2 q && Nat.ble q 401) && (nx n).all fun q=>Int.decLe 0 q |>.decide
theorem chT_all : (List.range 402).all chT = true := by decide +kernel
theorem T_tab {n : Nat} (h : n ≤ 401) : T n = 1 + ((nxN n).map T).sum ∧ T2 n = (if n = 2 then 0 else 1) + ((nxN n).map T2).sum ∧ T n ≤ 20 ∧ T2 n ≤ 7 ∧ (∀ q ∈ nxN n,2 ≤ q ∧ q ≤ 401) ∧ ∀ q ∈ nx n,0 ≤ q := by
  have h := List.all_eq_true.mp chT_all n (List.mem_range.mpr (by exact Nat.lt_succ_of_le h))
  simp only [chT,Bool.and_eq_true,List.all_eq_true,Nat.ble_eq,decide_eq_true_eq] at h
  obtain ⟨⟨⟨⟨⟨h1,h2⟩,h3⟩,h4⟩,h5⟩,h6⟩ := h
  refine ⟨Nat.eq_of_beq_eq_true h1,?_,h3,h4,h5,h6⟩
  rw [Nat.eq_of_beq_eq_true h2]
  by_cases e : n = 2
  · subst e; rfl
  · rw [if_neg e,if_neg (by simpa using e)]
noncomputable def qpow : Nat → Nat → Nat → Nat → Nat → Nat
  | 0,_,_,f,m=>f % m
  | k + 1,b,e,f,m=>if Nat.beq e 0 then f % m else qpow k (b * b % m) (e / 2) (if Nat.beq (e % 2) 1 then f * b % m else f) m
theorem qpow_eq : ∀ (k b e f m : Nat),e < 2 ^ k → qpow k b e f m = f * b ^ e % m
  | 0,b,e,f,m,h=>by
    have : e = 0 := by simpa using h
    subst this; simp [qpow]
  | k + 1,b,e,f,m,h=>by
    rw [qpow]
    by_cases h0 : e = 0
    · subst h0; simp
    · rw [if_neg (by simpa using h0),qpow_eq k _ _ _ _ (by rw [Nat.pow_succ] at h; exact z267 h)]
      have e2 : b ^ e = (b * b) ^ (e / 2) * b ^ (e % 2) := by
        have : b * b = b ^ 2 := by rw [Nat.pow_two]
        rw [this,← Nat.pow_mul,← Nat.pow_add]
        congr 1; exact z141
      have em : ∀ x : Nat,x * (b * b % m) ^ (e / 2) % m = x * (b * b) ^ (e / 2) % m := fun x=>by
        rw [Nat.mul_mod,← Nat.pow_mod,← Nat.mul_mod]
      rw [em,e2]
      by_cases h1 : e % 2 = 1
      · rw [if_pos (by simpa using h1),h1,Nat.pow_one,Nat.mul_mod (f * b % m),Nat.mod_mod,← Nat.mul_mod]
        congr 1
        rw [Nat.mul_comm ((b * b) ^ (e / 2)) b,Nat.mul_assoc]
      · rw [if_neg (by simpa using h1),show e % 2 = 0 by exact Nat.mod_two_ne_one.mp h1,Nat.pow_zero,Nat.mul_one]
noncomputable def pwN (b e m : Nat) : Nat := qpow 70 b e 1 m
theorem pwN_eq {b e m : Nat} (h : e < 2 ^ 70) : pw (b : Int) (e : Int) (m : Int) = (pwN b e m : Nat) := by
  rw [pw_nat,pwN,qpow_eq _ _ _ _ _ h,Nat.one_mul]
noncomputable def roundQ (n b : Nat) (ps : List (Int × Int)) : Bool := Nat.beq (pwN b (n - 1) n) 1 && ps.all fun p=>!Nat.beq (pwN b ((n - 1) / p.1.toNat) n) 1
theorem round_q {n b : Nat} {ps : List (Int × Int)} (hn : 1 ≤ n) (hn2 : n < 2 ^ 70) (hp : ∀ p ∈ ps,0 ≤ p.1) (h : roundQ n b ps = true) : roundB n b ps = true := by
  simp only [roundQ,Bool.and_eq_true,List.all_eq_true,Bool.not_eq_true'] at h
  simp only [roundB,Bool.and_eq_true,List.all_eq_true,Bool.not_eq_true',decide_eq_true_eq,decide_eq_false_iff_not]
  refine ⟨?_,fun p hpm=>?_⟩
  · rw [show (n : Int) - 1 = ((n - 1 : Nat) : Int) by exact z201 hn,pwN_eq (by exact Nat.sub_lt_of_lt hn2),Nat.eq_of_beq_eq_true h.1]; rfl
  · have h1 := h.2 p hpm
    have h2 := hp p hpm
    have h3 : (n - 1) / p.1.toNat ≤ n - 1 := Nat.div_le_self _ _
    rw [show (n : Int) - 1 = ((n - 1 : Nat) : Int) by exact z201 hn,show p.1 = ((p.1.toNat : Nat) : Int) by exact Int.eq_natCast_toNat.mpr h2,← Int.natCast_ediv,pwN_eq (by exact z268 hn2 h3)]
    intro e
    exact Nat.ne_of_beq_eq_false h1 (by exact Eq.symm ((fun {m n}=>Int.ofNat_inj.mp) (id (Eq.symm e))))
noncomputable def bigR : List (Int × Int × List (Int × Int)) := [(65537,3,[(2,16)]),(998244353,3,[(2,23),(7,1),(17,1)]),(2013265921,31,[(2,27),(3,1),(5,1)]),(4179340454199820289,3,[(2,57),(29,1)])]
noncomputable def NOK (r : Rw) : Prop := (∀ q ∈ r.needs,2 ≤ q ∧ q ≤ 401) ∧ ((r.needs.map Int.toNat).map T).sum ≤ 100 ∧ ((r.needs.map Int.toNat).map T2).sum ≤ 3
noncomputable def SBig (Φ : Fun) : Prop := ∀ (c : Int) (H : Hp) (Q : PQ),0 ≤ c → (∀ r : Rw,r.ok → r.tru → 3 ≤ r.num → NOK r → Q r.av H) → Φ "_law_big_row" [.int c] H Q
noncomputable def bigE : List Nat := [1,11,13,19,23]
theorem big_round : (bigR.all fun x=>bigE.all fun e=>roundQ x.1.toNat (pwN x.2.1.toNat e x.1.toNat) x.2.2) = true := by decide +kernel
theorem big_true {x : Int × Int × List (Int × Int)} (hx : x ∈ bigR) {e : Nat} (he : e ∈ bigE) : 1 ≤ pw x.2.1 e x.1 ∧ (Rw.prime x.1 (pw x.2.1 e x.1) x.2.2).tru := by
  have h := List.all_eq_true.mp (List.all_eq_true.mp big_round x hx) e he
  have hb : 2 ≤ x.1 ∧ x.1 < 2 ^ 70 ∧ 402 < x.1 ∧ 0 ≤ x.2.1 ∧ prodI x.2.2 = x.1 - 1 ∧ (∀ p ∈ x.2.2,isPB p.1.toNat = true ∧ p.1 < 402) ∧ ∀ p ∈ x.2.2,0 ≤ p.1 := by
    simp only [bigR,List.mem_cons,List.not_mem_nil,or_false] at hx
    rcases hx with rfl | rfl | rfl | rfl <;> exact ⟨by decide,by decide,by decide,by decide,by decide +kernel,by decide +kernel,by decide⟩
  have he2 : e < 2 ^ 70 := by
    simp only [bigE,List.mem_cons,List.not_mem_nil,or_false] at he
    exact z269 he
  obtain ⟨h1,h2,h3,h4,h5,h6,h7⟩ := hb
  have e1 : pw x.2.1 e x.1 = (pwN x.2.1.toNat e x.1.toNat : Nat) := by
    have := pwN_eq (b := x.2.1.toNat) (m := x.1.toNat) he2
    rwa [Int.toNat_of_nonneg h4,Int.toNat_of_nonneg (by exact z270 h3)] at this
  have hr : roundB x.1 (pw x.2.1 e x.1) x.2.2 = true := by
    have := round_q (n := x.1.toNat) (by exact z271 h3) (by exact z272 h2) h7 h
    rwa [← e1,Int.toNat_of_nonneg (by exact z270 h3)] at this
  refine ⟨?_,⟨Int.emod_lt_of_pos _ (by exact z273 h3),h5,hr,h6⟩,fun c=>absurd c (by show ¬ x.1 ≤ 401; exact z274 h3)⟩
  have b0 : 0 ≤ pw x.2.1 e x.1 := Int.emod_nonneg _ (by exact z275 h3)
  rcases Int.lt_or_eq_of_le b0 with q | q
  · exact Int.le_of_sub_one_lt q
  · exfalso
    rw [← q] at hr
    simp only [roundB,Bool.and_eq_true,decide_eq_true_eq] at hr
    have := hr.1
    unfold pw at this
    obtain ⟨k,hk⟩ : ∃ k,(x.1 - 1).toNat = k + 1 := ⟨(x.1 - 2).toNat,by exact z276 h3⟩
    rw [hk,Int.pow_succ,Int.mul_zero,Int.zero_emod] at this
    exact z277 this
theorem big_row {Φ : Fun} (cp : SPower Φ) {c : Int} {H : Hp} {Q : PQ} (c0 : 0 ≤ c) (h : ∀ r : Rw,r.ok → r.tru → 3 ≤ r.num → NOK r → ∀ H',H <+: H' → Q r.av H') : wpF Φ m_law_big_row [.int c] H Q := by
  ((refine ⟨rfl,?_⟩; simp only [lst,Nat.reduceSub,Nat.sub_self,List.replicate]))
  simp only [m_law_big_row]
  walk_at "go"
  rw [b_addL (pre_at pre_new at_new) at_new]
  refine ⟨by walk_at "sd",?_⟩
  generalize hL : ([AV.tup [AV.int 65537,AV.int 3,AV.tup [AV.tup [AV.int 2,AV.int 16]]],AV.tup [AV.int 998244353,AV.int 3,AV.tup [AV.tup [AV.int 2,AV.int 23],AV.tup [AV.int 7,AV.int 1],AV.tup [AV.int 17,AV.int 1]]]] ++ [AV.tup [AV.int 2013265921,AV.int 31,AV.tup [AV.tup [AV.int 2,AV.int 27],AV.tup [AV.int 3,AV.int 1],AV.tup [AV.int 5,AV.int 1]]],AV.tup [AV.int 4179340454199820289,AV.int 3,AV.tup [AV.tup [AV.int 2,AV.int 57],AV.tup [AV.int 29,AV.int 1]]]]) = L
  have hLm : ∀ z ∈ L,∃ x ∈ bigR,z = .tup [.int x.1,.int x.2.1,psT x.2.2] := by
    intro z hz
    rw [← hL] at hz
    simp only [List.cons_append,List.nil_append,List.mem_cons,List.not_mem_nil,or_false] at hz
    rcases hz with rfl | rfl | rfl | rfl
    · exact ⟨(65537,3,[(2,16)]),by simp [bigR],rfl⟩
    · exact ⟨(998244353,3,[(2,23),(7,1),(17,1)]),by simp [bigR],rfl⟩
    · exact ⟨(2013265921,31,[(2,27),(3,1),(5,1)]),by simp [bigR],rfl⟩
    · exact ⟨(4179340454199820289,3,[(2,57),(29,1)]),by simp [bigR],rfl⟩
  have hL4 : L.length = 4 := by rw [← hL]; rfl
  clear hL
  walk_at "go"
  (simp only [fmod_nn,fdiv_nn,Int.reduceLE])
  refine idx_any at_new (by exact z278 hL4) (by walk_at "om") (by exact z279 hL4) fun z hz=>?_
  obtain ⟨x,hx,rfl⟩ := hLm z hz
  have hxb : 3 ≤ x.1 ∧ x.1 < 10 ^ 30 ∧ x.2.1.natAbs < 2 ^ 200 ∧ ∀ b,1 ≤ b → b ≤ x.1 → (Rw.prime x.1 b x.2.2).ok ∧ NOK (Rw.prime x.1 b x.2.2) := by
    simp only [bigR,List.mem_cons,List.not_mem_nil,or_false] at hx
    rcases hx with rfl | rfl | rfl | rfl <;>
    · refine ⟨by decide,by decide,by decide,fun b b0 b1=>⟨⟨by decide,by decide,b0,b1,by simp,by simp,by decide,by unfold Ris; decide⟩,by simp only [Rw.needs]; decide,?_,?_⟩⟩
      · simp only [Rw.needs]; decide +kernel
      · simp only [Rw.needs]; decide +kernel
  obtain ⟨x3,x30,xb,xok⟩ := hxb
  walk_at "gx"
  (simp only [fmod_nn,fdiv_nn,Int.reduceLE])
  refine idx_any at_new (by (first | exact Nat.le_of_ble_eq_true rfl | simp)) (by walk_at "om") (by (first | exact Int.emod_lt_of_pos _ (by decide) | (simp; (first | lia | omega)))) fun z hz=>?_
  have : ∃ e : Nat,z = .int e ∧ e ∈ bigE ∧ e < 100 := by
    simp only [List.mem_cons,List.not_mem_nil,or_false] at hz
    rcases hz with rfl | rfl | rfl | rfl | rfl
    · exact ⟨1,rfl,by decide,by decide⟩
    · exact ⟨11,rfl,by decide,by decide⟩
    · exact ⟨13,rfl,by decide,by decide⟩
    · exact ⟨19,rfl,by decide,by decide⟩
    · exact ⟨23,rfl,by decide,by decide⟩
  obtain ⟨e,rfl,e0,e1⟩ := this
  walk_at "go"
  refine cp x.2.1 e x.1 _ _ xb (by exact z171) (by exact z280 e1) (by exact z281 x3) (by exact z282 x30) ?_
  walk_at "go"
  obtain ⟨b0,bt⟩ := big_true hx e0
  have b1 : pw x.2.1 e x.1 < x.1 := Int.emod_lt_of_pos _ (by exact z283 x3)
  exact h (.prime x.1 (pw x.2.1 e x.1) x.2.2) (xok _ b0 (Int.le_of_lt b1)).1 bt x3 (xok _ b0 (Int.le_of_lt b1)).2 _ (by repeat (first | exact pre_new | refine List.IsPrefix.trans ?_ pre_new))
theorem comp_false {x y : Int} (hx : 2 ≤ x) (hy : 2 ≤ y) : isPB (x * y).toNat = false := by
  obtain ⟨m,rfl⟩ := Int.eq_ofNat_of_zero_le (show 0 ≤ x by exact z248 hx)
  obtain ⟨k,rfl⟩ := Int.eq_ofNat_of_zero_le (show 0 ≤ y by exact z248 hy)
  rw [← Int.natCast_mul,Int.toNat_natCast]
  have : m * 2 ≤ m * k := Nat.mul_le_mul_left m (by exact Int.ofNat_le.mp hy)
  exact isPB_false (d := m) (by exact Int.ofNat_le.mp hx) (by exact z284 hx this) (Nat.mul_mod_right m k)
theorem sq_less (x : Int) : (x + 1) * (x + 1) - 1 = x * (x + 2) := by
  rw [Int.add_mul,Int.mul_add,Int.one_mul,Int.mul_one,Int.mul_add]; exact z285
theorem great_pow {x y : Int} (hx : 2 ≤ x) (hy : 2 ≤ y) : pw x (x * y - 1) (x * y) ≠ 1 := by
  obtain ⟨n,hn⟩ := Int.eq_ofNat_of_zero_le (show 0 ≤ x * y from Int.mul_nonneg (by exact z248 hx) (by exact z248 hy))
  have h2 : x * 2 ≤ x * y := Int.mul_le_mul_of_nonneg_left hy (by exact z248 hx)
  have h3 : x * y % x = 0 := Int.mul_emod_right x y
  rw [hn] at h2 h3 ⊢
  exact pow_not_one (by exact z286 hx h2) hx h3
noncomputable def SGreat (Φ : Fun) : Prop := ∀ (c m : Int) (H : Hp) (Q : PQ),0 ≤ c → c < 4294967296 → 0 ≤ m → m < 4294967296 → (∀ r : Rw,r.ok → r.tru → 3 ≤ r.num → r.needs = [] → Q r.av H) → Φ "_law_great_row" [.int c,.int m] H Q
theorem great_row {Φ : Fun} {c m : Int} {H : Hp} {Q : PQ} (c0 : 0 ≤ c) (c1 : c < 4294967296) (m0 : 0 ≤ m) (m1 : m < 4294967296) (h : ∀ r : Rw,r.ok → r.tru → 3 ≤ r.num → r.needs = [] → Q r.av H) : wpF Φ m_law_great_row [.int c,.int m] H Q := by
  have e15 : ((10 : Int) ^ (Int.toNat 15)) = 1000000000000000 := by decide
  ((refine ⟨rfl,?_⟩; simp only [lst,Nat.reduceSub,Nat.sub_self,List.replicate]))
  simp only [m_law_great_row]
  walk_at "wp"
  rw [e15]
  refine ⟨mulOk_left (by exact z287 c0 c1),by decide,by decide,by decide,by decide,mulOk_left (by exact z287 m0 m1),by decide,by decide,by decide,by decide,?_⟩
  rw [fmod_nn (by decide),fmod_nn (by decide)]
  have a0 := Int.emod_nonneg (c * 2147483647 + m) (show (1000000000000000 : Int) ≠ 0 by decide)
  have a1 := Int.emod_lt_of_pos (c * 2147483647 + m) (show (0 : Int) < 1000000000000000 by decide)
  have b0 := Int.emod_nonneg (m * 2147483647 + c) (show (1000000000000000 - 9 : Int) ≠ 0 by decide)
  have b1 := Int.emod_lt_of_pos (m * 2147483647 + c) (show (0 : Int) < 1000000000000000 - 9 by decide)
  generalize (c * 2147483647 + m) % 1000000000000000 = a at a0 a1
  generalize (m * 2147483647 + c) % (1000000000000000 - 9) = b at b0 b1
  have hab : (2 + a) * (2 + b) < 10 ^ 30 - 2000 := Int.lt_of_le_of_lt (Int.mul_le_mul (show 2 + a ≤ 1000000000000001 by exact z288 a1) (show 2 + b ≤ 999999999999992 by exact z289 b1) (by exact z290 b0) (by walk_at "om")) (by decide)
  have hab2 : (2 + a) * 2 ≤ (2 + a) * (2 + b) := Int.mul_le_mul_of_nonneg_left (by exact Int.le_add_of_nonneg_right b0) (by exact z290 a0)
  have hbb : (2 + b + 1) * (2 + b + 1) < 10 ^ 30 - 2000 := Int.lt_of_le_of_lt (Int.mul_le_mul (show 2 + b + 1 ≤ 999999999999993 by exact z291 b1) (show 2 + b + 1 ≤ 999999999999993 by exact z291 b1) (by exact z292 b0) (by walk_at "om")) (by decide)
  have hbb2 : (2 + b + 1) * 3 ≤ (2 + b + 1) * (2 + b + 1) := Int.mul_le_mul_of_nonneg_left (by exact z293 b0) (by exact z292 b0)
  (simp only [fmod_nn,fdiv_nn,Int.reduceLE])
  refine ⟨by decide,?_⟩
  refine sp_d (fun h1=>?_) (fun h1=>?_)
  · walk_at "wp"
    refine ⟨mulOk_left (by exact z294 a0 a1),by walk_at "sd",by walk_at "sd",?_⟩
    exact h (.split ((2 + a) * (2 + b)) (2 + a) (2 + b)) ⟨by exact Int.le_add_of_nonneg_right a0,by exact Int.le_add_of_nonneg_right b0,by exact z295 a1,by exact z296 b1,rfl,hab⟩ ⟨trivial,fun _=>(comp_false (by exact Int.le_add_of_nonneg_right a0) (by exact Int.le_add_of_nonneg_right b0)).symm⟩ (show 3 ≤ (2 + a) * (2 + b) by exact z297 a0 hab2) rfl
  · walk_at "go"
    (simp only [fmod_nn,fdiv_nn,Int.reduceLE])
    refine sp_d (fun h1=>?_) (fun h1=>?_)
    · walk_at "wp"
      refine ⟨mulOk_left (by exact z294 a0 a1),by walk_at "sd",by walk_at "sd",?_⟩
      exact h (.power ((2 + a) * (2 + b)) (2 + a)) ⟨by exact z298 a0 hab2,hab,by exact z299 a0,by exact z300 a0 hab2⟩ ⟨⟨by exact z301 a0 hab2,great_pow (by exact Int.le_add_of_nonneg_right a0) (by exact Int.le_add_of_nonneg_right b0)⟩,fun _=>(comp_false (by exact Int.le_add_of_nonneg_right a0) (by exact Int.le_add_of_nonneg_right b0)).symm⟩ (show 3 ≤ (2 + a) * (2 + b) by exact z297 a0 hab2) rfl
    · walk_at "wp"
      refine ⟨mulOk_left (by exact z302 b0 b1),by walk_at "sd",by walk_at "sd",?_⟩
      have hroot : (2 + b + 1) * (2 + b + 1) % ((2 + b + 1) * (2 + b + 1) - 1) = 1 := by
        generalize (2 + b + 1) * (2 + b + 1) = y at hbb2
        rw [show y = 1 + (y - 1) by exact Int.sub_eq_iff_eq_add'.mp rfl,show 1 + (y - 1) - 1 = y - 1 by exact Int.sub_eq_iff_eq_add'.mpr rfl,Int.add_emod_right]
        exact Int.emod_eq_of_lt (by decide) (by exact z303 b0 hbb2)
      refine h (.root ((2 + b + 1) * (2 + b + 1) - 1) (2 + b + 1)) ⟨by exact z304 b0 hbb2,by exact z305 hbb,by exact z306 b0,by exact z307 b0 hbb2⟩ ⟨⟨by exact z308 b0,by exact z309 b0 hbb2,hroot⟩,fun _=>?_⟩ (show 3 ≤ (2 + b + 1) * (2 + b + 1) - 1 by exact z310 b0 hbb2) rfl
      have e := sq_less (2 + b)
      show false = isPB ((2 + b + 1) * (2 + b + 1) - 1).toNat
      rw [e,comp_false (by exact Int.le_add_of_nonneg_right b0) (by exact z311 b0)]
noncomputable def fstA (y : AV) : AV := match y with | .tup (x :: _)=>x | _=>.none
noncomputable def SNeeds (Φ : Fun) : Prop := ∀ (r : Rw) (H : Hp) (Q : PQ),r.ok → Q (.ref H.length) (H ++ [.list (r.needs.map .int)]) → Φ "_law_needs" [r.av] H Q
theorem needs {Φ : Fun} {r : Rw} {H : Hp} {Q : PQ} (hr : r.ok) (h : Q (.ref H.length) (H ++ [.list (r.needs.map .int)])) : wpF Φ m_law_needs [r.av] H Q := by
  cases r with
  | prime n b ps =>
    simp only [Rw.av,psT]
    ((refine ⟨rfl,?_⟩; simp only [lst,Nat.reduceSub,Nat.sub_self,List.replicate]))
    simp only [m_law_needs]
    walk_at "go"
    refine sp_b (fun _=>?_) (fun h1=>absurd h1 (by decide))
    walk_at "go"
    have hl : ps.length ≤ 10 := hr.2.2.2.2.2.1
    refine comp_map fstA (by simp; exact szL (by exact z312 hl)) trivial (fun y hy=>?_) ?_
    · obtain ⟨p,hp,rfl⟩ := List.mem_map.mp hy
      refine ⟨[.int p.1,.int p.2],rfl,fun Q' q=>?_⟩
      walk_at "wp"
      exact q
    · walk_at "wp"
      have : (ps.map prAV).map fstA = (Rw.prime n b ps).needs.map .int := by simp [Rw.needs,prAV,fstA]
      rw [this]; exact h
  | first =>
    simp only [Rw.av]
    ((refine ⟨rfl,?_⟩; simp only [lst,Nat.reduceSub,Nat.sub_self,List.replicate]))
    simp only [m_law_needs]
    walk_at "go"
    refine sp_b (fun h1=>absurd h1 (by decide)) (fun _=>?_)
    walk_at "go"
    exact h
  | split n a b =>
    simp only [Rw.av]
    ((refine ⟨rfl,?_⟩; simp only [lst,Nat.reduceSub,Nat.sub_self,List.replicate]))
    simp only [m_law_needs]
    walk_at "go"
    refine sp_b (fun h1=>absurd h1 (by decide)) (fun _=>?_)
    walk_at "go"
    exact h
  | power n b =>
    simp only [Rw.av]
    ((refine ⟨rfl,?_⟩; simp only [lst,Nat.reduceSub,Nat.sub_self,List.replicate]))
    simp only [m_law_needs]
    walk_at "go"
    refine sp_b (fun h1=>absurd h1 (by decide)) (fun _=>?_)
    walk_at "go"
    exact h
  | root n b =>
    simp only [Rw.av]
    ((refine ⟨rfl,?_⟩; simp only [lst,Nat.reduceSub,Nat.sub_self,List.replicate]))
    simp only [m_law_needs]
    walk_at "go"
    refine sp_b (fun h1=>absurd h1 (by decide)) (fun _=>?_)
    walk_at "go"
    exact h
end
section
open PySem
set_option maxHeartbeats 2000000
noncomputable def DOK (P : Rw → Prop) (D : List (Int × AV)) : Prop := ∀ e ∈ D,∃ r : Rw,r.ok ∧ P r ∧ r.num = e.1 ∧ e.2 = r.av
theorem prs_inj : ∀ {ps qs : List (Int × Int)},ps.map prAV = qs.map prAV → ps = qs
  | [],[],_=>rfl
  | p :: r,q :: s,h=>by
    simp only [List.map_cons,List.cons.injEq,prAV,AV.tup.injEq,AV.int.injEq,and_true] at h
    rw [prs_inj h.2,Prod.ext h.1.1 h.1.2]
theorem psT_inj {ps qs : List (Int × Int)} (h : psT ps = psT qs) : ps = qs := prs_inj (AV.tup.inj h)
theorem needs_inj {r s : Rw} (h : r.av = s.av) : r.needs = s.needs := by
  cases r <;> cases s <;> simp only [Rw.av,AV.tup.injEq,List.cons.injEq,AV.str.injEq,AV.int.injEq,and_true] at h <;> first | rfl | (obtain ⟨_,_,_,h⟩ := h; rw [Rw.needs,Rw.needs,psT_inj h]) | exact absurd h.2.1 (by decide)
noncomputable def n2 (D : List (Int × AV)) : Nat := D.countP fun e=>!decide (e.1 = 2)
noncomputable def o2 (D : List (Int × AV)) : Nat := D.countP fun e=>decide (e.1 = 2)
theorem d_len (D : List (Int × AV)) : D.length = n2 D + o2 D := by
  induction D with
  | nil=>rfl
  | cons e D ih =>
    simp only [n2,o2,List.countP_cons,List.length_cons] at ih ⊢
    by_cases h : e.1 = 2 <;> simp [h] <;> (first | lia | omega)
theorem dget_none {D : List (Int × AV)} {k : Int} (h : dget D k = none) : ∀ e ∈ D,e.1 ≠ k := by
  intro e he hk
  simp only [dget,Option.map_eq_none_iff,List.find?_eq_none,decide_eq_true_eq] at h
  exact h e he hk
theorem dget_some {D : List (Int × AV)} {k : Int} {v : AV} (h : dget D k = some v) : (k,v) ∈ D := by
  simp only [dget,Option.map_eq_some_iff] at h
  obtain ⟨e,h1,rfl⟩ := h
  have h2 := List.find?_some h1
  simp only [decide_eq_true_eq] at h2
  have := List.mem_of_find?_eq_some h1
  rw [← h2]; exact this
theorem dget_mem {D : List (Int × AV)} {e : Int × AV} (h : e ∈ D) : ∃ v,dget D e.1 = some v := by
  cases hd : dget D e.1 with
  | some v=>exact ⟨v,rfl⟩
  | none=>exact absurd rfl (dget_none hd e h)
theorem dset_new {D : List (Int × AV)} {k : Int} {v : AV} (h : dget D k = none) : dset D k v = D ++ [(k,v)] := by
  unfold dset
  rw [if_neg]
  intro h1
  simp only [List.any_eq_true,decide_eq_true_eq] at h1
  obtain ⟨e,h2,h3⟩ := h1
  exact dget_none h e h2 h3
theorem dget_new {D : List (Int × AV)} {k : Int} {v : AV} (h : dget D k = none) : dget (D ++ [(k,v)]) k = some v := by
  simp only [dget,Option.map_eq_none_iff] at h
  simp [dget,List.find?_append,h]
noncomputable def WG (w : Nat) : Prop := 2 ≤ w ∧ (w ≤ 401 ∨ (w ≤ 20000 ∧ isPB w = false))
noncomputable def WOK (W : List Nat) : Prop := ∀ w ∈ W,WG w
theorem T_big {n : Nat} (h : isPB n = false) : T n = 1 ∧ T2 n = (if n = 2 then 0 else 1) ∧ nxN n = [] ∧ nx n = [] := by
  have e : nx n = [] := by unfold nx; rw [h]; rfl
  have e2 : nxN n = [] := by unfold nxN; rw [e]; rfl
  exact ⟨by show trT 12 n = 1; rw [trT,e2]; rfl,by show tr2 12 n = _; rw [tr2,e2]; rfl,e2,e⟩
theorem T_all {n : Nat} (h : WG n) : T n = 1 + ((nxN n).map T).sum ∧ T2 n = (if n = 2 then 0 else 1) + ((nxN n).map T2).sum ∧ T n ≤ 20 ∧ T2 n ≤ 7 ∧ WOK (nxN n) ∧ ∀ q ∈ nx n,0 ≤ q := by
  rcases h.2 with h | ⟨_,h⟩
  · obtain ⟨t1,t2,t3,t4,t5,t6⟩ := T_tab h
    exact ⟨t1,t2,t3,t4,fun w hw=>⟨(t5 w hw).1,.inl (t5 w hw).2⟩,t6⟩
  · obtain ⟨h1,h2,h3,h4⟩ := T_big h
    rw [h1,h2,h3,h4]
    exact ⟨rfl,rfl,by decide,(by split <;> decide),(fun w hw=>by cases hw),fun q hq=>by cases hq⟩
noncomputable def wI (W : List Nat) : List AV := W.map fun (w : Nat)=>AV.int (w : Int)
structure RsC (P : Rw → Prop) (N : Nat) (rs : List Rw) : Prop where
  ne : rs ≠ []
  len : rs.length ≤ N + 1
  ok : ∀ r ∈ rs,r.ok
  p : ∀ r ∈ rs,P r
  inc : (rs.map Rw.num).Pairwise (· < ·)
  cl : N ≤ 40 → ∀ r ∈ rs,∀ q ∈ r.needs,∃ s ∈ rs,s.num = q
structure Inv (P : Rw → Prop) (N : Nat) (D : List (Int × AV)) (W : List Nat) : Prop where
  d : DOK P D
  o : o2 D ≤ 1
  w : WOK W
  n : n2 D + (W.map T2).sum ≤ N
  e : D ≠ [] ∨ W ≠ []
  nd : (D.map (·.1)).Nodup
  cl : N ≤ 40 → ∀ r : Rw,(r.num,r.av) ∈ D → ∀ q ∈ r.needs,(∃ v,dget D q = some v) ∨ ∃ w ∈ W,(w : Int) = q
theorem inc_of {l : List Int} (h : l.Pairwise (· ≤ ·)) (n : l.Nodup) : l.Pairwise (· < ·) := by
  induction l with
  | nil=>exact .nil
  | cons x r ih =>
    rw [List.pairwise_cons] at h
    rw [List.nodup_cons] at n
    refine List.pairwise_cons.mpr ⟨fun y hy=>?_,ih h.2 n.2⟩
    have := h.1 y hy
    rcases Int.lt_or_eq_of_le this with q | q
    · exact q
    · subst q; exact absurd hy n.1
theorem dget_app {D E : List (Int × AV)} {k : Int} {v : AV} (h : dget D k = some v) : ∃ u,dget (D ++ E) k = some u := by
  obtain ⟨u,hu⟩ := dget_mem (List.mem_append_left E (dget_some h))
  exact ⟨u,hu⟩
theorem T_len {W : List Nat} (h : WOK W) : W.length ≤ (W.map T).sum := by
  induction W with
  | nil=>simp
  | cons w W ih =>
    have h1 := (T_all (h w (by simp))).1
    have := ih fun x hx=>h x (by simp [hx])
    simp only [List.length_cons,List.map_cons,List.sum_cons]
    exact z313 h1 this
theorem rows_of {P : Rw → Prop} {D : List (Int × AV)} (hd : DOK P D) : ∀ (ms : List Int),(∀ k ∈ ms,∃ v,dget D k = some v) → ∃ rs : List Rw,(ms.map fun k=>(dget D k).getD .none) = rs.map Rw.av ∧ rs.map Rw.num = ms ∧ ∀ r ∈ rs,r.ok ∧ P r ∧ (r.num,r.av) ∈ D
  | [],_=>⟨[],rfl,rfl,fun _ h=>by cases h⟩
  | k :: ms,h=>by
    obtain ⟨v,hv⟩ := h k (by simp)
    obtain ⟨r,r1,rp,r2,r3⟩ := hd _ (dget_some hv)
    have rd : (r.num,r.av) ∈ D := by rw [r2,← r3]; exact dget_some hv
    obtain ⟨rs,h1,h2,h3⟩ := rows_of hd ms fun x hx=>h x (by simp [hx])
    refine ⟨r :: rs,?_,by simp [h2,r2],fun x hx=>?_⟩
    · simp only [List.map_cons,h1,hv,Option.getD_some]; rw [← r3]
    · rcases List.mem_cons.mp hx with rfl | hx
      · exact ⟨r1,rp,rd⟩
      · exact h3 x hx
noncomputable def getA (D : List (Int × AV)) (y : AV) : AV := match y with | .int k=>(dget D k).getD .none | _=>.none
theorem dic_len {H : Hp} {Q : PQ} {i : Nat} {l : List (Int × AV)} (h : H[i]? = some (.dict l)) (hn : l.length ≤ 1000) (q : Q (.int l.length) H) : wpBi .len [.ref i] H Q := by
  rw [l_dict h]; exact ⟨by exact z198 hn,q⟩
theorem notin_dic {H : Hp} {Q : PQ} {i : Nat} {l : List (Int × AV)} {k : Int} (h : H[i]? = some (.dict l)) (q : Q (.bool !(dget l k).isSome) H) : wpCmp .notIn (.int k) (.ref i) H Q := by
  have : wpIn (.int k) (.ref i) H (fun b=>Q (.bool !b) H) := by
    simp only [wpIn,h]
    exact ⟨k,rfl,q⟩
  exact this
theorem set_dic {H : Hp} {K : Hp → Prop} {i : Nat} {l : List (Int × AV)} {k : Int} {x : AV} (h : H[i]? = some (.dict l)) (hn : l.length ≤ 1000) (q : K (H.set i (.dict (dset l k x)))) : wpSet (.ref i) (.int k) x H K := by
  simp only [wpSet,asI,h]
  exact ⟨szL hn,q⟩
theorem pop_at {H : Hp} {Q : PQ} {i : Nat} {l : List AV} {x : AV} (h : H[i]? = some (.list (l ++ [x]))) (hn : l.length ≤ 900) (q : Q x (H.set i (.list l))) : wpMt .pop (.ref i) [] H Q := by
  show onL (.ref i) H _
  rw [onL_ref h]
  exact ⟨szL (by simp; exact z314 hn),l,x,rfl,q⟩
theorem ext_at {H : Hp} {Q : PQ} {i j : Nat} {l m : List AV} (h : H[i]? = some (.list l)) (h2 : H[j]? = some (.list m)) (hn : l.length + m.length ≤ 1000) (q : Q .none (H.set i (.list (l ++ m)))) : wpMt .extend (.ref i) [.ref j] H Q := by
  show onL (.ref i) H _
  rw [onL_ref h]
  have : onL (.ref j) H (fun _ m=>l.length + m.length ≤ 1000000 ∧ Q .none (H.set i (.list (l ++ m)))) := by
    rw [onL_ref h2]
    exact ⟨by exact z315 hn,q⟩
  exact this
theorem get_set_ne {H : Hp} {i j : Nat} {o : AObj} (h : i ≠ j) : (H.set i o)[j]? = H[j]? := List.getElem?_set_ne h
theorem get_set_eq {H : Hp} {i : Nat} {o o' : AObj} (h : H[i]? = some o') : (H.set i o)[i]? = some o := by
  rw [List.getElem?_set_self (List.getElem?_eq_some_iff.mp h).1]
noncomputable def SClosed (Φ : Fun) : Prop := ∀ (P : Rw → Prop) (N i j k n : Nat) (D : List (Int × AV)) (W : List Nat) (cs : List Int) (H H0 : Hp) (Q : PQ),(∀ r : Rw,r.ok → r.tru → P r) → N ≤ 62 → H[i]? = some (.dict D) → H[j]? = some (.list (wI W)) → H[k]? = some (.list (cs.map .int)) → Cells cs n → 1 ≤ n → n ≤ 1000 → i ≠ j → i ≠ k → j ≠ k → H0 <+: H → H0.length ≤ i → H0.length ≤ j → Inv P N D W → (W.map T).sum ≤ 500 →
  (∀ m rs H' D',H0 <+: H' → H0.length ≤ m → H'[m]? = some (.list (rs.map Rw.av)) → RsC P N rs → H'[i]? = some (.dict D') → Inv P N D' [] → H'[k]? = some (.list (cs.map .int)) → Q (.ref m) H') → Φ "_law_closed" [.ref i,.ref j,.ref k] H Q
theorem closed {Φ : Fun} (c1 : SIsP Φ) (c2 : SPRow Φ) (c3 : SPart Φ) (c4 : SNeeds Φ) {P : Rw → Prop} {N i j k n : Nat} {D : List (Int × AV)} {W : List Nat} {cs : List Int} {H H0 : Hp} {Q : PQ} (hP : ∀ r : Rw,r.ok → r.tru → P r) (hN : N ≤ 62) (hi : H[i]? = some (.dict D)) (hj : H[j]? = some (.list (wI W))) (hk : H[k]? = some (.list (cs.map .int))) (hc : Cells cs n) (hn1 : 1 ≤ n) (hn : n ≤ 1000) (ij : i ≠ j) (ik : i ≠ k) (jk : j ≠ k) (hp : H0 <+: H) (i0 : H0.length ≤ i) (j0 : H0.length ≤ j) (inv : Inv P N D W) (hT : (W.map T).sum ≤ 500)
    (h : ∀ m rs H' D',H0 <+: H' → H0.length ≤ m → H'[m]? = some (.list (rs.map Rw.av)) → RsC P N rs → H'[i]? = some (.dict D') → Inv P N D' [] → H'[k]? = some (.list (cs.map .int)) → Q (.ref m) H') : wpF Φ m_law_closed [.ref i,.ref j,.ref k] H Q := by
  ((refine ⟨rfl,?_⟩; simp only [lst,Nat.reduceSub,Nat.sub_self,List.replicate]))
  simp only [m_law_closed]
  walk_at "wp"
  refine s_whl (fun t loc H'=>∃ (D : List (Int × AV)) (W : List Nat) (o1 o2 : Option AV),loc = [some (.ref i),some (.ref j),some (.ref k),o1,o2] ∧ H'[i]? = some (.dict D) ∧ H'[j]? = some (.list (wI W)) ∧ H'[k]? = some (.list (cs.map .int)) ∧ H0 <+: H' ∧ Inv P N D W ∧ (W.map T).sum = t ∧ t ≤ 500) _ ⟨D,W,none,none,rfl,hi,hj,hk,hp,inv,rfl,hT⟩ ?_
  clear hi hj hk hp inv hT D W H
  rintro t loc H ⟨D,W,o1,o2',rfl,hi,hj,hk,hp,inv,hT,ht⟩
  have hWl := T_len inv.w
  have hDl := d_len D
  have hD63 : D.length ≤ 63 := by have := inv.o; have := inv.n; (first | lia | omega)
  walk_at "wp"
  refine len_at hj (by simp [wI]; exact z316 hT ht hWl) ?_
  walk_at "wp"
  refine sp_d (fun h1=>?_) (fun h1=>?_)
  · have hW : W ≠ [] := by rintro rfl; simp [wI] at h1
    obtain ⟨W',x,rfl⟩ : ∃ W' x,W = W' ++ [x] := ⟨W.dropLast,W.getLast hW,(List.dropLast_concat_getLast hW).symm⟩
    have hx := inv.w x (by simp)
    obtain ⟨t1,t2,t3,t4,t5,t6⟩ := T_all hx
    have hjj : H[j]? = some (.list (wI W' ++ [.int x])) := by rw [hj]; simp [wI]
    have w' : WOK W' := fun w hw=>inv.w w (by simp [hw])
    rw [List.map_append,List.sum_append] at hT
    simp only [List.map_cons,List.map_nil,List.sum_cons,List.sum_nil] at hT
    have hn0 := inv.n
    rw [List.map_append,List.sum_append] at hn0
    simp only [List.map_cons,List.map_nil,List.sum_cons,List.sum_nil] at hn0
    have hWl' := T_len w'
    walk_at "wp"
    refine ⟨isL_ref hjj,?_⟩
    refine pop_at hjj (by simp [wI]; exact z317 ht hT hWl') ?_
    generalize hH1 : H.set j (.list (wI W')) = H1
    have hi1 : H1[i]? = some (.dict D) := by rw [← hH1,get_set_ne (Ne.symm ij)]; exact hi
    have hj1 : H1[j]? = some (.list (wI W')) := by rw [← hH1]; exact get_set_eq hj
    have hk1 : H1[k]? = some (.list (cs.map .int)) := by rw [← hH1,get_set_ne jk]; exact hk
    have hp1 : H0 <+: H1 := by rw [← hH1]; exact pre_set hp j0
    walk_at "wp"
    refine notin_dic hi1 ?_
    walk_at "wp"
    cases hg : dget D x with
    | some v =>
      simp only [Option.isSome_some]
      walk_at "wp"
      refine whl_next _ (by exact z318 t1 hT) ⟨D,W',_,_,rfl,hi1,hj1,hk1,hp1,⟨inv.d,inv.o,w',by exact z319 hn0,.inl (by rintro rfl; simp [dget] at hg),inv.nd,fun h40 r hr q hq=>?_⟩,rfl,by exact z320 ht hT⟩
      rcases inv.cl h40 r hr q hq with c | ⟨w,hw,e⟩
      · exact .inl c
      · rcases List.mem_append.mp hw with hw | hw
        · exact .inr ⟨w,hw,e⟩
        · rw [List.mem_singleton.mp hw] at e; subst e; exact .inl ⟨v,hg⟩
    | none =>
      simp only [Option.isSome_none]
      walk_at "wp"
      refine dic_len hi1 (by exact z321 hD63) ?_
      walk_at "wp"
      have hcl := hc.len
      refine len_at hk1 (by simp; exact z199 hn hcl) ?_
      walk_at "wp"
      refine ⟨by rw [List.length_map]; exact z322 hn1 hcl,?_⟩
      simp only [List.length_map,hcl]
      rw [fmod_nn (by exact z171)]
      refine cel_at hk1 hc hn (Int.emod_nonneg _ (by exact Int.natCast_ne_zero_iff_pos.mpr hn1)) (Int.emod_lt_of_pos _ (by exact Int.natCast_pos.mpr hn1)) fun c c0 c1'=>?_
      walk_at "wp"
      refine c1 x H1 _ hx.1 (by have := hx.2; (first | lia | omega)) ?_
      have rest : ∀ r : Rw,r.ok → r.tru → r.num = x → r.needs = nx x → wpSs Φ [MS.expr (.meth .extend (.loc 1) [.call "_law_needs" [.idx (.loc 0) (.loc 3)]])] [some (.ref i),some (.ref j),some (.ref k),some (.int x),some (.int c)] (H1.set i (.dict (dset D x r.av))) (thenS Φ [] (whlK (fun t loc H'=>∃ (D : List (Int × AV)) (W : List Nat) (o1 o2 : Option AV),loc = [some (.ref i),some (.ref j),some (.ref k),o1,o2] ∧ H'[i]? = some (.dict D) ∧ H'[j]? = some (.list (wI W)) ∧ H'[k]? = some (.list (cs.map .int)) ∧ H0 <+: H' ∧ Inv P N D W ∧ (W.map T).sum = t ∧ t ≤ 500) t (thenS Φ [MS.ret (.comp false 1 (.idx (.loc 0) (.loc 5)) .plain [.bi .sorted [.loc 0]] [])] (endOf Q)))) := by
        intro r hr htru hnum hneed
        rw [dset_new hg]
        generalize hH2 : H1.set i (.dict (D ++ [((x : Int),r.av)])) = H2
        have hi2 : H2[i]? = some (.dict (D ++ [((x : Int),r.av)])) := by rw [← hH2]; exact get_set_eq hi1
        have hj2 : H2[j]? = some (.list (wI W')) := by rw [← hH2,get_set_ne ij]; exact hj1
        have hk2 : H2[k]? = some (.list (cs.map .int)) := by rw [← hH2,get_set_ne ik]; exact hk1
        have hp2 : H0 <+: H2 := by rw [← hH2]; exact pre_set hp1 i0
        walk_at "wp"
        refine ⟨isL_ref hj2,?_⟩
        rw [i_dict hi2]
        refine ⟨r.av,dget_new hg,?_⟩
        walk_at "wp"
        refine c4 r H2 _ hr ?_
        walk_at "wp"
        have hnl : (nx x).length ≤ 20 := by
          have h1 := T_len t5
          simp only [nxN,List.length_map] at h1
          simp only [nxN] at t1
          exact z323 t1 t3 h1
        have ew : wI W' ++ r.needs.map .int = wI (W' ++ nxN x) := by
          rw [hneed]
          simp only [wI,List.map_append,nxN,List.map_map,List.append_cancel_left_eq]
          refine List.map_congr_left fun q hq=>?_
          have := t6 q hq
          simp only [Function.comp]
          congr 1; exact Int.eq_natCast_toNat.mpr this
        refine ext_at (pre_at pre_new hj2) at_new (by rw [hneed]; simp [wI]; exact z324 ht hT hWl' hnl) ?_
        rw [ew]
        walk_at "wp"
        have hjl : j < H2.length := (List.getElem?_eq_some_iff.mp hj2).1
        refine whl_next ((W' ++ nxN x).map T).sum ?_ ⟨D ++ [((x : Int),r.av)],W' ++ nxN x,_,_,rfl,?_,?_,?_,?_,⟨?_,?_,?_,?_,?_,?_,?_⟩,rfl,?_⟩
        · rw [List.map_append,List.sum_append]; exact z325 t1 hT
        · rw [get_set_ne (Ne.symm ij)]; exact pre_at pre_new hi2
        · exact get_set_eq (pre_at pre_new hj2)
        · rw [get_set_ne jk]; exact pre_at pre_new hk2
        · exact pre_set (hp2.trans pre_new) j0
        · intro e he
          rcases List.mem_append.mp he with he | he
          · exact inv.d e he
          · rw [List.mem_singleton.mp he]; exact ⟨r,hr,hP r hr htru,hnum,rfl⟩
        · simp only [o2,List.countP_append]
          by_cases e : (x : Int) = 2
          · have h0 : o2 D = 0 := by
              simp only [o2,List.countP_eq_zero]
              intro e' he'
              have := dget_none hg e' he'
              simp; exact z326 e this
            simp only [o2] at h0
            simp [h0,List.countP_cons,e]
          · have := inv.o
            simp only [o2] at this
            simp [List.countP_cons,e]; exact z327 this
        · intro w hw
          rcases List.mem_append.mp hw with hw | hw
          · exact w' w hw
          · exact t5 w hw
        · simp only [n2,List.countP_append,List.map_append,List.sum_append]
          simp only [n2] at hn0
          by_cases e : x = 2
          · have : (x : Int) = 2 := by exact Int.neg_inj.mp (congrArg Neg.neg (congrArg Nat.cast e))
            rw [if_pos e] at t2
            simp [List.countP_cons,this]; exact z328 t2 hn0
          · have : ¬ (x : Int) = 2 := by exact Nat.ToInt.of_diseq rfl rfl e
            rw [if_neg e] at t2
            simp [List.countP_cons,this]; exact z329 t2 hn0
        · exact .inl (by simp)
        · rw [List.map_append,List.nodup_append]
          refine ⟨inv.nd,by simp,fun a ha b hb=>?_⟩
          obtain ⟨e,he,rfl⟩ := List.mem_map.mp ha
          simp only [List.map_cons,List.map_nil,List.mem_singleton] at hb
          subst hb
          exact dget_none hg e he
        · intro h40 s hs q hq
          rcases List.mem_append.mp hs with hs | hs
          · rcases inv.cl h40 s hs q hq with ⟨v,c⟩ | ⟨w,hw,e⟩
            · exact .inl (dget_app c)
            · rcases List.mem_append.mp hw with hw | hw
              · exact .inr ⟨w,List.mem_append_left _ hw,e⟩
              · rw [List.mem_singleton.mp hw] at e; subst e; exact .inl ⟨_,dget_new hg⟩
          · have e := congrArg Prod.snd (List.mem_singleton.mp hs)
            rw [needs_inj e,hneed] at hq
            have := t6 q hq
            exact .inr ⟨q.toNat,List.mem_append_right _ (List.mem_map.mpr ⟨q,hq,rfl⟩),Int.toNat_of_nonneg this⟩
        · rw [List.map_append,List.sum_append]; exact z330 ht t1 hT
      walk_at "wp"
      cases hpx : isPB x with
      | true =>
        walk_at "wp"
        refine c2 x c H1 _ hx.1 (by rcases hx.2 with q | ⟨_,q⟩; exact q; rw [q] at hpx; cases hpx) hpx c0 fun r r1 rt r2 r3=>?_
        walk_at "wp"
        refine set_dic hi1 (by exact z321 hD63) ?_
        simp only [k_sto4,thenS_next,ss_nil]
        exact rest r r1 rt r2 r3
      | false =>
        walk_at "wp"
        refine c3 x c H1 _ hx.1 (by have := hx.2; (first | lia | omega)) hpx c0 fun r r1 rt r2 r3=>?_
        walk_at "wp"
        refine set_dic hi1 (by exact z321 hD63) ?_
        simp only [k_sto4,thenS_next,ss_nil]
        exact rest r r1 rt r2 (by rw [r3]; simp [nx,hpx])
  · have hW : W = [] := by
      cases W with
      | nil=>rfl
      | cons w W=>exact absurd (by simp [wI]; try (first | lia | omega)) h1
    subst hW
    have hDn : D ≠ [] := by rcases inv.e with h2 | h2; exact h2; exact absurd rfl h2
    walk_at "wp"
    refine ⟨D.map (·.1),.inr ⟨i,D,rfl,hi,rfl⟩,by rw [List.length_map]; exact z331 hD63,fun ms hperm hsort=>?_⟩
    walk_at "wp"
    rw [r_list at_new]
    have hml : ms.length = D.length := by rw [hperm.length_eq,List.length_map]
    have hms : ∀ y ∈ ms,∃ v,dget D y = some v := fun y hy=>by
      obtain ⟨e,he,rfl⟩ := List.mem_map.mp (hperm.mem_iff.mp hy)
      exact dget_mem he
    obtain ⟨rs,r1,r2,r3⟩ := rows_of inv.d ms hms
    refine comp_map (getA D) (by rw [List.length_map]; exact szL (by exact z332 hD63 hml)) at_new (fun y hy=>?_) ?_
    · obtain ⟨q,hq,rfl⟩ := List.mem_map.mp hy
      obtain ⟨v,hv⟩ := hms q hq
      refine ⟨[.int q],rfl,fun Q' qq=>?_⟩
      walk_at "wp"
      rw [i_dict (pre_at pre_new hi)]
      refine ⟨v,hv,?_⟩
      simp only [getA,hv,Option.getD_some] at qq
      exact qq
    · walk_at "wp"
      have e : (ms.map AV.int).map (getA D) = rs.map Rw.av := by
        rw [← r1,List.map_map]; rfl
      rw [e]
      have hrl : rs.length = D.length := by have := congrArg List.length r2; simp at this; exact z333 hml this
      have hnd : ms.Nodup := hperm.nodup_iff.mpr inv.nd
      refine h _ rs _ D (hp.trans (pre_new.trans pre_new)) ?_ at_new ⟨?_,by have := inv.o; have := inv.n; simp at this; (first | lia | omega),fun r hr=>(r3 r hr).1,fun r hr=>(r3 r hr).2.1,by rw [r2]; exact inc_of hsort hnd,?_⟩ (pre_at (pre_new.trans pre_new) hi) inv (pre_at (pre_new.trans pre_new) hk)
      · have := hp.length_le; simp; exact Nat.le_add_right_of_le this
      · rintro rfl
        cases D with
        | nil=>exact hDn rfl
        | cons=>simp at hrl
      · intro h40 r hr q hq
        rcases inv.cl h40 r (r3 r hr).2.2 q hq with ⟨v,c⟩ | ⟨w,hw,_⟩
        · have : q ∈ ms := hperm.mem_iff.mpr (List.mem_map.mpr ⟨_,dget_some c,rfl⟩)
          rw [← r2] at this
          obtain ⟨s,hs,e⟩ := List.mem_map.mp this
          exact ⟨s,hs,e⟩
        · cases hw
end
section
open PySem
set_option maxHeartbeats 2000000
theorem row_at0 {r : Rw} {H : Hp} {Q : PQ} (q : Q (.int r.num) H) : wpIdx r.av (.int 0) H Q := by
  cases r <;> (simp only [Rw.av,i_tup0]; exact ⟨by (first | exact Nat.le_of_ble_eq_true rfl | simp),q⟩)
theorem dset_keys (f : Int → Bool) (D : List (Int × AV)) (k : Int) (v : AV) : (dset D k v).countP (fun e=>f e.1) ≤ D.countP (fun e=>f e.1) + (if f k then 1 else 0) := by
  unfold dset
  split
  · rw [List.countP_map]
    have : ((fun e : Int × AV=>f e.1) ∘ fun kv=>if kv.1 = k then (kv.1,v) else kv) = fun e=>f e.1 := by
      funext e
      simp only [Function.comp]
      split <;> rfl
    rw [this]; exact z9
  · rw [List.countP_append]
    simp only [List.countP_cons,List.countP_nil]
    (first | lia | omega)
theorem dset_ok {P : Rw → Prop} {D : List (Int × AV)} (h : DOK P D) {r : Rw} (hr : r.ok) (hp : P r) : DOK P (dset D r.num r.av) := by
  unfold dset
  split
  · intro e he
    obtain ⟨e',he',rfl⟩ := List.mem_map.mp he
    split
    · rename_i h1; exact ⟨r,hr,hp,h1.symm,rfl⟩
    · exact h e' he'
  · intro e he
    rcases List.mem_append.mp he with he | he
    · exact h e he
    · rw [List.mem_singleton.mp he]; exact ⟨r,hr,hp,rfl,rfl⟩
theorem dset_mem {D : List (Int × AV)} {k : Int} {v : AV} {e : Int × AV} (h : e ∈ dset D k v) : e ∈ D ∨ e = (k,v) := by
  unfold dset at h
  split at h
  · obtain ⟨e',he',rfl⟩ := List.mem_map.mp h
    split
    · rename_i h1; exact .inr (by rw [h1])
    · exact .inl he'
  · rcases List.mem_append.mp h with h | h
    · exact .inl h
    · exact .inr (List.mem_singleton.mp h)
theorem dset_fst {D : List (Int × AV)} {k : Int} {v : AV} : (dset D k v).map (·.1) = D.map (·.1) ∨ ((dset D k v).map (·.1) = D.map (·.1) ++ [k] ∧ k ∉ D.map (·.1)) := by
  unfold dset
  split
  · refine .inl ?_
    rw [List.map_map]
    refine List.map_congr_left fun e _=>?_
    simp only [Function.comp]
    split <;> rfl
  · rename_i h
    refine .inr ⟨by simp,fun hk=>h ?_⟩
    obtain ⟨e,he,rfl⟩ := List.mem_map.mp hk
    exact List.any_eq_true.mpr ⟨e,he,by simp⟩
theorem dset_nd {D : List (Int × AV)} {k : Int} {v : AV} (h : (D.map (·.1)).Nodup) : ((dset D k v).map (·.1)).Nodup := by
  rcases @dset_fst D k v with e | ⟨e,hk⟩
  · rw [e]; exact h
  · rw [e,List.nodup_append]
    exact ⟨h,by simp,fun a ha b hb=>by rw [List.mem_singleton.mp hb]; rintro rfl; exact hk ha⟩
theorem dget_key {D : List (Int × AV)} {q : Int} : q ∈ D.map (·.1) ↔ ∃ v,dget D q = some v := by
  constructor
  · intro h
    obtain ⟨e,he,rfl⟩ := List.mem_map.mp h
    exact dget_mem he
  · rintro ⟨v,hv⟩
    exact List.mem_map.mpr ⟨_,dget_some hv,rfl⟩
theorem dset_get {D : List (Int × AV)} {k q : Int} {v : AV} (h : (∃ u,dget D q = some u) ∨ q = k) : ∃ u,dget (dset D k v) q = some u := by
  rw [← dget_key] at h ⊢
  rcases @dset_fst D k v with e | ⟨e,hk⟩
  · rw [e]
    rcases h with h | rfl
    · exact h
    · have : q ∈ (dset D q v).map (·.1) := by
        unfold dset
        split
        · rename_i h1
          obtain ⟨x,hx,hxk⟩ := List.any_eq_true.mp h1
          have hxk : x.1 = q := by simpa using hxk
          refine List.mem_map.mpr ⟨(x.1,v),List.mem_map.mpr ⟨x,hx,?_⟩,hxk⟩
          rw [if_pos hxk]
        · simp
      rw [e] at this; exact this
  · rw [e]
    rcases h with h | rfl
    · exact List.mem_append_left _ h
    · exact List.mem_append_right _ (by simp)
theorem dset_ne {D : List (Int × AV)} {k : Int} {v : AV} : dset D k v ≠ [] := by
  unfold dset
  split
  · rename_i h
    cases D with
    | nil=>simp at h
    | cons=>simp
  · simp
theorem sum_le {W : List Nat} {f : Nat → Nat} {b : Nat} (h : ∀ w ∈ W,f w ≤ b) : (W.map f).sum ≤ W.length * b := by
  induction W with
  | nil=>simp
  | cons w W ih =>
    have h1 := h w (by simp)
    have h2 := ih fun x hx=>h x (by simp [hx])
    simp only [List.map_cons,List.sum_cons,List.length_cons,Nat.add_mul,Nat.one_mul]
    exact z334 h1 h2
abbrev RsOK (rs : List Rw) : Prop := RsC Rw.tru 40 rs
noncomputable def SRowsBy (Φ : Fun) : Prop := ∀ (k n : Nat) (cs : List Int) (H : Hp) (Q : PQ),H[k]? = some (.list (cs.map .int)) → Cells cs n → 8 ≤ n → n ≤ 1000 → (∀ rs,RsOK rs → Q (.ref H.length) (H ++ [.list (rs.map Rw.av)])) → Φ "_law_rows_by" [.ref k] H Q
theorem rows_by {Φ : Fun} (c1 : SBig Φ) (c2 : SGreat Φ) (c3 : SNeeds Φ) (c4 : SClosed Φ) {k n : Nat} {cs : List Int} {H : Hp} {Q : PQ} (hk : H[k]? = some (.list (cs.map .int))) (hc : Cells cs n) (n8 : 8 ≤ n) (hn : n ≤ 1000)
    (h : ∀ m rs H',H <+: H' → H.length ≤ m → H'[m]? = some (.list (rs.map Rw.av)) → RsOK rs → Q (.ref m) H') : wpF Φ m_law_rows_by [.ref k] H Q := by
  have kl : k < H.length := (List.getElem?_eq_some_iff.mp hk).1
  have r4 : ∀ (j : Nat) (D : List (Int × AV)) (W : List Nat) (o : Option AV) (H1 : Hp),H.length < j → H1[H.length]? = some (.dict D) → H1[j]? = some (.list (wI W)) → H <+: H1 → Inv Rw.tru 40 D W → (W.map T).sum ≤ 500 → wpSs Φ (m_law_rows_by.body.drop 4) [some (.ref k),some (.ref H.length),some (.ref j),o] H1 (endOf Q) := by
    intro j D W o H1 hj g1 g2 hp inv hT
    simp only [m_law_rows_by,List.drop]
    walk_at "wp"
    refine c4 Rw.tru 40 H.length j k n D W cs H1 H _ (fun _ _ t=>t) (by decide) g1 g2 (pre_at hp hk) hc (by exact Nat.one_le_of_lt n8) hn (by exact Nat.ne_of_lt hj) (by exact Ne.symm (Nat.ne_of_lt kl)) (by exact z335 kl hj) hp (Nat.le_refl _) (by exact Nat.le_of_succ_le hj) inv hT fun m rs H' D' p1 p2 p3 p4 _ _ _=>?_
    walk_at "wp"
    exact h m rs H' p1 p2 p3 p4
  have r3 : ∀ (j : Nat) (D : List (Int × AV)) (W : List Nat) (o : Option AV) (H1 : Hp),H.length < j → H1[H.length]? = some (.dict D) → H1[j]? = some (.list (wI W)) → H <+: H1 → Inv Rw.tru 40 D W → n2 D + (W.map T2).sum ≤ 39 → (W.map T).sum ≤ 500 → wpSs Φ (m_law_rows_by.body.drop 3) [some (.ref k),some (.ref H.length),some (.ref j),o] H1 (endOf Q) := by
    intro j D W o H1 hj g1 g2 hp inv hs hT
    simp only [m_law_rows_by,List.drop]
    walk_at "wp"
    refine cel_at (pre_at hp hk) hc hn (by walk_at "om") (by exact Int.lt_of_toNat_lt n8) fun x x0 x1=>?_
    walk_at "go"
    (simp only [fmod_nn,fdiv_nn,Int.reduceLE])
    refine sp_d (fun _=>?_) (fun _=>?_)
    · walk_at "wp"
      refine cel_at (pre_at hp hk) hc hn (by walk_at "om") (by exact Int.lt_of_toNat_lt n8) fun x x0 x1=>?_
      walk_at "wp"
      refine cel_at (pre_at hp hk) hc hn (by walk_at "om") (by exact z336 n8) fun y y0 y1=>?_
      walk_at "wp"
      refine c2 x y H1 _ x0 x1 y0 y1 fun r hr rt r3 rn=>?_
      walk_at "wp"
      refine row_at0 ?_
      walk_at "wp"
      have hDl := d_len D
      refine set_dic g1 (by have := inv.o; exact z337 hs hDl this) ?_
      have k1 := dset_keys (fun k=>!decide (k = 2)) D r.num r.av
      have k2 := dset_keys (fun k=>decide (k = 2)) D r.num r.av
      rw [if_neg (by simp; exact Int.ne_of_gt r3)] at k2
      rw [if_pos (by simp; exact Int.ne_of_gt r3)] at k1
      simp only [k_sto4,thenS_next,ss_nil]
      refine r4 j (dset D r.num r.av) W _ _ hj (get_set_eq g1) (by rw [get_set_ne (by exact Nat.ne_of_lt hj)]; exact g2) (pre_set hp (Nat.le_refl _)) ⟨dset_ok inv.d hr rt,?_,inv.w,?_,.inl dset_ne,dset_nd inv.nd,fun h40 s hs q hq=>?_⟩ hT
      · have := inv.o; simp only [o2] at this ⊢; exact Nat.le_trans k2 this
      · simp only [n2] at hs ⊢; exact z338 hs k1
      · rcases dset_mem hs with hs | hs
        · rcases inv.cl h40 s hs q hq with c | c
          · exact .inl (dset_get (.inl c))
          · exact .inr c
        · rw [needs_inj (congrArg Prod.snd hs),rn] at hq; cases hq
    · simp only [k_itef,ss_nil,thenS_next]
      exact r4 j D W o H1 hj g1 g2 hp inv hT
  have r2 : ∀ (j : Nat) (W : List Nat) (H1 : Hp),H.length < j → H1[H.length]? = some (.dict []) → H1[j]? = some (.list (wI W)) → H <+: H1 → WOK W → 1 ≤ W.length → W.length ≤ 5 → wpSs Φ (m_law_rows_by.body.drop 2) [some (.ref k),some (.ref H.length),some (.ref j),none] H1 (endOf Q) := by
    intro j W H1 hj g1 g2 hp hw w1 w5
    have s1 : (W.map T).sum ≤ 100 := Nat.le_trans (sum_le fun w hw'=>(T_all (hw w hw')).2.2.1) (by exact z339 w5)
    have s2 : (W.map T2).sum ≤ 35 := Nat.le_trans (sum_le fun w hw'=>(T_all (hw w hw')).2.2.2.1) (by exact z340 w5)
    have hne : W ≠ [] := by rintro rfl; simp at w1
    simp only [m_law_rows_by,List.drop]
    walk_at "wp"
    refine cel_at (pre_at hp hk) hc hn (by walk_at "om") (by exact z341 n8) fun x x0 x1=>?_
    walk_at "go"
    (simp only [fmod_nn,fdiv_nn,Int.reduceLE])
    refine sp_d (fun _=>?_) (fun _=>?_)
    · walk_at "wp"
      refine cel_at (pre_at hp hk) hc hn (by walk_at "om") (by exact z341 n8) fun x x0 x1=>?_
      walk_at "go"
      rw [fdiv_nn (by walk_at "om")]
      refine c1 (x / 4) H1 _ (by exact z342 x0) fun r hr rt r3' nok=>?_
      walk_at "wp"
      refine row_at0 ?_
      walk_at "wp"
      refine set_dic g1 (by simp) ?_
      have e1 : dset [] r.num r.av = [(r.num,r.av)] := rfl
      rw [e1]
      generalize hH2 : H1.set H.length (.dict [(r.num,r.av)]) = H2
      have g12 : H2[H.length]? = some (.dict [(r.num,r.av)]) := by rw [← hH2]; exact get_set_eq g1
      have g22 : H2[j]? = some (.list (wI W)) := by rw [← hH2,get_set_ne (by exact Nat.ne_of_lt hj)]; exact g2
      have hp2 : H <+: H2 := by rw [← hH2]; exact pre_set hp (Nat.le_refl _)
      walk_at "wp"
      refine ⟨isL_ref g22,?_⟩
      refine c3 r H2 _ hr ?_
      walk_at "wp"
      obtain ⟨nk1,nk2,nk3⟩ := nok
      have ew : wI W ++ r.needs.map .int = wI (W ++ r.needs.map Int.toNat) := by
        simp only [wI,List.map_append,List.map_map,List.append_cancel_left_eq]
        refine List.map_congr_left fun q hq=>?_
        have := nk1 q hq
        simp only [Function.comp]
        congr 1; exact z343 this
      have hwn : WOK (r.needs.map Int.toNat) := fun w hw=>by
        obtain ⟨q,hq,rfl⟩ := List.mem_map.mp hw
        have := nk1 q hq
        exact ⟨by exact z344 this,.inl (by exact z345 this)⟩
      have hnl := T_len hwn
      rw [List.length_map] at hnl
      refine ext_at (pre_at pre_new g22) at_new (by simp [wI]; exact z346 w5 nk2 hnl) ?_
      rw [ew]
      simp only [k_exp,thenS_next,ss_nil]
      refine r3 j [(r.num,r.av)] (W ++ r.needs.map Int.toNat) _ _ hj (by rw [get_set_ne (by exact Ne.symm (Nat.ne_of_lt hj))]; exact pre_at pre_new g12) (get_set_eq (pre_at pre_new g22)) (pre_set (hp2.trans pre_new) (by exact Nat.le_of_succ_le hj)) ⟨?_,?_,?_,?_,.inl (by simp),by simp,fun h40 s hs q hq=>?_⟩ ?_ ?_
      · intro e he; rw [List.mem_singleton.mp he]; exact ⟨r,hr,rt,rfl,rfl⟩
      · simp only [o2,List.countP_cons,List.countP_nil]; split <;> (first | lia | omega)
      · intro w hw'
        rcases List.mem_append.mp hw' with hw' | hw'
        · exact hw w hw'
        · exact hwn w hw'
      · simp only [n2,List.countP_cons,List.countP_nil,List.map_append,List.sum_append]; split <;> (first | lia | omega)
      · rw [needs_inj (congrArg Prod.snd (List.mem_singleton.mp hs))] at hq
        exact .inr ⟨q.toNat,List.mem_append_right _ (List.mem_map.mpr ⟨q,hq,rfl⟩),Int.toNat_of_nonneg (by have := nk1 q hq; exact z347 this)⟩
      · simp only [n2,List.countP_cons,List.countP_nil,List.map_append,List.sum_append]; split <;> (first | lia | omega)
      · simp only [List.map_append,List.sum_append]; exact z348 s1 nk2
    · simp only [k_itef,ss_nil,thenS_next]
      exact r3 j [] W none H1 hj g1 g2 hp ⟨(fun e he=>by cases he),by simp [o2],hw,(by simp [n2]; exact z349 s2),.inr hne,by simp,(fun _ s hs=>by cases hs)⟩ (by simp [n2]; exact z350 s2) (by exact z351 s1)
  ((refine ⟨rfl,?_⟩; simp only [lst,Nat.reduceSub,Nat.sub_self,List.replicate]))
  simp only [m_law_rows_by]
  walk_at "wp"
  refine cel_at (pre_at pre_new hk) hc hn (by walk_at "om") (by exact z352 n8) fun x x0 x1=>?_
  walk_at "go"
  (simp only [fmod_nn,fdiv_nn,Int.reduceLE])
  refine ⟨by exact z353,by exact z354,?_⟩
  refine ⟨by rw [List.length_map,List.length_range]; exact szL (by exact z355),fun i l H'=>∃ W : List Nat,l = wI W ∧ W.length = i ∧ WOK W ∧ (H ++ [AObj.dict []]) <+: H',⟨[],rfl,rfl,(fun w hw=>by cases hw),List.prefix_refl _⟩,?_⟩
  rintro i l H' ⟨W,rfl,hi,hw,hp⟩
  have hp0 : H <+: H' := pre_new.trans hp
  refine ⟨trivial,fun y hy=>?_,fun hi'=>?_⟩
  · have hlt : i < (1 + x % 5).toNat := by
      have := (List.getElem?_eq_some_iff.mp hy).1
      simpa using this
    rw [List.getElem?_map,List.getElem?_range (by simpa using hlt)] at hy
    simp only [Option.map_some,Option.some.injEq] at hy
    subst hy
    refine ⟨[.int i],rfl,?_⟩
    rw [cs_nil]
    simp only [if_true]
    walk_at "wp"
    refine cel_at (pre_at hp0 hk) hc hn (by exact z171) (by exact z356 n8 hlt) fun y y0 y1=>?_
    walk_at "go"
    refine cel_at (pre_at (hp0.trans pre_new) hk) hc hn (by exact z171) (by exact z356 n8 hlt) fun z z0 z1=>?_
    walk_at "go"
    (simp only [fmod_nn,fdiv_nn,Int.reduceLE])
    refine idx_any at_new (by (first | exact Nat.le_of_ble_eq_true rfl | simp)) (by walk_at "om") (by (first | exact Int.emod_lt_of_pos _ (by decide) | (simp; (first | lia | omega)))) fun u hu=>?_
    have : ∃ m : Int,u = .int m ∧ 0 < m ∧ m ≤ 398 := by
      simp only [List.mem_cons,List.not_mem_nil,or_false] at hu
      rcases hu with rfl | rfl <;> exact ⟨_,rfl,by decide,by decide⟩
    obtain ⟨m,rfl,m0,m1⟩ := this
    walk_at "wp"
    refine ⟨by exact Ne.symm (Int.ne_of_lt m0),?_⟩
    rw [fmod_nn (by exact Int.le_of_lt m0)]
    have b0 := Int.emod_nonneg (y / 6) (show m ≠ 0 by exact Ne.symm (Int.ne_of_lt m0))
    have b1 := Int.emod_lt_of_pos (y / 6) m0
    generalize y / 6 % m = q at b0 b1
    refine ⟨W ++ [(2 + q).toNat],?_,by simp [hi],fun w hw'=>?_,hp.trans pre_new⟩
    · simp only [wI,List.map_append,List.map_cons,List.map_nil]
      congr 2
      rw [Int.toNat_of_nonneg (by exact z290 b0)]
    · rcases List.mem_append.mp hw' with hw' | hw'
      · exact hw w hw'
      · rw [List.mem_singleton.mp hw']; exact ⟨by exact z357 b0,.inl (by exact z358 m1 b1)⟩
  · have hil : i = (1 + x % 5).toNat := by simpa using hi'
    simp only [k_asg,thenS_next,List.set_cons_zero,List.set_cons_succ]
    refine r2 H'.length W _ ?_ (pre_at pre_new (pre_at hp at_new)) at_new (hp0.trans pre_new) hw (by exact z359 hi hil) (by exact z360 hi hil)
    have := hp.length_le
    simp at this; exact Nat.lt_of_succ_le this
theorem cleans_psT (ps : List (Int × Int)) : cleans (ps.map prAV) = true := by
  induction ps with
  | nil=>rfl
  | cons p ps ih=>simp only [List.map_cons,prAV,cleans,clean,ih,Bool.and_self]
theorem av_clean (r : Rw) : clean r.av = true := by
  cases r <;> simp only [Rw.av,psT,clean,cleans,cleans_psT,Bool.and_self]
theorem avs_clean (rs : List Rw) : cleans (rs.map Rw.av) = true := by
  induction rs with
  | nil=>rfl
  | cons r rs ih=>simp only [List.map_cons,cleans,av_clean,ih,Bool.and_self]
theorem psT_clean (ps : List (Int × Int)) : clean (psT ps) = true := by simp only [psT,clean,cleans_psT]
end
section
open PySem
set_option maxHeartbeats 2000000
noncomputable def m_tells_prime : MF := ⟨1,1,
  [.ret (.or2 (.cmp .eq (.idx (.loc 0) (.cst (.int 1))) (.cst (.str "first"))) (.cmp .eq (.idx (.loc 0) (.cst (.int 1))) (.cst (.str "prime"))))]⟩
noncomputable def m_comes_to : MF := ⟨2,6,
  [.asg 2 (.cst (.int 1)),
  .forr true [3,4] .plain [.loc 0] [.forr false [5] .range [.loc 4] [.asg 2 (.bin .mul (.loc 2) (.loc 3)),
      .ite (.cmp .gt (.loc 2) (.loc 1)) [.ret (.cst (.bool false))] []]],
  .ret (.cmp .eq (.loc 2) (.loc 1))]⟩
noncomputable def m_holds_prime : MF := ⟨4,4,
  [.ite (.or2 (.not (.bi .all [.comp true 2 (.cmp .isin (.loc 4) (.loc 3)) .plain [.loc 2] []])) (.not (.call "comes_to" [.loc 2,.bin .sub (.loc 0) (.cst (.int 1))]))) [.ret (.cst (.bool false))] [],
  .ite (.or2 (.cmp .ge (.loc 1) (.loc 0)) (.cmp .ne (.call "powered" [.loc 1,.bin .sub (.loc 0) (.cst (.int 1)),.loc 0]) (.cst (.int 1)))) [.ret (.cst (.bool false))] [],
  .ret (.bi .all [.comp true 2 (.cmp .ne (.call "powered" [.loc 1,.bin .fdiv (.bin .sub (.loc 0) (.cst (.int 1))) (.loc 4),.loc 0]) (.cst (.int 1))) .plain [.loc 2] []])]⟩
noncomputable def m_holds : MF := ⟨2,6,
  [.asgT [2,3,4] (.loc 0),
  .ite (.cmp .eq (.loc 3) (.cst (.str "first"))) [.ret (.cmp .eq (.loc 2) (.cst (.int 2)))] [],
  .ite (.cmp .eq (.loc 3) (.cst (.str "prime"))) [.ret (.call "holds_prime" [.loc 2,.idx (.loc 4) (.cst (.int 0)),.idx (.loc 4) (.cst (.int 1)),.loc 1])] [],
  .ite (.cmp .eq (.loc 3) (.cst (.str "split"))) [.ret (.cmp .eq (.bin .mul (.idx (.loc 4) (.cst (.int 0))) (.idx (.loc 4) (.cst (.int 1)))) (.loc 2))] [],
  .asg 5 (.idx (.loc 4) (.cst (.int 0))),
  .ite (.cmp .eq (.loc 3) (.cst (.str "power"))) [.ret (.and2 (.cmp .lt (.loc 5) (.loc 2)) (.cmp .ne (.call "powered" [.loc 5,.bin .sub (.loc 2) (.cst (.int 1)),.loc 2]) (.cst (.int 1))))] [],
  .ret (.and2 (.cmp2 .lt .lt (.cst (.int 1)) (.loc 5) (.bin .sub (.loc 2) (.cst (.int 1)))) (.cmp .eq (.bin .mod (.bin .mul (.loc 5) (.loc 5)) (.loc 2)) (.cst (.int 1))))]⟩
noncomputable def m_law_tells : MF := ⟨1,1,
  [.ret (.or2 (.cmp .eq (.idx (.loc 0) (.cst (.int 1))) (.cst (.str "first"))) (.cmp .eq (.idx (.loc 0) (.cst (.int 1))) (.cst (.str "prime"))))]⟩
inductive Fc where
  | first
  | prime (b : Int) (ps : List (Int × Int))
  | split (a b : Int)
  | power (b : Int)
  | root (b : Int)
noncomputable def Fc.word : Fc → Str
  | .first => "first"
  | .prime _ _ => "prime"
  | .split _ _ => "split"
  | .power _ => "power"
  | .root _ => "root"
noncomputable def Fc.facts : Fc → List AV
  | .first=>[]
  | .prime b ps=>[.int b,psT ps]
  | .split a b=>[.int a,.int b]
  | .power b=>[.int b]
  | .root b=>[.int b]
noncomputable def roA (n : Int) (f : Fc) : AV := .tup [.int n,.str f.word,.tup f.facts]
noncomputable def PsK (k : Nat) (ps : List (Int × Int)) : Prop := ps ≠ [] ∧ ps.length ≤ 10 + k ∧ ∀ p ∈ ps,2 ≤ p.1 ∧ p.1 ≤ 1000000 + 10 * k ∧ 1 ≤ p.2 ∧ p.2 ≤ 100
noncomputable def bK (k : Nat) (b : Int) : Prop := 1 ≤ b ∧ b ≤ 10 ^ 30
noncomputable def sK (k : Nat) (b : Int) : Prop := 2 ≤ b ∧ b ≤ 10 ^ 16 + k
noncomputable def Fc.ok (k : Nat) : Fc → Prop
  | .first=>True
  | .prime b ps=>bK k b ∧ PsK k ps ∧ Ris ps
  | .split a b=>sK k a ∧ sK k b
  | .power b=>bK k b
  | .root b=>bK k b
noncomputable def RoK (k : Nat) (n : Int) (f : Fc) : Prop := k ≤ 50 ∧ 2 ≤ n ∧ n ≤ 10 ^ 30 - 2000 + k ∧ f.ok k
noncomputable def Fc.needs : Fc → List Int
  | .prime _ ps=>ps.map (·.1)
  | _=>[]
noncomputable def Fc.tells : Fc → Bool
  | .first=>true
  | .prime _ _=>true
  | _=>false
theorem w_first {f : Fc} (h : (f.word == "first") = true) : f = .first := by
  cases f <;> first | rfl | (simp only [Fc.word] at h; exact absurd h (by decide))
theorem w_prime {f : Fc} (h : (f.word == "prime") = true) : ∃ b ps,f = .prime b ps := by
  cases f <;> first | exact ⟨_,_,rfl⟩ | (simp only [Fc.word] at h; exact absurd h (by decide))
theorem w_split {f : Fc} (h : (f.word == "split") = true) : ∃ a b,f = .split a b := by
  cases f <;> first | exact ⟨_,_,rfl⟩ | (simp only [Fc.word] at h; exact absurd h (by decide))
theorem bK_abs {k : Nat} {b : Int} (hk : k ≤ 50) (h : bK k b) : b.natAbs < 2 ^ 200 := by
  obtain ⟨h0,h1⟩ := h
  have : b.natAbs < 10 ^ 32 := by exact z361 h0 h1
  exact Nat.lt_of_lt_of_le this (by decide)
theorem sK_abs {k : Nat} {b : Int} (hk : k ≤ 50) (h : sK k b) : b.natAbs < 2 ^ 200 := by
  obtain ⟨h0,h1⟩ := h
  have : b.natAbs < 10 ^ 32 := by exact z362 hk h0 h1
  exact Nat.lt_of_lt_of_le this (by decide)
theorem PsK_abs {k : Nat} {ps : List (Int × Int)} (hk : k ≤ 50) (h : PsK k ps) : ∀ p ∈ ps,1 ≤ p.1 ∧ p.1.natAbs < 2 ^ 200 := fun p hp=>by
  obtain ⟨h1,h2,_⟩ := h.2.2 p hp
  refine ⟨by exact Int.le_of_lt h1,?_⟩
  have : p.1.natAbs < 10 ^ 32 := by exact z363 hk h1 h2
  exact Nat.lt_of_lt_of_le this (by decide)
noncomputable def STells (nm : Str) (Φ : Fun) : Prop := ∀ (n : Int) (f : Fc) (H : Hp) (Q : PQ),Q (.bool f.tells) H → Φ nm [roA n f] H Q
theorem tells {Φ : Fun} {n : Int} {f : Fc} {H : Hp} {Q : PQ} (h : Q (.bool f.tells) H) : wpF Φ m_law_tells [roA n f] H Q := by
  unfold roA
  ((refine ⟨rfl,?_⟩; simp only [lst,Nat.reduceSub,Nat.sub_self,List.replicate]))
  simp only [m_law_tells]
  walk_at "go"
  refine sp_b (fun h1=>?_) (fun h1=>?_)
  · rw [w_first h1] at h
    walk_at "wp"
    exact h
  · walk_at "go"
    have : f.tells = (f.word == "prime") := by cases f <;> simp only [Fc.word,Fc.tells] at h1 ⊢ <;> first | decide | exact absurd h1 (by decide)
    rw [this] at h; exact h
theorem tells2 {Φ : Fun} {n : Int} {f : Fc} {H : Hp} {Q : PQ} (h : Q (.bool f.tells) H) : wpF Φ m_tells_prime [roA n f] H Q := tells h
end
section
open PySem
set_option maxHeartbeats 2000000
theorem rng_at {m i : Nat} {y : AV} (h : ((List.range m).map fun (k : Nat)=>AV.int k)[i]? = some y) : y = .int i ∧ i < m := by
  have hlt : i < m := by
    have := (List.getElem?_eq_some_iff.mp h).1
    simpa using this
  rw [List.getElem?_map,List.getElem?_range hlt] at h
  simp only [Option.map_some,Option.some.injEq] at h
  exact ⟨h.symm,hlt⟩
noncomputable def SComes (Φ : Fun) : Prop := ∀ (k : Nat) (ps : List (Int × Int)) (n : Int) (H : Hp) (Q : PQ),k ≤ 50 → PsK k ps → 1 ≤ n → n ≤ 10 ^ 32 → Q (.bool (decide (prodI ps = n))) H → Φ "comes_to" [psT ps,.int n] H Q
theorem comes_to {Φ : Fun} {k : Nat} {ps : List (Int × Int)} {n : Int} {H : Hp} {Q : PQ} (hk : k ≤ 50) (hps : PsK k ps) (n1 : 1 ≤ n) (n2 : n ≤ 10 ^ 32) (h : Q (.bool (decide (prodI ps = n))) H) : wpF Φ m_comes_to [psT ps,.int n] H Q := by
  have hp1 : ∀ p ∈ ps,1 ≤ p.1 := fun p hp=>(PsK_abs hk hps p hp).1
  unfold psT
  ((refine ⟨rfl,?_⟩; simp only [lst,Nat.reduceSub,Nat.sub_self,List.replicate]))
  simp only [m_comes_to]
  walk_at "go"
  refine for_intro (fun i loc H'=>∃ (o3 o4 o5 : Option AV),H' = H ∧ prodI (ps.take i) ≤ n ∧ loc = [some (.tup (ps.map prAV)),some (.int n),some (.int (prodI (ps.take i))),o3,o4,o5]) ⟨none,none,none,rfl,by simp [prodI]; exact z364 n1,rfl⟩ ?_
  rintro i loc H' ⟨o3,o4,o5,rfl,hle,rfl⟩
  refine ⟨trivial,fun y hy=>?_,fun hi=>?_⟩
  · rw [List.getElem?_map] at hy
    obtain ⟨p,hpp,rfl⟩ := Option.map_eq_some_iff.mp hy
    obtain ⟨q2,q3,t1,t2⟩ := hps.2.2 p (List.mem_of_getElem? hpp)
    have f1 : 1 ≤ prodI (ps.take i) := prodI_pos fun x hx=>hp1 x (List.mem_of_mem_take hx)
    refine ⟨[.int p.1,.int p.2],rfl,?_⟩
    walk_at "wp"
    refine ⟨by exact z365 t1,by exact z366 t2,?_⟩
    refine for_intro (fun j loc H2=>∃ (o5 : Option AV),H2 = H' ∧ j ≤ p.2.toNat ∧ prodI (ps.take i) * p.1 ^ j ≤ n ∧ loc = [some (.tup (ps.map prAV)),some (.int n),some (.int (prodI (ps.take i) * p.1 ^ j)),some (.int p.1),some (.int p.2),o5]) ⟨o5,rfl,Nat.zero_le _,by simpa using hle,by simp⟩ ?_
    rintro j loc H2 ⟨o5,rfl,hj,hjn,rfl⟩
    refine ⟨trivial,fun y hy=>?_,fun hi=>?_⟩
    · obtain ⟨rfl,hlt⟩ := rng_at hy
      refine ⟨[.int j],rfl,?_⟩
      have g1 : 1 ≤ prodI (ps.take i) * p.1 ^ j := by
        have := Int.mul_le_mul f1 (pow_pos' (hp1 p (List.mem_of_getElem? hpp)) j) (by decide) (by exact Int.le_of_lt f1)
        simpa using this
      have e1 : prodI (ps.take i) * p.1 ^ j * p.1 = prodI (ps.take i) * p.1 ^ (j + 1) := by rw [Int.pow_succ,Int.mul_assoc]
      walk_at "wp"
      refine ⟨mulOk_right (Nat.lt_of_lt_of_le (show p.1.natAbs < 10000000 by exact z367 hk q2 q3) (by decide)),?_⟩
      rw [e1]
      refine sp_d (fun h1=>?_) (fun h1=>?_)
      · walk_at "wp"
        have := prod_le hp1 hpp (show j + 1 ≤ p.2.toNat by exact Nat.succ_le_of_lt hlt)
        rw [show decide (prodI ps = n) = false from decide_eq_false (by exact z368 h1 this)] at h
        exact h
      · walk_at "wp"
        exact for_next ⟨_,rfl,by exact Nat.succ_le_of_lt hlt,by exact Int.not_lt.mp h1,rfl⟩
    · have hj2 : j = p.2.toNat := by simpa using hi
      walk_at "wp"
      refine for_next ⟨some (.int p.1),some (.int p.2),o5,rfl,?_,?_⟩
      · rw [prod_take hpp,← hj2]; exact hjn
      · rw [prod_take hpp,← hj2]
  · walk_at "wp"
    have : ps.take i = ps := List.take_of_length_le (by rw [hi]; simp)
    rw [this]; exact h
theorem dats_ints {H : Hp} {l : List Int} : dats H (l.map .int) = some (l.map .int) := by
  unfold dats
  induction l with
  | nil=>rfl
  | cons x r ih=>simp only [List.map_cons,datRs,datR,ih,Option.bind_some,Option.map_some]
theorem any_ints {l : List Int} {q : Int} : ((l.map PyData.int).any fun z=>PyData.eqv z (.int q)) = l.contains q := by
  induction l with
  | nil=>rfl
  | cons x r ih =>
    simp only [List.map_cons,List.any_cons,ih,PyData.eqv,List.contains_cons]
    rw [show (x == q) = (q == x) by rw [Bool.eq_iff_iff,beq_iff_eq,beq_iff_eq]; exact eq_comm]
theorem in_ints {H : Hp} {j : Nat} {l : List Int} {q : Int} {K : Bool → Prop} (hj : H[j]? = some (.list (l.map .int))) (h : K (l.contains q)) : wpIn (.int q) (.ref j) H K := by
  unfold wpIn
  simp only [hj]
  exact ⟨.int q,_,rfl,dats_ints,by simp [PyData.depth],by rw [any_ints]; exact h⟩
noncomputable def Fc.holds (n : Int) (pr : List Int) : Fc → Bool
  | .first=>decide (n = 2)
  | .prime b ps=>(ps.all fun p=>pr.contains p.1) && (decide (prodI ps = n - 1) && (decide (b < n) && roundB n b ps))
  | .split a b=>decide (a * b = n)
  | .power b=>decide (b < n) && !decide (pw b (n - 1) n = 1)
  | .root b=>(decide (1 < b) && decide (b < n - 1)) && decide (b * b % n = 1)
noncomputable def SHp (Φ : Fun) : Prop := ∀ (k j : Nat) (n b : Int) (ps : List (Int × Int)) (pr : List Int) (H : Hp) (Q : PQ),H[j]? = some (.list (pr.map .int)) → RoK k n (.prime b ps) → (∀ H',H <+: H' → Q (.bool ((Fc.prime b ps).holds n pr)) H') → Φ "holds_prime" [.int n,.int b,psT ps,.ref j] H Q
noncomputable def inA (pr : List Int) (y : AV) : AV := match y with | .tup (.int q :: _)=>.bool (pr.contains q) | _=>.none
noncomputable def pwA (b n : Int) (y : AV) : AV := match y with | .tup (.int q :: _)=>.bool (!decide (pw b ((n - 1) / q) n = 1)) | _=>.none
theorem holds_prime {Φ : Fun} (c1 : SComes Φ) (c2 : SPow Φ) {k j : Nat} {n b : Int} {ps : List (Int × Int)} {pr : List Int} {H : Hp} {Q : PQ} (hj : H[j]? = some (.list (pr.map .int))) (hr : RoK k n (.prime b ps)) (h : ∀ H',H <+: H' → Q (.bool ((Fc.prime b ps).holds n pr)) H') : wpF Φ m_holds_prime [.int n,.int b,psT ps,.ref j] H Q := by
  obtain ⟨hk,n0,n1,⟨b0,b1⟩,hps,_⟩ := hr
  have hn : n ≤ 10 ^ 32 := by exact z369 hk n1
  have hl : ps.length ≤ 10 + k := hps.2.1
  have hall : ∀ (g : Int × Int → Bool) (G : AV → AV),(∀ p,G (prAV p) = .bool (g p)) → ∀ (H' : Hp),(H' ++ [AObj.list ((ps.map prAV).map G)])[H'.length]? = some (.list ((ps.map g).map AV.bool)) := fun g G e H'=>by
    rw [at_new,List.map_map,List.map_map]
    congr 2
    exact List.map_congr_left fun p _=>e p
  ((refine ⟨rfl,?_⟩; simp only [lst,Nat.reduceSub,Nat.sub_self,List.replicate]))
  simp only [m_holds_prime,psT]
  walk_at "go"
  refine comp_map (inA pr) (by simp; exact szL (by exact z370 hk hl)) trivial (fun y hy=>?_) ?_
  · obtain ⟨p,hp,rfl⟩ := List.mem_map.mp hy
    refine ⟨[.int p.1,.int p.2],rfl,fun Q' q=>?_⟩
    walk_at "wp"
    exact in_ints (K := fun b=>Q' (.bool b) H) hj q
  walk_at "wp"
  refine (a_all (hall (fun p=>pr.contains p.1) _ (fun p=>rfl) H)).mpr ?_
  rw [List.all_map]
  walk_at "wp"
  refine sp_b (K := fun b=>kOr Φ _ _ _ (.bool !b) _) (fun h1=>?_) (fun h1=>?_)
  · simp only [Bool.not_true]
    walk_at "wp"
    refine c1 k ps (n - 1) _ _ hk hps (by exact Int.le_sub_one_of_lt n0) (by exact z371 hn) ?_
    walk_at "wp"
    have h1 : (ps.all fun p=>pr.contains p.1) = true := h1
    refine sp_n (K := fun b=>kIteB Φ _ _ _ _ _ b) (fun h2=>?_) (fun h2=>?_)
    · walk_at "wp"
      have e : (Fc.prime b ps).holds n pr = false := by simp only [Fc.holds,h1,decide_eq_false h2,Bool.true_and,Bool.false_and]
      rw [e] at h
      exact h _ pre_new
    walk_at "wp"
    refine sp_d (fun h3=>?_) (fun h3=>?_)
    · walk_at "wp"
      have e : (Fc.prime b ps).holds n pr = false := by simp only [Fc.holds,h1,show decide (b < n) = false from decide_eq_false (by exact Int.not_lt_of_ge h3),Bool.false_and,Bool.and_false]
      rw [e] at h
      exact h _ pre_new
    walk_at "wp"
    refine c2 b (n - 1) n _ _ (by exact z162 n0) (by exact Int.le_of_lt n0) hn ?_
    walk_at "wp"
    refine sp_n (fun h4=>?_) (fun h4=>?_)
    · walk_at "wp"
      have e : (Fc.prime b ps).holds n pr = false := by simp only [Fc.holds,roundB,decide_eq_false h4,Bool.false_and,Bool.and_false]
      rw [e] at h
      exact h _ pre_new
    walk_at "wp"
    refine comp_map (pwA b n) (by simp; exact szL (by exact z370 hk hl)) trivial (fun y hy=>?_) ?_
    · obtain ⟨p,hp,rfl⟩ := List.mem_map.mp hy
      obtain ⟨q2,q3,_⟩ := hps.2.2 p hp
      refine ⟨[.int p.1,.int p.2],rfl,fun Q' q=>?_⟩
      walk_at "wp"
      refine ⟨by exact z246 q2,noPy200 (PsK_abs hk hps p hp).2,?_⟩
      simp only [fdiv_nn (show (0 : Int) ≤ p.1 by exact z248 q2)]
      refine c2 b ((n - 1) / p.1) n _ _ (Int.ediv_nonneg (by exact z162 n0) (by exact z248 q2)) (by exact Int.le_of_lt n0) hn ?_
      walk_at "wp"
      exact q
    walk_at "wp"
    refine (a_all (hall (fun p=>!decide (pw b ((n - 1) / p.1) n = 1)) _ (fun p=>rfl) _)).mpr ?_
    rw [List.all_map]
    walk_at "wp"
    have e : (Fc.prime b ps).holds n pr = (ps.all fun p=>!decide (pw b ((n - 1) / p.1) n = 1)) := by simp only [Fc.holds,roundB,h1,decide_eq_true h2,show decide (b < n) = true from decide_eq_true (by exact Int.lt_of_not_ge h3),decide_eq_true h4,Bool.true_and]
    rw [e] at h
    exact h _ (pre_new.trans pre_new)
  · simp only [Bool.not_false]
    walk_at "wp"
    have h1 : (ps.all fun p=>pr.contains p.1) = false := h1
    have e : (Fc.prime b ps).holds n pr = false := by simp only [Fc.holds,h1,Bool.false_and]
    rw [e] at h
    exact h _ pre_new
theorem w_two {f : Fc} (h1 : (f.word == "first") = false) (h2 : (f.word == "prime") = false) (h3 : (f.word == "split") = false) : (∃ b,f = .power b) ∨ ∃ b,f = .root b := by
  cases f with
  | power b=>exact .inl ⟨b,rfl⟩
  | root b=>exact .inr ⟨b,rfl⟩
  | first=>exact absurd h1 (by decide)
  | prime=>simp only [Fc.word] at h2; exact absurd h2 (by decide)
  | split=>simp only [Fc.word] at h3; exact absurd h3 (by decide)
theorem w_three {f : Fc} (h1 : (f.word == "first") = false) (h3 : (f.word == "split") = false) : (∃ b ps,f = .prime b ps) ∨ (∃ b,f = .power b) ∨ ∃ b,f = .root b := by
  cases f with
  | prime b ps=>exact .inl ⟨b,ps,rfl⟩
  | power b=>exact .inr (.inl ⟨b,rfl⟩)
  | root b=>exact .inr (.inr ⟨b,rfl⟩)
  | first=>exact absurd h1 (by decide)
  | split=>simp only [Fc.word] at h3; exact absurd h3 (by decide)
noncomputable def SHolds (nm : Str) (Φ : Fun) : Prop := ∀ (k j : Nat) (n : Int) (f : Fc) (pr : List Int) (H : Hp) (Q : PQ),H[j]? = some (.list (pr.map .int)) → RoK k n f → (∀ H',H <+: H' → Q (.bool (f.holds n pr)) H') → Φ nm [roA n f,.ref j] H Q
theorem holds {Φ : Fun} (c1 : SHp Φ) (c2 : SPow Φ) {k j : Nat} {n : Int} {f : Fc} {pr : List Int} {H : Hp} {Q : PQ} (hj : H[j]? = some (.list (pr.map .int))) (hr : RoK k n f) (h : ∀ H',H <+: H' → Q (.bool (f.holds n pr)) H') : wpF Φ m_holds [roA n f,.ref j] H Q := by
  obtain ⟨hk,n0,n1,hf⟩ := id hr
  have hn : n ≤ 10 ^ 32 := by exact z369 hk n1
  have h0 := h H (List.prefix_refl _)
  unfold roA
  ((refine ⟨rfl,?_⟩; simp only [lst,Nat.reduceSub,Nat.sub_self,List.replicate]))
  simp only [m_holds]
  walk_at "go"
  refine sp_b (fun h1=>?_) (fun h1=>?_)
  · obtain rfl := w_first h1
    walk_at "wp"
    exact h0
  walk_at "wx"
  refine sp_b (fun h2=>?_) (fun h2=>?_)
  · obtain ⟨b,ps,rfl⟩ := w_prime h2
    simp only [Fc.facts]
    walk_at "go"
    exact c1 k j n b ps pr H _ hj hr h
  walk_at "wp"
  refine sp_b (fun h3=>?_) (fun h3=>?_)
  · obtain ⟨a,b,rfl⟩ := w_split h3
    simp only [Fc.facts]
    walk_at "go"
    refine ⟨mulOk_200 (sK_abs hk hf.1) (sK_abs hk hf.2),?_⟩
    walk_at "wp"
    exact h0
  walk_at "wp"
  rcases w_two h1 h2 h3 with ⟨b,rfl⟩ | ⟨b,rfl⟩
  · simp only [Fc.facts,Fc.word]
    walk_at "go"
    refine sp_b (fun h4=>?_) (fun h4=>absurd h4 (by decide))
    walk_at "wp"
    refine sp_d (fun h5=>?_) (fun h5=>?_)
    · walk_at "wp"
      refine c2 b (n - 1) n _ _ (by exact z162 n0) (by exact Int.le_of_lt n0) hn ?_
      walk_at "wp"
      simp only [Fc.holds,decide_eq_true h5,Bool.true_and] at h0
      exact h0
    · walk_at "wp"
      simp only [Fc.holds,decide_eq_false h5,Bool.false_and] at h0
      exact h0
  · simp only [Fc.facts,Fc.word]
    walk_at "go"
    refine sp_b (fun h4=>absurd h4 (by decide)) (fun h4=>?_)
    have kb := bK_abs hk hf
    walk_at "wp"
    refine sp_d (fun h5=>?_) (fun h5=>?_)
    · walk_at "wp"
      refine sp_d (fun h6=>?_) (fun h6=>?_)
      · walk_at "wp"
        refine ⟨mulOk_200 kb kb,by exact z372 h5 h6,?_⟩
        simp only [fmod_nn (show (0 : Int) ≤ n by exact z373 h5 h6)]
        simp only [Fc.holds,decide_eq_true h5,decide_eq_true h6,Bool.true_and] at h0
        exact h0
      · walk_at "wp"
        simp only [Fc.holds,decide_eq_false h6,Bool.and_false,Bool.false_and] at h0
        exact h0
    · walk_at "wp"
      simp only [Fc.holds,decide_eq_false h5,Bool.false_and] at h0
      exact h0
end
section
open PySem
set_option maxHeartbeats 2000000
noncomputable def m_law_other_facts : MF := ⟨3,9,
  [.asgT [3,4,5] (.loc 0),
  .ite (.cmp .eq (.loc 4) (.cst (.str "split"))) [.ret (.tup [.loc 3,.loc 4,.tup [.bin .sub (.bin .add (.idx (.loc 5) (.cst (.int 0))) (.cst (.int 1))) (.bin .mod (.loc 1) (.cst (.int 2))),.bin .add (.idx (.loc 5) (.cst (.int 1))) (.bin .mod (.loc 1) (.cst (.int 2)))]])] [],
  .ite (.cmp .eq (.loc 4) (.cst (.str "first"))) [.ret (.tup [.loc 3,.cst (.str "power"),.tup [.bin .add (.cst (.int 1)) (.bin .mod (.loc 2) (.cst (.int 3)))]])] [],
  .asg 6 (.idx (.loc 5) (.cst (.int 0))),
  .ite (.cmp .lt (.loc 1) (.cst (.int 4))) [.asg 6 (.idx (.lst [.bin .sub (.loc 3) (.cst (.int 1)),.cst (.int 1),.loc 3,.bi .min [.bin .add (.loc 6) (.loc 3),.bin .pow (.cst (.int 10)) (.cst (.int 30))]]) (.loc 1)),
    .ret (.tup [.loc 3,.loc 4,.bin .add (.tup [.loc 6]) (.slcT (.loc 5) [.cst (.int 1)] [])])] [],
  .ite (.or2 (.cmp .eq (.loc 4) (.cst (.str "power"))) (.cmp .eq (.loc 4) (.cst (.str "root")))) [.ret (.tup [.loc 3,.idx (.lst [.cst (.str "root"),.cst (.str "power")]) (.bi .int [.cmp .eq (.loc 4) (.cst (.str "root"))]),.loc 5])] [],
  .asg 7 (.bi .list [.idx (.loc 5) (.cst (.int 1))]),
  .asg 8 (.bin .mod (.loc 2) (.bi .len [.loc 7])),
  .ite (.cmp .eq (.loc 1) (.cst (.int 4))) [.sto (.loc 7) (.loc 8) (.tup [.idx (.idx (.loc 7) (.loc 8)) (.cst (.int 0)),.bin .add (.bin .mod (.idx (.idx (.loc 7) (.loc 8)) (.cst (.int 1))) (.cst (.int 100))) (.cst (.int 1))])] [.ite (.and2 (.cmp .eq (.loc 1) (.cst (.int 5))) (.cmp .gt (.bi .len [.loc 7]) (.cst (.int 1)))) [.asg 7 (.bin .add (.slc (.loc 7) [] [.loc 8]) (.slc (.loc 7) [.bin .add (.loc 8) (.cst (.int 1))] []))] [.ite (.cmp .eq (.loc 1) (.cst (.int 6))) [.asg 7 (.bin .add (.loc 7) (.lst [.tup [.bin .add (.bin .add (.idx (.idx (.loc 7) (.neg (.cst (.int 1)))) (.cst (.int 0))) (.cst (.int 1))) (.bin .mod (.loc 2) (.cst (.int 9))),.cst (.int 1)]]))] [.ite (.cmp .eq (.bin .mod (.loc 2) (.cst (.int 3))) (.cst (.int 0))) [.ret (.tup [.loc 3,.cst (.str "power"),.tup [.loc 6]])] [.asg 6 (.call "_law_power" [.loc 6,.idx (.idx (.loc 7) (.loc 8)) (.cst (.int 0)),.loc 3])]]]],
  .ret (.tup [.loc 3,.loc 4,.tup [.bi .max [.cst (.int 1),.loc 6],.bi .tuple [.loc 7]]])]⟩
noncomputable def m_law_spoilt : MF := ⟨3,6,
  [.asg 3 (.bin .mod (.loc 1) (.bi .len [.loc 0])),
  .asg 4 (.bin .mod (.bin .fdiv (.loc 1) (.cst (.int 64))) (.cst (.int 10))),
  .asg 5 (.idx (.loc 0) (.loc 3)),
  .ite (.and2 (.cmp .eq (.loc 4) (.cst (.int 8))) (.cmp .gt (.bi .len [.loc 0]) (.cst (.int 1)))) [.ret (.bin .add (.slc (.loc 0) [] [.loc 3]) (.slc (.loc 0) [.bin .add (.loc 3) (.cst (.int 1))] []))] [],
  .ite (.and2 (.cmp .eq (.loc 4) (.cst (.int 9))) (.or2 (.cmp .eq (.loc 3) (.bin .sub (.bi .len [.loc 0]) (.cst (.int 1)))) (.cmp .gt (.idx (.idx (.loc 0) (.bin .add (.loc 3) (.cst (.int 1)))) (.cst (.int 0))) (.bin .add (.idx (.loc 5) (.cst (.int 0))) (.cst (.int 1)))))) [.ret (.bin .add (.bin .add (.slc (.loc 0) [] [.loc 3]) (.lst [.tup [.bin .add (.idx (.loc 5) (.cst (.int 0))) (.cst (.int 1)),.idx (.loc 5) (.cst (.int 1)),.idx (.loc 5) (.cst (.int 2))]])) (.slc (.loc 0) [.bin .add (.loc 3) (.cst (.int 1))] []))] [],
  .ret (.bin .add (.bin .add (.slc (.loc 0) [] [.loc 3]) (.lst [.call "_law_other_facts" [.loc 5,.bin .mod (.loc 4) (.cst (.int 8)),.loc 2]])) (.slc (.loc 0) [.bin .add (.loc 3) (.cst (.int 1))] []))]⟩
theorem Fc.up {k : Nat} {f : Fc} (h : f.ok k) : f.ok (k + 1) := by
  have b1 : ∀ {b : Int},sK k b → sK (k + 1) b := fun h=>⟨h.1,by have := h.2; exact z374 this⟩
  cases f with
  | first=>trivial
  | prime b ps=>exact ⟨h.1,⟨h.2.1.1,by have := h.2.1.2.1; exact Nat.le_succ_of_le this,fun p hp=>by have := h.2.1.2.2 p hp; exact z375 this⟩,h.2.2⟩
  | split a b=>exact ⟨b1 h.1,b1 h.2⟩
  | power b=>exact h
  | root b=>exact h
theorem RoK.up {k : Nat} {n : Int} {f : Fc} (h : RoK k n f) (hk : k < 50) : RoK (k + 1) n f := ⟨by exact Nat.succ_le_of_lt hk,h.2.1,by have := h.2.2.1; exact z376 this,f.up h.2.2.2⟩
theorem wl_at {H : Hp} {j : Nat} {l : List AV} {K : List AV → Prop} (h : H[j]? = some (.list l)) (k : K l) : withL (seqL H (.ref j)) K := by
  rw [show seqL H (.ref j) = some l by simp [seqL,h]]; exact k
theorem add_at {H : Hp} {Q : PQ} {i j : Nat} {l m : List AV} (h1 : H[i]? = some (.list l)) (h2 : H[j]? = some (.list m)) (hn : l.length + m.length ≤ 1000) (q : Q (.ref H.length) (H ++ [.list (l ++ m)])) : wpBin .add (.ref i) (.ref j) H Q := by
  rw [b_addL h1 h2]; exact ⟨szL hn,q⟩
theorem tup_at {H : Hp} {Q : PQ} {i : Nat} {l : List AV} (h : H[i]? = some (.list l)) (hn : l.length ≤ 1000) (q : Q (.tup l) H) : wpBi .tuple [.ref i] H Q := by
  rw [t_list h]; exact ⟨szL hn,q⟩
theorem lslice_mem {α : Type} {l : List α} {a b : Option Int} {x : α} (h : x ∈ lslice l a b) : x ∈ l := by
  unfold lslice at h; exact List.mem_of_mem_drop (List.mem_of_mem_take h)
theorem lslice_len {α : Type} {l : List α} {a b : Option Int} : (lslice l a b).length ≤ l.length := by
  unfold lslice; rw [List.length_take,List.length_drop]; exact Nat.le_trans (Nat.min_le_right _ _) (Nat.sub_le _ _)
theorem lslice_map {α β : Type} {g : α → β} {l : List α} {a b : Option Int} : lslice (l.map g) a b = (lslice l a b).map g := by
  unfold lslice; simp
theorem lsl1 {x : AV} {r : List AV} : lslice (x :: r) (some 1) none = r := by
  unfold lslice lclip
  simp
theorem back_at {H : Hp} {Q : PQ} {i : Nat} {l : List AV} (h : H[i]? = some (.list l)) (hn : l.length ≤ 1000) (h1 : 1 ≤ l.length) (q : ∀ z,l.getLast? = some z → Q z H) : wpIdx (.ref i) (.int (-1)) H Q := by
  rw [i_list h]
  refine ⟨by exact z198 hn,l.length - 1,l[l.length - 1]'(by exact Nat.sub_one_lt_of_lt h1),?_,List.getElem?_eq_getElem _,q _ (by rw [List.getLast?_eq_getElem?]; exact List.getElem?_eq_getElem _)⟩
  unfold place
  rw [if_neg (by decide)]
  simp
  exact z377 h1
theorem ris_iff {ps : List (Int × Int)} : Ris ps ↔ (ps.map (·.1)).Pairwise (· < ·) := List.pairwise_map.symm
theorem ris_set {ps : List (Int × Int)} {a : Nat} {p : Int × Int} {t : Int} (h : Ris ps) (hp : ps[a]? = some p) : Ris (ps.set a (p.1,t)) := by
  rw [ris_iff] at h ⊢
  have : (ps.set a (p.1,t)).map (·.1) = ps.map (·.1) := by
    refine List.ext_getElem? fun i=>?_
    rw [List.getElem?_map,List.getElem?_map,List.getElem?_set]
    split
    · rename_i e; subst e
      rw [hp]
      simp [(List.getElem?_eq_some_iff.mp hp).1]
    · rfl
  rw [this]; exact h
theorem ris_last {ps : List (Int × Int)} {r : Int × Int} (h : Ris ps) (hl : ps.getLast? = some r) : ∀ x ∈ ps,x.1 ≤ r.1 := by
  obtain ⟨l,rfl⟩ := List.getLast?_eq_some_iff.mp hl
  intro x hx
  rcases List.mem_append.mp hx with hx | hx
  · have := (List.pairwise_append.mp h).2.2 x hx r (by simp)
    exact Int.le_of_lt this
  · rw [List.mem_singleton.mp hx]; exact Int.le_refl _
theorem ris_add {ps : List (Int × Int)} {q t : Int} (h : Ris ps) (hq : ∀ x ∈ ps,x.1 < q) : Ris (ps ++ [(q,t)]) :=
  List.pairwise_append.mpr ⟨h,by simp,fun x hx y hy=>by rw [List.mem_singleton.mp hy]; exact hq x hx⟩
theorem lsl_to {α : Type} {l : List α} {a : Int} : lslice l none (some a) = l.take (min a.toNat l.length) := by unfold lslice lclip; simp
theorem lsl_from {α : Type} {l : List α} {a : Int} : lslice l (some a) none = l.drop (min a.toNat l.length) := by
  show (l.drop (min a.toNat l.length)).take (l.length - min a.toNat l.length) = _
  exact List.take_of_length_le (by rw [List.length_drop]; exact Nat.le_refl _)
theorem drop1_len {α : Type} {l : List α} {a : Int} (h0 : 0 ≤ a) (h1 : a < l.length) : (lslice l none (some a)).length + (lslice l (some (a + 1)) none).length + 1 = l.length := by
  obtain ⟨m,rfl⟩ := Int.eq_ofNat_of_zero_le h0
  have hm : m + 1 ≤ l.length := by exact Int.ofNat_le.mp h1
  rw [lsl_to,lsl_from,show ((m : Int) + 1).toNat = m + 1 from rfl,Int.toNat_natCast,Nat.min_eq_left (Nat.le_of_succ_le hm),Nat.min_eq_left hm,List.length_take,List.length_drop,Nat.min_eq_left (Nat.le_of_succ_le hm)]
  exact z378 hm
theorem le_one {α : Type} {l : List α} (h : l.length ≤ 1) : l = [] ∨ ∃ x,l = [x] := by
  cases l with
  | nil=>exact .inl rfl
  | cons x r =>
    cases r with
    | nil=>exact .inr ⟨x,rfl⟩
    | cons=>simp at h
theorem min_mono {a b n : Nat} (h : a ≤ b) : min a n ≤ min b n := Nat.le_min.mpr ⟨Nat.le_trans (Nat.min_le_left _ _) h,Nat.min_le_right _ _⟩
theorem lsl_sub2 {α : Type} {l : List α} {a b : Int} (h : a ≤ b) : (lslice l none (some a) ++ lslice l (some b) none).Sublist l := by
  rw [lsl_to,lsl_from]
  conv=>rhs; rw [← List.take_append_drop (min a.toNat l.length) l]
  exact List.Sublist.append (List.Sublist.refl _) (List.drop_sublist_drop_left _ (min_mono (Int.toNat_le_toNat h)))
theorem lsl_sub {α : Type} {l : List α} {a : Int} : (lslice l none (some a) ++ lslice l (some (a + 1)) none).Sublist l := lsl_sub2 (Int.le_of_lt (Int.lt_succ a))
theorem ris_drop {ps : List (Int × Int)} {a : Int} (h : Ris ps) : Ris (lslice ps none (some a) ++ lslice ps (some (a + 1)) none) := List.Pairwise.sublist lsl_sub h
theorem cut_at {α : Type} {l : List α} {a : Int} {r : α} (a0 : 0 ≤ a) (h : l[a.toNat]? = some r) : lslice l none (some a) ++ r :: lslice l (some (a + 1)) none = l := by
  obtain ⟨hlt,e⟩ := List.getElem?_eq_some_iff.mp h
  rw [lsl_to,lsl_from,show min a.toNat l.length = a.toNat by (first | lia | omega),show min (a + 1).toNat l.length = a.toNat + 1 by (first | lia | omega)]
  conv=>rhs; rw [← List.take_append_drop a.toNat l,List.drop_eq_getElem_cons hlt,e]
theorem inc_put {pre post : List Int} {x y : Int} (h : (pre ++ x :: post).Pairwise (· < ·)) (hxy : x ≤ y) (hp : ∀ z ∈ post,y < z) : (pre ++ y :: post).Pairwise (· < ·) := by
  rw [List.pairwise_append,List.pairwise_cons] at h ⊢
  obtain ⟨h1,⟨h2,h3⟩,h4⟩ := h
  refine ⟨h1,⟨hp,h3⟩,fun u hu v hv=>?_⟩
  rcases List.mem_cons.mp hv with rfl | hv
  · have := h4 u hu x (by simp); exact Int.lt_of_lt_of_le this hxy
  · exact h4 u hu v (List.mem_cons_of_mem _ hv)
theorem set_lst {H : Hp} {K : Hp → Prop} {i : Nat} {l : List AV} {k : Int} {x : AV} (h : H[i]? = some (.list l)) (hn : l.length ≤ 1000) (h0 : 0 ≤ k) (h1 : k < l.length) (q : K (H.set i (.list (l.set k.toNat x)))) : wpSet (.ref i) (.int k) x H K := by
  unfold wpSet asI; simp only [h]; exact ⟨by exact z198 hn,h0,h1,q⟩
noncomputable def SOther (Φ : Fun) : Prop := ∀ (k : Nat) (n : Int) (f : Fc) (kd m : Int) (H : Hp) (Q : PQ),RoK k n f → k < 50 → 0 ≤ kd → kd < 8 → 0 ≤ m → (∀ f' H',RoK (k + 1) n f' → H <+: H' → Q (roA n f') H') → Φ "_law_other_facts" [roA n f,.int kd,.int m] H Q
theorem other_facts {Φ : Fun} (cp : SPower Φ) {k : Nat} {n : Int} {f : Fc} {kd m : Int} {H : Hp} {Q : PQ} (hr : RoK k n f) (hk5 : k < 50) (d0 : 0 ≤ kd) (d8 : kd < 8) (m0 : 0 ≤ m) (h : ∀ f' H',RoK (k + 1) n f' → H <+: H' → Q (roA n f') H') : wpF Φ m_law_other_facts [roA n f,.int kd,.int m] H Q := by
  obtain ⟨hk,n0,n1,hf⟩ := id hr
  have hn : n ≤ 10 ^ 32 := by exact z369 hk n1
  have mk : ∀ {f' : Fc},f'.ok (k + 1) → RoK (k + 1) n f' := fun o=>⟨by exact Nat.succ_le_of_lt hk5,n0,by exact z376 n1,o⟩
  unfold roA at h ⊢
  ((refine ⟨rfl,?_⟩; simp only [lst,Nat.reduceSub,Nat.sub_self,List.replicate]))
  simp only [m_law_other_facts]
  walk_at "go"
  refine sp_b (fun h3=>?_) (fun h3=>?_)
  · obtain ⟨a,b,rfl⟩ := w_split h3
    simp only [Fc.facts]
    walk_at "go"
    (simp only [fmod_nn,fdiv_nn,Int.reduceLE])
    obtain ⟨⟨a0,a1⟩,b0,b1⟩ := hf
    exact h (.split (a + 1 - kd % 2) (b + kd % 2)) H (mk ⟨⟨by exact z379 a0,by exact z380 a1⟩,by exact z381 b0,by exact z382 b1⟩) (List.prefix_refl _)
  walk_at "wx"
  refine sp_b (fun h1=>?_) (fun h1=>?_)
  · walk_at "go"
    (simp only [fmod_nn,fdiv_nn,Int.reduceLE])
    exact h (.power (1 + m % 3)) H (mk ⟨by exact z383,by exact z384⟩) (List.prefix_refl _)
  walk_at "wp"
  have four : ∀ b : Int,bK k b → ∀ z ∈ [AV.int (n - 1),.int 1,.int n,.int (if (10 : Int) ^ Int.toNat 30 < b + n then 10 ^ Int.toNat 30 else b + n)],∃ b',z = .int b' ∧ bK (k + 1) b' := by
    intro b hb z hz
    have e30 : (10 : Int) ^ Int.toNat 30 = 1000000000000000000000000000000 := rfl
    rw [e30] at hz
    obtain ⟨b0,b1⟩ := hb
    simp only [List.mem_cons,List.not_mem_nil,or_false] at hz
    rcases hz with rfl | rfl | rfl | rfl
    · exact ⟨_,rfl,by exact Int.le_sub_one_of_lt n0,by exact z385 hk n1⟩
    · exact ⟨_,rfl,by exact Int.le_refl 1,by exact z386⟩
    · exact ⟨_,rfl,by exact Int.le_of_lt n0,by exact z387 hk n1⟩
    · refine ⟨_,rfl,?_⟩
      split <;> exact ⟨by (first | lia | omega),by (first | lia | omega)⟩
  have two : ∀ b : Int,bK k b → ∀ z ∈ [AV.str "root",AV.str "power"],∃ f' : Fc,f'.ok (k + 1) ∧ [AV.int n,z,AV.tup [AV.int b]] = [AV.int n,AV.str f'.word,AV.tup f'.facts] := by
    intro b hb z hz
    have : bK (k + 1) b := hb
    simp only [List.mem_cons,List.not_mem_nil,or_false] at hz
    rcases hz with rfl | rfl
    · exact ⟨.root b,this,rfl⟩
    · exact ⟨.power b,this,rfl⟩
  rcases w_three h1 h3 with ⟨b,ps,rfl⟩ | ⟨b,rfl⟩ | ⟨b,rfl⟩
  · obtain ⟨hb,hps,ris⟩ := hf
    simp only [Fc.facts,Fc.word,psT]
    walk_at "go"
    refine sp_d (fun h4=>?_) (fun h4=>?_)
    · walk_at "go"
      refine idx_any at_new (by (first | exact Nat.le_of_ble_eq_true rfl | simp)) d0 h4 fun z hz=>?_
      obtain ⟨b',rfl,kb⟩ := four b hb z hz
      walk_at "go"
      rw [lsl1]
      exact h (.prime b' ps) _ (mk ⟨kb,(Fc.up (f := .prime b ps) ⟨hb,hps,ris⟩).2⟩) pre_new
    walk_at "wp"
    refine sp_b (fun h5=>absurd h5 (by decide)) (fun _=>?_)
    walk_at "wp"
    refine sp_b (fun h5=>absurd h5 (by decide)) (fun _=>?_)
    walk_at "go"
    have hl : ps.length ≤ 10 + k := hps.2.1
    have hl1 : 1 ≤ ps.length := List.length_pos_iff.mpr hps.1
    have hm : (ps.map prAV).length ≤ 1000 := by (first | exact Int.emod_lt_of_pos _ (by decide) | (simp; exact z370 hk hl))
    refine ⟨szL hm,?_⟩
    walk_at "wp"
    refine len_at at_new hm ?_
    walk_at "wp"
    refine ⟨by rw [List.length_map]; exact Int.natCast_ne_zero_iff_pos.mpr hl1,?_⟩
    have e1 : ((ps.map prAV).length : Int) = ps.length := by simp
    rw [e1]
    simp only [fmod_nn (show (0 : Int) ≤ ps.length by exact z171)]
    have a0 := Int.emod_nonneg m (show (ps.length : Int) ≠ 0 by exact Int.natCast_ne_zero_iff_pos.mpr hl1)
    have a1 := Int.emod_lt_of_pos m (show (0 : Int) < ps.length by exact Int.natCast_pos.mpr hl1)
    generalize m % ps.length = a at a0 a1
    have fin : ∀ (b' : Int) (ps' : List (Int × Int)) (j : Nat) (o8 : Option AV) (H' : Hp),H <+: H' → H'[j]? = some (.list (ps'.map prAV)) → b' ≤ 10 ^ 30 → PsK (k + 1) ps' → Ris ps' → wpSs Φ (m_law_other_facts.body.drop 9) [some (.tup [.int n,.str "prime",.tup [.int b,.tup (ps.map prAV)]]),some (.int kd),some (.int m),some (.int n),some (.str "prime"),some (.tup [.int b,.tup (ps.map prAV)]),some (.int b'),some (.ref j),o8] H' (endOf Q) := by
      intro b' ps' j o8 H' hp hj hb' hps' ris'
      simp only [m_law_other_facts,List.drop]
      walk_at "wp"
      have := hps'.2.1
      refine tup_at hj (by rw [List.length_map]; exact z388 hk this) ?_
      walk_at "go"
      refine h (.prime (if b' > 1 then b' else 1) ps') _ (mk ⟨?_,hps',ris'⟩) hp
      split
      · exact ⟨by (first | lia | omega),hb'⟩
      · exact ⟨by exact Int.le_refl 1,by exact z386⟩
    have at_a : ∃ p,ps[a.toNat]? = some p ∧ p ∈ ps := ⟨ps[a.toNat]'(by exact (Int.toNat_lt a0).mpr a1),List.getElem?_eq_getElem _,List.getElem_mem _⟩
    obtain ⟨p,hpa,hpm⟩ := at_a
    have pa : ∀ {H' : Hp} {j : Nat} {Q' : PQ},H'[j]? = some (.list (ps.map prAV)) → Q' (.tup [.int p.1,.int p.2]) H' → wpIdx (.ref j) (.int a) H' Q' := fun {H' j Q'} hj q=>idx_at (l := ps.map prAV) (by simp [anyL,seqL,hj]) (by exact z198 hm) a0 (by rw [List.getElem?_map,hpa]; rfl) q
    obtain ⟨q2,q3,t1,t2⟩ := hps.2.2 p hpm
    have hb1 : b ≤ 10 ^ 30 := hb.2
    have hps1 : PsK (k + 1) ps := (Fc.up (f := .prime b ps) ⟨hb,hps,ris⟩).2.1
    refine sp_d (fun h5=>?_) (fun h5=>?_)
    · walk_at "wp"
      refine pa at_new ?_
      walk_at "go"
      refine pa at_new ?_
      walk_at "go"
      (simp only [fmod_nn,fdiv_nn,Int.reduceLE])
      refine set_lst at_new hm a0 (by (first | exact Int.emod_lt_of_pos _ (by decide) | (simp; exact z389 a1))) ?_
      walk_at "wp"
      refine fin b (ps.set a.toNat (p.1,p.2 % 100 + 1)) H.length _ _ (pre_set pre_new (Nat.le_refl _)) ?_ hb1 ⟨?_,?_,?_⟩ (ris_set ris hpa)
      · rw [List.set_append_right _ _ (Nat.le_refl _)]
        simp [List.map_set,prAV]
      · intro e
        have := congrArg List.length e
        rw [List.length_set,List.length_nil] at this
        exact z390 a0 a1 this
      · rw [List.length_set]; exact Nat.le_succ_of_le hl
      · intro x hx
        rcases List.mem_or_eq_of_mem_set hx with hx | rfl
        · exact hps1.2.2 x hx
        · exact ⟨q2,by (first | lia | omega),by show 1 ≤ p.2 % 100 + 1; exact z391,by show p.2 % 100 + 1 ≤ 100; exact z392⟩
    walk_at "wp"
    have last : wpSs Φ [MS.ite (.cmp .eq (.loc 1) (.cst (.int 6))) [.asg 7 (.bin .add (.loc 7) (.lst [.tup [.bin .add (.bin .add (.idx (.idx (.loc 7) (.neg (.cst (.int 1)))) (.cst (.int 0))) (.cst (.int 1))) (.bin .mod (.loc 2) (.cst (.int 9))),.cst (.int 1)]]))] [.ite (.cmp .eq (.bin .mod (.loc 2) (.cst (.int 3))) (.cst (.int 0))) [.ret (.tup [.loc 3,.cst (.str "power"),.tup [.loc 6]])] [.asg 6 (.call "_law_power" [.loc 6,.idx (.idx (.loc 7) (.loc 8)) (.cst (.int 0)),.loc 3])]]]
        [some (.tup [.int n,.str "prime",.tup [.int b,.tup (ps.map prAV)]]),some (.int kd),some (.int m),some (.int n),some (.str "prime"),some (.tup [.int b,.tup (ps.map prAV)]),some (.int b),some (.ref H.length),some (.int a)] (H ++ [.list (ps.map prAV)]) (thenS Φ [] (thenS Φ (m_law_other_facts.body.drop 9) (endOf Q))) := by
      walk_at "wp"
      refine sp_d (fun h6=>?_) (fun h6=>?_)
      · walk_at "wp"
        refine back_at at_new hm (by (first | exact Int.emod_lt_of_pos _ (by decide) | (simp; exact z393 a0 a1))) fun z hz=>?_
        rw [List.getLast?_map] at hz
        obtain ⟨r,hr2,rfl⟩ := Option.map_eq_some_iff.mp hz
        have hr' : r ∈ ps := List.mem_of_getLast? hr2
        simp only [prAV]
        walk_at "go"
        (simp only [fmod_nn,fdiv_nn,Int.reduceLE])
        refine add_at (pre_at pre_new at_new) at_new (by rw [List.length_map]; simp; exact z394 hk hl) ?_
        walk_at "wp"
        obtain ⟨r2,r3,_,_⟩ := hps.2.2 r hr'
        refine fin b (ps ++ [(r.1 + 1 + m % 9,1)]) _ _ _ (pre_new.trans (pre_new.trans pre_new)) ?_ hb1 ⟨by simp,by rw [List.length_append]; simp; exact Nat.add_le_add_right hl 1,?_⟩ (ris_add ris fun x hx=>?_)
        · rw [at_new]; simp [prAV]
        · intro x hx
          rcases List.mem_append.mp hx with hx | hx
          · exact hps1.2.2 x hx
          · rw [List.mem_singleton.mp hx]
            exact ⟨by show 2 ≤ r.1 + 1 + m % 9; exact z395 r2,by show r.1 + 1 + m % 9 ≤ _; exact z396 r3,Int.le_refl _,(by decide : (1 : Int) ≤ 100)⟩
        · have := ris_last ris hr2 x hx
          exact z397 this
      · walk_at "go"
        (simp only [fmod_nn,fdiv_nn,Int.reduceLE])
        refine sp_d (fun h7=>?_) (fun h7=>?_)
        · walk_at "go"
          exact h (.power b) _ (mk hb) pre_new
        · walk_at "wp"
          refine pa at_new ?_
          walk_at "go"
          refine cp b p.1 n _ _ (bK_abs hk hb) (by exact z248 q2) (by exact z398 hk q3) (by exact Int.le_of_lt n0) hn ?_
          walk_at "wp"
          have u0 := Int.emod_nonneg (b ^ p.1.toNat) (show n ≠ 0 by exact z246 n0)
          have u1 := Int.emod_lt_of_pos (b ^ p.1.toNat) (show 0 < n by exact z399 n0)
          exact fin _ ps _ _ _ pre_new at_new (by show pw b p.1 n ≤ _; unfold pw; exact z400 hk n1 u1) hps1 ris
    refine sp_d (fun h6=>?_) (fun h6=>?_)
    · walk_at "wp"
      refine len_at at_new hm ?_
      walk_at "wp"
      rw [e1]
      refine sp_d (fun h7=>?_) (fun h7=>?_)
      · walk_at "wp"
        refine ⟨by walk_at "om",wl_at at_new ?_⟩
        walk_at "wp"
        refine ⟨szL hm,by exact Int.le_add_one a0,wl_at (pre_at pre_new at_new) ?_⟩
        walk_at "wp"
        refine ⟨szL hm,?_⟩
        rw [lslice_map,lslice_map]
        have l1 := @lslice_len _ ps none (some a)
        have l2 := @lslice_len _ ps (some (a + 1)) none
        have l3 := drop1_len a0 a1
        refine add_at (pre_at pre_new at_new) at_new (by rw [List.length_map,List.length_map]; exact z401 hm e1 l3) ?_
        walk_at "wp"
        refine fin b (lslice ps none (some a) ++ lslice ps (some (a + 1)) none) _ _ _ (pre_new.trans (pre_new.trans (pre_new.trans pre_new))) (by rw [at_new,List.map_append]) hb1 ⟨?_,by rw [List.length_append]; exact z402 hl l3,?_⟩ (ris_drop ris)
        · intro e
          have := congrArg List.length e
          rw [List.length_append,List.length_nil] at this
          exact z403 h7 l3 this
        · intro x hx
          rcases List.mem_append.mp hx with hx | hx <;> exact hps1.2.2 x (lslice_mem hx)
      · exact last
    · exact last
  · simp only [Fc.facts,Fc.word]
    walk_at "go"
    refine sp_d (fun h4=>?_) (fun h4=>?_)
    · walk_at "go"
      refine idx_any at_new (by (first | exact Nat.le_of_ble_eq_true rfl | simp)) d0 h4 fun z hz=>?_
      obtain ⟨b',rfl,kb⟩ := four b hf z hz
      walk_at "go"
      rw [lsl1]
      exact h (.power b') _ (mk kb) pre_new
    walk_at "wp"
    refine sp_b (fun _=>?_) (fun h5=>absurd h5 (by decide))
    walk_at "go"
    refine idx_any at_new (by (first | exact Nat.le_of_ble_eq_true rfl | simp)) (by split <;> decide) (by split <;> decide) fun z hz=>?_
    obtain ⟨f',ok',e⟩ := two b hf z hz
    walk_at "go"
    rw [e]
    exact h f' _ (mk ok') pre_new
  · simp only [Fc.facts,Fc.word]
    walk_at "go"
    refine sp_d (fun h4=>?_) (fun h4=>?_)
    · walk_at "go"
      refine idx_any at_new (by (first | exact Nat.le_of_ble_eq_true rfl | simp)) d0 h4 fun z hz=>?_
      obtain ⟨b',rfl,kb⟩ := four b hf z hz
      walk_at "go"
      rw [lsl1]
      exact h (.root b') _ (mk kb) pre_new
    walk_at "wp"
    refine sp_b (fun h5=>absurd h5 (by decide)) (fun _=>?_)
    walk_at "wp"
    refine sp_b (fun _=>?_) (fun h5=>absurd h5 (by decide))
    walk_at "go"
    refine idx_any at_new (by (first | exact Nat.le_of_ble_eq_true rfl | simp)) (by split <;> decide) (by split <;> decide) fun z hz=>?_
    obtain ⟨f',ok',e⟩ := two b hf z hz
    walk_at "go"
    rw [e]
    exact h f' _ (mk ok') pre_new
noncomputable def roP (r : Int × Fc) : AV := roA r.1 r.2
noncomputable def RsK (k : Nat) (rs : List (Int × Fc)) : Prop := rs ≠ [] ∧ rs.length ≤ 63 ∧ (∀ r ∈ rs,RoK k r.1 r.2) ∧ (rs.map (·.1)).Pairwise (· < ·)
noncomputable def SSpoilt (Φ : Fun) : Prop := ∀ (k i : Nat) (rs : List (Int × Fc)) (c m : Int) (H : Hp) (Q : PQ),H[i]? = some (.list (rs.map roP)) → RsK k rs → k < 50 → 0 ≤ c → 0 ≤ m → (∀ j rs' H',H <+: H' → H'[j]? = some (.list (rs'.map roP)) → RsK (k + 1) rs' → Q (.ref j) H') → Φ "_law_spoilt" [.ref i,.int c,.int m] H Q
theorem spoilt {Φ : Fun} (co : SOther Φ) {k i : Nat} {rs : List (Int × Fc)} {c m : Int} {H : Hp} {Q : PQ} (hi : H[i]? = some (.list (rs.map roP))) (hrs : RsK k rs) (hk5 : k < 50) (c0 : 0 ≤ c) (m0 : 0 ≤ m) (h : ∀ j rs' H',H <+: H' → H'[j]? = some (.list (rs'.map roP)) → RsK (k + 1) rs' → Q (.ref j) H') : wpF Φ m_law_spoilt [.ref i,.int c,.int m] H Q := by
  obtain ⟨rs0,rs63,rok,inc⟩ := hrs
  have l1 : 1 ≤ rs.length := List.length_pos_iff.mpr rs0
  have hm : (rs.map roP).length ≤ 1000 := by rw [List.length_map]; exact z321 rs63
  have e1 : ((rs.map roP).length : Int) = rs.length := by simp
  ((refine ⟨rfl,?_⟩; simp only [lst,Nat.reduceSub,Nat.sub_self,List.replicate]))
  simp only [m_law_spoilt]
  walk_at "wp"
  refine len_at hi hm ?_
  walk_at "go"
  rw [e1]
  simp only [fmod_nn (show (0 : Int) ≤ rs.length by exact z171)]
  (simp only [fmod_nn,fdiv_nn,Int.reduceLE])
  have a0 := Int.emod_nonneg c (show (rs.length : Int) ≠ 0 by exact Int.natCast_ne_zero_iff_pos.mpr l1)
  have a1 := Int.emod_lt_of_pos c (show (0 : Int) < rs.length by exact Int.natCast_pos.mpr l1)
  generalize c % rs.length = a at a0 a1
  obtain ⟨r,hra,hrm⟩ : ∃ r,rs[a.toNat]? = some r ∧ r ∈ rs := ⟨rs[a.toNat]'(by exact (Int.toNat_lt a0).mpr a1),List.getElem?_eq_getElem _,List.getElem_mem _⟩
  refine idx_at (l := rs.map roP) (z := roA r.1 r.2) (by simp [anyL,seqL,hi]) (by exact z198 hm) a0 (by rw [List.getElem?_map,hra]; rfl) ?_
  have hr := rok r hrm
  have l2 := drop1_len a0 a1
  have u0 : 0 ≤ c / 64 % 10 := by exact z405
  have u1 : c / 64 % 10 < 10 := by exact z406
  generalize c / 64 % 10 = d at u0 u1
  have fin : ∀ (r' : List (Int × Fc)) (H' : Hp),H <+: H' → (∀ x ∈ r',RoK (k + 1) x.1 x.2) → r'.length ≤ 1 → (∀ x ∈ r',r.1 ≤ x.1 ∧ ∀ y ∈ lslice rs (some (a + 1)) none,x.1 < y.1) → 1 ≤ (lslice rs none (some a)).length + r'.length + (lslice rs (some (a + 1)) none).length → ∀ (j : Nat),H'[j]? = some (.list ((lslice rs none (some a) ++ r' ++ lslice rs (some (a + 1)) none).map roP)) → Q (.ref j) H' := by
    intro r' H' hp hr' h1 h1' h2 j hj
    refine h j _ H' hp hj ⟨?_,?_,?_,?_⟩
    · intro e
      have := congrArg List.length e
      rw [List.length_append,List.length_append,List.length_nil] at this
      exact z407 h2 this
    · rw [List.length_append,List.length_append]; exact z408 rs63 l2 h1
    · intro x hx
      rcases List.mem_append.mp hx with hx | hx
      · rcases List.mem_append.mp hx with hx | hx
        · exact (rok x (lslice_mem hx)).up hk5
        · exact hr' x hx
      · exact (rok x (lslice_mem hx)).up hk5
    · rcases le_one h1 with rfl | ⟨x,rfl⟩
      · rw [List.append_nil]
        exact List.Pairwise.sublist (List.Sublist.map _ lsl_sub) inc
      · obtain ⟨g1,g2⟩ := h1' x (by simp)
        rw [List.append_assoc,List.map_append,List.singleton_append,List.map_cons]
        refine inc_put (x := r.1) ?_ g1 fun z hz=>?_
        · rw [← List.map_cons (f := Prod.fst),← List.map_append,cut_at a0 hra]; exact inc
        · obtain ⟨y,hy,rfl⟩ := List.mem_map.mp hz
          exact g2 y hy
  have behind : ∀ y ∈ lslice rs (some (a + 1)) none,r.1 < y.1 := fun y hy=>by
    have := cut_at a0 hra
    rw [← this,List.map_append,List.map_cons,List.pairwise_append,List.pairwise_cons] at inc
    exact inc.2.1.1 y.1 (List.mem_map.mpr ⟨y,hy,rfl⟩)
  have alt : wpSs Φ (m_law_spoilt.body.drop 5) [some (.ref i),some (.int c),some (.int m),some (.int a),some (.int d),some (roA r.1 r.2)] H (endOf Q) := by
    simp only [m_law_spoilt,List.drop]
    walk_at "wp"
    refine ⟨by walk_at "om",wl_at hi ?_⟩
    walk_at "go"
    refine ⟨szL hm,?_⟩
    walk_at "go"
    (simp only [fmod_nn,fdiv_nn,Int.reduceLE])
    refine co k r.1 r.2 (d % 8) m _ _ hr hk5 (by exact z409) (by exact z410) m0 fun f' H' hf' hp'=>?_
    walk_at "go"
    refine add_at (pre_at pre_new (pre_at hp' at_new)) at_new (by rw [lslice_map,List.length_map]; simp; exact z411 rs63 l2) ?_
    walk_at "wp"
    refine ⟨by exact Int.le_add_one a0,wl_at (pre_at (pre_new.trans (hp'.trans (pre_new.trans pre_new))) hi) ?_⟩
    walk_at "wp"
    refine ⟨szL hm,?_⟩
    refine add_at (pre_at pre_new at_new) at_new (by rw [lslice_map,lslice_map,List.length_append,List.length_map,List.length_map]; simp; exact z412 rs63 l2) ?_
    walk_at "wp"
    refine fin [(r.1,f')] _ (pre_new.trans (hp'.trans (pre_new.trans (pre_new.trans (pre_new.trans pre_new))))) (fun x hx=>by rw [List.mem_singleton.mp hx]; exact hf') (Nat.le_refl _) (fun x hx=>by rw [List.mem_singleton.mp hx]; exact ⟨Int.le_refl _,behind⟩) (by simp; exact z413) _ (by rw [at_new,lslice_map,lslice_map]; simp [roP])
  have alt4 : wpSs Φ (m_law_spoilt.body.drop 4) [some (.ref i),some (.int c),some (.int m),some (.int a),some (.int d),some (roA r.1 r.2)] H (endOf Q) := by
    simp only [m_law_spoilt,List.drop]
    have nine : (∀ y ∈ lslice rs (some (a + 1)) none,r.1 + 1 < y.1) → wpSs Φ [.ret (.bin .add (.bin .add (.slc (.loc 0) [] [.loc 3]) (.lst [.tup [.bin .add (.idx (.loc 5) (.cst (.int 0))) (.cst (.int 1)),.idx (.loc 5) (.cst (.int 1)),.idx (.loc 5) (.cst (.int 2))]])) (.slc (.loc 0) [.bin .add (.loc 3) (.cst (.int 1))] []))] [some (.ref i),some (.int c),some (.int m),some (.int a),some (.int d),some (roA r.1 r.2)] H (thenS Φ (m_law_spoilt.body.drop 5) (endOf Q)) := by
      intro beh
      unfold roA
      walk_at "wp"
      refine ⟨by walk_at "om",wl_at hi ?_⟩
      walk_at "go"
      refine ⟨szL hm,?_⟩
      walk_at "go"
      refine add_at (pre_at pre_new at_new) at_new (by rw [lslice_map,List.length_map]; simp; exact z411 rs63 l2) ?_
      walk_at "wp"
      refine ⟨by exact Int.le_add_one a0,wl_at (pre_at (pre_new.trans (pre_new.trans pre_new)) hi) ?_⟩
      walk_at "wp"
      refine ⟨szL hm,?_⟩
      refine add_at (pre_at pre_new at_new) at_new (by rw [lslice_map,lslice_map,List.length_append,List.length_map,List.length_map]; simp; exact z412 rs63 l2) ?_
      walk_at "wp"
      refine fin [(r.1 + 1,r.2)] _ (pre_new.trans (pre_new.trans (pre_new.trans (pre_new.trans pre_new)))) (fun x hx=>by rw [List.mem_singleton.mp hx]; exact ⟨by exact Nat.succ_le_of_lt hk5,by have := hr.2.1; show 2 ≤ r.1 + 1; exact Int.le_add_one this,by have := hr.2.2.1; show r.1 + 1 ≤ _; exact z414 this,r.2.up hr.2.2.2⟩) (Nat.le_refl _) (fun x hx=>by rw [List.mem_singleton.mp hx]; exact ⟨by show r.1 ≤ r.1 + 1; exact Int.le.intro 1 rfl,beh⟩) (by simp; exact z413) _ (by rw [at_new,lslice_map,lslice_map]; simp [roP,roA])
    walk_at "wp"
    refine sp_d (fun h9=>?_) (fun h9=>?_)
    · walk_at "wp"
      refine len_at hi hm ?_
      walk_at "wp"
      rw [e1]
      refine sp_d (fun h8=>?_) (fun h8=>?_)
      · simp only [k_or,k_ort,k_ite,k_itet]
        refine nine fun y hy=>?_
        rw [lsl_from,show min (a + 1).toNat rs.length = rs.length by exact z415 h8,List.drop_length] at hy
        cases hy
      · walk_at "wp"
        obtain ⟨r',hr'⟩ : ∃ r',rs[(a + 1).toNat]? = some r' := ⟨_,List.getElem?_eq_getElem (by exact z416 a0 a1 h8)⟩
        refine idx_at (l := rs.map roP) (z := roP r') (by simp [anyL,seqL,hi]) (by exact z198 hm) (by exact Int.le_add_one a0) (by rw [List.getElem?_map,hr']; rfl) ?_
        have ro0 : ∀ {x : Int × Fc} {Q' : PQ},Q' (.int x.1) H → wpIdx (roA x.1 x.2) (.int 0) H Q' := fun {x Q'} q=>by
          unfold roA; rw [i_tup0]; exact ⟨su3,q⟩
        unfold roP
        walk_at "wp"
        refine ro0 ?_
        walk_at "wp"
        refine ro0 ?_
        walk_at "wp"
        refine sp_d (fun h7=>?_) (fun h7=>?_)
        · simp only [k_ite,k_itet]
          refine nine fun y hy=>?_
          obtain ⟨hlt,e⟩ := List.getElem?_eq_some_iff.mp hr'
          rw [lsl_from,show min (a + 1).toNat rs.length = (a + 1).toNat by (first | lia | omega),List.drop_eq_getElem_cons hlt,e] at hy
          rcases List.mem_cons.mp hy with rfl | hy
          · exact h7
          · have := cut_at (by exact Int.le_add_one a0) hr'
            rw [← this,List.map_append,List.map_cons,List.pairwise_append,List.pairwise_cons] at inc
            have hy' : y ∈ lslice rs (some (a + 1 + 1)) none := by
              rw [lsl_from,show min (a + 1 + 1).toNat rs.length = (a + 1).toNat + 1 by (first | lia | omega)]; exact hy
            have := inc.2.1.1 y.1 (List.mem_map.mpr ⟨y,hy',rfl⟩)
            exact Int.lt_trans h7 this
        · simp only [k_ite,k_itef,ss_nil,thenS_next]
          exact alt
    · simp only [k_andf,k_ite,k_itef,ss_nil,thenS_next]
      exact alt
  walk_at "wp"
  refine sp_d (fun h9=>?_) (fun h9=>?_)
  · walk_at "wp"
    refine len_at hi hm ?_
    walk_at "wp"
    rw [e1]
    refine sp_d (fun h8=>?_) (fun h8=>?_)
    · walk_at "wp"
      refine ⟨by walk_at "om",wl_at hi ?_⟩
      walk_at "wp"
      refine ⟨szL hm,by exact Int.le_add_one a0,wl_at (pre_at pre_new hi) ?_⟩
      walk_at "wp"
      refine ⟨szL hm,?_⟩
      refine add_at (pre_at pre_new at_new) at_new (by rw [lslice_map,lslice_map,List.length_map,List.length_map]; exact z417 rs63 l2) ?_
      walk_at "wp"
      exact fin [] _ (pre_new.trans (pre_new.trans pre_new)) (fun x hx=>by cases hx) (by decide) (fun x hx=>by cases hx) (by simp; exact z418 l2 h8) _ (by rw [at_new,lslice_map,lslice_map]; simp)
    · simp only [k_ite,k_itef,ss_nil,thenS_next]
      exact alt4
  · simp only [k_andf,k_ite,k_itef,ss_nil,thenS_next]
    exact alt4
end
section
open PySem
set_option maxHeartbeats 2000000
noncomputable def c_BOUND : AV := .int 1000000000000000000000000000000
noncomputable def c_WORDS : AV := .tup [.str "first",.str "prime",.str "split",.str "power",.str "root"]
noncomputable def c_MOST_TIMES : AV := .int 100
noncomputable def m_is_whole : MF := ⟨3,3,
  [.ret (.and2 (.isi (.loc 0) .int) (.and2 (.not (.isi (.loc 0) .bool)) (.cmp2 .le .le (.loc 1) (.loc 0) (.loc 2))))]⟩
noncomputable def m_are_powers : MF := ⟨1,3,
  [.ite (.or2 (.not (.isi (.loc 0) .tuple)) (.cmp .eq (.bi .len [.loc 0]) (.cst (.int 0)))) [.ret (.cst (.bool false))] [],
  .asg 1 (.cst (.int 1)),
  .forr false [2] .plain [.loc 0] [.ite (.or2 (.not (.isi (.loc 2) .tuple)) (.cmp .ne (.bi .len [.loc 2]) (.cst (.int 2)))) [.ret (.cst (.bool false))] [],
    .ite (.or2 (.not (.call "is_whole" [.idx (.loc 2) (.cst (.int 0)),.bin .add (.loc 1) (.cst (.int 1)),.cst c_BOUND])) (.not (.call "is_whole" [.idx (.loc 2) (.cst (.int 1)),.cst (.int 1),.cst c_MOST_TIMES]))) [.ret (.cst (.bool false))] [],
    .asg 1 (.idx (.loc 2) (.cst (.int 0)))],
  .ret (.cst (.bool true))]⟩
noncomputable def m_are_facts : MF := ⟨2,2,
  [.ite (.cmp .eq (.loc 0) (.cst (.str "first"))) [.ret (.cmp .eq (.bi .len [.loc 1]) (.cst (.int 0)))] [],
  .ite (.cmp .eq (.loc 0) (.cst (.str "prime"))) [.ret (.and2 (.cmp .eq (.bi .len [.loc 1]) (.cst (.int 2))) (.and2 (.call "is_whole" [.idx (.loc 1) (.cst (.int 0)),.cst (.int 1),.cst c_BOUND]) (.call "are_powers" [.idx (.loc 1) (.cst (.int 1))])))] [],
  .ite (.cmp .eq (.loc 0) (.cst (.str "split"))) [.ret (.and2 (.cmp .eq (.bi .len [.loc 1]) (.cst (.int 2))) (.and2 (.call "is_whole" [.idx (.loc 1) (.cst (.int 0)),.cst (.int 2),.cst c_BOUND]) (.call "is_whole" [.idx (.loc 1) (.cst (.int 1)),.cst (.int 2),.cst c_BOUND])))] [],
  .ret (.and2 (.cmp .eq (.bi .len [.loc 1]) (.cst (.int 1))) (.call "is_whole" [.idx (.loc 1) (.cst (.int 0)),.cst (.int 1),.cst c_BOUND]))]⟩
noncomputable def m_is_row : MF := ⟨1,1,
  [.ite (.or2 (.not (.isi (.loc 0) .tuple)) (.or2 (.cmp .ne (.bi .len [.loc 0]) (.cst (.int 3))) (.not (.call "is_whole" [.idx (.loc 0) (.cst (.int 0)),.cst (.int 2),.cst c_BOUND])))) [.ret (.cst (.bool false))] [],
  .ite (.or2 (.not (.isi (.idx (.loc 0) (.cst (.int 1))) .str)) (.or2 (.cmp .notIn (.idx (.loc 0) (.cst (.int 1))) (.cst c_WORDS)) (.not (.isi (.idx (.loc 0) (.cst (.int 2))) .tuple)))) [.ret (.cst (.bool false))] [],
  .ret (.call "are_facts" [.idx (.loc 0) (.cst (.int 1)),.idx (.loc 0) (.cst (.int 2))])]⟩
noncomputable def m_law_within : MF := ⟨3,3,
  [.ret (.and2 (.isi (.loc 0) .int) (.and2 (.not (.isi (.loc 0) .bool)) (.cmp2 .le .le (.loc 1) (.loc 0) (.loc 2))))]⟩
noncomputable def BIG : Int := 1000000000000000000000000000000
noncomputable def whB (v : AV) (a b : Int) : Bool := match v with | .int k=>decide (a ≤ k) && decide (k ≤ b) | _=>false
noncomputable def risB : Int → List AV → Bool
  | _,[]=>true
  | a,.tup [.int q,t] :: r=>whB (.int q) (a + 1) BIG && whB t 1 100 && risB q r
  | _,_=>false
noncomputable def powB (v : AV) : Bool := match v with | .tup (x :: r)=>risB 1 (x :: r) | _=>false
noncomputable def facB (w : Str) (f : List AV) : Bool :=
  if w == "first" then decide ((f.length : Int) = 0)
  else if w == "prime" then (match f with | [a,p]=>whB a 1 BIG && powB p | _=>false)
  else if w == "split" then (match f with | [a,b]=>whB a 2 BIG && whB b 2 BIG | _=>false)
  else (match f with | [a]=>whB a 1 BIG | _=>false)
noncomputable def wordsL : List Str := ["first", "prime", "split", "power", "root"]
noncomputable def rowB (v : AV) : Bool := match v with | .tup [n,.str w,.tup f]=>whB n 2 BIG && wordsL.contains w && facB w f | _=>false
inductive Gd (H : Hp) : Nat → AV → Prop
  | none {n} : Gd H n .none
  | int {n k} : Gd H n (.int k)
  | bool {n b} : Gd H n (.bool b)
  | str {n x} : Gd H n (.str x)
  | tup {n l} : l.length ≤ 1000 → (∀ x ∈ l,Gd H n x) → Gd H (n + 1) (.tup l)
  | ref {n i l} : H[i]? = some (.list l) → (∀ x ∈ l,Gd H n x) → Gd H (n + 1) (.ref i)
theorem Gd.up {H : Hp} {n : Nat} {v : AV} (g : Gd H n v) : ∀ {m},n ≤ m → Gd H m v := by
  induction g with
  | none=>intros; exact .none
  | int=>intros; exact .int
  | bool=>intros; exact .bool
  | str=>intros; exact .str
  | tup h _ ih=>intro m hm; obtain ⟨k,rfl⟩ : ∃ k,m = k + 1 := ⟨m - 1,by exact z419 hm⟩; exact .tup h fun x hx=>ih x hx (by exact Nat.le_of_lt_succ hm)
  | ref h _ ih=>intro m hm; obtain ⟨k,rfl⟩ : ∃ k,m = k + 1 := ⟨m - 1,by exact z419 hm⟩; exact .ref h fun x hx=>ih x hx (by exact Nat.le_of_lt_succ hm)
theorem Gd.len {H : Hp} {n : Nat} {l : List AV} (g : Gd H n (.tup l)) : l.length ≤ 1000 := by cases g; assumption
theorem Gd.mem {H : Hp} {n : Nat} {l : List AV} (g : Gd H (n + 1) (.tup l)) : ∀ x ∈ l,Gd H n x := by cases g; assumption
theorem datRs_all {ρ : Nat → Option PyData} {n : Nat} : ∀ {l : List AV},(∀ x ∈ l,∃ d,datR ρ x = some d ∧ d.depth ≤ n) → ∃ ds,datRs ρ l = some ds ∧ PyData.depthAll ds ≤ n
  | [],_=>⟨[],rfl,Nat.zero_le _⟩
  | x :: l,h=>by
    obtain ⟨d,h1,h2⟩ := h x (by simp)
    obtain ⟨ds,h3,h4⟩ := datRs_all (l := l) fun y hy=>h y (by simp [hy])
    exact ⟨d :: ds,by simp [datRs,h1,h3],by simp only [PyData.depthAll]; exact Nat.max_le_of_le_of_le h2 h4⟩
theorem Gd.dat {H : Hp} {n : Nat} {v : AV} (g : Gd H n v) : ∀ {m},n ≤ m → ∃ d,datR (rho H m) v = some d ∧ d.depth ≤ n := by
  induction g with
  | none=>intros; exact ⟨.none,rfl,by simp [PyData.depth]⟩
  | int=>intros; exact ⟨.int _,rfl,by simp [PyData.depth]⟩
  | bool=>intros; exact ⟨.bool _,rfl,by simp [PyData.depth]⟩
  | str=>intros; exact ⟨.str _,rfl,by simp [PyData.depth]⟩
  | tup h _ ih =>
    intro m hm
    obtain ⟨ds,h1,h2⟩ := datRs_all fun x hx=>ih x hx (m := m) (by exact Nat.le_of_succ_le hm)
    exact ⟨.tuple ds,by simp [datR,h1],by simp only [PyData.depth]; exact Nat.add_le_add_right h2 1⟩
  | ref h _ ih =>
    intro m hm
    obtain ⟨k,rfl⟩ : ∃ k,m = k + 1 := ⟨m - 1,by exact z419 hm⟩
    obtain ⟨ds,h1,h2⟩ := datRs_all fun x hx=>ih x hx (m := k) (by exact Nat.le_of_lt_succ hm)
    exact ⟨.list ds,by simp [datR,rho,h,h1],by simp only [PyData.depth]; exact Nat.add_le_add_right h2 1⟩
noncomputable def SWh (f : Str) (Φ : Fun) : Prop := ∀ (v : AV) (a b : Int) (H : Hp) (Q : PQ),Q (.bool (whB v a b)) H → Φ f [v,.int a,.int b] H Q
theorem is_whole {Φ : Fun} {v : AV} {a b : Int} {H : Hp} {Q : PQ} (h : Q (.bool (whB v a b)) H) : wpF Φ m_is_whole [v,.int a,.int b] H Q := by
  ((refine ⟨rfl,?_⟩; simp only [lst,Nat.reduceSub,Nat.sub_self,List.replicate]))
  simp only [m_is_whole]
  walk_at "wp"
  cases v with
  | int k =>
    simp only [isi]
    walk_at "wp"
    simp only [isi]
    walk_at "wp"
    refine sp_d (fun h1=>?_) (fun h1=>?_)
    · walk_at "wp"
      simpa [whB,h1] using h
    · walk_at "wp"
      simpa [whB,h1] using h
  | bool k =>
    simp only [isi]
    walk_at "wp"
    simp only [isi]
    walk_at "wp"
    exact h
  | _ =>
    simp only [isi]
    walk_at "wp"
    exact h
theorem within {Φ : Fun} {v : AV} {a b : Int} {H : Hp} {Q : PQ} (h : Q (.bool (whB v a b)) H) : wpF Φ m_law_within [v,.int a,.int b] H Q := is_whole h
theorem drop_at {l : List AV} {i : Nat} {y : AV} (h : l[i]? = some y) : l.drop i = y :: l.drop (i + 1) := by
  obtain ⟨hi,e⟩ := List.getElem?_eq_some_iff.mp h
  rw [List.drop_eq_getElem_cons hi,e]
theorem risB_no {a : Int} {r : List AV} {y : AV} (h : ∀ q t,y ≠ .tup [q,t]) : risB a (y :: r) = false := by
  cases y with
  | tup p =>
    match p,h with
    | [],_=>rfl
    | [x],_=>cases x <;> rfl
    | [q,t],h=>exact absurd rfl (h q t)
    | x :: _ :: _ :: _,_=>cases x <;> rfl
  | _=>rfl
theorem risB_two {a k : Int} {r : List AV} {t : AV} : risB a (.tup [.int k,t] :: r) = (whB (.int k) (a + 1) BIG && whB t 1 100 && risB k r) := rfl
theorem risB_nint {a : Int} {r : List AV} {q t : AV} (h : ∀ k,q ≠ .int k) : risB a (.tup [q,t] :: r) = false := by
  cases q <;> first | rfl | exact absurd rfl (h _)
theorem two_or (y : AV) : (∃ q t,y = .tup [q,t]) ∨ ((∀ q t,y ≠ .tup [q,t]) ∧ ((∃ p,y = .tup p ∧ p.length ≠ 2) ∨ ∀ H,isi H y .tuple = false)) := by
  cases y with
  | tup p =>
    match p with
    | [q,t]=>exact .inl ⟨q,t,rfl⟩
    | []=>exact .inr ⟨fun _ _ e=>(by cases e),.inl ⟨_,rfl,by simp⟩⟩
    | [_]=>exact .inr ⟨fun _ _ e=>(by cases e),.inl ⟨_,rfl,by simp⟩⟩
    | _ :: _ :: _ :: r=>exact .inr ⟨fun _ _ e=>(by cases e),.inl ⟨_,rfl,by simp⟩⟩
  | _=>exact .inr ⟨fun _ _ e=>(by cases e),.inr fun _=>rfl⟩
theorem whB_int {q : AV} {a b : Int} (h : whB q a b = true) : ∃ k,q = .int k := by
  cases q <;> first | exact ⟨_,rfl⟩ | cases h
noncomputable def SPw (f : Str) (Φ : Fun) : Prop := ∀ (v : AV) (n : Nat) (H : Hp) (Q : PQ),Gd H n v → Q (.bool (powB v)) H → Φ f [v] H Q
theorem are_powers {Φ : Fun} (c : SWh "is_whole" Φ) {v : AV} {n : Nat} {H : Hp} {Q : PQ} (g : Gd H n v) (h : Q (.bool (powB v)) H) : wpF Φ m_are_powers [v] H Q := by
  ((refine ⟨rfl,?_⟩; simp only [lst,Nat.reduceSub,Nat.sub_self,List.replicate]))
  simp only [m_are_powers]
  walk_at "wp"
  cases v with
  | tup l =>
    simp only [isi]
    walk_at "wp"
    refine ⟨by have := g.len; exact z198 this,?_⟩
    refine sp_d (fun h0=>?_) (fun h0=>?_)
    · walk_at "wp"
      have : l = [] := List.length_eq_zero_iff.mp (by exact Int.ofNat_eq_zero.mp h0)
      subst this; exact h
    · walk_at "wp"
      have hp : powB (.tup l) = risB 1 l := by cases l with | nil=>simp at h0 | cons=>rfl
      rw [hp] at h
      refine for_intro (fun i loc H'=>∃ (a : Int) (o : Option AV),H' = H ∧ loc = [some (.tup l),some (.int a),o] ∧ risB a (l.drop i) = risB 1 l) ⟨1,none,rfl,rfl,by simp⟩ ?_
      rintro i loc H' ⟨a,o,rfl,rfl,hr⟩
      refine ⟨trivial,fun y hy=>?_,fun hi=>?_⟩
      · rw [drop_at hy] at hr
        refine ⟨[y],rfl,?_⟩
        have gy : y ∈ l := List.mem_of_getElem? hy
        rcases two_or y with ⟨q,t,rfl⟩ | ⟨hn,hh⟩
        · walk_at "wp"
          simp only [isi]
          walk_at "wp"
          refine ⟨by (first | exact Nat.le_of_ble_eq_true rfl | simp),?_⟩
          refine sp_n (fun hc=>absurd rfl hc) (fun _=>?_)
          walk_at "wp"
          refine ⟨by (first | exact Nat.le_of_ble_eq_true rfl | simp),?_⟩
          refine c q (a + 1) BIG H' _ ?_
          walk_at "wp"
          refine sp_b (b := !whB q (a + 1) BIG) (fun hq=>?_) (fun hq=>?_)
          · walk_at "wp"
            have : risB a (.tup [q,t] :: l.drop (i + 1)) = false := by
              by_cases hk : ∃ k,q = .int k
              · obtain ⟨k,rfl⟩ := hk
                rw [risB_two]
                simp only [Bool.not_eq_true'] at hq
                simp [hq]
              · exact risB_nint fun k e=>hk ⟨k,e⟩
            rw [this] at hr
            rw [← hr] at h; exact h
          · walk_at "wp"
            refine ⟨by (first | exact Nat.le_of_ble_eq_true rfl | simp),?_⟩
            refine c t 1 100 H' _ ?_
            walk_at "wp"
            simp only [Bool.not_eq_false'] at hq
            obtain ⟨k,rfl⟩ := whB_int hq
            rw [risB_two,hq] at hr
            refine sp_b (b := !whB t 1 100) (fun ht=>?_) (fun ht=>?_)
            · walk_at "wp"
              simp only [Bool.not_eq_true'] at ht
              rw [ht] at hr
              rw [← hr] at h; exact h
            · walk_at "wp"
              simp only [Bool.not_eq_false'] at ht
              refine ⟨by (first | exact Nat.le_of_ble_eq_true rfl | simp),?_⟩
              refine for_next ⟨k,_,rfl,rfl,?_⟩
              rw [ht] at hr
              simpa using hr
        · rw [risB_no hn] at hr
          rw [← hr] at h
          rcases hh with ⟨p,rfl,hp2⟩ | hno
          · walk_at "wp"
            simp only [isi]
            walk_at "wp"
            have := g
            refine ⟨by cases g with | tup h1 h2=>have := (h2 _ gy).len; exact z198 this,?_⟩
            refine sp_n (fun hc=>?_) (fun hc=>absurd (by exact Eq.symm ((fun {m n}=>Int.ofNat_inj.mp) (id (Eq.symm hc)))) hp2)
            walk_at "wp"
            exact h
          · walk_at "wp"
            simp only [hno]
            walk_at "wp"
            exact h
      · walk_at "wp"
        have : l.drop i = [] := by rw [hi]; simp
        rw [this] at hr
        rw [← hr] at h; exact h
  | _ =>
    simp only [isi]
    walk_at "wp"
    exact h
noncomputable def SFac (Φ : Fun) : Prop := ∀ (w : Str) (f : List AV) (n : Nat) (H : Hp) (Q : PQ),Gd H (n + 1) (.tup f) → Q (.bool (facB w f)) H → Φ "are_facts" [.str w,.tup f] H Q
theorem are_facts {Φ : Fun} (c : SWh "is_whole" Φ) (cp : SPw "are_powers" Φ) {w : Str} {f : List AV} {n : Nat} {H : Hp} {Q : PQ} (g : Gd H (n + 1) (.tup f)) (h : Q (.bool (facB w f)) H) : wpF Φ m_are_facts [.str w,.tup f] H Q := by
  have hl := g.len
  unfold facB at h
  ((refine ⟨rfl,?_⟩; simp only [lst,Nat.reduceSub,Nat.sub_self,List.replicate]))
  simp only [m_are_facts]
  walk_at "wp"
  refine sp_b (fun h1=>?_) (fun h1=>?_)
  · rw [if_pos h1] at h
    walk_at "wp"
    exact ⟨by exact z198 hl,h⟩
  rw [if_neg (by rw [h1]; exact Bool.false_ne_true)] at h
  walk_at "wx"
  refine sp_b (fun h2=>?_) (fun h2=>?_)
  · rw [if_pos h2] at h
    walk_at "wp"
    refine ⟨by exact z198 hl,?_⟩
    clear h1 h2
    match f,g,h with
    | [a,p],g,h =>
      refine sp_d (fun h3=>?_) (fun h3=>absurd rfl h3)
      walk_at "wp"
      refine ⟨by (first | exact Nat.le_of_ble_eq_true rfl | simp),?_⟩
      refine c a 1 BIG H _ ?_
      walk_at "wp"
      refine sp_b (fun h4=>?_) (fun h4=>?_)
      · walk_at "wp"
        refine ⟨by (first | exact Nat.le_of_ble_eq_true rfl | simp),?_⟩
        refine cp p _ H _ (g.mem p (by simp)) ?_
        have h : Q (.bool (_ && _)) H := h
        rw [h4,Bool.true_and] at h; exact h
      · walk_at "wp"
        have h : Q (.bool (_ && _)) H := h
        rw [h4,Bool.false_and] at h; exact h
    | [],g,h =>
      refine sp_d (fun h3=>by simp at h3) (fun h3=>?_)
      walk_at "wp"
      exact h
    | [_],g,h =>
      refine sp_d (fun h3=>by simp at h3) (fun h3=>?_)
      walk_at "wp"
      exact h
    | _ :: _ :: _ :: r,g,h =>
      refine sp_d (fun h3=>by simp at h3; (first | lia | omega)) (fun h3=>?_)
      walk_at "wp"
      exact h
  rw [if_neg (by rw [h2]; exact Bool.false_ne_true)] at h
  walk_at "wp"
  refine sp_b (fun h3=>?_) (fun h3=>?_)
  · rw [if_pos h3] at h
    walk_at "wp"
    refine ⟨by exact z198 hl,?_⟩
    clear h1 h2 h3
    match f,g,h with
    | [a,p],g,h =>
      refine sp_d (fun h3=>?_) (fun h3=>absurd rfl h3)
      walk_at "wp"
      refine ⟨by (first | exact Nat.le_of_ble_eq_true rfl | simp),?_⟩
      refine c a 2 BIG H _ ?_
      walk_at "wp"
      refine sp_b (fun h4=>?_) (fun h4=>?_)
      · walk_at "wp"
        refine ⟨by (first | exact Nat.le_of_ble_eq_true rfl | simp),?_⟩
        refine c p 2 BIG H _ ?_
        have h : Q (.bool (_ && _)) H := h
        rw [h4,Bool.true_and] at h; exact h
      · walk_at "wp"
        have h : Q (.bool (_ && _)) H := h
        rw [h4,Bool.false_and] at h; exact h
    | [],g,h =>
      refine sp_d (fun h3=>by simp at h3) (fun h3=>?_)
      walk_at "wp"
      exact h
    | [_],g,h =>
      refine sp_d (fun h3=>by simp at h3) (fun h3=>?_)
      walk_at "wp"
      exact h
    | _ :: _ :: _ :: r,g,h =>
      refine sp_d (fun h3=>by simp at h3; (first | lia | omega)) (fun h3=>?_)
      walk_at "wp"
      exact h
  rw [if_neg (by rw [h3]; exact Bool.false_ne_true)] at h
  walk_at "wp"
  refine ⟨by exact z198 hl,?_⟩
  clear h1 h2 h3
  match f,g,h with
  | [a],g,h =>
    refine sp_d (fun h3=>?_) (fun h3=>absurd rfl h3)
    walk_at "wp"
    refine ⟨by (first | exact Nat.le_of_ble_eq_true rfl | simp),?_⟩
    exact c a 1 BIG H _ h
  | [],g,h =>
    refine sp_d (fun h3=>by simp at h3) (fun h3=>?_)
    walk_at "wp"
    exact h
  | _ :: _ :: r,g,h =>
    refine sp_d (fun h3=>by simp at h3; (first | lia | omega)) (fun h3=>?_)
    walk_at "wp"
    exact h
theorem three_or (y : AV) : (∃ a b c,y = .tup [a,b,c]) ∨ (rowB y = false ∧ ((∃ p,y = .tup p ∧ p.length ≠ 3) ∨ ∀ H,isi H y .tuple = false)) := by
  cases y with
  | tup p =>
    match p with
    | [a,b,c]=>exact .inl ⟨a,b,c,rfl⟩
    | []=>exact .inr ⟨rfl,.inl ⟨_,rfl,by simp⟩⟩
    | [_]=>exact .inr ⟨rfl,.inl ⟨_,rfl,by simp⟩⟩
    | [_,b]=>exact .inr ⟨by cases b <;> rfl,.inl ⟨_,rfl,by simp⟩⟩
    | _ :: b :: c :: _ :: r=>exact .inr ⟨by cases b <;> first | rfl | (cases c <;> rfl),.inl ⟨_,rfl,by simp⟩⟩
  | _=>exact .inr ⟨rfl,.inr fun _=>rfl⟩
theorem str_or (y : AV) : (∃ w,y = .str w) ∨ ((∀ a c,rowB (.tup [a,y,c]) = false) ∧ ∀ H,isi H y .str = false) := by
  cases y <;> first | exact .inl ⟨_,rfl⟩ | exact .inr ⟨fun _ _=>rfl,fun _=>rfl⟩
theorem tup_or (y : AV) : (∃ f,y = .tup f) ∨ ((∀ a w,rowB (.tup [a,.str w,y]) = false) ∧ ∀ H,isi H y .tuple = false) := by
  cases y <;> first | exact .inl ⟨_,rfl⟩ | exact .inr ⟨fun _ _=>rfl,fun _=>rfl⟩
theorem rowB_at {a : AV} {w : Str} {f : List AV} : rowB (.tup [a,.str w,.tup f]) = (whB a 2 BIG && wordsL.contains w && facB w f) := rfl
theorem rowB_n {a b c : AV} (h : whB a 2 BIG = false) : rowB (.tup [a,b,c]) = false := by
  cases b <;> first | rfl | (cases c <;> first | rfl | (rw [rowB_at,h]; rfl))
theorem in_words {H : Hp} {w : Str} {K : Bool → Prop} (h : K (wordsL.contains w)) : wpIn (.str w) c_WORDS H K := by
  refine ⟨.str w,wordsL.map .str,rfl,rfl,by simp [PyData.depth],?_⟩
  have : (List.any (wordsL.map PyData.str) fun z=>PyData.eqv z (.str w)) = wordsL.contains w := by
    simp only [wordsL,List.map_cons,List.map_nil,List.any_cons,List.any_nil,PyData.eqv,List.contains_cons,List.contains_nil,Bool.or_false]
    simp only [Bool.beq_comm,BEq.comm]
  rw [this]; exact h
theorem notin_words {H : Hp} {w : Str} {Q : PQ} (h : Q (.bool !(wordsL.contains w)) H) : wpCmp .notIn (.str w) c_WORDS H Q := in_words (K := fun b=>Q (.bool !b) H) h
noncomputable def RG (H : Hp) (v : AV) : Prop := (∃ n,Gd H n v) ∧ ∀ a w f,v = .tup [a,.str w,.tup f] → Gd H 4 (.tup f)
noncomputable def SRow (f : Str) (Φ : Fun) : Prop := ∀ (v : AV) (H : Hp) (Q : PQ),RG H v → Q (.bool (rowB v)) H → Φ f [v] H Q
theorem is_row {Φ : Fun} (c : SWh "is_whole" Φ) (cf : SFac Φ) {v : AV} {H : Hp} {Q : PQ} (g : RG H v) (h : Q (.bool (rowB v)) H) : wpF Φ m_is_row [v] H Q := by
  ((refine ⟨rfl,?_⟩; simp only [lst,Nat.reduceSub,Nat.sub_self,List.replicate]))
  simp only [m_is_row]
  walk_at "wp"
  rcases three_or v with ⟨a,b,t,rfl⟩ | ⟨hn,hh⟩
  · simp only [isi]
    walk_at "wp"
    refine ⟨by (first | exact Nat.le_of_ble_eq_true rfl | simp),?_⟩
    refine sp_n (fun hc=>absurd rfl hc) (fun _=>?_)
    walk_at "wp"
    refine ⟨by (first | exact Nat.le_of_ble_eq_true rfl | simp),?_⟩
    refine c a 2 BIG H _ ?_
    walk_at "wp"
    refine sp_b (b := !whB a 2 BIG) (fun hq=>?_) (fun hq=>?_)
    · walk_at "wp"
      rw [rowB_n (by simpa using hq)] at h; exact h
    · walk_at "wp"
      refine ⟨by (first | exact Nat.le_of_ble_eq_true rfl | simp),?_⟩
      rcases str_or b with ⟨w,rfl⟩ | ⟨hn,hno⟩
      · simp only [isi]
        walk_at "wp"
        refine ⟨by (first | exact Nat.le_of_ble_eq_true rfl | simp),?_⟩
        refine notin_words ?_
        walk_at "wp"
        refine sp_b (b := !wordsL.contains w) (fun hw=>?_) (fun hw=>?_)
        · walk_at "wp"
          rcases tup_or t with ⟨f,rfl⟩ | ⟨hn,hno⟩
          · rw [rowB_at,show wordsL.contains w = false by simpa using hw,Bool.and_false,Bool.false_and] at h; exact h
          · rw [hn] at h; exact h
        · walk_at "wp"
          refine ⟨by (first | exact Nat.le_of_ble_eq_true rfl | simp),?_⟩
          rcases tup_or t with ⟨f,rfl⟩ | ⟨hn,hno⟩
          · simp only [isi]
            walk_at "wp"
            refine ⟨by simp,by simp,?_⟩
            refine cf w f 3 H _ (g.2 _ _ _ rfl) ?_
            rw [rowB_at,show wordsL.contains w = true by simpa using hw,show whB a 2 BIG = true by simpa using hq,Bool.and_true,Bool.true_and] at h; exact h
          · simp only [hno]
            walk_at "wp"
            rw [hn] at h; exact h
      · simp only [hno]
        walk_at "wp"
        rw [hn] at h; exact h
  · rw [hn] at h
    rcases hh with ⟨p,rfl,hp⟩ | hno
    · simp only [isi]
      walk_at "wp"
      refine ⟨by obtain ⟨n,g1⟩ := g.1; have := g1.len; exact z198 this,?_⟩
      refine sp_n (fun hc=>?_) (fun hc=>absurd (by exact Eq.symm ((fun {m n}=>Int.ofNat_inj.mp) (id (Eq.symm hc)))) hp)
      walk_at "wp"
      exact h
    · simp only [hno]
      walk_at "wp"
      exact h
end
section
open PySem
set_option maxHeartbeats 2000000
noncomputable def c_MOST_ROWS : AV := .int 200
noncomputable def m_is_slip : MF := ⟨1,3,
  [.ite (.or2 (.not (.isi (.loc 0) .tuple)) (.not (.cmp2 .le .le (.cst (.int 1)) (.bi .len [.loc 0]) (.cst c_MOST_ROWS)))) [.ret (.cst (.bool false))] [],
  .asg 1 (.cst (.int 0)),
  .forr false [2] .plain [.loc 0] [.ite (.or2 (.not (.call "is_row" [.loc 2])) (.cmp .le (.idx (.loc 2) (.cst (.int 0))) (.loc 1))) [.ret (.cst (.bool false))] [],
    .asg 1 (.idx (.loc 2) (.cst (.int 0)))],
  .ret (.cst (.bool true))]⟩
noncomputable def m_wrong_at : MF := ⟨1,4,
  [.asg 1 (.lst []),
  .forr true [2,3] .enum [.loc 0] [.ite (.not (.call "holds" [.loc 3,.loc 1])) [.ret (.loc 2)] [],
    .ite (.call "tells_prime" [.loc 3]) [.expr (.meth .append (.loc 1) [.idx (.loc 3) (.cst (.int 0))])] []],
  .ret (.cst .none)]⟩
noncomputable def m_lets_by : MF := ⟨1,1,
  [.ret (.and2 (.call "is_slip" [.loc 0]) (.cmp .is (.call "wrong_at" [.loc 0]) (.cst .none)))]⟩
noncomputable def numA (v : AV) : Int := match v with | .tup (.int n :: _)=>n | _=>0
noncomputable def incB : Int → List AV → Bool
  | _,[]=>true
  | a,v :: r=>rowB v && (decide (a < numA v) && incB (numA v) r)
noncomputable def adjL : List AV → Bool
  | x :: y :: r=>decide (numA x < numA y) && adjL (y :: r)
  | _=>true
noncomputable def lenB (l : List AV) : Bool := decide ((1 : Int) ≤ l.length) && decide ((l.length : Int) ≤ 200)
noncomputable def slipB (v : AV) : Bool := match v with | .tup l=>lenB l && incB 0 l | _=>false
theorem rowB_shape {v : AV} (h : rowB v = true) : ∃ n w f,v = .tup [.int n,.str w,.tup f] ∧ 2 ≤ n := by
  rcases three_or v with ⟨a,b,t,rfl⟩ | ⟨hn,_⟩
  · rcases str_or b with ⟨w,rfl⟩ | ⟨hn,_⟩
    · rcases tup_or t with ⟨f,rfl⟩ | ⟨hn,_⟩
      · rw [rowB_at,Bool.and_eq_true,Bool.and_eq_true] at h
        obtain ⟨k,rfl⟩ := whB_int h.1.1
        simp only [whB,Bool.and_eq_true,decide_eq_true_eq] at h
        exact ⟨k,w,f,rfl,h.1.1.1⟩
      · rw [hn] at h; cases h
    · rw [hn] at h; cases h
  · rw [hn] at h; cases h
noncomputable def chain (a : Int) (l : List AV) : Bool := match l with | []=>true | x :: r=>decide (a < numA x) && adjL (x :: r)
theorem inc_chain : ∀ (l : List AV) (a : Int),incB a l = (l.all rowB && chain a l)
  | [],_=>rfl
  | x :: r,a=>by
    rw [incB,inc_chain r (numA x)]
    have : chain a (x :: r) = (decide (a < numA x) && chain (numA x) r) := by
      cases r with
      | nil=>simp [chain,adjL]
      | cons y r=>rfl
    rw [this,List.all_cons]
    cases rowB x <;> cases decide (a < numA x) <;> cases r.all rowB <;> rfl
theorem slip_due (l : List AV) : slipB (.tup l) = (lenB l && (l.all rowB && adjL l)) := by
  show (lenB l && incB 0 l) = _
  rw [inc_chain]
  cases l with
  | nil=>rfl
  | cons x r =>
    cases hx : rowB x with
    | false=>simp [hx]
    | true =>
      obtain ⟨n,w,f,rfl,h2⟩ := rowB_shape hx
      have : chain 0 (.tup [.int n,.str w,.tup f] :: r) = adjL (.tup [.int n,.str w,.tup f] :: r) := by
        show (decide ((0 : Int) < n) && _) = _
        rw [show decide ((0 : Int) < n) = true by simp; exact z399 h2,Bool.true_and]
      rw [this]
theorem RG_of {H : Hp} {v : AV} (g : Gd H 5 v) : RG H v := ⟨⟨5,g⟩,fun a w f e=>by subst e; exact g.mem _ (by simp)⟩
noncomputable def SlG (H : Hp) (v : AV) : Prop := ∀ l,v = .tup l → l.length ≤ 1000 ∧ ∀ x ∈ l,Gd H 5 x
noncomputable def SSlip (Φ : Fun) : Prop := ∀ (v : AV) (H : Hp) (Q : PQ),SlG H v → Q (.bool (slipB v)) H → Φ "is_slip" [v] H Q
theorem is_slip {Φ : Fun} (c : SRow "is_row" Φ) {v : AV} {H : Hp} {Q : PQ} (g : SlG H v) (h : Q (.bool (slipB v)) H) : wpF Φ m_is_slip [v] H Q := by
  ((refine ⟨rfl,?_⟩; simp only [lst,Nat.reduceSub,Nat.sub_self,List.replicate]))
  simp only [m_is_slip]
  walk_at "wp"
  rcases tup_or v with ⟨l,rfl⟩ | ⟨_,hno⟩
  · obtain ⟨hl,hg⟩ := g l rfl
    simp only [isi]
    walk_at "wp"
    refine ⟨by exact z198 hl,?_⟩
    have body : lenB l = true → wpSs Φ (m_is_slip.body.drop 1) [some (.tup l),none,none] H (endOf Q) := by
      intro hlb
      have h : Q (.bool (lenB l && incB 0 l)) H := h
      rw [hlb,Bool.true_and] at h
      simp only [m_is_slip,List.drop]
      walk_at "wp"
      refine for_intro (fun i loc H'=>∃ (a : Int) (o : Option AV),H' = H ∧ loc = [some (.tup l),some (.int a),o] ∧ incB a (l.drop i) = incB 0 l) ⟨0,none,rfl,rfl,by simp⟩ ?_
      rintro i loc H' ⟨a,o,rfl,rfl,hr⟩
      refine ⟨trivial,fun y hy=>?_,fun hi=>?_⟩
      · rw [drop_at hy,incB] at hr
        refine ⟨[y],rfl,?_⟩
        walk_at "wp"
        refine c y H' _ (RG_of (hg y (List.mem_of_getElem? hy))) ?_
        walk_at "wp"
        cases hb : rowB y with
        | false =>
          simp only [Bool.not_false]
          walk_at "wp"
          rw [hb,Bool.false_and] at hr
          rw [← hr] at h; exact h
        | true =>
          obtain ⟨n,w,f,rfl,n2'⟩ := rowB_shape hb
          have hr : (decide (a < n) && incB n (l.drop (i + 1))) = incB 0 l := by rw [hb,Bool.true_and] at hr; exact hr
          simp only [Bool.not_true]
          walk_at "wp"
          refine ⟨by (first | exact Nat.le_of_ble_eq_true rfl | simp),?_⟩
          refine sp_d (fun h1=>?_) (fun h1=>?_)
          · walk_at "wp"
            rw [show decide (a < n) = false by simp; exact z420 h1,Bool.false_and] at hr
            rw [← hr] at h; exact h
          · walk_at "wp"
            refine ⟨by (first | exact Nat.le_of_ble_eq_true rfl | simp),?_⟩
            rw [show decide (a < n) = true by simp; exact Int.lt_of_not_ge h1,Bool.true_and] at hr
            exact for_next ⟨n,_,rfl,rfl,hr⟩
      · walk_at "wp"
        have : l.drop i = [] := by rw [hi]; simp
        rw [this] at hr
        rw [← hr] at h; exact h
    refine sp_d (fun h1=>?_) (fun h1=>?_)
    · walk_at "wp"
      refine sp_n (K := fun b=>kIteB Φ _ _ _ _ _ b) (fun h2=>?_) (fun h2=>?_)
      · walk_at "wp"
        have : slipB (.tup l) = false := by
          show (lenB l && _) = false
          rw [show lenB l = false by simp only [lenB]; rw [show decide ((l.length : Int) ≤ 200) = false from decide_eq_false h2,Bool.and_false],Bool.false_and]
        rw [this] at h; exact h
      · simp only [k_itef,ss_nil,thenS_next]
        exact body (by simp only [lenB]; rw [decide_eq_true h1,show decide ((l.length : Int) ≤ 200) = true from decide_eq_true h2]; rfl)
    · walk_at "wp"
      have : slipB (.tup l) = false := by
        show (lenB l && _) = false
        rw [show lenB l = false by simp only [lenB]; rw [decide_eq_false h1,Bool.false_and],Bool.false_and]
      rw [this] at h; exact h
  · simp only [hno]
    walk_at "wp"
    have : slipB v = false := by cases v <;> first | rfl | simp [isi] at hno
    rw [this] at h; exact h
theorem ris_form : ∀ {ps : List (Int × Int)} {a : Int},Ris ps → (∀ p ∈ ps,a < p.1 ∧ p.1 ≤ BIG ∧ 1 ≤ p.2 ∧ p.2 ≤ 100) → risB a (ps.map prAV) = true
  | [],_,_,_=>rfl
  | p :: r,a,hr,h=>by
    obtain ⟨h1,h2,h3,h4⟩ := h p (List.mem_cons_self ..)
    have hr := List.pairwise_cons.mp hr
    show (whB (.int p.1) (a + 1) BIG && whB (.int p.2) 1 100 && risB p.1 (r.map prAV)) = true
    rw [ris_form hr.2 fun q hq=>⟨hr.1 q hq,(h q (List.mem_cons_of_mem _ hq)).2⟩]
    simp only [whB,Bool.and_true,Bool.and_eq_true,decide_eq_true_eq]
    exact ⟨⟨by exact Int.add_one_le_of_lt h1,h2⟩,h3,h4⟩
theorem wh_true {k a b : Int} (h1 : a ≤ k) (h2 : k ≤ b) : whB (.int k) a b = true := by simp only [whB,Bool.and_eq_true,decide_eq_true_eq]; exact ⟨h1,h2⟩
theorem row_form {k : Nat} {n : Int} {f : Fc} (h : RoK k n f) : rowB (roA n f) = true := by
  obtain ⟨hk,n0,n1,hf⟩ := h
  have hB : BIG = 1000000000000000000000000000000 := rfl
  unfold roA
  rw [rowB_at,wh_true n0 (by exact z421 hk n1 hB),Bool.true_and]
  cases f with
  | first=>decide
  | prime b ps =>
    obtain ⟨⟨b0,b1⟩,hps,ris⟩ := hf
    have : powB (psT ps) = true := by
      have hr := ris_form (a := 1) ris fun p hp=>by
        obtain ⟨q1,q2,q3,q4⟩ := hps.2.2 p hp
        exact ⟨by exact Int.lt_of_add_one_le q1,by exact z422 hk hB q2,q3,q4⟩
      cases ps with
      | nil=>exact absurd rfl hps.1
      | cons p r=>exact hr
    show (wordsL.contains "prime" && (whB (.int b) 1 BIG && powB (psT ps))) = true
    rw [this,wh_true b0 (by exact le_of_le_of_eq b1 (id (Eq.symm hB)))]; decide
  | split a b =>
    obtain ⟨⟨a0,a1⟩,b0,b1⟩ := hf
    show (wordsL.contains "split" && (whB (.int a) 2 BIG && whB (.int b) 2 BIG)) = true
    rw [wh_true a0 (by exact z423 hk hB a1),wh_true b0 (by exact z423 hk hB b1)]; decide
  | power b =>
    show (wordsL.contains "power" && whB (.int b) 1 BIG) = true
    rw [wh_true hf.1 (by have := hf.2; exact le_of_le_of_eq this (id (Eq.symm hB)))]; decide
  | root b =>
    show (wordsL.contains "root" && whB (.int b) 1 BIG) = true
    rw [wh_true hf.1 (by have := hf.2; exact le_of_le_of_eq this (id (Eq.symm hB)))]; decide
theorem adj_inc : ∀ {rs : List (Int × Fc)},(rs.map (·.1)).Pairwise (· < ·) → adjL (rs.map roP) = true
  | [],_=>rfl
  | [_],_=>rfl
  | x :: y :: r,h=>by
    have h := List.pairwise_cons.mp h
    show (decide (x.1 < y.1) && adjL ((y :: r).map roP)) = true
    rw [adj_inc h.2,decide_eq_true (h.1 y.1 (by simp))]; rfl
theorem gdI {H : Hp} {n : Nat} {l : List Int} (h : l.length ≤ 1000) : Gd H (n + 1) (.tup (l.map .int)) := .tup (by simpa using h) fun x hx=>by
  obtain ⟨k,_,rfl⟩ := List.mem_map.mp hx; exact .int
theorem gd_3 {H : Hp} {n : Nat} {a b c : AV} (ha : Gd H n a) (hb : Gd H n b) (hc : Gd H n c) : Gd H (n + 1) (.tup [a,b,c]) := .tup (by simp) fun x hx=>by
  simp only [List.mem_cons,List.not_mem_nil,or_false] at hx
  rcases hx with rfl | rfl | rfl <;> assumption
theorem ro_gd {H : Hp} {k : Nat} {n : Int} {f : Fc} (h : RoK k n f) : Gd H 4 (roA n f) := by
  refine gd_3 .int .str ?_
  cases f with
  | first=>exact .tup (by simp [Fc.facts]) fun x hx=>by cases hx
  | prime b ps =>
    refine .tup (by simp [Fc.facts]) fun x hx=>?_
    simp only [Fc.facts,List.mem_cons,List.not_mem_nil,or_false] at hx
    rcases hx with rfl | rfl
    · exact .int
    · have := h.2.2.2.2.1.2.1
      have := h.1
      exact .tup (by rw [List.length_map]; (first | lia | omega)) fun x hx=>by
        obtain ⟨p,_,rfl⟩ := List.mem_map.mp hx
        exact gdI (l := [p.1,p.2]) (by simp)
  | split a b=>exact gdI (l := [a,b]) (by simp)
  | power b=>exact gdI (l := [b]) (by simp)
  | root b=>exact gdI (l := [b]) (by simp)
theorem slG_of {H : Hp} {k : Nat} {rs : List (Int × Fc)} (hl : rs.length ≤ 200) (h : ∀ r ∈ rs,RoK k r.1 r.2) : SlG H (.tup (rs.map roP)) := fun l e=>by
  cases e
  refine ⟨by rw [List.length_map]; exact z157 hl,fun x hx=>?_⟩
  obtain ⟨r,hr,rfl⟩ := List.mem_map.mp hx
  exact (ro_gd (h r hr)).up (by decide)
noncomputable def wr : Nat → List Int → List (Int × Fc) → Option Nat
  | _,_,[]=>none
  | k,pr,r :: rs=>if r.2.holds r.1 pr then wr (k + 1) (if r.2.tells then pr ++ [r.1] else pr) rs else some k
noncomputable def optA : Option Nat → AV
  | none=>.none
  | some k=>.int k
theorem ro_at0 {n : Int} {f : Fc} {H : Hp} {Q : PQ} (q : Q (.int n) H) : wpIdx (roA n f) (.int 0) H Q := by
  unfold roA; rw [i_tup0]; exact ⟨su3,q⟩
theorem app_at {H : Hp} {Q : PQ} {i : Nat} {l : List AV} {x : AV} (h : H[i]? = some (.list l)) (hn : l.length ≤ 1000) (q : Q .none (H.set i (.list (l ++ [x])))) : wpMt .append (.ref i) [x] H Q := by
  rw [m_append h]; exact ⟨szL hn,q⟩
noncomputable def SWrongT (Φ : Fun) : Prop := ∀ (k : Nat) (rs : List (Int × Fc)) (H : Hp) (Q : PQ),rs.length ≤ 200 → (∀ r ∈ rs,RoK k r.1 r.2) → (∀ H',H <+: H' → Q (optA (wr 0 [] rs)) H') → Φ "wrong_at" [.tup (rs.map roP)] H Q
theorem wrong_at {Φ : Fun} (c1 : SHolds "holds" Φ) (c2 : STells "tells_prime" Φ) {k : Nat} {rs : List (Int × Fc)} {H : Hp} {Q : PQ} (hl : rs.length ≤ 200) (rok : ∀ r ∈ rs,RoK k r.1 r.2) (h : ∀ H',H <+: H' → Q (optA (wr 0 [] rs)) H') : wpF Φ m_wrong_at [.tup (rs.map roP)] H Q := by
  ((refine ⟨rfl,?_⟩; simp only [lst,Nat.reduceSub,Nat.sub_self,List.replicate]))
  simp only [m_wrong_at]
  walk_at "go"
  refine for_intro (fun i loc H'=>∃ (pr : List Int) (o2 o3 : Option AV),H <+: H' ∧ H'[H.length]? = some (.list (pr.map .int)) ∧ pr.length ≤ i ∧ wr i pr (rs.drop i) = wr 0 [] rs ∧ loc = [some (.tup (rs.map roP)),some (.ref H.length),o2,o3]) ⟨[],none,none,pre_new,at_new,Nat.le_refl _,by simp,rfl⟩ ?_
  rintro i loc H' ⟨pr,o2,o3,hp,hj,hpl,hw,rfl⟩
  refine ⟨trivial,fun y hy=>?_,fun hi=>?_⟩
  · rw [enumL_at,List.getElem?_map,Option.map_map] at hy
    obtain ⟨r,hr,rfl⟩ := Option.map_eq_some_iff.mp hy
    obtain ⟨hlt,e⟩ := List.getElem?_eq_some_iff.mp hr
    rw [List.drop_eq_getElem_cons hlt,e,wr] at hw
    have hrk := rok r (List.mem_of_getElem? hr)
    refine ⟨[.int i,roP r],rfl,?_⟩
    unfold roP
    walk_at "wp"
    refine c1 k H.length r.1 r.2 pr H' _ hj hrk fun H2 p2=>?_
    have hj2 := pre_at p2 hj
    walk_at "wp"
    refine sp_b (K := fun b=>kIteB Φ _ _ _ _ _ (!b)) (fun h1=>?_) (fun h1=>?_)
    · simp only [Bool.not_true]
      walk_at "wp"
      rw [h1,if_pos rfl] at hw
      refine c2 r.1 r.2 H2 _ ?_
      walk_at "wp"
      refine sp_b (K := fun b=>kIteB Φ _ _ _ _ _ b) (fun h2=>?_) (fun h2=>?_)
      · walk_at "wp"
        rw [h2,if_pos rfl] at hw
        refine ⟨isL_ref hj2,?_⟩
        refine ro_at0 ?_
        walk_at "wp"
        refine app_at hj2 (by rw [List.length_map]; (first | lia | omega)) ?_
        walk_at "wp"
        refine for_next ⟨pr ++ [r.1],_,_,pre_set (hp.trans p2) (Nat.le_refl _),?_,by rw [List.length_append]; simp; exact z424 hpl,hw,rfl⟩
        rw [get_set_eq hj2]; simp
      · walk_at "wp"
        rw [h2,if_neg (by decide)] at hw
        exact for_next ⟨pr,_,_,hp.trans p2,hj2,by exact Nat.le_add_right_of_le hpl,hw,rfl⟩
    · simp only [Bool.not_false]
      walk_at "wp"
      rw [h1,if_neg (by decide)] at hw
      rw [← hw] at h
      exact h _ (hp.trans p2)
  · walk_at "wp"
    have : rs.drop i = [] := List.drop_eq_nil_of_le (by rw [hi,enumL_len]; simp)
    rw [this] at hw
    rw [← hw] at h
    exact h _ hp
theorem is_none {o : Option Nat} {H : Hp} {Q : PQ} (q : Q (.bool o.isNone) H) : wpCmp .is (optA o) .none H Q := by
  cases o with
  | none=>exact ⟨true,rfl,q⟩
  | some k=>exact ⟨false,rfl,q⟩
noncomputable def SLets (Φ : Fun) : Prop := ∀ (v : AV) (H : Hp) (Q : PQ),SlG H v → (slipB v = false → Q (.bool false) H) → (slipB v = true → ∃ k rs,v = .tup (rs.map roP) ∧ rs.length ≤ 200 ∧ (∀ r ∈ rs,RoK k r.1 r.2) ∧ ∀ H',H <+: H' → Q (.bool (wr 0 [] rs).isNone) H') → Φ "lets_by" [v] H Q
theorem lets_by {Φ : Fun} (c1 : SSlip Φ) (c2 : SWrongT Φ) {v : AV} {H : Hp} {Q : PQ} (g : SlG H v) (h0 : slipB v = false → Q (.bool false) H) (h1 : slipB v = true → ∃ k rs,v = .tup (rs.map roP) ∧ rs.length ≤ 200 ∧ (∀ r ∈ rs,RoK k r.1 r.2) ∧ ∀ H',H <+: H' → Q (.bool (wr 0 [] rs).isNone) H') : wpF Φ m_lets_by [v] H Q := by
  ((refine ⟨rfl,?_⟩; simp only [lst,Nat.reduceSub,Nat.sub_self,List.replicate]))
  simp only [m_lets_by]
  walk_at "wp"
  refine c1 v H _ g ?_
  walk_at "wp"
  refine sp_b (K := fun b=>kAndB Φ _ _ _ _ b) (fun e=>?_) (fun e=>?_)
  · obtain ⟨k,rs,rfl,a,b,q⟩ := h1 e
    walk_at "wp"
    refine c2 k rs H _ a b fun H' p=>?_
    walk_at "wp"
    exact is_none (q H' p)
  · walk_at "wp"
    exact h0 e
end
section
open PySem
set_option maxHeartbeats 2000000
noncomputable def Rw.ro : Rw → Int × Fc
  | .first=>(2,.first)
  | .prime n b ps=>(n,.prime b ps)
  | .split n a b=>(n,.split a b)
  | .power n b=>(n,.power b)
  | .root n b=>(n,.root b)
theorem ro_av (r : Rw) : roP r.ro = r.av := by cases r <;> rfl
theorem ros_av (rs : List Rw) : (rs.map Rw.ro).map roP = rs.map Rw.av := by
  rw [List.map_map]; exact List.map_congr_left fun r _=>ro_av r
theorem ro_num (r : Rw) : r.ro.1 = r.num := by cases r <;> rfl
theorem ro_tells (r : Rw) : r.ro.2.tells = r.tells := by cases r <;> rfl
theorem ros_num (rs : List Rw) : (rs.map Rw.ro).map (·.1) = rs.map Rw.num := by
  rw [List.map_map]; exact List.map_congr_left fun r _=>ro_num r
theorem ro_ok {r : Rw} (h : r.ok) : RoK 0 r.ro.1 r.ro.2 := by
  cases r with
  | first=>exact ⟨by decide,by decide,by decide,trivial⟩
  | prime n b ps =>
    obtain ⟨h1,h2,h3,h4,h5,h6,h7,h8⟩ := h
    exact ⟨by decide,by show 2 ≤ n; exact Int.le_of_lt h1,by show n ≤ _; exact Int.le_of_lt h2,⟨h3,by exact z425 h2 h4⟩,⟨h5,by exact z426 h6,fun p hp=>by have := h7 p hp; exact z427 this⟩,h8⟩
  | split n a b =>
    obtain ⟨h1,h2,h3,h4,h5,h6⟩ := h
    have : 2 * 2 ≤ a * b := Int.mul_le_mul h1 h2 (by decide) (by exact z248 h1)
    exact ⟨by decide,by show 2 ≤ n; exact z428 h5 this,by show n ≤ _; exact Int.le_of_lt h6,⟨h1,by exact Int.le_of_lt h3⟩,h2,by exact Int.le_of_lt h4⟩
  | power n b =>
    obtain ⟨h1,h2,h3,h4⟩ := h
    exact ⟨by decide,h1,by show n ≤ _; exact Int.le_of_lt h2,h3,by exact z425 h2 h4⟩
  | root n b =>
    obtain ⟨h1,h2,h3,h4⟩ := h
    exact ⟨by decide,h1,by show n ≤ _; exact Int.le_of_lt h2,h3,by exact z425 h2 h4⟩
theorem ros_ok {P : Rw → Prop} {N : Nat} {rs : List Rw} (hN : N ≤ 62) (h : RsC P N rs) : RsK 0 (rs.map Rw.ro) :=
  ⟨fun e=>h.ne (List.map_eq_nil_iff.mp e),by rw [List.length_map]; have := h.len; exact z429 hN this,fun x hx=>by
    obtain ⟨r,hr,rfl⟩ := List.mem_map.mp hx
    exact ro_ok (h.ok r hr),by rw [ros_num]; exact h.inc⟩
theorem holds_of {r : Rw} {pr : List Int} (ok : r.ok) (t : r.sem) (hp : ∀ q ∈ r.needs,q ∈ pr) : r.ro.2.holds r.ro.1 pr = true := by
  cases r with
  | first=>rfl
  | prime n b ps =>
    obtain ⟨h4,t1,t2,_⟩ := t
    show ((ps.all fun p=>pr.contains p.1) && (decide (prodI ps = n - 1) && (decide (b < n) && roundB n b ps))) = true
    have : (ps.all fun p=>pr.contains p.1) = true := List.all_eq_true.mpr fun p hpm=>by
      have := hp p.1 (List.mem_map.mpr ⟨p,hpm,rfl⟩)
      simpa using this
    rw [this,decide_eq_true t1,decide_eq_true h4,t2]; rfl
  | split n a b=>exact decide_eq_true ok.2.2.2.2.1.symm
  | power n b =>
    show (decide (b < n) && !decide (pw b (n - 1) n = 1)) = true
    rw [decide_eq_true t.1,decide_eq_false t.2]; rfl
  | root n b =>
    obtain ⟨t1,t2,t3⟩ := t
    show ((decide (1 < b) && decide (b < n - 1)) && decide (b * b % n = 1)) = true
    rw [decide_eq_true t1,decide_eq_true t2,decide_eq_true t3]; rfl
theorem needs_lt {r : Rw} (ok : r.ok) (t : r.sem) : ∀ q ∈ r.needs,q < r.num ∧ q < 402 ∧ 0 ≤ q ∧ isPB q.toNat = true := by
  cases r with
  | prime n b ps =>
    obtain ⟨_,t1,_,t3⟩ := t
    obtain ⟨_,_,_,_,_,_,h7,_⟩ := ok
    intro q hq
    obtain ⟨p,hp,rfl⟩ := List.mem_map.mp hq
    have hp1 : ∀ p ∈ ps,1 ≤ p.1 := fun p hp=>by have := h7 p hp; exact z430 this
    obtain ⟨i,hi,e⟩ := List.getElem_of_mem hp
    have h := prod_le hp1 (show ps[i]? = some p by rw [List.getElem?_eq_getElem hi,e]) (j := 1) (by have := h7 p hp; exact z431 this)
    have h1 : 1 ≤ prodI (ps.take i) := prodI_pos fun x hx=>hp1 x (List.mem_of_mem_take hx)
    have h3 := hp1 p hp
    have h2 : p.1 ≤ prodI (ps.take i) * p.1 ^ 1 := by
      rw [show p.1 ^ 1 = p.1 by rw [Int.pow_succ,Int.pow_zero,Int.one_mul]]
      have := Int.mul_le_mul_of_nonneg_right h1 (show 0 ≤ p.1 by exact Int.le_of_lt h3)
      rwa [Int.one_mul] at this
    have := h7 p hp
    exact ⟨by show p.1 < n; exact z432 t1 h h2,(t3 p hp).2,by exact z433 this,(t3 p hp).1⟩
  | _=>intro q hq; cases hq
noncomputable def tellsL (rs : List Rw) : List Int := (rs.filter Rw.tells).map Rw.num
theorem wr_none {rs : List Rw} (hok : ∀ r ∈ rs,r.ok) (hp : ∀ r ∈ rs,r.tru) (hi : (rs.map Rw.num).Pairwise (· < ·)) (hcl : ∀ r ∈ rs,∀ q ∈ r.needs,∃ s ∈ rs,s.num = q) : ∀ (suf pre : List Rw),rs = pre ++ suf → ∀ k,wr k (tellsL pre) (suf.map Rw.ro) = none
  | [],_,_,_=>rfl
  | r :: suf,pre,e,k=>by
    have hr : r ∈ rs := by rw [e]; simp
    have ht := hp r hr
    rw [List.map_cons,wr,if_pos]
    · have : (if r.ro.2.tells then tellsL pre ++ [r.ro.1] else tellsL pre) = tellsL (pre ++ [r]) := by
        rw [ro_tells,ro_num]
        unfold tellsL
        rw [List.filter_append,List.map_append]
        cases hb : r.tells <;> simp [hb]
      rw [this]
      exact wr_none hok hp hi hcl suf (pre ++ [r]) (by rw [e]; simp) (k + 1)
    · refine holds_of (hok r hr) ht.1 fun q hq=>?_
      obtain ⟨q1,q2,q3,q4⟩ := needs_lt (hok r hr) ht.1 q hq
      obtain ⟨s,hs,rfl⟩ := hcl r hr q hq
      have hst : s.tells = true := by rw [(hp s hs).2 (by exact Int.le_iff_lt_add_one.mpr q2)]; exact q4
      have hinc := hi
      rw [e,List.map_append,List.map_cons,List.pairwise_append,List.pairwise_cons] at hinc
      rw [e] at hs
      rcases List.mem_append.mp hs with hs | hs
      · exact List.mem_map.mpr ⟨s,List.mem_filter.mpr ⟨hs,hst⟩,rfl⟩
      · rcases List.mem_cons.mp hs with rfl | hs
        · (first | lia | omega)
        · have := hinc.2.1.1 s.num (List.mem_map.mpr ⟨s,hs,rfl⟩)
          (first | lia | omega)
end
section
open PySem PySem.W PyProof.Rows
set_option Elab.async false
set_option maxRecDepth 100000
set_option maxHeartbeats 8000000
noncomputable def m_by_numbers : MF := ⟨1,3,
  [.asg 1 (.dic0),
  .forr false [2] .plain [.loc 0] [.ite (.cmp .notIn (.idx (.loc 2) (.cst (.int 0))) (.loc 1)) [.sto (.loc 1) (.idx (.loc 2) (.cst (.int 0))) (.loc 2)] []],
  .ret (.loc 1)]⟩
noncomputable def m_merged : MF := ⟨1,4,
  [.asg 1 (.lst []),
  .forr false [2] .plain [.loc 0] [.asg 1 (.bin .add (.loc 1) (.bi .list [.loc 2]))],
  .asg 3 (.call "by_numbers" [.loc 1]),
  .ret (.bi .tuple [.comp false 1 (.idx (.loc 3) (.loc 4)) .plain [.bi .sorted [.bi .list [.loc 3]]] []])]⟩
noncomputable def m_law_laid : MF := ⟨1,4,
  [.asg 1 (.dic0),
  .forr false [2] .plain [.loc 0] [.forr false [3] .plain [.loc 2] [.ite (.cmp .notIn (.idx (.loc 3) (.cst (.int 0))) (.loc 1)) [.sto (.loc 1) (.idx (.loc 3) (.cst (.int 0))) (.loc 3)] []]],
  .ret (.bi .tuple [.comp false 1 (.idx (.loc 1) (.loc 4)) .plain [.bi .sorted [.loc 1]] []])]⟩
noncomputable def m_law : MF := ⟨1,10,
  [.asg 1 (.call "_law_mixed" [.loc 0,.cst (.int 1),.cst (.int 10)]),
  .asg 2 (.lst []),
  .forr false [3] .range [.bin .mod (.call "_law_cell_at" [.loc 0,.cst (.int 0)]) (.cst (.int 4))] [.asg 4 (.call "_law_mixed" [.loc 0,.bin .add (.cst (.int 1)) (.bin .mul (.cst (.int 10)) (.loc 3)),.cst (.int 10)]),
    .ite (.cmp .eq (.bin .mod (.idx (.loc 1) (.cst (.int 8))) (.cst (.int 2))) (.cst (.int 1))) [.asg 4 (.bin .add (.slc (.loc 1) [] [.cst (.int 1)]) (.comp false 1 (.bin .add (.bin .mul (.bin .fdiv (.idx (.loc 1) (.loc 10)) (.cst (.int 6))) (.cst (.int 6))) (.bin .mod (.idx (.loc 4) (.loc 10)) (.cst (.int 6)))) .range [.cst (.int 1),.cst (.int 10)] [])),
      .asg 4 (.bin .add (.bin .add (.slc (.loc 4) [] [.cst (.int 6)]) (.slc (.loc 1) [.cst (.int 6)] [.cst (.int 8)])) (.slc (.loc 4) [.cst (.int 8)] []))] [],
    .expr (.meth .append (.loc 2) [.bi .tuple [.call "_law_rows_by" [.loc 4]]])],
  .asg 5 (.cst (.bool true)),
  .ite (.and2 (.cmp .eq (.bin .mod (.idx (.loc 1) (.cst (.int 9))) (.cst (.int 3))) (.cst (.int 1))) (.cmp .gt (.bi .len [.loc 2]) (.cst (.int 0)))) [.asg 6 (.bin .mod (.bin .fdiv (.idx (.loc 1) (.cst (.int 9))) (.cst (.int 3))) (.bi .len [.loc 2])),
    .sto (.loc 2) (.loc 6) (.bi .tuple [.call "_law_spoilt" [.bi .list [.idx (.loc 2) (.loc 6)],.bin .fdiv (.idx (.loc 1) (.cst (.int 9))) (.cst (.int 9)),.idx (.loc 1) (.cst (.int 8))]]),
    .asg 5 (.cst (.bool false))] [],
  .ite (.cmp .eq (.bin .mod (.bin .fdiv (.idx (.loc 1) (.cst (.int 9))) (.cst (.int 27))) (.cst (.int 8))) (.cst (.int 1))) [.expr (.meth .insert (.loc 2) [.cst (.int 0),.bi .tuple [.comp false 1 (.tup [.bin .add (.cst (.int 500)) (.loc 10),.cst (.str "power"),.tup [.bin .add (.cst (.int 1)) (.loc 10)]]) .range [.cst (.int 200)] []]]),
    .expr (.meth .append (.loc 2) [.bi .tuple [.comp false 1 (.tup [.bin .add (.cst (.int 450)) (.bin .mul (.cst (.int 2)) (.loc 10)),.cst (.str "root"),.tup [.bin .add (.cst (.int 3)) (.loc 10)]]) .range [.bin .add (.cst (.int 150)) (.bin .mod (.idx (.loc 1) (.cst (.int 8))) (.cst (.int 50)))] []]]),
    .asg 5 (.cst (.bool false))] [],
  .asg 7 (.bi .list [.loc 2]),
  .asg 8 (.call "merged" [.loc 7]),
  .ite (.or2 (.not (.isi (.loc 8) .tuple)) (.or2 (.cmp .ne (.loc 8) (.call "_law_laid" [.loc 2])) (.cmp .ne (.loc 7) (.loc 2)))) [.ret (.cst (.bool false))] [],
  .ite (.and2 (.loc 5) (.and2 (.cmp .gt (.bi .len [.loc 2]) (.cst (.int 0))) (.cmp .isNot (.call "lets_by" [.loc 8]) (.cst (.bool true))))) [.ret (.cst (.bool false))] [],
  .asg 9 (.call "merged" [.rev (.loc 7)]),
  .ite (.or2 (.not (.isi (.loc 9) .tuple)) (.cmp .ne (.loc 9) (.call "_law_laid" [.rev (.loc 2)]))) [.ret (.cst (.bool false))] [],
  .expr (.meth .clear (.loc 7) []),
  .ret (.and2 (.cmp .eq (.call "merged" [.loc 7]) (.tup [])) (.cmp .eq (.call "merged" [.loc 2]) (.loc 8)))]⟩
end
section
open PySem
set_option maxHeartbeats 2000000
theorem cut_k {Φ : Fun} {loc : Loc} {H : Hp} {Q : PQ} {ss : List MS} (k : Nat) {s : MS} (hs : ss[k]? = some s) (h : ∀ R : PF,(∀ v loc H,Q v H → R (.ret v) loc H) → (∀ loc H,wpSs Φ (ss.drop (k + 1)) loc H (endOf Q) → R .next loc H) → wpS Φ s loc H R) : wpSs Φ (ss.drop k) loc H (endOf Q) := by
  obtain ⟨hlt,e⟩ := List.getElem?_eq_some_iff.mp hs
  rw [List.drop_eq_getElem_cons hlt,e,ss_cons]
  exact h _ (fun _ _ _ q=>q) (fun _ _ q=>q)
theorem set_new {H : Hp} {o o' : AObj} : (H ++ [o]).set H.length o' = H ++ [o'] := by
  rw [List.set_append_right _ _ (Nat.le_refl _)]; simp
theorem comp_each {α : Type} {Φ : Fun} {loc : Loc} {H : Hp} {Q : PQ} {t : Bool} {n : Nat} {elt : ME} {Cnd : Hp → Prop} (g v : α → AV) (xs : List α) (hs : xs.length ≤ sizeLine) (hc : ∀ H',H <+: H' → Cnd H')
    (turn : ∀ H',H <+: H' → ∀ x ∈ xs,∃ ws,unpack t n (g x) = some ws ∧ ∀ Q : PQ,(∀ H2,H' <+: H2 → Q (v x) H2) → wpE Φ elt (loc ++ ws.map some) H' Q)
    (q : ∀ H',H <+: H' → Q (.ref H'.length) (H' ++ [.list (xs.map v)])) : compI Φ t n elt [] loc Q (xs.map g) Cnd H := by
  refine ⟨by rw [List.length_map]; exact hs,fun i l H'=>H <+: H' ∧ l = (xs.take i).map v,⟨List.prefix_rfl,by simp⟩,?_⟩
  rintro i l H' ⟨hp,rfl⟩
  refine ⟨hc H' hp,fun y hy=>?_,fun e=>by rw [e,List.length_map,List.take_length]; exact q H' hp⟩
  rw [List.getElem?_map] at hy
  obtain ⟨x,hx,rfl⟩ := Option.map_eq_some_iff.mp hy
  obtain ⟨ws,hu,h2⟩ := turn H' hp x (List.mem_of_getElem? hx)
  refine ⟨ws,hu,?_⟩
  rw [cs_nil]
  show wpE Φ elt (loc ++ ws.map some) H' _
  refine h2 _ fun H2 p2=>⟨hp.trans p2,?_⟩
  rw [List.take_add_one,hx]; simp
abbrev Row := Int × Fc
noncomputable def slA (s : List Row) : AV := .tup (s.map roP)
noncomputable def byR (l : List Row) : List (Int × AV) := l.map fun r=>(r.1,roP r)
noncomputable def insR (acc : List Row) (r : Row) : List Row := if (dget (byR acc) r.1).isSome then acc else acc ++ [r]
noncomputable def firsts (l : List Row) : List Row := l.foldl insR []
structure SsOK (ss : List (List Row)) : Prop where
  len : ss.length ≤ 5
  each : ∀ s ∈ ss,s.length ≤ 200
  tot : ss.flatten.length ≤ 700
  ok : ∀ s ∈ ss,∀ r ∈ s,RoK 1 r.1 r.2
theorem byR_keys (l : List Row) : (byR l).map (·.1) = l.map (·.1) := by simp [byR,Function.comp_def]
theorem byR_app (l : List Row) (r : Row) : byR l ++ [(r.1,roP r)] = byR (l ++ [r]) := by simp [byR]
theorem has_iff {l : List Row} {k : Int} : (dget (byR l) k).isSome = true ↔ k ∈ l.map (·.1) := by
  rw [← byR_keys,Option.isSome_iff_exists]
  constructor
  · rintro ⟨v,hv⟩; exact List.mem_map.mpr ⟨_,dget_some hv,rfl⟩
  · intro h
    obtain ⟨e,he,rfl⟩ := List.mem_map.mp h
    exact dget_mem he
theorem insR_sub {acc : List Row} {r x : Row} (h : x ∈ insR acc r) : x ∈ acc ∨ x = r := by
  unfold insR at h
  split at h
  · exact .inl h
  · rcases List.mem_append.mp h with z | z
    · exact .inl z
    · exact .inr (List.mem_singleton.mp z)
theorem insR_nd {acc : List Row} {r : Row} (h : (acc.map (·.1)).Nodup) : ((insR acc r).map (·.1)).Nodup := by
  unfold insR
  split
  · exact h
  · rename_i hn
    rw [List.map_append,List.nodup_append]
    refine ⟨h,by simp,fun a ha b hb e=>?_⟩
    have : b = r.1 := by simpa using hb
    subst this; subst e
    exact hn (has_iff.mpr ha)
theorem insR_key {acc : List Row} {r : Row} {k : Int} : k ∈ (insR acc r).map (·.1) ↔ k ∈ acc.map (·.1) ∨ k = r.1 := by
  unfold insR
  split
  · rename_i hs
    constructor
    · exact .inl
    · rintro (z | rfl)
      · exact z
      · exact has_iff.mp hs
  · rw [List.map_append,List.mem_append]; simp
theorem insR_len {acc : List Row} {r : Row} : (insR acc r).length ≤ acc.length + 1 := by
  unfold insR; split
  · exact z434
  · simp
theorem fold_sub : ∀ {l acc : List Row} {x : Row},x ∈ l.foldl insR acc → x ∈ acc ∨ x ∈ l
  | [],acc,x,h=>.inl h
  | r :: l,acc,x,h=>by
    rcases fold_sub (l := l) h with z | z
    · rcases insR_sub z with y | y
      · exact .inl y
      · exact .inr (by rw [y]; exact List.mem_cons_self ..)
    · exact .inr (List.mem_cons_of_mem _ z)
theorem fold_nd : ∀ {l acc : List Row},(acc.map (·.1)).Nodup → ((l.foldl insR acc).map (·.1)).Nodup
  | [],acc,h=>h
  | r :: l,acc,h=>fold_nd (l := l) (insR_nd h)
theorem fold_key : ∀ {l acc : List Row} {k : Int},k ∈ (l.foldl insR acc).map (·.1) ↔ k ∈ acc.map (·.1) ∨ k ∈ l.map (·.1)
  | [],acc,k=>by simp
  | r :: l,acc,k=>by
    rw [List.foldl_cons,fold_key,insR_key,List.map_cons,List.mem_cons,or_assoc]
theorem fold_len : ∀ {l acc : List Row},(l.foldl insR acc).length ≤ acc.length + l.length
  | [],acc=>by simp
  | r :: l,acc=>by
    have h1 := fold_len (l := l) (acc := insR acc r)
    have h2 := insR_len (acc := acc) (r := r)
    simp only [List.foldl_cons,List.length_cons]; exact z435 h1 h2
theorem firsts_len (l : List Row) : (firsts l).length ≤ l.length := by
  have := fold_len (l := l) (acc := []); rwa [List.length_nil,Nat.zero_add] at this
theorem take_flat (ss : List (List Row)) (t : Nat) : (ss.take t).flatten.length ≤ ss.flatten.length := by
  have e : ss.flatten = (ss.take t).flatten ++ (ss.drop t).flatten := by rw [← List.flatten_append,List.take_append_drop]
  rw [e,List.length_append]; exact z9
noncomputable def IsMer (ss : List (List Row)) (rs : List Row) : Prop := rs.Perm (firsts ss.flatten) ∧ (rs.map (·.1)).Pairwise (· < ·)
noncomputable def rowOf (F : List Row) (k : Int) : Row := (F.find? fun r=>r.1 = k).getD (0,.first)
theorem rowOf_mem {F : List Row} {r : Row} (nd : (F.map (·.1)).Nodup) (h : r ∈ F) : rowOf F r.1 = r := by
  induction F with
  | nil=>cases h
  | cons x F ih =>
    rw [List.map_cons,List.nodup_cons] at nd
    unfold rowOf
    rcases List.mem_cons.mp h with rfl | h
    · simp
    · have : ¬ x.1 = r.1 := fun e=>nd.1 (by rw [e]; exact List.mem_map.mpr ⟨r,h,rfl⟩)
      rw [List.find?_cons_of_neg (by simpa using this)]
      exact ih nd.2 h
theorem rowOf_get {F : List Row} {k : Int} (nd : (F.map (·.1)).Nodup) (h : k ∈ F.map (·.1)) : dget (byR F) k = some (roP (rowOf F k)) ∧ (rowOf F k).1 = k := by
  obtain ⟨v,hv⟩ := Option.isSome_iff_exists.mp (has_iff.mpr h)
  obtain ⟨r,hr,e⟩ := List.mem_map.mp (dget_some hv)
  have e1 : r.1 = k := congrArg Prod.fst e
  have e2 : roP r = v := congrArg Prod.snd e
  subst e1
  rw [rowOf_mem nd hr,hv,e2]; exact ⟨rfl,rfl⟩
theorem map_rowOf {F G : List Row} (nd : (F.map (·.1)).Nodup) (h : ∀ r ∈ G,r ∈ F) : (G.map (·.1)).map (rowOf F) = G := by
  rw [List.map_map]
  have : G.map (rowOf F ∘ fun r=>r.1) = G.map id := List.map_congr_left fun r hr=>rowOf_mem nd (h r hr)
  rw [this,List.map_id]
theorem mer_of {F : List Row} {ms : List Int} (nd : (F.map (·.1)).Nodup) (hp : ms.Perm (F.map (·.1))) (hs : ms.Pairwise (· ≤ ·)) : (ms.map (rowOf F)).Perm F ∧ ((ms.map (rowOf F)).map (·.1)).Pairwise (· < ·) := by
  have e : (ms.map (rowOf F)).map (·.1) = ms := by
    rw [List.map_map]
    have : ms.map ((fun r=>r.1) ∘ rowOf F) = ms.map id := List.map_congr_left fun k hk=>(rowOf_get nd (hp.mem_iff.mp hk)).2
    rw [this,List.map_id]
  refine ⟨?_,?_⟩
  · have := hp.map (rowOf F)
    rwa [map_rowOf nd fun r h=>h] at this
  · rw [e]; exact inc_of hs (hp.nodup_iff.mpr nd)
theorem inc_eq {a b : List Int} (ha : a.Pairwise (· < ·)) (hb : b.Pairwise (· < ·)) (h : ∀ q,q ∈ a ↔ q ∈ b) : a = b := by
  induction a generalizing b with
  | nil =>
    cases b with
    | nil=>rfl
    | cons y b=>have := (h y).mpr (by simp); cases this
  | cons x a ih =>
    cases b with
    | nil=>have := (h x).mp (by simp); cases this
    | cons y b =>
      rw [List.pairwise_cons] at ha hb
      have exy : x = y := by
        rcases List.mem_cons.mp ((h x).mp (by simp)) with z | z
        · exact z
        · rcases List.mem_cons.mp ((h y).mpr (by simp)) with u | u
          · exact u.symm
          · exact absurd (hb.1 x z) (Int.lt_asymm (ha.1 y u))
      subst exy
      rw [ih ha.2 hb.2 fun q=>?_]
      constructor
      · intro z
        rcases List.mem_cons.mp ((h q).mp (List.mem_cons_of_mem _ z)) with u | u
        · exact absurd (ha.1 q z) (by rw [u]; exact Int.lt_irrefl _)
        · exact u
      · intro z
        rcases List.mem_cons.mp ((h q).mpr (List.mem_cons_of_mem _ z)) with u | u
        · exact absurd (hb.1 q z) (by rw [u]; exact Int.lt_irrefl _)
        · exact u
theorem firsts_nd (l : List Row) : ((firsts l).map (·.1)).Nodup := fold_nd (by simp)
theorem IsMer.uniq {ss : List (List Row)} {a b : List Row} (ha : IsMer ss a) (hb : IsMer ss b) : a = b := by
  have e : a.map (·.1) = b.map (·.1) := inc_eq ha.2 hb.2 fun q=>by rw [(ha.1.map (·.1)).mem_iff,(hb.1.map (·.1)).mem_iff]
  rw [← map_rowOf (firsts_nd ss.flatten) fun r hr=>ha.1.mem_iff.mp hr,← map_rowOf (firsts_nd ss.flatten) fun r hr=>hb.1.mem_iff.mp hr,e]
theorem IsMer.mem {ss : List (List Row)} {rs : List Row} (h : IsMer ss rs) {r : Row} (hr : r ∈ rs) : ∃ s ∈ ss,r ∈ s := by
  rcases fold_sub (h.1.mem_iff.mp hr) with z | z
  · cases z
  · exact List.mem_flatten.mp z
theorem IsMer.key {ss : List (List Row)} {rs : List Row} (h : IsMer ss rs) {s : List Row} {r : Row} (hs : s ∈ ss) (hr : r ∈ s) : ∃ u ∈ rs,u.1 = r.1 := by
  have : r.1 ∈ (firsts ss.flatten).map (·.1) := fold_key.mpr (.inr (List.mem_map.mpr ⟨r,List.mem_flatten.mpr ⟨s,hs,hr⟩,rfl⟩))
  rw [← (h.1.map (·.1)).mem_iff] at this
  obtain ⟨u,hu,e⟩ := List.mem_map.mp this
  exact ⟨u,hu,e⟩
theorem IsMer.len {ss : List (List Row)} {rs : List Row} (h : IsMer ss rs) : rs.length ≤ ss.flatten.length := by
  rw [h.1.length_eq]; exact firsts_len _
theorem roP_at0 {r : Row} {H : Hp} {Q : PQ} (q : Q (.int r.1) H) : wpIdx (roP r) (.int 0) H Q := ro_at0 q
noncomputable def SByR (Φ : Fun) : Prop := ∀ (i : Nat) (l : List Row) (H : Hp) (Q : PQ),H[i]? = some (.list (l.map roP)) → l.length ≤ 1000 → Q (.ref H.length) (H ++ [.dict (byR (firsts l))]) → Φ "by_numbers" [.ref i] H Q
theorem by_numbers {Φ : Fun} {i : Nat} {l : List Row} {H : Hp} {Q : PQ} (hi : H[i]? = some (.list (l.map roP))) (hl : l.length ≤ 1000) (h : Q (.ref H.length) (H ++ [.dict (byR (firsts l))])) : wpF Φ m_by_numbers [.ref i] H Q := by
  ((refine ⟨rfl,?_⟩; simp only [lst,Nat.reduceSub,Nat.sub_self,List.replicate]))
  show wpSs Φ (m_by_numbers.body.drop 0) [some (.ref i),none,none] H (endOf Q)
  refine cut_k 0 rfl fun R rr rn=>?_
  walk_at "wp"
  refine rn _ _ (cut_k 1 rfl fun R rr rn=>?_)
  walk_at "wp"
  rw [r_list (pre_at pre_new hi)]
  refine for_intro (fun t loc H'=>∃ (o : Option AV),H' = H ++ [.dict (byR ((l.take t).foldl insR []))] ∧ loc = [some (.ref i),some (.ref H.length),o]) ⟨none,rfl,rfl⟩ ?_
  rintro t loc H' ⟨o,rfl,rfl⟩
  refine ⟨pre_at pre_new hi,fun y hy=>?_,fun ht=>?_⟩
  · rw [List.getElem?_map] at hy
    obtain ⟨r,hr,rfl⟩ := Option.map_eq_some_iff.mp hy
    have et : (l.take (t + 1)).foldl insR [] = insR ((l.take t).foldl insR []) r := by
      rw [List.take_add_one,hr,List.foldl_append]; rfl
    have fl := fold_len (l := l.take t) (acc := [])
    have tl : (l.take t).length ≤ l.length := List.length_take_le' _ _
    refine ⟨[roP r],rfl,?_⟩
    walk_at "wp"
    refine roP_at0 ?_
    walk_at "wp"
    refine notin_dic at_new ?_
    walk_at "wp"
    generalize hD : (l.take t).foldl insR [] = D at fl et
    refine sp_b (K := fun b=>kIteB Φ _ _ _ _ _ (!b)) (fun hb=>?_) (fun hb=>?_)
    · simp only [Bool.not_true]
      walk_at "wp"
      exact for_next ⟨_,by rw [et,insR,if_pos hb],rfl⟩
    · simp only [Bool.not_false]
      walk_at "wp"
      refine roP_at0 ?_
      walk_at "wp"
      have hn : dget (byR D) r.1 = none := by simpa using hb
      refine set_dic at_new (by simp [byR]; simp at fl; (first | lia | omega)) ?_
      rw [set_new,dset_new hn,byR_app]
      walk_at "wp"
      exact for_next ⟨_,by rw [et,insR,if_neg (by rw [hb]; decide)],rfl⟩
  · have : l.take t = l := List.take_of_length_le (by rw [ht]; simp)
    rw [this]
    refine rn _ _ (cut_k 2 rfl fun R rr rn=>?_)
    walk_at "wp"
    exact rr _ _ _ h
theorem srt_lst {H : Hp} {Q : PQ} {i : Nat} {ns : List Int} (h : H[i]? = some (.list (ns.map .int))) (hn : ns.length < 5000) (q : ∀ ms : List Int,ms.Perm ns → ms.Pairwise (· ≤ ·) → Q (.ref H.length) (H ++ [.list (ms.map .int)])) : wpBi .sorted [.ref i] H Q :=
  ⟨ns,.inl (by simp [seqL,h]),hn,q⟩
theorem srt_dic {H : Hp} {Q : PQ} {i : Nat} {l : List (Int × AV)} (h : H[i]? = some (.dict l)) (hn : l.length < 5000) (q : ∀ ms : List Int,ms.Perm (l.map (·.1)) → ms.Pairwise (· ≤ ·) → Q (.ref H.length) (H ++ [.list (ms.map .int)])) : wpBi .sorted [.ref i] H Q :=
  ⟨l.map (·.1),.inr ⟨i,l,rfl,h,rfl⟩,by simpa using hn,q⟩
theorem lst_dic {H : Hp} {Q : PQ} {i : Nat} {l : List (Int × AV)} (h : H[i]? = some (.dict l)) (hn : l.length ≤ 1000) (q : Q (.ref H.length) (H ++ [.list ((l.map (·.1)).map .int)])) : wpBi .list [.ref i] H Q := by
  have : withL (lstL H (.ref i)) fun l=>l.length ≤ sizeLine ∧ Q (.ref H.length) (H ++ [.list l]) := by
    simp only [lstL,h,withL]
    exact ⟨szL (by simp; exact z436 hn),q⟩
  exact this
theorem rows_by_no {Φ : Fun} {loc : Loc} {H : Hp} {Q : PQ} {j k : Nat} {F : List Row} {ms : List Int} {elt : ME} (hj : H[j]? = some (.dict (byR F))) (nd : (F.map (·.1)).Nodup) (hp : ms.Perm (F.map (·.1))) (hn : F.length ≤ 1000) (hk : H[k]? = some (.list (ms.map .int)))
    (he : ∀ (H' : Hp) (x : Int) (Q : PQ),wpIdx (.ref j) (.int x) H' Q → wpE Φ elt (loc ++ [some (.int x)]) H' Q)
    (q : ∀ H',H <+: H' → Q (.ref H'.length) (H' ++ [.list ((ms.map (rowOf F)).map roP)])) : compI Φ false 1 elt [] loc Q (ms.map .int) (fun H'=>H'[k]? = some (.list (ms.map .int))) H := by
  have ml : ms.length ≤ 1000 := by rw [hp.length_eq,List.length_map]; exact hn
  refine comp_each AV.int (fun x=>roP (rowOf F x)) ms (szL ml) (fun H' p=>pre_at p hk) (fun H' p x hx=>?_) fun H' p=>?_
  · refine ⟨[.int x],rfl,fun Q' q'=>he H' x Q' ?_⟩
    rw [i_dict (pre_at p hj)]
    exact ⟨_,(rowOf_get nd (hp.mem_iff.mp hx)).1,q' H' List.prefix_rfl⟩
  · have := q H' p
    rw [List.map_map] at this
    exact this
noncomputable def SMer (nm : Str) (Φ : Fun) : Prop := ∀ (i : Nat) (ss : List (List Row)) (H : Hp) (Q : PQ),H[i]? = some (.list (ss.map slA)) → SsOK ss → (∀ H' rs,H <+: H' → IsMer ss rs → Q (slA rs) H') → Φ nm [.ref i] H Q
theorem merged {Φ : Fun} (cb : SByR Φ) {i : Nat} {ss : List (List Row)} {H : Hp} {Q : PQ} (hi : H[i]? = some (.list (ss.map slA))) (ok : SsOK ss) (h : ∀ H' rs,H <+: H' → IsMer ss rs → Q (slA rs) H') : wpF Φ m_merged [.ref i] H Q := by
  have tot := ok.tot
  ((refine ⟨rfl,?_⟩; simp only [lst,Nat.reduceSub,Nat.sub_self,List.replicate]))
  show wpSs Φ (m_merged.body.drop 0) [some (.ref i),none,none,none] H (endOf Q)
  refine cut_k 0 rfl fun R rr rn=>?_
  walk_at "go"
  refine rn _ _ (cut_k 1 rfl fun R rr rn=>?_)
  walk_at "wp"
  rw [r_list (pre_at pre_new hi)]
  refine for_intro (fun t loc H'=>∃ (j : Nat) (o : Option AV),H <+: H' ∧ H'[j]? = some (.list ((ss.take t).flatten.map roP)) ∧ loc = [some (.ref i),some (.ref j),o,none]) ⟨_,none,pre_new,at_new,rfl⟩ ?_
  rintro t loc H' ⟨j,o,p,hj,rfl⟩
  have tl : (ss.take t).flatten.length ≤ ss.flatten.length := take_flat ss t
  refine ⟨pre_at p hi,fun y hy=>?_,fun ht=>?_⟩
  · rw [List.getElem?_map] at hy
    obtain ⟨s,hs,rfl⟩ := Option.map_eq_some_iff.mp hy
    have sl := ok.each s (List.mem_of_getElem? hs)
    refine ⟨[slA s],rfl,?_⟩
    unfold slA
    walk_at "wp"
    refine ⟨szL (by rw [List.length_map]; (first | lia | omega)),?_⟩
    refine add_at (pre_at pre_new hj) at_new (by rw [List.length_map,List.length_map]; (first | lia | omega)) ?_
    walk_at "wp"
    refine for_next ⟨_,_,p.trans (pre_new.trans pre_new),?_,rfl⟩
    rw [at_new,List.take_add_one,hs,List.flatten_append]
    simp
  · have : ss.take t = ss := List.take_of_length_le (by rw [ht]; simp)
    rw [this] at hj
    refine rn _ _ (cut_k 2 rfl fun R rr rn=>?_)
    walk_at "wp"
    refine cb j ss.flatten H' _ hj (by exact z437 tot) ?_
    walk_at "wp"
    refine rn _ _ (cut_k 3 rfl fun R rr rn=>?_)
    have fl := firsts_len ss.flatten
    have bl : (byR (firsts ss.flatten)).length ≤ 700 := by
      simp only [byR,List.length_map]; (first | lia | omega)
    walk_at "wp"
    refine lst_dic at_new (by exact z437 bl) ?_
    walk_at "wp"
    refine srt_lst at_new (by simp; exact z438 bl) fun ms hp hs=>?_
    rw [byR_keys] at hp
    walk_at "wp"
    rw [r_list at_new]
    have nd := firsts_nd ss.flatten
    refine rows_by_no (F := firsts ss.flatten) (pre_at (pre_new.trans pre_new) at_new) nd hp (by exact z439 tot fl) at_new (fun H2 x Q' q=>by walk_at "wp"; exact q) fun H2 p2=>?_
    walk_at "wp"
    have ml : ms.length ≤ 1000 := by rw [hp.length_eq,List.length_map]; exact z439 tot fl
    refine tup_at at_new (by simp; exact z436 ml) ?_
    walk_at "wp"
    exact rr _ _ _ (h _ _ (p.trans (pre_new.trans (pre_new.trans (pre_new.trans (p2.trans pre_new))))) (mer_of nd hp hs))
theorem laid {Φ : Fun} {i : Nat} {ss : List (List Row)} {H : Hp} {Q : PQ} (hi : H[i]? = some (.list (ss.map slA))) (ok : SsOK ss) (h : ∀ H' rs,H <+: H' → IsMer ss rs → Q (slA rs) H') : wpF Φ m_law_laid [.ref i] H Q := by
  have tot := ok.tot
  ((refine ⟨rfl,?_⟩; simp only [lst,Nat.reduceSub,Nat.sub_self,List.replicate]))
  show wpSs Φ (m_law_laid.body.drop 0) [some (.ref i),none,none,none] H (endOf Q)
  refine cut_k 0 rfl fun R rr rn=>?_
  walk_at "wp"
  refine rn _ _ (cut_k 1 rfl fun R rr rn=>?_)
  walk_at "wp"
  rw [r_list (pre_at pre_new hi)]
  refine for_intro (fun t loc H'=>∃ (o2 o3 : Option AV),H' = H ++ [.dict (byR (firsts (ss.take t).flatten))] ∧ loc = [some (.ref i),some (.ref H.length),o2,o3]) ⟨none,none,rfl,rfl⟩ ?_
  rintro t loc H' ⟨o2,o3,rfl,rfl⟩
  refine ⟨pre_at pre_new hi,fun y hy=>?_,fun ht=>?_⟩
  · rw [List.getElem?_map] at hy
    obtain ⟨s,hs,rfl⟩ := Option.map_eq_some_iff.mp hy
    have tl : (ss.take (t + 1)).flatten.length ≤ ss.flatten.length := take_flat ss (t + 1)
    have ef : (ss.take (t + 1)).flatten = (ss.take t).flatten ++ s := by
      rw [List.take_add_one,hs,List.flatten_append]; simp
    rw [ef,List.length_append] at tl
    refine ⟨[slA s],rfl,?_⟩
    unfold slA
    walk_at "wp"
    refine for_intro (fun u loc H'=>∃ (o3 : Option AV),H' = H ++ [.dict (byR ((s.take u).foldl insR (firsts (ss.take t).flatten)))] ∧ loc = [some (.ref i),some (.ref H.length),some (.tup (s.map roP)),o3]) ⟨o3,rfl,rfl⟩ ?_
    rintro u loc H' ⟨o3,rfl,rfl⟩
    refine ⟨trivial,fun y hy=>?_,fun hu=>?_⟩
    · rw [List.getElem?_map] at hy
      obtain ⟨r,hr,rfl⟩ := Option.map_eq_some_iff.mp hy
      have et : (s.take (u + 1)).foldl insR (firsts (ss.take t).flatten) = insR ((s.take u).foldl insR (firsts (ss.take t).flatten)) r := by
        rw [List.take_add_one,hr,List.foldl_append]; rfl
      have fl := fold_len (l := s.take u) (acc := firsts (ss.take t).flatten)
      have fl2 := firsts_len (ss.take t).flatten
      have ul : (s.take u).length ≤ s.length := List.length_take_le' _ _
      refine ⟨[roP r],rfl,?_⟩
      walk_at "wp"
      refine roP_at0 ?_
      walk_at "wp"
      refine notin_dic at_new ?_
      walk_at "wp"
      have dl : ((s.take u).foldl insR (firsts (ss.take t).flatten)).length ≤ 1000 := by
        exact z440 tot tl fl fl2 ul
      generalize hD : (s.take u).foldl insR (firsts (ss.take t).flatten) = D at dl et
      refine sp_b (K := fun b=>kIteB Φ _ _ _ _ _ (!b)) (fun hb=>?_) (fun hb=>?_)
      · simp only [Bool.not_true]
        walk_at "wp"
        exact for_next ⟨_,by rw [et,insR,if_pos hb],rfl⟩
      · simp only [Bool.not_false]
        walk_at "wp"
        refine roP_at0 ?_
        walk_at "wp"
        have hn : dget (byR D) r.1 = none := by simpa using hb
        refine set_dic at_new (by simp [byR]; (first | lia | omega)) ?_
        rw [set_new,dset_new hn,byR_app]
        walk_at "wp"
        exact for_next ⟨_,by rw [et,insR,if_neg (by rw [hb]; decide)],rfl⟩
    · have : s.take u = s := List.take_of_length_le (by rw [hu]; simp)
      rw [this]
      walk_at "wp"
      exact for_next ⟨_,_,by rw [ef,firsts,firsts,List.foldl_append],rfl⟩
  · have : ss.take t = ss := List.take_of_length_le (by rw [ht]; simp)
    rw [this]
    refine rn _ _ (cut_k 2 rfl fun R rr rn=>?_)
    have fl := firsts_len ss.flatten
    have fl' : (firsts ss.flatten).length ≤ 700 := by exact Nat.le_trans fl tot
    walk_at "wp"
    refine srt_dic at_new (by simp [byR]; (first | lia | omega)) fun ms hp hs=>?_
    rw [byR_keys] at hp
    walk_at "wp"
    rw [r_list at_new]
    have nd := firsts_nd ss.flatten
    refine rows_by_no (F := firsts ss.flatten) (pre_at pre_new at_new) nd hp (by exact z437 fl') at_new (fun H2 x Q' q=>by walk_at "wp"; exact q) fun H2 p2=>?_
    walk_at "wp"
    have ml : ms.length ≤ 1000 := by rw [hp.length_eq,List.length_map]; exact z437 fl'
    refine tup_at at_new (by simp; exact z436 ml) ?_
    walk_at "wp"
    exact rr _ _ _ (h _ _ (pre_new.trans (pre_new.trans (p2.trans pre_new))) (mer_of nd hp hs))
end
section
open PySem
set_option maxHeartbeats 2000000
noncomputable def prD (p : Int × Int) : PyData := .tuple [.int p.1,.int p.2]
theorem prs_dat {ρ : Nat → Option PyData} : ∀ {ps : List (Int × Int)},datRs ρ (ps.map prAV) = some (ps.map prD) ∧ PyData.eqvAll (ps.map prD) (ps.map prD) = true ∧ PyData.depthAll (ps.map prD) ≤ 3
  | []=>⟨rfl,rfl,by simp [PyData.depthAll]⟩
  | p :: ps=>by
    obtain ⟨h1,h2,h3⟩ := prs_dat (ρ := ρ) (ps := ps)
    refine ⟨?_,?_,?_⟩
    · simp only [List.map_cons,datRs,h1,prAV,datR,Option.bind_some,Option.map_some,prD]
    · simp only [List.map_cons,PyData.eqvAll,h2,prD,PyData.eqv,beq_self_eq_true,Bool.and_self]
    · simp only [List.map_cons,PyData.depthAll,prD,PyData.depth]; exact z441 h3
theorem ro_dat {ρ : Nat → Option PyData} (n : Int) (f : Fc) : ∃ d,datR ρ (roA n f) = some d ∧ PyData.eqv d d = true ∧ d.depth ≤ 8 := by
  cases f with
  | prime b ps =>
    obtain ⟨h1,h2,h3⟩ := prs_dat (ρ := ρ) (ps := ps)
    refine ⟨.tuple [.int n,.str "prime",.tuple [.int b,.tuple (ps.map prD)]],?_,?_,?_⟩
    · simp only [roA,Fc.word,Fc.facts,psT,datR,datRs,h1,Option.bind_some,Option.map_some]
    · simp only [PyData.eqv,PyData.eqvAll,h2,beq_self_eq_true,Bool.and_self]
    · simp only [PyData.depth,PyData.depthAll]; exact z442 h3
  | first=>exact ⟨.tuple [.int n,.str "first",.tuple []],rfl,by simp [PyData.eqv,PyData.eqvAll],by simp [PyData.depth,PyData.depthAll]⟩
  | split a b=>exact ⟨.tuple [.int n,.str "split",.tuple [.int a,.int b]],rfl,by simp [PyData.eqv,PyData.eqvAll],by simp [PyData.depth,PyData.depthAll]⟩
  | power b=>exact ⟨.tuple [.int n,.str "power",.tuple [.int b]],rfl,by simp [PyData.eqv,PyData.eqvAll],by simp [PyData.depth,PyData.depthAll]⟩
  | root b=>exact ⟨.tuple [.int n,.str "root",.tuple [.int b]],rfl,by simp [PyData.eqv,PyData.eqvAll],by simp [PyData.depth,PyData.depthAll]⟩
theorem all_dat {α : Type} {f : α → AV} {ρ : Nat → Option PyData} {n : Nat} (hf : ∀ x,∃ d,datR ρ (f x) = some d ∧ PyData.eqv d d = true ∧ d.depth ≤ n) : ∀ {l : List α},∃ ds,datRs ρ (l.map f) = some ds ∧ PyData.eqvAll ds ds = true ∧ PyData.depthAll ds ≤ n + 1
  | []=>⟨[],rfl,rfl,by simp [PyData.depthAll]⟩
  | r :: l=>by
    obtain ⟨ds,h1,h2,h3⟩ := all_dat hf (l := l)
    obtain ⟨d,k1,k2,k3⟩ := hf r
    refine ⟨d :: ds,?_,?_,?_⟩
    · simp only [List.map_cons,datRs,h1,k1,Option.bind_some,Option.map_some]
    · simp only [PyData.eqvAll,h2,k2,Bool.and_self]
    · simp only [PyData.depthAll]; exact z443 h3 k3
theorem sl_dat {ρ : Nat → Option PyData} (s : List Row) : ∃ d,datR ρ (slA s) = some d ∧ PyData.eqv d d = true ∧ d.depth ≤ 10 := by
  obtain ⟨ds,h1,h2,h3⟩ := all_dat (f := roP) (fun r=>ro_dat (ρ := ρ) r.1 r.2) (l := s)
  refine ⟨.tuple ds,?_,?_,?_⟩
  · show (datRs ρ (s.map roP)).map PyData.tuple = _
    rw [h1]; rfl
  · show PyData.eqvAll ds ds = true
    exact h2
  · simp only [PyData.depth]; exact Nat.succ_le_succ h3
theorem ne_slip {H : Hp} {Q : PQ} {s : List Row} (q : Q (.bool false) H) : wpCmp .ne (slA s) (slA s) H Q := by
  obtain ⟨d,h1,h2,h3⟩ := sl_dat (ρ := rho H 4) s
  exact ⟨d,d,h1,h1,by exact z444 h3,by rw [h2]; exact q⟩
theorem eq_slip {H : Hp} {Q : PQ} {s : List Row} (q : Q (.bool true) H) : wpCmp .eq (slA s) (slA s) H Q := by
  obtain ⟨d,h1,h2,h3⟩ := sl_dat (ρ := rho H 4) s
  exact ⟨d,d,h1,h1,by exact z444 h3,by rw [h2]; exact q⟩
theorem ne_slips {H : Hp} {Q : PQ} {i j : Nat} {ss : List (List Row)} (hi : H[i]? = some (.list (ss.map slA))) (hj : H[j]? = some (.list (ss.map slA))) (q : Q (.bool false) H) : wpCmp .ne (.ref i) (.ref j) H Q := by
  obtain ⟨ds,h1,h2,h3⟩ := all_dat (f := slA) (fun s=>sl_dat (ρ := rho H 3) s) (l := ss)
  have e : ∀ {k : Nat},H[k]? = some (.list (ss.map slA)) → dat H (.ref k) = some (.list ds) := fun {k} hk=>by
    show rho H 4 k = _
    unfold rho
    rw [hk]
    simp only [h1,Option.map_some]
  exact ⟨_,_,e hi,e hj,by simp only [PyData.depth]; exact z445 h3,by show Q (.bool !PyData.eqvAll ds ds) H; rw [h2]; exact q⟩
structure Rss (rss : List (List Rw)) : Prop where
  len : rss.length ≤ 3
  ok : ∀ rs ∈ rss,RsOK rs
noncomputable def roS (rss : List (List Rw)) : List (List Row) := rss.map (·.map Rw.ro)
structure SsB (ss : List (List Row)) : Prop where
  len : ss.length ≤ 3
  ok : ∀ s ∈ ss,RsK 1 s
theorem RsK.up1 {s : List Row} (h : RsK 0 s) : RsK 1 s := ⟨h.1,h.2.1,fun r hr=>(h.2.2.1 r hr).up (by decide),h.2.2.2⟩
theorem Rss.b {rss : List (List Rw)} (h : Rss rss) : SsB (roS rss) := ⟨by rw [roS,List.length_map]; exact h.len,fun s hs=>by
  obtain ⟨rs,hr,rfl⟩ := List.mem_map.mp hs
  exact (ros_ok (by decide) (h.ok rs hr)).up1⟩
theorem flat_len {n : Nat} : ∀ {ss : List (List Row)},(∀ s ∈ ss,s.length ≤ n) → ss.flatten.length ≤ ss.length * n
  | [],_=>Nat.zero_le _
  | s :: ss,h=>by
    have h1 := flat_len (ss := ss) fun x hx=>h x (List.mem_cons_of_mem _ hx)
    have h2 := h s (List.mem_cons_self ..)
    rw [List.flatten_cons,List.length_append,List.length_cons,Nat.succ_mul]; exact z446 h1 h2
theorem SsB.s {ss : List (List Row)} (h : SsB ss) : SsOK ss := ⟨by have := h.len; exact z447 this,fun s hs=>by have := (h.ok s hs).2.1; (first | lia | omega),by
  have h1 := flat_len fun s hs=>(h.ok s hs).2.1
  have h2 := Nat.mul_le_mul_right 63 h.len
  exact z448 h1 h2,fun s hs=>(h.ok s hs).2.2.1⟩
theorem SsOK.rev {ss : List (List Row)} (h : SsOK ss) : SsOK ss.reverse := ⟨by rw [List.length_reverse]; exact h.len,fun s hs=>h.each s (List.mem_reverse.mp hs),by
  have := h.tot
  rw [List.length_flatten] at this ⊢
  rw [List.map_reverse,List.sum_reverse]; exact this,fun s hs=>h.ok s (List.mem_reverse.mp hs)⟩
noncomputable def long1 : List Row := (List.range 200).map fun (k : Nat)=>((500 : Int) + k,Fc.power (1 + k))
noncomputable def long2 (n : Nat) : List Row := (List.range n).map fun (k : Nat)=>((450 : Int) + 2 * k,Fc.root (3 + k))
theorem SsB.long {ss : List (List Row)} (h : SsB ss) {n : Nat} (hn : n ≤ 199) : SsOK (long1 :: ss ++ [long2 n]) := by
  have hs := h.s
  have h1 := flat_len fun s hs=>(h.ok s hs).2.1
  have h2 := Nat.mul_le_mul_right 63 h.len
  have l1 : long1.length = 200 := by simp [long1]
  have l2 : (long2 n).length = n := by simp [long2]
  refine ⟨?_,fun s hs'=>?_,?_,fun s hs' r hr=>?_⟩
  · have := h.len
    simp only [List.cons_append,List.length_cons,List.length_append,List.length_nil]; exact z449 this
  · rcases List.mem_append.mp hs' with z | z
    · rcases List.mem_cons.mp z with rfl | z
      · exact Nat.le_of_eq l1
      · exact hs.each s z
    · rw [List.mem_singleton.mp z]; exact z450 hn l2
  · simp only [List.cons_append,List.flatten_cons,List.flatten_append,List.flatten_nil,List.append_nil,List.length_append]; exact z451 hn h1 h2 l1 l2
  · rcases List.mem_append.mp hs' with z | z
    · rcases List.mem_cons.mp z with rfl | z
      · obtain ⟨k,hk,rfl⟩ := List.mem_map.mp hr
        have := List.mem_range.mp hk
        exact ⟨by decide,by show (2 : Int) ≤ 500 + k; exact z452,by show (500 : Int) + k ≤ _; exact z453 this,by show (1 : Int) ≤ 1 + k; exact z454,by show (1 : Int) + k ≤ _; exact z455 this⟩
      · exact hs.ok s z r hr
    · rw [List.mem_singleton.mp z] at hr
      obtain ⟨k,hk,rfl⟩ := List.mem_map.mp hr
      have := List.mem_range.mp hk
      exact ⟨by decide,by show (2 : Int) ≤ 450 + 2 * k; exact z456,by show (450 : Int) + 2 * k ≤ _; exact z457 hn this,by show (1 : Int) ≤ 3 + k; exact z458,by show (3 : Int) + k ≤ _; exact z459 hn this⟩
structure LetBy (rs : List Row) : Prop where
  len : rs.length ≤ 200
  ok : ∀ r ∈ rs,RoK 1 r.1 r.2
  form : slipB (slA rs) = true
  hold : wr 0 [] rs = none
theorem as_rw {rss : List (List Rw)} : ∀ {rs : List Row},(∀ r ∈ rs,∃ s ∈ roS rss,r ∈ s) → ∃ rw : List Rw,rs = rw.map Rw.ro ∧ ∀ x ∈ rw,∃ l ∈ rss,x ∈ l
  | [],_=>⟨[],rfl,fun x hx=>by cases hx⟩
  | r :: rs,h=>by
    obtain ⟨rw,e,hr⟩ := as_rw (rss := rss) (rs := rs) fun x hx=>h x (List.mem_cons_of_mem _ hx)
    obtain ⟨s,hs,hm⟩ := h r (List.mem_cons_self ..)
    obtain ⟨l,hl,rfl⟩ := List.mem_map.mp hs
    obtain ⟨x,hx,rfl⟩ := List.mem_map.mp hm
    exact ⟨x :: rw,by rw [e]; rfl,fun y hy=>by
      rcases List.mem_cons.mp hy with rfl | hy
      · exact ⟨l,hl,hx⟩
      · exact hr y hy⟩
theorem mer_lets {rss : List (List Rw)} {rs : List Row} (h : Rss rss) (hne : 0 < rss.length) (hm : IsMer (roS rss) rs) : LetBy rs := by
  have sb := h.b
  have so := sb.s
  obtain ⟨rw,e,hrw⟩ := as_rw (rss := rss) fun r hr=>hm.mem hr
  have rok : ∀ r ∈ rs,RoK 1 r.1 r.2 := fun r hr=>by
    obtain ⟨s,hs,hx⟩ := hm.mem hr
    exact so.ok s hs r hx
  have len : rs.length ≤ 200 := by
    have h1 := hm.len
    have h2 := flat_len fun s hs=>(sb.ok s hs).2.1
    have h3 := Nat.mul_le_mul_right 63 sb.len
    exact z460 h1 h2 h3
  have inc := hm.2
  have ne : rs ≠ [] := fun z=>by
    obtain ⟨l,hl⟩ : ∃ l,l ∈ rss := ⟨rss[0],List.getElem_mem hne⟩
    have hl0 := (h.ok l hl).ne
    obtain ⟨x,hx⟩ := List.exists_mem_of_ne_nil l hl0
    obtain ⟨u,hu,_⟩ := hm.key (List.mem_map.mpr ⟨l,hl,rfl⟩) (List.mem_map.mpr ⟨x,hx,rfl⟩)
    rw [z] at hu; cases hu
  refine ⟨len,rok,?_,?_⟩
  · have l1 : 1 ≤ rs.length := List.length_pos_iff.mpr ne
    show slipB (.tup (rs.map roP)) = true
    rw [slip_due,adj_inc inc,Bool.and_true]
    have e : ((rs.map roP).length : Int) = rs.length := by simp
    have : (rs.map roP).all rowB = true := List.all_eq_true.mpr fun x hx=>by
      obtain ⟨r,hr,rfl⟩ := List.mem_map.mp hx
      exact row_form (rok r hr)
    rw [this,Bool.and_true,lenB,e,Bool.and_eq_true,decide_eq_true_eq,decide_eq_true_eq]
    exact z461 len l1
  · rw [e]
    refine wr_none (rs := rw) (fun r hr=>?_) (fun r hr=>?_) ?_ (fun r hr q hq=>?_) rw [] rfl 0
    · obtain ⟨l,hl,hx⟩ := hrw r hr; exact (h.ok l hl).ok r hx
    · obtain ⟨l,hl,hx⟩ := hrw r hr; exact (h.ok l hl).p r hx
    · rw [e,ros_num] at inc; exact inc
    · obtain ⟨l,hl,hx⟩ := hrw r hr
      obtain ⟨s,hs,rfl⟩ := (h.ok l hl).cl (by decide) r hx q hq
      obtain ⟨u,hu,eu⟩ := hm.key (List.mem_map.mpr ⟨l,hl,rfl⟩) (List.mem_map.mpr ⟨s,hs,rfl⟩)
      rw [e] at hu
      obtain ⟨y,hy,rfl⟩ := List.mem_map.mp hu
      rw [ro_num,ro_num] at eu
      exact ⟨y,hy,eu⟩
end
section
open PySem
set_option maxHeartbeats 2000000
theorem slc_len {α : Type} {l : List α} {a b : Option Int} : (lslice l a b).length = lclip l.length b l.length - lclip l.length a 0 := by
  have hb : lclip l.length b l.length ≤ l.length := by
    cases b with
    | none=>exact Nat.le_refl _
    | some k=>exact Nat.min_le_right _ _
  unfold lslice
  rw [List.length_take,List.length_drop]; exact z462 hb
theorem isnt_true {b : Bool} {H : Hp} {Q : PQ} (q : Q (.bool !b) H) : wpCmp .isNot (.bool b) (.bool true) H Q := by
  cases b with
  | false=>exact ⟨false,rfl,q⟩
  | true=>exact ⟨true,rfl,q⟩
theorem clear_at {H : Hp} {Q : PQ} {i : Nat} {l : List AV} (h : H[i]? = some (.list l)) (hn : l.length ≤ 1000) (q : Q .none (H.set i (.list []))) : wpMt .clear (.ref i) [] H Q := by
  show onL (.ref i) H _
  rw [onL_ref h]
  exact ⟨rfl,szL hn,q⟩
theorem law_tail {Φ : Fun} (cme : SMer "merged" Φ) (cla : SMer "_law_laid" Φ) (cl : SLets Φ) {a b c d e : Option AV} {g : Bool} {is : Nat} {ss : List (List Row)} {H : Hp} {Q : PQ} (hi : H[is]? = some (.list (ss.map slA))) (ok : SsOK ss)
    (hg : g = true → 0 < ss.length → ∀ rs,IsMer ss rs → LetBy rs) (h : ∀ H',Q (.bool true) H') : wpSs Φ (m_law.body.drop 6) [a,b,some (.ref is),c,d,some (.bool g),e,none,none,none] H (endOf Q) := by
  have hl : (ss.map slA).length ≤ 1000 := by rw [List.length_map]; have := ok.len; exact z463 this
  have il : is < H.length := (List.getElem?_eq_some_iff.mp hi).1
  refine cut_k 6 rfl fun R rr rn=>?_
  walk_at "wp"
  rw [g_list hi]
  refine ⟨szL hl,?_⟩
  walk_at "wp"
  have h1 : (H ++ [AObj.list (ss.map slA)])[H.length]? = some (.list (ss.map slA)) := at_new
  have h1s : (H ++ [AObj.list (ss.map slA)])[is]? = some (.list (ss.map slA)) := pre_at pre_new hi
  have ne : H.length ≠ is := by exact Ne.symm (Nat.ne_of_lt il)
  generalize H ++ [AObj.list (ss.map slA)] = H1 at h1 h1s
  generalize H.length = ih at h1 ne
  refine rn _ _ (cut_k 7 rfl fun R rr rn=>?_)
  walk_at "wp"
  refine cme ih ss H1 _ h1 ok fun H2 rs p2 m2=>?_
  walk_at "wp"
  refine rn _ _ (cut_k 8 rfl fun R rr rn=>?_)
  walk_at "wp"
  simp only [slA,isi,Bool.not_true]
  walk_at "wp"
  refine cla is ss H2 _ (pre_at p2 h1s) ok fun H3 rs' p3 m3=>?_
  rw [← m2.uniq m3]
  walk_at "wp"
  refine ne_slip ?_
  walk_at "wp"
  have p13 := p2.trans p3
  refine ne_slips (pre_at p13 h1) (pre_at p13 h1s) ?_
  walk_at "wp"
  have last : ∀ H4,H1 <+: H4 → wpSs Φ (m_law.body.drop 10) [a,b,some (.ref is),c,d,some (.bool g),e,some (.ref ih),some (slA rs),none] H4 (endOf Q) := by
    intro H4 p4
    refine cut_k 10 rfl fun R rr rn=>?_
    walk_at "wp"
    refine wl_at (pre_at p4 h1) ?_
    refine ⟨szL hl,?_⟩
    walk_at "wp"
    have er : (ss.map slA).reverse = ss.reverse.map slA := List.map_reverse.symm
    rw [er]
    refine cme H4.length ss.reverse _ _ at_new ok.rev fun H5 rt p5 m5=>?_
    walk_at "wp"
    refine rn _ _ (cut_k 11 rfl fun R rr rn=>?_)
    walk_at "wp"
    have iT : isi H5 (slA rt) .tuple = true := rfl
    rw [iT]
    simp only [Bool.not_true]
    walk_at "wp"
    have p45 := p4.trans (pre_new.trans p5)
    refine wl_at (pre_at p45 h1s) ?_
    refine ⟨szL hl,?_⟩
    walk_at "wp"
    rw [er]
    refine cla H5.length ss.reverse _ _ at_new ok.rev fun H6 rt' p6 m6=>?_
    rw [← m5.uniq m6]
    walk_at "wp"
    refine ne_slip ?_
    walk_at "wp"
    have p46 := p45.trans (pre_new.trans p6)
    refine rn _ _ (cut_k 12 rfl fun R rr rn=>?_)
    walk_at "wp"
    refine ⟨isL_ref (pre_at p46 h1),?_⟩
    refine clear_at (pre_at p46 h1) hl ?_
    walk_at "wp"
    refine rn _ _ (cut_k 13 rfl fun R rr rn=>?_)
    walk_at "wp"
    refine cme ih [] _ _ (get_set_eq (pre_at p46 h1)) ⟨Nat.zero_le _,(fun s hs=>nomatch hs),Nat.zero_le _,(fun s hs=>nomatch hs)⟩ fun H7 r0 p7 m7=>?_
    have r0e : r0 = [] := List.eq_nil_of_length_eq_zero (by have := m7.len; simpa using this)
    subst r0e
    walk_at "wp"
    refine ⟨sz0,?_⟩
    refine eq_slip (s := []) ?_
    walk_at "wp"
    refine cme is ss H7 _ (pre_at p7 (by rw [get_set_ne ne]; exact pre_at p46 h1s)) ok fun H8 rs2 p8 m8=>?_
    rw [← m2.uniq m8]
    walk_at "wp"
    refine eq_slip ?_
    walk_at "wp"
    exact rr _ _ _ (h _)
  refine rn _ _ (cut_k 9 rfl fun R rr rn=>?_)
  walk_at "wp"
  cases g with
  | false =>
    walk_at "wp"
    exact rn _ _ (last _ p13)
  | true =>
    walk_at "wp"
    refine len_at (pre_at p13 h1s) hl ?_
    walk_at "wp"
    refine sp_d (fun hpos=>?_) (fun hpos=>?_)
    · walk_at "wp"
      have lb := hg rfl (by rw [List.length_map] at hpos; exact Int.natCast_pos.mp hpos) rs m2
      refine cl (slA rs) H3 _ (slG_of lb.len lb.ok) (fun z=>by rw [lb.form] at z; cases z) fun _=>⟨1,rs,rfl,lb.len,lb.ok,fun H4 p4=>?_⟩
      rw [lb.hold]
      refine isnt_true ?_
      walk_at "wp"
      exact rn _ _ (last _ (p13.trans p4))
    · walk_at "wp"
      exact rn _ _ (last _ p13)
end
section
open PySem
set_option maxHeartbeats 2000000
theorem CellsB.at {B : Int} {cs : List Int} {n : Nat} (h : CellsB B cs n) {k : Nat} (hk : k < n) : ∃ c,(cs.map AV.int)[k]? = some (.int c) ∧ cs[k]? = some c ∧ 0 ≤ c ∧ c < B := by
  have hlt : k < cs.length := by rw [h.len]; exact hk
  have := h.bd cs[k] (List.getElem_mem hlt)
  exact ⟨cs[k],by rw [List.getElem?_map,List.getElem?_eq_getElem hlt]; rfl,List.getElem?_eq_getElem hlt,this.1,this.2⟩
noncomputable def mixV (cs ms : List Int) (k : Nat) : Int := (cs[1 + k]?).getD 0 / 6 * 6 + (ms[1 + k]?).getD 0 % 6
theorem mix_bd {cs ms : List Int} (hc : CellsB 2147483647 cs 10) (k : Nat) : 0 ≤ mixV cs ms k ∧ mixV cs ms k < 4294967296 := by
  unfold mixV
  have : 0 ≤ (cs[1 + k]?).getD 0 ∧ (cs[1 + k]?).getD 0 < 2147483647 := by
    cases e : cs[1 + k]? with
    | none=>simp
    | some c=>exact hc.bd c (List.mem_of_getElem? e)
  exact z464 this
noncomputable def mixL (cs ms : List Int) : List Int := lslice (lslice cs none (some 1) ++ (List.range 9).map (mixV cs ms)) none (some 6) ++ lslice cs (some 6) (some 8) ++ lslice (lslice cs none (some 1) ++ (List.range 9).map (mixV cs ms)) (some 8) none
theorem mix_ok {cs ms : List Int} (hc : CellsB 2147483647 cs 10) : Cells (mixL cs ms) 10 := by
  have l0 : (lslice cs none (some 1) ++ (List.range 9).map (mixV cs ms)).length = 10 := by
    rw [List.length_append,slc_len,hc.len]; simp [lclip]
  have b0 : ∀ c ∈ lslice cs none (some 1) ++ (List.range 9).map (mixV cs ms),0 ≤ c ∧ c < 4294967296 := fun c h=>by
    rcases List.mem_append.mp h with z | z
    · have := hc.bd c (lslice_mem z); exact z147 this
    · obtain ⟨k,_,rfl⟩ := List.mem_map.mp z; exact mix_bd hc k
  refine ⟨?_,fun c h=>?_⟩
  · unfold mixL
    rw [List.length_append,List.length_append,slc_len,slc_len,slc_len,l0,hc.len]; simp [lclip]
  · rcases List.mem_append.mp h with z | z
    · rcases List.mem_append.mp z with y | y
      · exact b0 c (lslice_mem y)
      · have := hc.bd c (lslice_mem y); exact z147 this
    · exact b0 c (lslice_mem z)
theorem ins0_at {H : Hp} {Q : PQ} {i : Nat} {l : List AV} {x : AV} (h : H[i]? = some (.list l)) (hn : l.length ≤ 1000) (q : Q .none (H.set i (.list (x :: l)))) : wpMt .insert (.ref i) [.int 0,x] H Q := by
  show onL (.ref i) H _
  rw [onL_ref h]
  exact ⟨szL hn,Int.le_refl _,Int.natCast_nonneg _,q⟩
theorem law11 {Φ : Fun} (cc : SCell Φ) (cm : SMixedA Φ) (cr : SRowsBy Φ) (csp : SSpoilt Φ) (cme : SMer "merged" Φ) (cla : SMer "_law_laid" Φ) (cl : SLets Φ) {l : List Int} {H : Hp} {Q : PQ} (hl : l.length ≤ 63) (h : ∀ H',Q (.bool true) H') : wpF Φ m_law [.fro (l.map .int)] H Q := by
  -- the long slips
  have six : ∀ (ic is : Nat) (cs : List Int) (ss : List (List Row)) (g : Bool) (o3 o4 o6 : Option AV) (H : Hp),H[ic]? = some (.list (cs.map .int)) → CellsB 2147483647 cs 10 → ic ≠ is → H[is]? = some (.list (ss.map slA)) → SsB ss → (g = true → 0 < ss.length → ∀ rs,IsMer ss rs → LetBy rs) →
      wpSs Φ (m_law.body.drop 5) [some (.fro (l.map .int)),some (.ref ic),some (.ref is),o3,o4,some (.bool g),o6,none,none,none] H (endOf Q) := by
    intro ic is cs ss g o3 o4 o6 H gc hc ne gs sb hg
    have hm : (ss.map slA).length ≤ 1000 := by rw [List.length_map]; have := sb.len; exact z465 this
    refine cut_k 5 rfl fun R rr rn=>?_
    walk_at "wp"
    refine cel_at gc hc.up (by exact Nat.le_of_ble_eq_true rfl) (by exact Int.zero_le_ofNat 9) (by exact z466) fun x x0 x1=>?_
    walk_at "wp"
    refine ⟨by decide,noPyS (by decide),by decide,?_⟩
    refine sp_d (fun h1=>?_) (fun h1=>?_)
    · walk_at "wp"
      refine ⟨isL_ref gs,by decide,by decide,?_⟩
      refine comp_each (fun k : Nat=>AV.int k) (fun k=>roP ((500 : Int) + k,Fc.power (1 + k))) (List.range (200 : Int).toNat) (by simp [sizeLine]) (fun _ _=>trivial) (fun H' p k hk=>?_) fun H' p=>?_
      · refine ⟨[.int k],rfl,fun Q' q=>?_⟩
        walk_at "wp"
        exact ⟨sz1,sz3,q H' List.prefix_rfl⟩
      walk_at "wp"
      refine tup_at at_new (by simp) ?_
      walk_at "wp"
      have g1 := pre_at (p.trans (pre_new (t := [AObj.list ((List.range (200 : Int).toNat).map fun k : Nat=>roP ((500 : Int) + k,Fc.power (1 + k)))]))) gs
      have g1c := pre_at (p.trans (pre_new (t := [AObj.list ((List.range (200 : Int).toNat).map fun k : Nat=>roP ((500 : Int) + k,Fc.power (1 + k)))]))) gc
      refine ins0_at g1 hm ?_
      walk_at "wp"
      have e1 : AV.tup ((List.range (200 : Int).toNat).map fun k : Nat=>roP ((500 : Int) + k,Fc.power (1 + k))) = slA long1 := by
        unfold slA long1; rw [List.map_map]; rfl
      rw [e1]
      have g2 := get_set_eq (o := .list (slA long1 :: ss.map slA)) g1
      have g2c : ((H' ++ [AObj.list ((List.range (200 : Int).toNat).map fun k : Nat=>roP ((500 : Int) + k,Fc.power (1 + k)))]).set is (.list (slA long1 :: ss.map slA)))[ic]? = some (.list (cs.map .int)) := by rw [get_set_ne ne.symm]; exact g1c
      generalize (H' ++ [AObj.list ((List.range (200 : Int).toNat).map fun k : Nat=>roP ((500 : Int) + k,Fc.power (1 + k)))]).set is (.list (slA long1 :: ss.map slA)) = H2 at g2 g2c
      refine ⟨isL_ref g2,?_⟩
      refine cel_at g2c hc.up (by exact Nat.le_of_ble_eq_true rfl) (by exact Int.zero_le_ofNat 8) (by exact z467) fun y y0 y1=>?_
      walk_at "wp"
      (simp only [fmod_nn,fdiv_nn,Int.reduceLE])
      have yb := Int.emod_nonneg y (show (50 : Int) ≠ 0 by decide)
      have yb2 := Int.emod_lt_of_pos y (show (0 : Int) < 50 by decide)
      refine ⟨by decide,by exact z468,by exact z469,?_⟩
      obtain ⟨n,en⟩ : ∃ n : Nat,150 + y % 50 = (n : Int) := ⟨(150 + y % 50).toNat,by exact z470⟩
      rw [en,Int.toNat_natCast]
      refine comp_each (fun k : Nat=>AV.int k) (fun k=>roP ((450 : Int) + 2 * k,Fc.root (3 + k))) (List.range n) (by rw [List.length_range]; exact szL (by exact z471 en)) (fun _ _=>trivial) (fun H' p k hk=>?_) fun H3 p3=>?_
      · refine ⟨[.int k],rfl,fun Q' q=>?_⟩
        walk_at "wp"
        exact ⟨mulOk_left (by decide),sz1,sz3,q H' List.prefix_rfl⟩
      walk_at "wp"
      refine tup_at at_new (by simp; exact z471 en) ?_
      walk_at "wp"
      have g3 := pre_at (p3.trans (pre_new (t := [AObj.list ((List.range n).map fun k : Nat=>roP ((450 : Int) + 2 * k,Fc.root (3 + k)))]))) g2
      refine app_at g3 (by simp; have := sb.len; exact z472 this) ?_
      walk_at "wp"
      have e2 : AV.tup ((List.range n).map fun k : Nat=>roP ((450 : Int) + 2 * k,Fc.root (3 + k))) = slA (long2 n) := by
        unfold slA long2; rw [List.map_map]; rfl
      rw [e2]
      refine rn _ _ (law_tail cme cla cl (ss := long1 :: ss ++ [long2 n]) ?_ (sb.long (by exact z473 en)) (fun z=>by cases z) h)
      rw [get_set_eq g3]; simp
    · walk_at "wp"
      exact rn _ _ (law_tail cme cla cl gs sb.s hg h)
  -- one slip spoilt
  have five : ∀ (ic is : Nat) (cs : List Int) (rss : List (List Rw)) (o3 o4 : Option AV) (H : Hp),H[ic]? = some (.list (cs.map .int)) → CellsB 2147483647 cs 10 → ic ≠ is → H[is]? = some (.list ((roS rss).map slA)) → Rss rss →
      wpSs Φ (m_law.body.drop 4) [some (.fro (l.map .int)),some (.ref ic),some (.ref is),o3,o4,some (.bool true),none,none,none,none] H (endOf Q) := by
    intro ic is cs rss o3 o4 H gc hc ne gs hr
    have sb := hr.b
    have hsl : (roS rss).length = rss.length := by rw [roS,List.length_map]
    have hm : ((roS rss).map slA).length ≤ 1000 := by rw [List.length_map]; have := sb.len; exact z465 this
    have plain : wpSs Φ (m_law.body.drop 5) [some (.fro (l.map .int)),some (.ref ic),some (.ref is),o3,o4,some (.bool true),none,none,none,none] H (endOf Q) :=
      six ic is cs (roS rss) true o3 o4 none H gc hc ne gs sb fun _ hp rs m=>mer_lets hr (by exact Nat.lt_of_lt_of_eq hp hsl) m
    refine cut_k 4 rfl fun R rr rn=>?_
    walk_at "wp"
    refine cel_at gc hc.up (by exact Nat.le_of_ble_eq_true rfl) (by exact Int.zero_le_ofNat 9) (by exact z466) fun x x0 x1=>?_
    walk_at "wp"
    refine ⟨by decide,?_⟩
    refine sp_d (fun h1=>?_) (fun h1=>?_)
    · walk_at "wp"
      refine len_at gs hm ?_
      walk_at "wp"
      rw [List.length_map]
      refine sp_d (fun h2=>?_) (fun h2=>?_)
      · walk_at "wp"
        refine cel_at gc hc.up (by exact Nat.le_of_ble_eq_true rfl) (by exact Int.zero_le_ofNat 9) (by exact z466) fun y y0 y1=>?_
        walk_at "wp"
        refine ⟨by decide,noPyS (by decide),?_⟩
        refine len_at gs hm ?_
        walk_at "wp"
        rw [List.length_map]
        refine ⟨by exact Ne.symm (Int.ne_of_lt h2),?_⟩
        have e1 : (y.fdiv 3).fmod ((roS rss).length : Int) = (y.fdiv 3) % ((roS rss).length : Int) := Int.fmod_eq_emod_of_nonneg _ (by exact z171)
        rw [e1]
        have b0 := Int.emod_nonneg (y.fdiv 3) (show ((roS rss).length : Int) ≠ 0 by exact Ne.symm (Int.ne_of_lt h2))
        have b1 := Int.emod_lt_of_pos (y.fdiv 3) (show (0 : Int) < (roS rss).length by exact z474 h2)
        generalize (y.fdiv 3) % ((roS rss).length : Int) = a at b0 b1
        have alt : a.toNat < (roS rss).length := by exact (Int.toNat_lt b0).mpr b1
        refine idx_at (l := (roS rss).map slA) (z := slA (roS rss)[a.toNat]) (by simp [anyL,seqL,gs]) (by exact z198 hm) b0 (by rw [List.getElem?_map,List.getElem?_eq_getElem alt]; rfl) ?_
        have hs : (roS rss)[a.toNat] ∈ roS rss := List.getElem_mem alt
        have hk0 : RsK 0 (roS rss)[a.toNat] := by
          obtain ⟨rs,hrs,e⟩ := List.mem_map.mp hs
          rw [← e]; exact ros_ok (by decide) (hr.ok rs hrs)
        generalize (roS rss)[a.toNat] = s at hs hk0
        unfold slA
        walk_at "wp"
        have sl := hk0.2.1
        refine ⟨szL (by rw [List.length_map]; exact z321 sl),?_⟩
        refine cel_at (pre_at pre_new gc) hc.up (by exact Nat.le_of_ble_eq_true rfl) (by exact Int.zero_le_ofNat 9) (by exact z466) fun z z0 z1=>?_
        walk_at "wp"
        refine ⟨by decide,noPyS (by decide),?_⟩
        refine cel_at (pre_at pre_new gc) hc.up (by exact Nat.le_of_ble_eq_true rfl) (by exact Int.zero_le_ofNat 8) (by exact z467) fun u u0 u1=>?_
        walk_at "wp"
        refine csp 0 H.length s _ u _ _ at_new hk0 (by decide) (by rw [fdiv_nn (by decide)]; exact z475 z0) u0 fun j s' H3 p3 g3 rk=>?_
        have sl' := rk.2.1
        refine tup_at g3 (by rw [List.length_map]; exact z321 sl') ?_
        walk_at "wp"
        have gs3 := pre_at (pre_new.trans p3) gs
        refine set_lst gs3 hm b0 (by rw [List.length_map]; exact b1) ?_
        walk_at "wp"
        refine rn _ _ (six ic is cs ((roS rss).set a.toNat s') false o3 o4 _ _ (by rw [get_set_ne ne.symm]; exact pre_at (pre_new.trans p3) gc) hc ne ?_ ⟨by rw [List.length_set]; exact sb.len,fun t ht=>?_⟩ fun z=>by cases z)
        · rw [get_set_eq gs3,List.map_set]; rfl
        · rcases List.mem_or_eq_of_mem_set ht with ht | rfl
          · exact sb.ok t ht
          · exact rk
      · walk_at "wp"
        exact rn _ _ plain
    · walk_at "wp"
      exact rn _ _ plain
  ((refine ⟨rfl,?_⟩; simp only [lst,Nat.reduceSub,Nat.sub_self,List.replicate]))
  show wpSs Φ (m_law.body.drop 0) [some (.fro (l.map .int)),none,none,none,none,none,none,none,none,none] H (endOf Q)
  refine cut_k 0 rfl fun R rr rn=>?_
  walk_at "wp"
  refine cm l 1 10 H _ (by decide) hl (by exact Nat.le_of_ble_eq_true rfl) fun cs hc=>?_
  walk_at "wp"
  refine rn _ _ (cut_k 1 rfl fun R rr rn=>?_)
  walk_at "go"
  generalize hH1 : H ++ [AObj.list (cs.map .int)] = H1
  have g1 : H1[H.length]? = some (.list (cs.map .int)) := by rw [← hH1]; exact at_new
  have ll : H.length < H1.length := by rw [← hH1]; simp
  generalize hH2 : H1 ++ [AObj.list []] = H2
  have g2 : H2[H.length]? = some (.list (cs.map .int)) := by rw [← hH2]; exact pre_at pre_new g1
  have g2s : H2[H1.length]? = some (.list ((roS []).map slA)) := by rw [← hH2]; exact at_new
  have ne : H.length ≠ H1.length := by exact Nat.ne_of_lt ll
  generalize H.length = ic at g1 g2 ne
  generalize H1.length = is at g2s ne
  clear hH1 hH2 g1 ll
  refine rn _ _ (cut_k 2 rfl fun R rr rn=>?_)
  walk_at "wp"
  refine cc l 0 _ _ (by decide) hl ?_
  walk_at "wp"
  (simp only [fmod_nn,fdiv_nn,Int.reduceLE])
  generalize (l[(0 : Int).toNat]?).getD 0 = c0
  have c1 := Int.emod_nonneg c0 (show (4 : Int) ≠ 0 by decide)
  have c2 := Int.emod_lt_of_pos c0 (show (0 : Int) < 4 by decide)
  refine ⟨by decide,by exact z476,by exact z477,?_⟩
  refine for_intro (fun t loc H'=>∃ (rss : List (List Rw)) (o3 o4 : Option AV),rss.length = t ∧ t ≤ 3 ∧ (∀ rs ∈ rss,RsOK rs) ∧ H'[ic]? = some (.list (cs.map .int)) ∧ H'[is]? = some (.list ((roS rss).map slA)) ∧ loc = [some (.fro (l.map .int)),some (.ref ic),some (.ref is),o3,o4,none,none,none,none,none]) ⟨[],none,none,rfl,by exact Nat.zero_le 3,(fun rs hrs=>nomatch hrs),g2,g2s,rfl⟩ ?_
  rintro t loc H' ⟨rss,o3,o4,rl,t3,hr,gc,gs,rfl⟩
  refine ⟨trivial,fun y hy=>?_,fun ht=>?_⟩
  · obtain ⟨rfl,hlt⟩ := rng_at hy
    have hlt : t < 3 := by exact z478 hlt
    refine ⟨[.int t],rfl,?_⟩
    have rest : ∀ (im : Nat) (ms : List Int) (H3 : Hp),H3[ic]? = some (.list (cs.map .int)) → H3[is]? = some (.list ((roS rss).map slA)) → H3[im]? = some (.list (ms.map .int)) → Cells ms 10 →
        wpSs Φ [MS.expr (.meth .append (.loc 2) [.bi .tuple [.call "_law_rows_by" [.loc 4]]])] [some (.fro (l.map .int)),some (.ref ic),some (.ref is),some (.int t),some (.ref im),none,none,none,none,none] H3 (forK (fun t loc H'=>∃ (rss : List (List Rw)) (o3 o4 : Option AV),rss.length = t ∧ t ≤ 3 ∧ (∀ rs ∈ rss,RsOK rs) ∧ H'[ic]? = some (.list (cs.map .int)) ∧ H'[is]? = some (.list ((roS rss).map slA)) ∧ loc = [some (.fro (l.map .int)),some (.ref ic),some (.ref is),o3,o4,none,none,none,none,none]) t R) := by
      intro im ms H3 k1 k2 k3 km
      walk_at "wp"
      refine ⟨isL_ref k2,?_⟩
      refine cr im 10 ms H3 _ k3 km (by exact Nat.le_of_ble_eq_true rfl) (by exact Nat.le_of_ble_eq_true rfl) fun rs hrs=>?_
      walk_at "wp"
      have rln := hrs.len
      refine tup_at at_new (by rw [List.length_map]; exact z479 rln) ?_
      walk_at "wp"
      have k2' := pre_at (pre_new (t := [AObj.list (rs.map Rw.av)])) k2
      refine app_at k2' (by simp [roS]; exact z480 rl t3) ?_
      walk_at "wp"
      refine for_next ⟨rss ++ [rs],_,_,by simp [rl],by exact Nat.succ_le_of_lt hlt,fun x hx=>?_,by rw [get_set_ne ne.symm]; exact pre_at pre_new k1,?_,rfl⟩
      · rcases List.mem_append.mp hx with z | z
        · exact hr x z
        · rw [List.mem_singleton.mp z]; exact hrs
      · rw [get_set_eq k2',roS,roS,List.map_append,List.map_append]
        have : slA (rs.map Rw.ro) = .tup (rs.map Rw.av) := by unfold slA; rw [ros_av]
        simp [this]
    walk_at "wp"
    refine ⟨mulOk_left (by decide),?_⟩
    refine cm l _ 10 H' _ (by exact z481) hl (by exact Nat.le_of_ble_eq_true rfl) fun ms hms=>?_
    walk_at "wp"
    have gc1 := pre_at (pre_new (t := [AObj.list (ms.map AV.int)])) gc
    have gs1 := pre_at (pre_new (t := [AObj.list (ms.map AV.int)])) gs
    have gm1 : (H' ++ [AObj.list (ms.map AV.int)])[H'.length]? = some (.list (ms.map .int)) := at_new
    generalize H' ++ [AObj.list (ms.map AV.int)] = H3 at gc1 gs1 gm1
    generalize H'.length = im at gm1
    refine cel_at gc1 hc.up (by exact Nat.le_of_ble_eq_true rfl) (by exact Int.zero_le_ofNat 8) (by exact z467) fun x x0 x1=>?_
    walk_at "wp"
    refine ⟨by decide,?_⟩
    refine sp_d (fun h1=>?_) (fun h1=>?_)
    · walk_at "wp"
      refine ⟨by decide,?_⟩
      refine wl_at gc1 ?_
      have cl10 : (cs.map AV.int).length ≤ 1000 := by rw [List.length_map,hc.len]; decide
      refine ⟨szL cl10,?_⟩
      rw [lslice_map]
      walk_at "wp"
      refine ⟨by decide,by decide,by decide,by decide,?_⟩
      have gc2 := pre_at (pre_new (t := [AObj.list ((lslice cs none (some 1)).map AV.int)])) gc1
      have gm2 := pre_at (pre_new (t := [AObj.list ((lslice cs none (some 1)).map AV.int)])) gm1
      refine comp_each (fun k : Nat=>AV.int (1 + k)) (fun k=>.int (mixV cs ms k)) (List.range ((10 : Int) - 1).toNat) (by simp [sizeLine]) (fun _ _=>trivial) (fun H4 p k hk=>?_) fun H4 p=>?_
      · have hk : k < 9 := by simpa using hk
        refine ⟨[.int (1 + k)],rfl,fun Q' q=>?_⟩
        obtain ⟨c,e1,e2,c0',c1'⟩ := hc.at (k := 1 + k) (by exact Nat.add_lt_of_lt_sub' hk)
        obtain ⟨d,f1,f2,_,_⟩ := hms.at (k := 1 + k) (by exact Nat.add_lt_of_lt_sub' hk)
        have en : ((1 : Int) + k).toNat = 1 + k := by exact z482
        walk_at "wp"
        refine idx_at (l := cs.map AV.int) (z := .int c) (by simp [anyL,seqL,pre_at p gc2]) (by exact z198 cl10) (by exact z483) (by rw [en]; exact e1) ?_
        walk_at "wp"
        (simp only [fmod_nn,fdiv_nn,Int.reduceLE])
        refine ⟨by decide,noPyS (by decide),mulOk_right (by decide),?_⟩
        refine idx_at (l := ms.map AV.int) (z := .int d) (by simp [anyL,seqL,pre_at p gm2]) (by rw [List.length_map,hms.len]; decide) (by exact z483) (by rw [en]; exact f1) ?_
        walk_at "wp"
        (simp only [fmod_nn,fdiv_nn,Int.reduceLE])
        refine ⟨by decide,?_⟩
        have ev : c / 6 * 6 + d % 6 = mixV cs ms k := by unfold mixV; rw [e2,f2]; rfl
        rw [ev]
        exact q H4 List.prefix_rfl
      walk_at "wp"
      refine add_at (pre_at (p.trans pre_new) at_new) at_new (by rw [List.length_map,slc_len,hc.len]; simp [lclip]) ?_
      walk_at "wp"
      have em : (lslice cs none (some 1)).map AV.int ++ (List.range ((10 : Int) - 1).toNat).map (fun k=>AV.int (mixV cs ms k)) = (lslice cs none (some 1) ++ (List.range 9).map (mixV cs ms)).map AV.int := by
        rw [List.map_append,List.map_map]; rfl
      rw [em]
      have l0 : (lslice cs none (some 1) ++ (List.range 9).map (mixV cs ms)).length = 10 := by
        rw [List.length_append,slc_len,hc.len]; simp [lclip]
      have lm : ((lslice cs none (some 1) ++ (List.range 9).map (mixV cs ms)).map AV.int).length ≤ 1000 := by rw [List.length_map,l0]; decide
      have pA : H3 <+: H4 ++ [AObj.list ((List.range ((10 : Int) - 1).toNat).map fun k=>AV.int (mixV cs ms k))] ++ [AObj.list ((lslice cs none (some 1) ++ (List.range 9).map (mixV cs ms)).map AV.int)] := (pre_new.trans p).trans (pre_new.trans pre_new)
      have gcA := pre_at pA gc1
      have gsA := pre_at pA gs1
      have gM : (H4 ++ [AObj.list ((List.range ((10 : Int) - 1).toNat).map fun k=>AV.int (mixV cs ms k))] ++ [AObj.list ((lslice cs none (some 1) ++ (List.range 9).map (mixV cs ms)).map AV.int)])[(H4 ++ [AObj.list ((List.range ((10 : Int) - 1).toNat).map fun k=>AV.int (mixV cs ms k))]).length]? = some (.list ((lslice cs none (some 1) ++ (List.range 9).map (mixV cs ms)).map AV.int)) := at_new
      generalize H4 ++ [AObj.list ((List.range ((10 : Int) - 1).toNat).map fun k=>AV.int (mixV cs ms k))] ++ [AObj.list ((lslice cs none (some 1) ++ (List.range 9).map (mixV cs ms)).map AV.int)] = H5 at gcA gsA gM
      generalize (H4 ++ [AObj.list ((List.range ((10 : Int) - 1).toNat).map fun k=>AV.int (mixV cs ms k))]).length = jm at gM
      have ln : ∀ (L : List Int) (a b : Option Int),L.length = 10 → ((lslice L a b).map AV.int).length ≤ 10 := fun L a b e=>by rw [List.length_map,← e]; exact lslice_len
      refine ⟨by decide,?_⟩
      refine wl_at gM ?_
      refine ⟨szL lm,?_⟩
      rw [lslice_map]
      walk_at "wp"
      refine ⟨by decide,by decide,?_⟩
      refine wl_at (pre_at pre_new gcA) ?_
      refine ⟨szL cl10,?_⟩
      rw [lslice_map]
      walk_at "wp"
      have n1 := ln _ none (some 6) l0
      have n2 := ln cs (some 6) (some 8) hc.len
      have n3 := ln _ (some 8) none l0
      refine add_at (pre_at pre_new at_new) at_new (by exact z484 n1 n2) ?_
      walk_at "wp"
      refine ⟨by decide,?_⟩
      refine wl_at (pre_at (pre_new.trans (pre_new.trans pre_new)) gM) ?_
      refine ⟨szL lm,?_⟩
      rw [lslice_map]
      walk_at "wp"
      refine add_at (pre_at pre_new at_new) at_new (by rw [List.length_append]; exact z485 n1 n2 n3) ?_
      walk_at "wp"
      have pB : ∀ {a b c d e : AObj},H5 <+: H5 ++ [a] ++ [b] ++ [c] ++ [d] ++ [e] := fun {a b c d e}=>(((pre_new.trans pre_new).trans pre_new).trans pre_new).trans pre_new
      refine rest _ (mixL cs ms) _ (pre_at pB gcA) (pre_at pB gsA) ?_ (mix_ok hc)
      rw [at_new,← List.map_append,← List.map_append]; rfl
    · walk_at "wp"
      exact rest im ms H3 gc1 gs1 gm1 hms.up
  · have e : rss.length ≤ 3 := by exact le_of_eq_of_le rl t3
    refine rn _ _ (cut_k 3 rfl fun R rr rn=>?_)
    walk_at "wp"
    exact rn _ _ (five ic is cs rss _ _ H' gc hc ne gs ⟨e,hr⟩)
end
section
open PySem PySem.W PyProof.Rows
set_option Elab.async false
set_option maxRecDepth 100000
set_option maxHeartbeats 8000000
noncomputable def Q : Program := view PySem.Challenge.pw_uf030003_11 [1,2,4,5,6,7,8,9,10,11,12,13,15,16,18,19,20,21,23,24,25,26,27,28,29,30,31,32,33,34,35,36,37,38,39]
noncomputable def Xt (s : Shared) : Bool := xlAt Q [(Str.ofString "BOUND",.int 1000000000000000000000000000000)] s && recOk [] s
theorem said : OpenLaw.wellSaid PySem.Challenge.rw_uf030003_11 = true := by
  rw [PySem.W.Fast.te9446332074065402090]; kernel_rfl
theorem run (w : World) (os : OsState) : headOf PySem.Challenge.pw_uf030003_11 Q [Str.ofString "BOUND"] Xt 3000 w os = some (true,openGood Q [Str.ofString "BOUND"]) := by
  rw [PySem.W.Fast.te12803096626720038307]; kernel_rfl
theorem left : LeftO PySem.Challenge.pw_uf030003_11 Q [Str.ofString "BOUND"] Xt (Hook.obs Hook.none) (Hook.val Hook.none) 3000 :=
  left_of_head (by kernel_rfl) rfl (fun _=>by kernel_rfl) rfl run
noncomputable def gt : GT := ⟨[Str.ofString "powered",Str.ofString "is_whole",Str.ofString "are_powers",Str.ofString "are_facts",Str.ofString "is_row",Str.ofString "tells_prime",Str.ofString "comes_to",Str.ofString "holds_prime",Str.ofString "holds",Str.ofString "by_numbers",Str.ofString "merged",Str.ofString "is_slip",Str.ofString "wrong_at",Str.ofString "lets_by",Str.ofString "_law_cell_at",Str.ofString "_law_mixed",Str.ofString "_law_power",Str.ofString "_law_round",Str.ofString "_law_is_prime",Str.ofString "_law_factors",Str.ofString "_law_prime_row",Str.ofString "_law_parted_row",Str.ofString "_law_big_row",Str.ofString "_law_great_row",Str.ofString "_law_needs",Str.ofString "_law_closed",Str.ofString "_law_rows_by",Str.ofString "_law_other_facts",Str.ofString "_law_spoilt",Str.ofString "_law_laid",Str.ofString "law"],[("BOUND",c_BOUND),("WORDS",c_WORDS),("MOST_TIMES",c_MOST_TIMES),("MOST_ROWS",c_MOST_ROWS)]⟩
theorem ok_powered : FnOK Q gt "powered" ["base", "exponent", "by", "found"] ["base", "exponent", "by"] m_powered :=
  ⟨⟨_,List.mem_of_getElem? (i := 0) rfl,rfl,rfl,rfl,rfl,rfl,
  (.cons (.asg (Slot.of rfl) (.bin .int (.loc rfl rfl rfl)) (fun _=>rfl))
  (.cons (.asg (Slot.of rfl) (.bin (.loc rfl rfl rfl) (.loc rfl rfl rfl)) (fun _=>rfl))
  (.cons (.whl (.cmp (.loc rfl rfl rfl) .int) (.cons (.ite (.cmp (.bin (.loc rfl rfl rfl) .int) .int) (.cons (.asg (Slot.of rfl) (.bin (.bin (.loc rfl rfl rfl) (.loc rfl rfl rfl)) (.loc rfl rfl rfl)) (fun _=>rfl))
      .nil) .nil)
    (.cons (.asg (Slot.of rfl) (.bin (.bin (.loc rfl rfl rfl) (.loc rfl rfl rfl)) (.loc rfl rfl rfl)) (fun _=>rfl))
    (.cons (.asg (Slot.of rfl) (.bin (.loc rfl rfl rfl) .int) (fun _=>rfl))
    .nil))))
  (.cons (.ret (.loc rfl rfl rfl))
  .nil)))),
  rfl,rfl,fun _ _ _=>all3 fun _ _ _=>rfl⟩⟩
theorem ok_is_whole : FnOK Q gt "is_whole" ["thing", "least", "most"] ["thing", "least", "most"] m_is_whole :=
  ⟨⟨_,List.mem_of_getElem? (i := 1) rfl,rfl,rfl,rfl,rfl,rfl,
  (.cons (.ret (.and3 (.isi ⟨rfl,rfl⟩ ⟨rfl,rfl⟩ (.loc rfl rfl rfl)) (.and2 (.not (.isi ⟨rfl,rfl⟩ ⟨rfl,rfl⟩ (.loc rfl rfl rfl))) (.cmp2 (.loc rfl rfl rfl) (.loc rfl rfl rfl) (.loc rfl rfl rfl)))))
  .nil),
  rfl,rfl,fun _ _ _=>all3 fun _ _ _=>rfl⟩⟩
theorem ok_are_powers : FnOK Q gt "are_powers" ["thing", "ahead", "pair"] ["thing"] m_are_powers :=
  ⟨⟨_,List.mem_of_getElem? (i := 2) rfl,rfl,rfl,rfl,rfl,rfl,
  (.cons (.ite (.or2 (.not (.isi ⟨rfl,rfl⟩ ⟨rfl,rfl⟩ (.loc rfl rfl rfl))) (.cmp (.bi ⟨rfl,rfl⟩ (.loc rfl rfl rfl) .nil) .int)) (.cons (.ret .bool)
    .nil) .nil)
  (.cons (.asg (Slot.of rfl) .int (fun _=>rfl))
  (.cons (.for1 (Slot.of rfl) (.plain (.loc rfl rfl rfl)) (.cons (.ite (.or2 (.not (.isi ⟨rfl,rfl⟩ ⟨rfl,rfl⟩ (.loc rfl rfl rfl))) (.cmp (.bi ⟨rfl,rfl⟩ (.loc rfl rfl rfl) .nil) .int)) (.cons (.ret .bool)
      .nil) .nil)
    (.cons (.ite (.or2 (.not (.call rfl ⟨rfl,rfl⟩ (.idx (.loc rfl rfl rfl) .int) (.cons (.bin (.loc rfl rfl rfl) .int) (.cons (.glob rfl ⟨rfl,rfl⟩) .nil)))) (.not (.call rfl ⟨rfl,rfl⟩ (.idx (.loc rfl rfl rfl) .int) (.cons .int (.cons (.glob rfl ⟨rfl,rfl⟩) .nil))))) (.cons (.ret .bool)
      .nil) .nil)
    (.cons (.asg (Slot.of rfl) (.idx (.loc rfl rfl rfl) .int) (fun _=>rfl))
    .nil))) rfl)
  (.cons (.ret .bool)
  .nil)))),
  rfl,rfl,fun _ _ _=>all1 fun _=>rfl⟩⟩
theorem ok_are_facts : FnOK Q gt "are_facts" ["word", "facts"] ["word", "facts"] m_are_facts :=
  ⟨⟨_,List.mem_of_getElem? (i := 3) rfl,rfl,rfl,rfl,rfl,rfl,
  (.cons (.ite (.cmp (.loc rfl rfl rfl) (.str (by decide +kernel))) (.cons (.ret (.cmp (.bi ⟨rfl,rfl⟩ (.loc rfl rfl rfl) .nil) .int))
    .nil) .nil)
  (.cons (.ite (.cmp (.loc rfl rfl rfl) (.str (by decide +kernel))) (.cons (.ret (.and3 (.cmp (.bi ⟨rfl,rfl⟩ (.loc rfl rfl rfl) .nil) .int) (.and2 (.call rfl ⟨rfl,rfl⟩ (.idx (.loc rfl rfl rfl) .int) (.cons .int (.cons (.glob rfl ⟨rfl,rfl⟩) .nil))) (.call rfl ⟨rfl,rfl⟩ (.idx (.loc rfl rfl rfl) .int) .nil))))
    .nil) .nil)
  (.cons (.ite (.cmp (.loc rfl rfl rfl) (.str (by decide +kernel))) (.cons (.ret (.and3 (.cmp (.bi ⟨rfl,rfl⟩ (.loc rfl rfl rfl) .nil) .int) (.and2 (.call rfl ⟨rfl,rfl⟩ (.idx (.loc rfl rfl rfl) .int) (.cons .int (.cons (.glob rfl ⟨rfl,rfl⟩) .nil))) (.call rfl ⟨rfl,rfl⟩ (.idx (.loc rfl rfl rfl) .int) (.cons .int (.cons (.glob rfl ⟨rfl,rfl⟩) .nil))))))
    .nil) .nil)
  (.cons (.ret (.and2 (.cmp (.bi ⟨rfl,rfl⟩ (.loc rfl rfl rfl) .nil) .int) (.call rfl ⟨rfl,rfl⟩ (.idx (.loc rfl rfl rfl) .int) (.cons .int (.cons (.glob rfl ⟨rfl,rfl⟩) .nil)))))
  .nil)))),
  rfl,rfl,fun _ _ _=>all2 fun _ _=>rfl⟩⟩
theorem ok_is_row : FnOK Q gt "is_row" ["thing"] ["thing"] m_is_row :=
  ⟨⟨_,List.mem_of_getElem? (i := 4) rfl,rfl,rfl,rfl,rfl,rfl,
  (.cons (.ite (.or3 (.not (.isi ⟨rfl,rfl⟩ ⟨rfl,rfl⟩ (.loc rfl rfl rfl))) (.or2 (.cmp (.bi ⟨rfl,rfl⟩ (.loc rfl rfl rfl) .nil) .int) (.not (.call rfl ⟨rfl,rfl⟩ (.idx (.loc rfl rfl rfl) .int) (.cons .int (.cons (.glob rfl ⟨rfl,rfl⟩) .nil)))))) (.cons (.ret .bool)
    .nil) .nil)
  (.cons (.ite (.or3 (.not (.isi ⟨rfl,rfl⟩ ⟨rfl,rfl⟩ (.idx (.loc rfl rfl rfl) .int))) (.or2 (.cmp (.idx (.loc rfl rfl rfl) .int) (.glob rfl ⟨rfl,rfl⟩)) (.not (.isi ⟨rfl,rfl⟩ ⟨rfl,rfl⟩ (.idx (.loc rfl rfl rfl) .int))))) (.cons (.ret .bool)
    .nil) .nil)
  (.cons (.ret (.call rfl ⟨rfl,rfl⟩ (.idx (.loc rfl rfl rfl) .int) (.cons (.idx (.loc rfl rfl rfl) .int) .nil)))
  .nil))),
  rfl,rfl,fun _ _ _=>all1 fun _=>rfl⟩⟩
theorem ok_tells_prime : FnOK Q gt "tells_prime" ["row"] ["row"] m_tells_prime :=
  ⟨⟨_,List.mem_of_getElem? (i := 5) rfl,rfl,rfl,rfl,rfl,rfl,
  (.cons (.ret (.or2 (.cmp (.idx (.loc rfl rfl rfl) .int) (.str (by decide +kernel))) (.cmp (.idx (.loc rfl rfl rfl) .int) (.str (by decide +kernel)))))
  .nil),
  rfl,rfl,fun _ _ _=>all1 fun _=>rfl⟩⟩
theorem ok_comes_to : FnOK Q gt "comes_to" ["powers", "number", "product", "q", "times", "turn"] ["powers", "number"] m_comes_to :=
  ⟨⟨_,List.mem_of_getElem? (i := 6) rfl,rfl,rfl,rfl,rfl,rfl,
  (.cons (.asg (Slot.of rfl) .int (fun _=>rfl))
  (.cons (.forT (.cons (Slot.of rfl) (.cons (Slot.of rfl) .nil)) (.plain (.loc rfl rfl rfl)) (.cons (.for1 (Slot.of rfl) (.ty (t := .range) ⟨rfl,rfl⟩ (.loc rfl rfl rfl) .nil) (.cons (.asg (Slot.of rfl) (.bin (.loc rfl rfl rfl) (.loc rfl rfl rfl)) (fun _=>rfl))
      (.cons (.ite (.cmp (.loc rfl rfl rfl) (.loc rfl rfl rfl)) (.cons (.ret .bool)
        .nil) .nil)
      .nil)) rfl)
    .nil))
  (.cons (.ret (.cmp (.loc rfl rfl rfl) (.loc rfl rfl rfl)))
  .nil))),
  rfl,rfl,fun _ _ _=>all2 fun _ _=>rfl⟩⟩
theorem ok_holds_prime : FnOK Q gt "holds_prime" ["number", "base", "powers", "primes"] ["number", "base", "powers", "primes"] m_holds_prime :=
  ⟨⟨_,List.mem_of_getElem? (i := 7) rfl,rfl,rfl,rfl,rfl,rfl,
  (.cons (.ite (.or2 (.not (.bi ⟨rfl,rfl⟩ (.comp (locals := ["q", "times"]) ⟨compGood_ok rfl,(.plain (.loc rfl rfl rfl)),(.cmp (.loc rfl rfl rfl) (.loc rfl rfl rfl)),.nil,.tup rfl (.cons (Slot.of rfl) (.cons (Slot.of rfl) .nil))⟩ (fun h=>nomatch h)) .nil)) (.not (.call rfl ⟨rfl,rfl⟩ (.loc rfl rfl rfl) (.cons (.bin (.loc rfl rfl rfl) .int) .nil)))) (.cons (.ret .bool)
    .nil) .nil)
  (.cons (.ite (.or2 (.cmp (.loc rfl rfl rfl) (.loc rfl rfl rfl)) (.cmp (.call rfl ⟨rfl,rfl⟩ (.loc rfl rfl rfl) (.cons (.bin (.loc rfl rfl rfl) .int) (.cons (.loc rfl rfl rfl) .nil))) .int)) (.cons (.ret .bool)
    .nil) .nil)
  (.cons (.ret (.bi ⟨rfl,rfl⟩ (.comp (locals := ["q", "times"]) ⟨compGood_ok rfl,(.plain (.loc rfl rfl rfl)),(.cmp (.call rfl ⟨rfl,rfl⟩ (.loc rfl rfl rfl) (.cons (.bin (.bin (.loc rfl rfl rfl) .int) (.loc rfl rfl rfl)) (.cons (.loc rfl rfl rfl) .nil))) .int),.nil,.tup rfl (.cons (Slot.of rfl) (.cons (Slot.of rfl) .nil))⟩ (fun h=>nomatch h)) .nil))
  .nil))),
  rfl,rfl,fun _ _ _=>all4 fun _ _ _ _=>rfl⟩⟩
theorem ok_holds : FnOK Q gt "holds" ["row", "primes", "number", "word", "facts", "base"] ["row", "primes"] m_holds :=
  ⟨⟨_,List.mem_of_getElem? (i := 8) rfl,rfl,rfl,rfl,rfl,rfl,
  (.cons (.asgT (.cons (Slot.of rfl) (.cons (Slot.of rfl) (.cons (Slot.of rfl) .nil))) (.loc rfl rfl rfl) (fun _=>rfl) (fun _=>rfl))
  (.cons (.ite (.cmp (.loc rfl rfl rfl) (.str (by decide +kernel))) (.cons (.ret (.cmp (.loc rfl rfl rfl) .int))
    .nil) .nil)
  (.cons (.ite (.cmp (.loc rfl rfl rfl) (.str (by decide +kernel))) (.cons (.ret (.call rfl ⟨rfl,rfl⟩ (.loc rfl rfl rfl) (.cons (.idx (.loc rfl rfl rfl) .int) (.cons (.idx (.loc rfl rfl rfl) .int) (.cons (.loc rfl rfl rfl) .nil)))))
    .nil) .nil)
  (.cons (.ite (.cmp (.loc rfl rfl rfl) (.str (by decide +kernel))) (.cons (.ret (.cmp (.bin (.idx (.loc rfl rfl rfl) .int) (.idx (.loc rfl rfl rfl) .int)) (.loc rfl rfl rfl)))
    .nil) .nil)
  (.cons (.asg (Slot.of rfl) (.idx (.loc rfl rfl rfl) .int) (fun _=>rfl))
  (.cons (.ite (.cmp (.loc rfl rfl rfl) (.str (by decide +kernel))) (.cons (.ret (.and2 (.cmp (.loc rfl rfl rfl) (.loc rfl rfl rfl)) (.cmp (.call rfl ⟨rfl,rfl⟩ (.loc rfl rfl rfl) (.cons (.bin (.loc rfl rfl rfl) .int) (.cons (.loc rfl rfl rfl) .nil))) .int)))
    .nil) .nil)
  (.cons (.ret (.and2 (.cmp2 .int (.loc rfl rfl rfl) (.bin (.loc rfl rfl rfl) .int)) (.cmp (.bin (.bin (.loc rfl rfl rfl) (.loc rfl rfl rfl)) (.loc rfl rfl rfl)) .int)))
  .nil))))))),
  rfl,rfl,fun _ _ _=>all2 fun _ _=>rfl⟩⟩
theorem ok_by_numbers : FnOK Q gt "by_numbers" ["rows", "found", "row"] ["rows"] m_by_numbers :=
  ⟨⟨_,List.mem_of_getElem? (i := 9) rfl,rfl,rfl,rfl,rfl,rfl,
  (.cons (.asg (Slot.of rfl) .dic0 (fun _=>rfl))
  (.cons (.for1 (Slot.of rfl) (.plain (.loc rfl rfl rfl)) (.cons (.ite (.cmp (.idx (.loc rfl rfl rfl) .int) (.loc rfl rfl rfl)) (.cons (.sto (.loc rfl rfl rfl) (.loc rfl rfl rfl) (.idx (.loc rfl rfl rfl) .int) (fun _=>rfl))
      .nil) .nil)
    .nil) rfl)
  (.cons (.ret (.loc rfl rfl rfl))
  .nil))),
  rfl,rfl,fun _ _ _=>all1 fun _=>rfl⟩⟩
theorem ok_merged : FnOK Q gt "merged" ["slips", "rows", "slip", "found"] ["slips"] m_merged :=
  ⟨⟨_,List.mem_of_getElem? (i := 10) rfl,rfl,rfl,rfl,rfl,rfl,
  (.cons (.asg (Slot.of rfl) (.lst .nil) (fun _=>rfl))
  (.cons (.for1 (Slot.of rfl) (.plain (.loc rfl rfl rfl)) (.cons (.asg (Slot.of rfl) (.bin (.loc rfl rfl rfl) (.bi ⟨rfl,rfl⟩ (.loc rfl rfl rfl) .nil)) (fun _=>rfl))
    .nil) rfl)
  (.cons (.asg (Slot.of rfl) (.call rfl ⟨rfl,rfl⟩ (.loc rfl rfl rfl) .nil) (fun _=>rfl))
  (.cons (.ret (.bi ⟨rfl,rfl⟩ (.comp (locals := ["number"]) ⟨compGood_ok rfl,(.plain (.bi ⟨rfl,rfl⟩ (.bi ⟨rfl,rfl⟩ (.loc rfl rfl rfl) .nil) .nil)),(.idx (.loc rfl rfl rfl) (.loc rfl rfl rfl)),.nil,.one (Slot.of rfl)⟩ (fun h=>nomatch h)) .nil))
  .nil)))),
  rfl,rfl,fun _ _ _=>all1 fun _=>rfl⟩⟩
theorem ok_is_slip : FnOK Q gt "is_slip" ["thing", "ahead", "row"] ["thing"] m_is_slip :=
  ⟨⟨_,List.mem_of_getElem? (i := 11) rfl,rfl,rfl,rfl,rfl,rfl,
  (.cons (.ite (.or2 (.not (.isi ⟨rfl,rfl⟩ ⟨rfl,rfl⟩ (.loc rfl rfl rfl))) (.not (.cmp2 .int (.bi ⟨rfl,rfl⟩ (.loc rfl rfl rfl) .nil) (.glob rfl ⟨rfl,rfl⟩)))) (.cons (.ret .bool)
    .nil) .nil)
  (.cons (.asg (Slot.of rfl) .int (fun _=>rfl))
  (.cons (.for1 (Slot.of rfl) (.plain (.loc rfl rfl rfl)) (.cons (.ite (.or2 (.not (.call rfl ⟨rfl,rfl⟩ (.loc rfl rfl rfl) .nil)) (.cmp (.idx (.loc rfl rfl rfl) .int) (.loc rfl rfl rfl))) (.cons (.ret .bool)
      .nil) .nil)
    (.cons (.asg (Slot.of rfl) (.idx (.loc rfl rfl rfl) .int) (fun _=>rfl))
    .nil)) rfl)
  (.cons (.ret .bool)
  .nil)))),
  rfl,rfl,fun _ _ _=>all1 fun _=>rfl⟩⟩
theorem ok_wrong_at : FnOK Q gt "wrong_at" ["slip", "primes", "place", "row"] ["slip"] m_wrong_at :=
  ⟨⟨_,List.mem_of_getElem? (i := 12) rfl,rfl,rfl,rfl,rfl,rfl,
  (.cons (.asg (Slot.of rfl) (.lst .nil) (fun _=>rfl))
  (.cons (.forT (.cons (Slot.of rfl) (.cons (Slot.of rfl) .nil)) (.ty (t := .enum) ⟨rfl,rfl⟩ (.loc rfl rfl rfl) .nil) (.cons (.ite (.not (.call rfl ⟨rfl,rfl⟩ (.loc rfl rfl rfl) (.cons (.loc rfl rfl rfl) .nil))) (.cons (.ret (.loc rfl rfl rfl))
      .nil) .nil)
    (.cons (.ite (.call rfl ⟨rfl,rfl⟩ (.loc rfl rfl rfl) .nil) (.cons (.expr (.meth (.loc rfl rfl rfl) (.idx (.loc rfl rfl rfl) .int) .nil ⟨fun _=>rfl⟩) (fun _=>rfl))
      .nil) .nil)
    .nil)))
  (.cons (.ret .none)
  .nil))),
  rfl,rfl,fun _ _ _=>all1 fun _=>rfl⟩⟩
theorem ok_lets_by : FnOK Q gt "lets_by" ["thing"] ["thing"] m_lets_by :=
  ⟨⟨_,List.mem_of_getElem? (i := 13) rfl,rfl,rfl,rfl,rfl,rfl,
  (.cons (.ret (.and2 (.call rfl ⟨rfl,rfl⟩ (.loc rfl rfl rfl) .nil) (.cmp (.call rfl ⟨rfl,rfl⟩ (.loc rfl rfl rfl) .nil) .none)))
  .nil),
  rfl,rfl,fun _ _ _=>all1 fun _=>rfl⟩⟩
theorem ok_law_cell_at : FnOK Q gt "_law_cell_at" ["_law_script", "_law_k"] ["_law_script", "_law_k"] m_law_cell_at :=
  ⟨⟨_,List.mem_of_getElem? (i := 14) rfl,rfl,rfl,rfl,rfl,rfl,
  (.cons (.ite (.cmp (.loc rfl rfl rfl) (.bi ⟨rfl,rfl⟩ (.loc rfl rfl rfl) .nil)) (.cons (.ret (.idx (.loc rfl rfl rfl) (.loc rfl rfl rfl)))
    .nil) .nil)
  (.cons (.ret .int)
  .nil)),
  rfl,rfl,fun _ _ _=>all2 fun _ _=>rfl⟩⟩
theorem ok_law_mixed : FnOK Q gt "_law_mixed" ["_law_script", "_law_start", "_law_many", "_law_found", "_law_more", "_law_k"] ["_law_script", "_law_start", "_law_many"] m_law_mixed :=
  ⟨⟨_,List.mem_of_getElem? (i := 15) rfl,rfl,rfl,rfl,rfl,rfl,
  (.cons (.asg (Slot.of rfl) (.lst .nil) (fun _=>rfl))
  (.cons (.asg (Slot.of rfl) .int (fun _=>rfl))
  (.cons (.for1 (Slot.of rfl) (.ty (t := .range) ⟨rfl,rfl⟩ (.loc rfl rfl rfl) .nil) (.cons (.asg (Slot.of rfl) (.bin (.bin (.bin (.bin (.bin (.loc rfl rfl rfl) .int) (.call rfl ⟨rfl,rfl⟩ (.loc rfl rfl rfl) (.cons (.bin (.loc rfl rfl rfl) (.loc rfl rfl rfl)) .nil))) (.bin .int (.loc rfl rfl rfl))) .int) .int) (fun _=>rfl))
    (.cons (.expr (.meth (.loc rfl rfl rfl) (.loc rfl rfl rfl) .nil ⟨fun _=>rfl⟩) (fun _=>rfl))
    .nil)) rfl)
  (.cons (.ret (.loc rfl rfl rfl))
  .nil)))),
  rfl,rfl,fun _ _ _=>all3 fun _ _ _=>rfl⟩⟩
theorem ok_law_power : FnOK Q gt "_law_power" ["_law_base", "_law_exponent", "_law_by", "_law_bits", "_law_found", "_law_bit"] ["_law_base", "_law_exponent", "_law_by"] m_law_power :=
  ⟨⟨_,List.mem_of_getElem? (i := 16) rfl,rfl,rfl,rfl,rfl,rfl,
  (.cons (.asg (Slot.of rfl) (.lst .nil) (fun _=>rfl))
  (.cons (.whl (.cmp (.loc rfl rfl rfl) .int) (.cons (.expr (.meth (.loc rfl rfl rfl) (.bin (.loc rfl rfl rfl) .int) .nil ⟨fun _=>rfl⟩) (fun _=>rfl))
    (.cons (.asg (Slot.of rfl) (.bin (.loc rfl rfl rfl) .int) (fun _=>rfl))
    .nil)))
  (.cons (.asg (Slot.of rfl) (.bin .int (.loc rfl rfl rfl)) (fun _=>rfl))
  (.cons (.for1 (Slot.of rfl) (.ty (t := .revd) ⟨rfl,rfl⟩ (.loc rfl rfl rfl) .nil) (.cons (.asg (Slot.of rfl) (.bin (.bin (.loc rfl rfl rfl) (.loc rfl rfl rfl)) (.loc rfl rfl rfl)) (fun _=>rfl))
    (.cons (.ite (.cmp (.loc rfl rfl rfl) .int) (.cons (.asg (Slot.of rfl) (.bin (.bin (.loc rfl rfl rfl) (.loc rfl rfl rfl)) (.loc rfl rfl rfl)) (fun _=>rfl))
      .nil) .nil)
    .nil)) rfl)
  (.cons (.ret (.loc rfl rfl rfl))
  .nil))))),
  rfl,rfl,fun _ _ _=>all3 fun _ _ _=>rfl⟩⟩
theorem ok_law_round : FnOK Q gt "_law_round" ["_law_number", "_law_base", "_law_powers", "_law_q", "_law_times"] ["_law_number", "_law_base", "_law_powers"] m_law_round :=
  ⟨⟨_,List.mem_of_getElem? (i := 17) rfl,rfl,rfl,rfl,rfl,rfl,
  (.cons (.ite (.cmp (.call rfl ⟨rfl,rfl⟩ (.loc rfl rfl rfl) (.cons (.bin (.loc rfl rfl rfl) .int) (.cons (.loc rfl rfl rfl) .nil))) .int) (.cons (.ret .bool)
    .nil) .nil)
  (.cons (.forT (.cons (Slot.of rfl) (.cons (Slot.of rfl) .nil)) (.plain (.loc rfl rfl rfl)) (.cons (.ite (.cmp (.call rfl ⟨rfl,rfl⟩ (.loc rfl rfl rfl) (.cons (.bin (.bin (.loc rfl rfl rfl) .int) (.loc rfl rfl rfl)) (.cons (.loc rfl rfl rfl) .nil))) .int) (.cons (.ret .bool)
      .nil) .nil)
    .nil))
  (.cons (.ret .bool)
  .nil))),
  rfl,rfl,fun _ _ _=>all3 fun _ _ _=>rfl⟩⟩
theorem ok_law_is_prime : FnOK Q gt "_law_is_prime" ["_law_number", "_law_at"] ["_law_number"] m_law_is_prime :=
  ⟨⟨_,List.mem_of_getElem? (i := 18) rfl,rfl,rfl,rfl,rfl,rfl,
  (.cons (.asg (Slot.of rfl) .int (fun _=>rfl))
  (.cons (.whl (.cmp (.bin (.loc rfl rfl rfl) (.loc rfl rfl rfl)) (.loc rfl rfl rfl)) (.cons (.ite (.cmp (.bin (.loc rfl rfl rfl) (.loc rfl rfl rfl)) .int) (.cons (.ret .bool)
      .nil) .nil)
    (.cons (.asg (Slot.of rfl) (.bin (.loc rfl rfl rfl) .int) (fun _=>rfl))
    .nil)))
  (.cons (.ret (.cmp (.loc rfl rfl rfl) .int))
  .nil))),
  rfl,rfl,fun _ _ _=>all1 fun _=>rfl⟩⟩
theorem ok_law_factors : FnOK Q gt "_law_factors" ["_law_number", "_law_found", "_law_at", "_law_times"] ["_law_number"] m_law_factors :=
  ⟨⟨_,List.mem_of_getElem? (i := 19) rfl,rfl,rfl,rfl,rfl,rfl,
  (.cons (.asg (Slot.of rfl) (.lst .nil) (fun _=>rfl))
  (.cons (.asg (Slot.of rfl) .int (fun _=>rfl))
  (.cons (.whl (.cmp (.loc rfl rfl rfl) .int) (.cons (.asg (Slot.of rfl) .int (fun _=>rfl))
    (.cons (.whl (.cmp (.bin (.loc rfl rfl rfl) (.loc rfl rfl rfl)) .int) (.cons (.asg (Slot.of rfl) (.bin (.loc rfl rfl rfl) (.loc rfl rfl rfl)) (fun _=>rfl))
      (.cons (.asg (Slot.of rfl) (.bin (.loc rfl rfl rfl) .int) (fun _=>rfl))
      .nil)))
    (.cons (.ite (.cmp (.loc rfl rfl rfl) .int) (.cons (.expr (.meth (.loc rfl rfl rfl) (.tup (.cons (.loc rfl rfl rfl) (.cons (.loc rfl rfl rfl) .nil))) .nil ⟨fun _=>rfl⟩) (fun _=>rfl))
      .nil) .nil)
    (.cons (.asg (Slot.of rfl) (.bin (.loc rfl rfl rfl) .int) (fun _=>rfl))
    .nil)))))
  (.cons (.ret (.bi ⟨rfl,rfl⟩ (.loc rfl rfl rfl) .nil))
  .nil)))),
  rfl,rfl,fun _ _ _=>all1 fun _=>rfl⟩⟩
theorem ok_law_prime_row : FnOK Q gt "_law_prime_row" ["_law_number", "_law_cell", "_law_powers", "_law_base"] ["_law_number", "_law_cell"] m_law_prime_row :=
  ⟨⟨_,List.mem_of_getElem? (i := 20) rfl,rfl,rfl,rfl,rfl,rfl,
  (.cons (.ite (.cmp (.loc rfl rfl rfl) .int) (.cons (.ret (.tup (.cons .int (.cons (.str (by decide +kernel)) (.cons (.tup .nil) .nil)))))
    .nil) .nil)
  (.cons (.asg (Slot.of rfl) (.call rfl ⟨rfl,rfl⟩ (.bin (.loc rfl rfl rfl) .int) .nil) (fun _=>rfl))
  (.cons (.asg (Slot.of rfl) (.bin .int (.bin (.loc rfl rfl rfl) (.bin (.loc rfl rfl rfl) .int))) (fun _=>rfl))
  (.cons (.whl (.not (.call rfl ⟨rfl,rfl⟩ (.loc rfl rfl rfl) (.cons (.loc rfl rfl rfl) (.cons (.loc rfl rfl rfl) .nil)))) (.cons (.asg (Slot.of rfl) (.bin (.bin (.loc rfl rfl rfl) (.bin (.loc rfl rfl rfl) .int)) .int) (fun _=>rfl))
    .nil))
  (.cons (.ret (.tup (.cons (.loc rfl rfl rfl) (.cons (.str (by decide +kernel)) (.cons (.tup (.cons (.loc rfl rfl rfl) (.cons (.loc rfl rfl rfl) .nil))) .nil)))))
  .nil))))),
  rfl,rfl,fun _ _ _=>all2 fun _ _=>rfl⟩⟩
theorem ok_law_parted_row : FnOK Q gt "_law_parted_row" ["_law_number", "_law_cell", "_law_parts", "_law_roots", "_law_a", "_law_base"] ["_law_number", "_law_cell"] m_law_parted_row :=
  ⟨⟨_,List.mem_of_getElem? (i := 21) rfl,rfl,rfl,rfl,rfl,rfl,
  (.cons (.asgC (locals := ["_law_at"]) (Slot.of rfl) ⟨compGood_ok rfl,(.ty (t := .range) ⟨rfl,rfl⟩ .int (.cons (.loc rfl rfl rfl) .nil)),(.loc rfl rfl rfl),(.one (.cmp (.bin (.loc rfl rfl rfl) (.loc rfl rfl rfl)) .int)),.one (Slot.of rfl)⟩ (fun h=>nomatch h))
  (.cons (.asgC (locals := ["_law_at"]) (Slot.of rfl) ⟨compGood_ok rfl,(.ty (t := .range) ⟨rfl,rfl⟩ .int (.cons (.bin (.loc rfl rfl rfl) .int) .nil)),(.loc rfl rfl rfl),(.one (.cmp (.bin (.bin (.loc rfl rfl rfl) (.loc rfl rfl rfl)) (.loc rfl rfl rfl)) .int)),.one (Slot.of rfl)⟩ (fun h=>nomatch h))
  (.cons (.asg (Slot.of rfl) (.idx (.loc rfl rfl rfl) (.bin (.bin (.loc rfl rfl rfl) .int) (.bi ⟨rfl,rfl⟩ (.loc rfl rfl rfl) .nil))) (fun _=>rfl))
  (.cons (.ite (.and2 (.cmp (.bin (.loc rfl rfl rfl) .int) .int) (.cmp (.bi ⟨rfl,rfl⟩ (.loc rfl rfl rfl) .nil) .int)) (.cons (.ret (.tup (.cons (.loc rfl rfl rfl) (.cons (.str (by decide +kernel)) (.cons (.tup (.cons (.idx (.loc rfl rfl rfl) (.bin (.bin (.loc rfl rfl rfl) .int) (.bi ⟨rfl,rfl⟩ (.loc rfl rfl rfl) .nil))) .nil)) .nil)))))
    .nil) .nil)
  (.cons (.ite (.cmp (.bin (.loc rfl rfl rfl) .int) .int) (.cons (.ret (.tup (.cons (.loc rfl rfl rfl) (.cons (.str (by decide +kernel)) (.cons (.tup (.cons (.loc rfl rfl rfl) (.cons (.bin (.loc rfl rfl rfl) (.loc rfl rfl rfl)) .nil))) .nil)))))
    .nil) .nil)
  (.cons (.asg (Slot.of rfl) (.bin .int (.bin (.bin (.loc rfl rfl rfl) .int) (.bin (.loc rfl rfl rfl) .int))) (fun _=>rfl))
  (.cons (.whl (.cmp (.call rfl ⟨rfl,rfl⟩ (.loc rfl rfl rfl) (.cons (.bin (.loc rfl rfl rfl) .int) (.cons (.loc rfl rfl rfl) .nil))) .int) (.cons (.asg (Slot.of rfl) (.bin (.bin (.loc rfl rfl rfl) (.bin (.loc rfl rfl rfl) .int)) .int) (fun _=>rfl))
    .nil))
  (.cons (.ret (.tup (.cons (.loc rfl rfl rfl) (.cons (.str (by decide +kernel)) (.cons (.tup (.cons (.loc rfl rfl rfl) .nil)) .nil)))))
  .nil)))))))),
  rfl,rfl,fun _ _ _=>all2 fun _ _=>rfl⟩⟩
theorem ok_law_big_row : FnOK Q gt "_law_big_row" ["_law_cell", "_law_some", "_law_number", "_law_base", "_law_powers"] ["_law_cell"] m_law_big_row :=
  ⟨⟨_,List.mem_of_getElem? (i := 22) rfl,rfl,rfl,rfl,rfl,rfl,
  (.cons (.asg (Slot.of rfl) (.lst (.cons (.tup (.cons .int (.cons .int (.cons (.tup (.cons (.tup (.cons .int (.cons .int .nil))) .nil)) .nil)))) (.cons (.tup (.cons .int (.cons .int (.cons (.tup (.cons (.tup (.cons .int (.cons .int .nil))) (.cons (.tup (.cons .int (.cons .int .nil))) (.cons (.tup (.cons .int (.cons .int .nil))) .nil)))) .nil)))) .nil))) (fun _=>rfl))
  (.cons (.asg (Slot.of rfl) (.bin (.loc rfl rfl rfl) (.lst (.cons (.tup (.cons .int (.cons .int (.cons (.tup (.cons (.tup (.cons .int (.cons .int .nil))) (.cons (.tup (.cons .int (.cons .int .nil))) (.cons (.tup (.cons .int (.cons .int .nil))) .nil)))) .nil)))) (.cons (.tup (.cons .int (.cons .int (.cons (.tup (.cons (.tup (.cons .int (.cons .int .nil))) (.cons (.tup (.cons .int (.cons .int .nil))) .nil))) .nil)))) .nil)))) (fun _=>rfl))
  (.cons (.asgT (.cons (Slot.of rfl) (.cons (Slot.of rfl) (.cons (Slot.of rfl) .nil))) (.idx (.loc rfl rfl rfl) (.bin (.loc rfl rfl rfl) .int)) (fun _=>rfl) (fun _=>rfl))
  (.cons (.asg (Slot.of rfl) (.call rfl ⟨rfl,rfl⟩ (.loc rfl rfl rfl) (.cons (.idx (.lst (.cons .int (.cons .int (.cons .int (.cons .int (.cons .int .nil)))))) (.bin (.bin (.loc rfl rfl rfl) .int) .int)) (.cons (.loc rfl rfl rfl) .nil))) (fun _=>rfl))
  (.cons (.ret (.tup (.cons (.loc rfl rfl rfl) (.cons (.str (by decide +kernel)) (.cons (.tup (.cons (.loc rfl rfl rfl) (.cons (.loc rfl rfl rfl) .nil))) .nil)))))
  .nil))))),
  rfl,rfl,fun _ _ _=>all1 fun _=>rfl⟩⟩
theorem ok_law_great_row : FnOK Q gt "_law_great_row" ["_law_cell", "_law_more", "_law_a", "_law_b"] ["_law_cell", "_law_more"] m_law_great_row :=
  ⟨⟨_,List.mem_of_getElem? (i := 23) rfl,rfl,rfl,rfl,rfl,rfl,
  (.cons (.asg (Slot.of rfl) (.bin .int (.bin (.bin (.bin (.loc rfl rfl rfl) .int) (.loc rfl rfl rfl)) (.bin .int .int))) (fun _=>rfl))
  (.cons (.asg (Slot.of rfl) (.bin .int (.bin (.bin (.bin (.loc rfl rfl rfl) .int) (.loc rfl rfl rfl)) (.bin (.bin .int .int) .int))) (fun _=>rfl))
  (.cons (.ite (.cmp (.bin (.loc rfl rfl rfl) .int) .int) (.cons (.ret (.tup (.cons (.bin (.loc rfl rfl rfl) (.loc rfl rfl rfl)) (.cons (.str (by decide +kernel)) (.cons (.tup (.cons (.loc rfl rfl rfl) (.cons (.loc rfl rfl rfl) .nil))) .nil)))))
    .nil) .nil)
  (.cons (.ite (.cmp (.bin (.loc rfl rfl rfl) .int) .int) (.cons (.ret (.tup (.cons (.bin (.loc rfl rfl rfl) (.loc rfl rfl rfl)) (.cons (.str (by decide +kernel)) (.cons (.tup (.cons (.loc rfl rfl rfl) .nil)) .nil)))))
    .nil) .nil)
  (.cons (.ret (.tup (.cons (.bin (.bin (.bin (.loc rfl rfl rfl) .int) (.bin (.loc rfl rfl rfl) .int)) .int) (.cons (.str (by decide +kernel)) (.cons (.tup (.cons (.bin (.loc rfl rfl rfl) .int) .nil)) .nil)))))
  .nil))))),
  rfl,rfl,fun _ _ _=>all2 fun _ _=>rfl⟩⟩
theorem ok_law_needs : FnOK Q gt "_law_needs" ["_law_row"] ["_law_row"] m_law_needs :=
  ⟨⟨_,List.mem_of_getElem? (i := 24) rfl,rfl,rfl,rfl,rfl,rfl,
  (.cons (.ite (.cmp (.idx (.loc rfl rfl rfl) .int) (.str (by decide +kernel))) (.cons (.ret (.comp (locals := ["_law_q", "_law_times"]) ⟨compGood_ok rfl,(.plain (.idx (.idx (.loc rfl rfl rfl) .int) .int)),(.loc rfl rfl rfl),.nil,.tup rfl (.cons (Slot.of rfl) (.cons (Slot.of rfl) .nil))⟩ (fun h=>nomatch h)))
    .nil) .nil)
  (.cons (.ret (.lst .nil))
  .nil)),
  rfl,rfl,fun _ _ _=>all1 fun _=>rfl⟩⟩
theorem ok_law_closed : FnOK Q gt "_law_closed" ["_law_rows", "_law_waiting", "_law_cells", "_law_here", "_law_cell"] ["_law_rows", "_law_waiting", "_law_cells"] m_law_closed :=
  ⟨⟨_,List.mem_of_getElem? (i := 25) rfl,rfl,rfl,rfl,rfl,rfl,
  (.cons (.whl (.cmp (.bi ⟨rfl,rfl⟩ (.loc rfl rfl rfl) .nil) .int) (.cons (.asg (Slot.of rfl) (.meth0 (.loc rfl rfl rfl) ⟨fun _=>rfl⟩) (fun _=>rfl))
    (.cons (.ite (.cmp (.loc rfl rfl rfl) (.loc rfl rfl rfl)) (.cons (.asg (Slot.of rfl) (.idx (.loc rfl rfl rfl) (.bin (.bin (.loc rfl rfl rfl) (.bi ⟨rfl,rfl⟩ (.loc rfl rfl rfl) .nil)) (.bi ⟨rfl,rfl⟩ (.loc rfl rfl rfl) .nil))) (fun _=>rfl))
      (.cons (.ite (.call rfl ⟨rfl,rfl⟩ (.loc rfl rfl rfl) .nil) (.cons (.sto (.call rfl ⟨rfl,rfl⟩ (.loc rfl rfl rfl) (.cons (.loc rfl rfl rfl) .nil)) (.loc rfl rfl rfl) (.loc rfl rfl rfl) (fun _=>rfl))
        .nil) (.cons (.sto (.call rfl ⟨rfl,rfl⟩ (.loc rfl rfl rfl) (.cons (.loc rfl rfl rfl) .nil)) (.loc rfl rfl rfl) (.loc rfl rfl rfl) (fun _=>rfl))
        .nil))
      (.cons (.expr (.meth (.loc rfl rfl rfl) (.call rfl ⟨rfl,rfl⟩ (.idx (.loc rfl rfl rfl) (.loc rfl rfl rfl)) .nil) .nil ⟨fun _=>rfl⟩) (fun _=>rfl))
      .nil))) .nil)
    .nil)))
  (.cons (.ret (.comp (locals := ["_law_number"]) ⟨compGood_ok rfl,(.plain (.bi ⟨rfl,rfl⟩ (.loc rfl rfl rfl) .nil)),(.idx (.loc rfl rfl rfl) (.loc rfl rfl rfl)),.nil,.one (Slot.of rfl)⟩ (fun h=>nomatch h)))
  .nil)),
  rfl,rfl,fun _ _ _=>all3 fun _ _ _=>rfl⟩⟩
theorem ok_law_rows_by : FnOK Q gt "_law_rows_by" ["_law_cells", "_law_rows", "_law_waiting", "_law_row"] ["_law_cells"] m_law_rows_by :=
  ⟨⟨_,List.mem_of_getElem? (i := 26) rfl,rfl,rfl,rfl,rfl,rfl,
  (.cons (.asg (Slot.of rfl) .dic0 (fun _=>rfl))
  (.cons (.asgC (locals := ["_law_k"]) (Slot.of rfl) ⟨compGood_ok rfl,(.ty (t := .range) ⟨rfl,rfl⟩ (.bin .int (.bin (.idx (.loc rfl rfl rfl) .int) .int)) .nil),(.bin .int (.bin (.bin (.idx (.loc rfl rfl rfl) (.loc rfl rfl rfl)) .int) (.idx (.lst (.cons .int (.cons .int .nil))) (.bin (.bin (.idx (.loc rfl rfl rfl) (.loc rfl rfl rfl)) .int) .int)))),.nil,.one (Slot.of rfl)⟩ (fun h=>nomatch h))
  (.cons (.ite (.cmp (.bin (.idx (.loc rfl rfl rfl) .int) .int) .int) (.cons (.asg (Slot.of rfl) (.call rfl ⟨rfl,rfl⟩ (.bin (.idx (.loc rfl rfl rfl) .int) .int) .nil) (fun _=>rfl))
    (.cons (.sto (.loc rfl rfl rfl) (.loc rfl rfl rfl) (.idx (.loc rfl rfl rfl) .int) (fun _=>rfl))
    (.cons (.expr (.meth (.loc rfl rfl rfl) (.call rfl ⟨rfl,rfl⟩ (.loc rfl rfl rfl) .nil) .nil ⟨fun _=>rfl⟩) (fun _=>rfl))
    .nil))) .nil)
  (.cons (.ite (.cmp (.bin (.idx (.loc rfl rfl rfl) .int) .int) .int) (.cons (.asg (Slot.of rfl) (.call rfl ⟨rfl,rfl⟩ (.idx (.loc rfl rfl rfl) .int) (.cons (.idx (.loc rfl rfl rfl) .int) .nil)) (fun _=>rfl))
    (.cons (.sto (.loc rfl rfl rfl) (.loc rfl rfl rfl) (.idx (.loc rfl rfl rfl) .int) (fun _=>rfl))
    .nil)) .nil)
  (.cons (.ret (.call rfl ⟨rfl,rfl⟩ (.loc rfl rfl rfl) (.cons (.loc rfl rfl rfl) (.cons (.loc rfl rfl rfl) .nil))))
  .nil))))),
  rfl,rfl,fun _ _ _=>all1 fun _=>rfl⟩⟩
theorem ok_law_other_facts : FnOK Q gt "_law_other_facts" ["_law_row", "_law_kind", "_law_more", "_law_number", "_law_word", "_law_facts", "_law_base", "_law_powers", "_law_at"] ["_law_row", "_law_kind", "_law_more"] m_law_other_facts :=
  ⟨⟨_,List.mem_of_getElem? (i := 27) rfl,rfl,rfl,rfl,rfl,rfl,
  (.cons (.asgT (.cons (Slot.of rfl) (.cons (Slot.of rfl) (.cons (Slot.of rfl) .nil))) (.loc rfl rfl rfl) (fun _=>rfl) (fun _=>rfl))
  (.cons (.ite (.cmp (.loc rfl rfl rfl) (.str (by decide +kernel))) (.cons (.ret (.tup (.cons (.loc rfl rfl rfl) (.cons (.loc rfl rfl rfl) (.cons (.tup (.cons (.bin (.bin (.idx (.loc rfl rfl rfl) .int) .int) (.bin (.loc rfl rfl rfl) .int)) (.cons (.bin (.idx (.loc rfl rfl rfl) .int) (.bin (.loc rfl rfl rfl) .int)) .nil))) .nil)))))
    .nil) .nil)
  (.cons (.ite (.cmp (.loc rfl rfl rfl) (.str (by decide +kernel))) (.cons (.ret (.tup (.cons (.loc rfl rfl rfl) (.cons (.str (by decide +kernel)) (.cons (.tup (.cons (.bin .int (.bin (.loc rfl rfl rfl) .int)) .nil)) .nil)))))
    .nil) .nil)
  (.cons (.asg (Slot.of rfl) (.idx (.loc rfl rfl rfl) .int) (fun _=>rfl))
  (.cons (.ite (.cmp (.loc rfl rfl rfl) .int) (.cons (.asg (Slot.of rfl) (.idx (.lst (.cons (.bin (.loc rfl rfl rfl) .int) (.cons .int (.cons (.loc rfl rfl rfl) (.cons (.bi ⟨rfl,rfl⟩ (.bin (.loc rfl rfl rfl) (.loc rfl rfl rfl)) (.cons (.bin .int .int) .nil)) .nil))))) (.loc rfl rfl rfl)) (fun _=>rfl))
    (.cons (.ret (.tup (.cons (.loc rfl rfl rfl) (.cons (.loc rfl rfl rfl) (.cons (.bin (.tup (.cons (.loc rfl rfl rfl) .nil)) (.slcT (.loc rfl rfl rfl) (.some .int) .none)) .nil)))))
    .nil)) .nil)
  (.cons (.ite (.or2 (.cmp (.loc rfl rfl rfl) (.str (by decide +kernel))) (.cmp (.loc rfl rfl rfl) (.str (by decide +kernel)))) (.cons (.ret (.tup (.cons (.loc rfl rfl rfl) (.cons (.idx (.lst (.cons (.str (by decide +kernel)) (.cons (.str (by decide +kernel)) .nil))) (.bi ⟨rfl,rfl⟩ (.cmp (.loc rfl rfl rfl) (.str (by decide +kernel))) .nil)) (.cons (.loc rfl rfl rfl) .nil)))))
    .nil) .nil)
  (.cons (.asg (Slot.of rfl) (.bi ⟨rfl,rfl⟩ (.idx (.loc rfl rfl rfl) .int) .nil) (fun _=>rfl))
  (.cons (.asg (Slot.of rfl) (.bin (.loc rfl rfl rfl) (.bi ⟨rfl,rfl⟩ (.loc rfl rfl rfl) .nil)) (fun _=>rfl))
  (.cons (.ite (.cmp (.loc rfl rfl rfl) .int) (.cons (.sto (.tup (.cons (.idx (.idx (.loc rfl rfl rfl) (.loc rfl rfl rfl)) .int) (.cons (.bin (.bin (.idx (.idx (.loc rfl rfl rfl) (.loc rfl rfl rfl)) .int) .int) .int) .nil))) (.loc rfl rfl rfl) (.loc rfl rfl rfl) (fun _=>rfl))
    .nil) (.cons (.ite (.and2 (.cmp (.loc rfl rfl rfl) .int) (.cmp (.bi ⟨rfl,rfl⟩ (.loc rfl rfl rfl) .nil) .int)) (.cons (.asg (Slot.of rfl) (.bin (.slc (.loc rfl rfl rfl) .none (.some (.loc rfl rfl rfl))) (.slc (.loc rfl rfl rfl) (.some (.bin (.loc rfl rfl rfl) .int)) .none)) (fun _=>rfl))
      .nil) (.cons (.ite (.cmp (.loc rfl rfl rfl) .int) (.cons (.asg (Slot.of rfl) (.bin (.loc rfl rfl rfl) (.lst (.cons (.tup (.cons (.bin (.bin (.idx (.idx (.loc rfl rfl rfl) (.neg .int)) .int) .int) (.bin (.loc rfl rfl rfl) .int)) (.cons .int .nil))) .nil))) (fun _=>rfl))
        .nil) (.cons (.ite (.cmp (.bin (.loc rfl rfl rfl) .int) .int) (.cons (.ret (.tup (.cons (.loc rfl rfl rfl) (.cons (.str (by decide +kernel)) (.cons (.tup (.cons (.loc rfl rfl rfl) .nil)) .nil)))))
          .nil) (.cons (.asg (Slot.of rfl) (.call rfl ⟨rfl,rfl⟩ (.loc rfl rfl rfl) (.cons (.idx (.idx (.loc rfl rfl rfl) (.loc rfl rfl rfl)) .int) (.cons (.loc rfl rfl rfl) .nil))) (fun _=>rfl))
          .nil))
        .nil))
      .nil))
    .nil))
  (.cons (.ret (.tup (.cons (.loc rfl rfl rfl) (.cons (.loc rfl rfl rfl) (.cons (.tup (.cons (.bi ⟨rfl,rfl⟩ .int (.cons (.loc rfl rfl rfl) .nil)) (.cons (.bi ⟨rfl,rfl⟩ (.loc rfl rfl rfl) .nil) .nil))) .nil)))))
  .nil)))))))))),
  rfl,rfl,fun _ _ _=>all3 fun _ _ _=>rfl⟩⟩
theorem ok_law_spoilt : FnOK Q gt "_law_spoilt" ["_law_rows", "_law_cell", "_law_more", "_law_at", "_law_kind", "_law_row"] ["_law_rows", "_law_cell", "_law_more"] m_law_spoilt :=
  ⟨⟨_,List.mem_of_getElem? (i := 28) rfl,rfl,rfl,rfl,rfl,rfl,
  (.cons (.asg (Slot.of rfl) (.bin (.loc rfl rfl rfl) (.bi ⟨rfl,rfl⟩ (.loc rfl rfl rfl) .nil)) (fun _=>rfl))
  (.cons (.asg (Slot.of rfl) (.bin (.bin (.loc rfl rfl rfl) .int) .int) (fun _=>rfl))
  (.cons (.asg (Slot.of rfl) (.idx (.loc rfl rfl rfl) (.loc rfl rfl rfl)) (fun _=>rfl))
  (.cons (.ite (.and2 (.cmp (.loc rfl rfl rfl) .int) (.cmp (.bi ⟨rfl,rfl⟩ (.loc rfl rfl rfl) .nil) .int)) (.cons (.ret (.bin (.slc (.loc rfl rfl rfl) .none (.some (.loc rfl rfl rfl))) (.slc (.loc rfl rfl rfl) (.some (.bin (.loc rfl rfl rfl) .int)) .none)))
    .nil) .nil)
  (.cons (.ite (.and2 (.cmp (.loc rfl rfl rfl) .int) (.or2 (.cmp (.loc rfl rfl rfl) (.bin (.bi ⟨rfl,rfl⟩ (.loc rfl rfl rfl) .nil) .int)) (.cmp (.idx (.idx (.loc rfl rfl rfl) (.bin (.loc rfl rfl rfl) .int)) .int) (.bin (.idx (.loc rfl rfl rfl) .int) .int)))) (.cons (.ret (.bin (.bin (.slc (.loc rfl rfl rfl) .none (.some (.loc rfl rfl rfl))) (.lst (.cons (.tup (.cons (.bin (.idx (.loc rfl rfl rfl) .int) .int) (.cons (.idx (.loc rfl rfl rfl) .int) (.cons (.idx (.loc rfl rfl rfl) .int) .nil)))) .nil))) (.slc (.loc rfl rfl rfl) (.some (.bin (.loc rfl rfl rfl) .int)) .none)))
    .nil) .nil)
  (.cons (.ret (.bin (.bin (.slc (.loc rfl rfl rfl) .none (.some (.loc rfl rfl rfl))) (.lst (.cons (.call rfl ⟨rfl,rfl⟩ (.loc rfl rfl rfl) (.cons (.bin (.loc rfl rfl rfl) .int) (.cons (.loc rfl rfl rfl) .nil))) .nil))) (.slc (.loc rfl rfl rfl) (.some (.bin (.loc rfl rfl rfl) .int)) .none)))
  .nil)))))),
  rfl,rfl,fun _ _ _=>all3 fun _ _ _=>rfl⟩⟩
theorem ok_law_laid : FnOK Q gt "_law_laid" ["_law_slips", "_law_by", "_law_slip", "_law_row"] ["_law_slips"] m_law_laid :=
  ⟨⟨_,List.mem_of_getElem? (i := 29) rfl,rfl,rfl,rfl,rfl,rfl,
  (.cons (.asg (Slot.of rfl) .dic0 (fun _=>rfl))
  (.cons (.for1 (Slot.of rfl) (.plain (.loc rfl rfl rfl)) (.cons (.for1 (Slot.of rfl) (.plain (.loc rfl rfl rfl)) (.cons (.ite (.cmp (.idx (.loc rfl rfl rfl) .int) (.loc rfl rfl rfl)) (.cons (.sto (.loc rfl rfl rfl) (.loc rfl rfl rfl) (.idx (.loc rfl rfl rfl) .int) (fun _=>rfl))
        .nil) .nil)
      .nil) rfl)
    .nil) rfl)
  (.cons (.ret (.bi ⟨rfl,rfl⟩ (.comp (locals := ["_law_number"]) ⟨compGood_ok rfl,(.plain (.bi ⟨rfl,rfl⟩ (.loc rfl rfl rfl) .nil)),(.idx (.loc rfl rfl rfl) (.loc rfl rfl rfl)),.nil,.one (Slot.of rfl)⟩ (fun h=>nomatch h)) .nil))
  .nil))),
  rfl,rfl,fun _ _ _=>all1 fun _=>rfl⟩⟩
theorem ok_law : FnOK Q gt "law" ["_law_script", "_law_cells", "_law_slips", "_law_k", "_law_more", "_law_good", "_law_at", "_law_handed", "_law_found", "_law_turned"] ["_law_script"] m_law :=
  ⟨⟨_,List.mem_of_getElem? (i := 30) rfl,rfl,rfl,rfl,rfl,rfl,
  (.cons (.asg (Slot.of rfl) (.call rfl ⟨rfl,rfl⟩ (.loc rfl rfl rfl) (.cons .int (.cons .int .nil))) (fun _=>rfl))
  (.cons (.asg (Slot.of rfl) (.lst .nil) (fun _=>rfl))
  (.cons (.for1 (Slot.of rfl) (.ty (t := .range) ⟨rfl,rfl⟩ (.bin (.call rfl ⟨rfl,rfl⟩ (.loc rfl rfl rfl) (.cons .int .nil)) .int) .nil) (.cons (.asg (Slot.of rfl) (.call rfl ⟨rfl,rfl⟩ (.loc rfl rfl rfl) (.cons (.bin .int (.bin .int (.loc rfl rfl rfl))) (.cons .int .nil))) (fun _=>rfl))
    (.cons (.ite (.cmp (.bin (.idx (.loc rfl rfl rfl) .int) .int) .int) (.cons (.asg (Slot.of rfl) (.bin (.slc (.loc rfl rfl rfl) .none (.some .int)) (.comp (locals := ["_law_j"]) ⟨compGood_ok rfl,(.ty (t := .range) ⟨rfl,rfl⟩ .int (.cons .int .nil)),(.bin (.bin (.bin (.idx (.loc rfl rfl rfl) (.loc rfl rfl rfl)) .int) .int) (.bin (.idx (.loc rfl rfl rfl) (.loc rfl rfl rfl)) .int)),.nil,.one (Slot.of rfl)⟩ (fun h=>nomatch h))) (fun _=>rfl))
      (.cons (.asg (Slot.of rfl) (.bin (.bin (.slc (.loc rfl rfl rfl) .none (.some .int)) (.slc (.loc rfl rfl rfl) (.some .int) (.some .int))) (.slc (.loc rfl rfl rfl) (.some .int) .none)) (fun _=>rfl))
      .nil)) .nil)
    (.cons (.expr (.meth (.loc rfl rfl rfl) (.bi ⟨rfl,rfl⟩ (.call rfl ⟨rfl,rfl⟩ (.loc rfl rfl rfl) .nil) .nil) .nil ⟨fun _=>rfl⟩) (fun _=>rfl))
    .nil))) rfl)
  (.cons (.asg (Slot.of rfl) .bool (fun _=>rfl))
  (.cons (.ite (.and2 (.cmp (.bin (.idx (.loc rfl rfl rfl) .int) .int) .int) (.cmp (.bi ⟨rfl,rfl⟩ (.loc rfl rfl rfl) .nil) .int)) (.cons (.asg (Slot.of rfl) (.bin (.bin (.idx (.loc rfl rfl rfl) .int) .int) (.bi ⟨rfl,rfl⟩ (.loc rfl rfl rfl) .nil)) (fun _=>rfl))
    (.cons (.sto (.bi ⟨rfl,rfl⟩ (.call rfl ⟨rfl,rfl⟩ (.bi ⟨rfl,rfl⟩ (.idx (.loc rfl rfl rfl) (.loc rfl rfl rfl)) .nil) (.cons (.bin (.idx (.loc rfl rfl rfl) .int) .int) (.cons (.idx (.loc rfl rfl rfl) .int) .nil))) .nil) (.loc rfl rfl rfl) (.loc rfl rfl rfl) (fun _=>rfl))
    (.cons (.asg (Slot.of rfl) .bool (fun _=>rfl))
    .nil))) .nil)
  (.cons (.ite (.cmp (.bin (.bin (.idx (.loc rfl rfl rfl) .int) .int) .int) .int) (.cons (.expr (.meth (.loc rfl rfl rfl) .int (.cons (.bi ⟨rfl,rfl⟩ (.comp (locals := ["_law_k"]) ⟨compGood_ok rfl,(.ty (t := .range) ⟨rfl,rfl⟩ .int .nil),(.tup (.cons (.bin .int (.loc rfl rfl rfl)) (.cons (.str (by decide +kernel)) (.cons (.tup (.cons (.bin .int (.loc rfl rfl rfl)) .nil)) .nil)))),.nil,.one (Slot.of rfl)⟩ (fun h=>nomatch h)) .nil) .nil) ⟨fun _=>rfl⟩) (fun _=>rfl))
    (.cons (.expr (.meth (.loc rfl rfl rfl) (.bi ⟨rfl,rfl⟩ (.comp (locals := ["_law_k"]) ⟨compGood_ok rfl,(.ty (t := .range) ⟨rfl,rfl⟩ (.bin .int (.bin (.idx (.loc rfl rfl rfl) .int) .int)) .nil),(.tup (.cons (.bin .int (.bin .int (.loc rfl rfl rfl))) (.cons (.str (by decide +kernel)) (.cons (.tup (.cons (.bin .int (.loc rfl rfl rfl)) .nil)) .nil)))),.nil,.one (Slot.of rfl)⟩ (fun h=>nomatch h)) .nil) .nil ⟨fun _=>rfl⟩) (fun _=>rfl))
    (.cons (.asg (Slot.of rfl) .bool (fun _=>rfl))
    .nil))) .nil)
  (.cons (.asg (Slot.of rfl) (.bi ⟨rfl,rfl⟩ (.loc rfl rfl rfl) .nil) (fun _=>rfl))
  (.cons (.asg (Slot.of rfl) (.call rfl ⟨rfl,rfl⟩ (.loc rfl rfl rfl) .nil) (fun _=>rfl))
  (.cons (.ite (.or3 (.not (.isi ⟨rfl,rfl⟩ ⟨rfl,rfl⟩ (.loc rfl rfl rfl))) (.or2 (.cmp (.loc rfl rfl rfl) (.call rfl ⟨rfl,rfl⟩ (.loc rfl rfl rfl) .nil)) (.cmp (.loc rfl rfl rfl) (.loc rfl rfl rfl)))) (.cons (.ret .bool)
    .nil) .nil)
  (.cons (.ite (.and3 (.loc rfl rfl rfl) (.and2 (.cmp (.bi ⟨rfl,rfl⟩ (.loc rfl rfl rfl) .nil) .int) (.cmp (.call rfl ⟨rfl,rfl⟩ (.loc rfl rfl rfl) .nil) .bool))) (.cons (.ret .bool)
    .nil) .nil)
  (.cons (.asg (Slot.of rfl) (.call rfl ⟨rfl,rfl⟩ (.rev (.loc rfl rfl rfl)) .nil) (fun _=>rfl))
  (.cons (.ite (.or2 (.not (.isi ⟨rfl,rfl⟩ ⟨rfl,rfl⟩ (.loc rfl rfl rfl))) (.cmp (.loc rfl rfl rfl) (.call rfl ⟨rfl,rfl⟩ (.rev (.loc rfl rfl rfl)) .nil))) (.cons (.ret .bool)
    .nil) .nil)
  (.cons (.expr (.meth0 (.loc rfl rfl rfl) ⟨fun _=>rfl⟩) (fun _=>rfl))
  (.cons (.ret (.and2 (.cmp (.call rfl ⟨rfl,rfl⟩ (.loc rfl rfl rfl) .nil) (.tup .nil)) (.cmp (.call rfl ⟨rfl,rfl⟩ (.loc rfl rfl rfl) .nil) (.loc rfl rfl rfl))))
  .nil)))))))))))))),
  rfl,rfl,fun _ _ _=>all1 fun _=>rfl⟩⟩
theorem free_b : bnames.all (fun x=>freeB Q [Str.ofString "BOUND"] x) = true := by decide +kernel
theorem fns_b : gt.fns.all (fun x=>((recsOf Q).map (·.name)).contains x) = true := by decide +kernel
end
section
open PySem PySem.W PyProof.Rows
set_option maxRecDepth 100000
set_option maxHeartbeats 8000000
theorem VRs.strs {B h : Heap} {ι : List Addr} {ss : List Str} {vs : List Value} (q : StrsAre vs ss) (ok : ss.all PyData.strOk = true) : VRs B h ι (ss.map .str) vs := by
  induction q with
  | nil=>rfl
  | cons _ t r ih =>
    simp only [List.all_cons,Bool.and_eq_true] at ok
    exact ⟨_,_,rfl,VR.mkStr _ _ ok.1,ih ok.2⟩
theorem words_ok : wordsL.all PyData.strOk = true := by decide +kernel
theorem words_of : tupStrsOf Q "WORDS" = some wordsL := by decide +kernel
theorem main11 {prog : Program} {R : WRecords} {w : World} {s₀ : Shared} {mg mb : Str → Option Value} {h : Heap} (G : Ground Q [Str.ofString "BOUND"] R (XL Q [(Str.ofString "BOUND",.int 1000000000000000000000000000000)]) w s₀ mg mb h) {ns : List Int} (hl : ns.length ≤ 63) :
    CallOK (PEnv.mk prog w h mg mb) 7 "law" [.fro (ns.map .int)] [] (fun v _=>v = .bool true) XF := by
  have ok : GOK (PEnv.mk prog w h mg mb) gt := gok_of G free_b fns_b (fun x v e=>by
    simp only [gt,List.lookup_cons] at e
    split at e
    · rename_i hx
      have hx := beq_iff_eq.mp hx
      subst hx
      cases e
      obtain ⟨u,h1,h2⟩ := G.X.2.val (Str.ofString "BOUND",.int 1000000000000000000000000000000) (List.mem_singleton.mpr rfl)
      cases h2
      exact ⟨_,h1,fun _ _ _=>VR.mkInt _ _⟩
    split at e
    · rename_i hx
      have hx := beq_iff_eq.mp hx
      subst hx
      cases e
      obtain ⟨a,vs,h1,h2,h3⟩ := G.B.tupS (Str.ofString "WORDS") wordsL words_of
      refine ⟨_,h1,fun h' ι st=>?_⟩
      show VR h h' ι (.tup (wordsL.map .str)) _
      unfold VR
      exact ⟨_,vs,rfl,PTup.of (h2.keeps st),VRs.strs h3 words_ok⟩
    split at e
    · rename_i hx
      have hx := beq_iff_eq.mp hx
      subst hx
      cases e
      obtain ⟨u,h1,h2⟩ := G.T.const (Str.ofString "MOST_TIMES") (.int 100) rfl
      cases h2 default
      exact ⟨_,h1,fun _ _ _=>VR.mkInt _ _⟩
    split at e
    · rename_i hx
      have hx := beq_iff_eq.mp hx
      subst hx
      cases e
      obtain ⟨u,h1,h2⟩ := G.T.const (Str.ofString "MOST_ROWS") (.int 200) rfl
      cases h2 default
      exact ⟨_,h1,fun _ _ _=>VR.mkInt _ _⟩
    · simp at e)
  have cell : ∀ n,SCell (CK (PEnv.mk prog w h mg mb) (n + 1)) := fun n l k H Q h1 h2 h3=>ok_law_cell_at.call (n := n) G ok (Φ := CK _ n) (fun _ _ _ _ h=>h) (cell_at h1 h2 h3)
  have wh : ∀ n,SWh "is_whole" (CK (PEnv.mk prog w h mg mb) (n + 1)) := fun n v a b H Q h1=>ok_is_whole.call (n := n) G ok (Φ := CK _ n) (fun _ _ _ _ h=>h) (is_whole h1)
  have pws : ∀ n,SPw "are_powers" (CK (PEnv.mk prog w h mg mb) (n + 2)) := fun n v m H Q h1 h2=>ok_are_powers.call (n := n + 1) G ok (Φ := CK _ (n + 1)) (fun _ _ _ _ h=>h) (are_powers (wh n) h1 h2)
  have fac : ∀ n,SFac (CK (PEnv.mk prog w h mg mb) (n + 3)) := fun n w f m H Q h1 h2=>ok_are_facts.call (n := n + 2) G ok (Φ := CK _ (n + 2)) (fun _ _ _ _ h=>h) (are_facts (wh (n + 1)) (pws n) h1 h2)
  have isrow : ∀ n,SRow "is_row" (CK (PEnv.mk prog w h mg mb) (n + 4)) := fun n v H Q h1 h2=>ok_is_row.call (n := n + 3) G ok (Φ := CK _ (n + 3)) (fun _ _ _ _ h=>h) (is_row (wh (n + 2)) (fac n) h1 h2)
  have slip : ∀ n,SSlip (CK (PEnv.mk prog w h mg mb) (n + 5)) := fun n v H Q h1 h2=>ok_is_slip.call (n := n + 4) G ok (Φ := CK _ (n + 4)) (fun _ _ _ _ h=>h) (is_slip (isrow n) h1 h2)
  have pow : ∀ n,SPow (CK (PEnv.mk prog w h mg mb) (n + 1)) := fun n b e m H Q h1 h2 h3 h4=>ok_powered.call (n := n) G ok (Φ := CK _ n) (fun _ _ _ _ h=>h) (powered h1 h2 h3 h4)
  have comes : ∀ n,SComes (CK (PEnv.mk prog w h mg mb) (n + 1)) := fun n k ps m H Q h1 h2 h3 h4 h5=>ok_comes_to.call (n := n) G ok (Φ := CK _ n) (fun _ _ _ _ h=>h) (comes_to h1 h2 h3 h4 h5)
  have hp : ∀ n,SHp (CK (PEnv.mk prog w h mg mb) (n + 2)) := fun n k j m b ps pr H Q h1 h2 h3=>ok_holds_prime.call (n := n + 1) G ok (Φ := CK _ (n + 1)) (fun _ _ _ _ h=>h) (holds_prime (comes n) (pow n) h1 h2 h3)
  have ho : ∀ n,SHolds "holds" (CK (PEnv.mk prog w h mg mb) (n + 3)) := fun n k j m f pr H Q h1 h2 h3=>ok_holds.call (n := n + 2) G ok (Φ := CK _ (n + 2)) (fun _ _ _ _ h=>h) (holds (hp n) (pow (n + 1)) h1 h2 h3)
  have tp : ∀ n,STells "tells_prime" (CK (PEnv.mk prog w h mg mb) (n + 1)) := fun n m f H Q h1=>ok_tells_prime.call (n := n) G ok (Φ := CK _ n) (fun _ _ _ _ h=>h) (tells2 h1)
  have wt : ∀ n,SWrongT (CK (PEnv.mk prog w h mg mb) (n + 4)) := fun n k rs H Q h1 h2 h3=>ok_wrong_at.call (n := n + 3) G ok (Φ := CK _ (n + 3)) (fun _ _ _ _ h=>h) (wrong_at (ho n) (tp (n + 2)) h1 h2 h3)
  have lb : ∀ n,SLets (CK (PEnv.mk prog w h mg mb) (n + 6)) := fun n v H Q h1 h2 h3=>ok_lets_by.call (n := n + 5) G ok (Φ := CK _ (n + 5)) (fun _ _ _ _ h=>h) (lets_by (slip n) (wt (n + 1)) h1 h2 h3)
  have p1 : ∀ n,SPower (CK (PEnv.mk prog w h mg mb) (n + 1)) := fun n b e m H Q h1 h2 h3 h4 h5 h6=>call_gc (ok_law_power.call (n := n) G ok (Φ := CK _ n) (fun _ _ _ _ h=>h) (power h1 h2 h3 h4 h5 fun H' p=>⟨p,rfl,h6⟩))
  have p2 : ∀ n,SRound (CK (PEnv.mk prog w h mg mb) (n + 2)) := fun n m b ps H Q h1 h2 h3 h4 h5=>ok_law_round.call (n := n + 1) G ok (Φ := CK _ (n + 1)) (fun _ _ _ _ h=>h) (round (p1 n) h1 h2 h3 h4 h5)
  have isp : ∀ n,SIsP (CK (PEnv.mk prog w h mg mb) (n + 1)) := fun n m H Q h1 h2 h3=>ok_law_is_prime.call (n := n) G ok (Φ := CK _ n) (fun _ _ _ _ h=>h) (is_prime h1 h2 h3)
  have fct : ∀ n,SFact (CK (PEnv.mk prog w h mg mb) (n + 1)) := fun n m H Q h1 h2 h3=>call_gc (ok_law_factors.call (n := n) G ok (Φ := CK _ n) (fun _ _ _ _ h=>h) (factors h1 h2 fun H' p=>⟨p,psT_clean _,h3⟩))
  have prow : ∀ n,SPRow (CK (PEnv.mk prog w h mg mb) (n + 3)) := fun n m c H Q h1 h2 h3 h4 h5=>ok_law_prime_row.call (n := n + 2) G ok (Φ := CK _ (n + 2)) (fun _ _ _ _ h=>h) (prime_row (fct (n + 1)) (p2 n) h1 h2 h3 h4 h5)
  have part : ∀ n,SPart (CK (PEnv.mk prog w h mg mb) (n + 2)) := fun n m c H Q h1 h2 h3 h4 h5=>call_gc (ok_law_parted_row.call (n := n + 1) G ok (Φ := CK _ (n + 1)) (fun _ _ _ _ h=>h) (parted_row (p1 n) h1 h2 h3 h4 fun r a t b c H' p=>⟨p,av_clean r,h5 r a t b c⟩))
  have big : ∀ n,SBig (CK (PEnv.mk prog w h mg mb) (n + 2)) := fun n c H Q h1 h2=>call_gc (ok_law_big_row.call (n := n + 1) G ok (Φ := CK _ (n + 1)) (fun _ _ _ _ h=>h) (big_row (p1 n) h1 fun r a t b c H' p=>⟨p,av_clean r,h2 r a t b c⟩))
  have great : ∀ n,SGreat (CK (PEnv.mk prog w h mg mb) (n + 1)) := fun n c m H Q h1 h2 h3 h4 h5=>ok_law_great_row.call (n := n) G ok (Φ := CK _ n) (fun _ _ _ _ h=>h) (great_row h1 h2 h3 h4 h5)
  have nds : ∀ n,SNeeds (CK (PEnv.mk prog w h mg mb) (n + 1)) := fun n r H Q h1 h2=>ok_law_needs.call (n := n) G ok (Φ := CK _ n) (fun _ _ _ _ h=>h) (needs h1 h2)
  have cls : ∀ n,SClosed (CK (PEnv.mk prog w h mg mb) (n + 4)) := fun n P N i j k m D W cs H H0 Q a1 a2 h1 h2 h3 h4 h5 h6 h7 h8 h9 h10 h11 h12 h13 h14 h15=>ok_law_closed.call (n := n + 3) G ok (Φ := CK _ (n + 3)) (fun _ _ _ _ h=>h) (closed (isp (n + 2)) (prow n) (part (n + 1)) (nds (n + 2)) a1 a2 h1 h2 h3 h4 h5 h6 h7 h8 h9 h10 h11 h12 h13 h14 h15)
  have rby : ∀ n,SRowsBy (CK (PEnv.mk prog w h mg mb) (n + 5)) := fun n k m cs H Q h1 h2 h3 h4 h5=>call_gcL (ok_law_rows_by.call (n := n + 4) G ok (Φ := CK _ (n + 4)) (fun _ _ _ _ h=>h) (rows_by (big (n + 2)) (great (n + 3)) (nds (n + 3)) (cls n) h1 h2 h3 h4 fun m rs H' a b c d=>⟨_,m,a,rfl,b,c,avs_clean rs,h5 rs d⟩))
  have oth : ∀ n,SOther (CK (PEnv.mk prog w h mg mb) (n + 2)) := fun n k m f kd mm H Q h1 h2 h3 h4 h5 h6=>ok_law_other_facts.call (n := n + 1) G ok (Φ := CK _ (n + 1)) (fun _ _ _ _ h=>h) (other_facts (p1 n) h1 h2 h3 h4 h5 h6)
  have spo : ∀ n,SSpoilt (CK (PEnv.mk prog w h mg mb) (n + 3)) := fun n k i rs c m H Q h1 h2 h3 h4 h5 h6=>ok_law_spoilt.call (n := n + 2) G ok (Φ := CK _ (n + 2)) (fun _ _ _ _ h=>h) (spoilt (oth n) h1 h2 h3 h4 h5 h6)
  have mixA : ∀ n,SMixedA (CK (PEnv.mk prog w h mg mb) (n + 2)) := fun n l a m H Q h0 h1 h2 h3=>ok_law_mixed.call (n := n + 1) G ok (Φ := CK _ (n + 1)) (fun _ _ _ _ h=>h) (mixedA (cell n) h0 h1 h2 h3)
  have byn : ∀ n,SByR (CK (PEnv.mk prog w h mg mb) (n + 1)) := fun n i l H Q h1 h2 h3=>ok_by_numbers.call (n := n) G ok (Φ := CK _ n) (fun _ _ _ _ h=>h) (by_numbers h1 h2 h3)
  have mer : SMer "merged" (CK (PEnv.mk prog w h mg mb) 6) := fun i ss H Q h1 h2 h3=>ok_merged.call (n := 5) G ok (Φ := CK _ 5) (fun _ _ _ _ h=>h) (merged (byn 4) h1 h2 h3)
  have lai : SMer "_law_laid" (CK (PEnv.mk prog w h mg mb) 6) := fun i ss H Q h1 h2 h3=>ok_law_laid.call (n := 5) G ok (Φ := CK _ 5) (fun _ _ _ _ h=>h) (laid h1 h2 h3)
  exact ok_law.call (n := 6) G ok (Φ := CK _ 6) (fun _ _ _ _ h=>h) (law11 (cell 5) (mixA 4) (rby 1) (spo 3) mer lai (lb 0) hl fun H'=>rfl)
end
end Mine
open PySem PySem.W PyProof.Rows
set_option maxRecDepth 100000
set_option maxHeartbeats 8000000
theorem PySem.Challenge.cw_uf030003_11_holds : PySem.Challenge.rw_uf030003_11.Holds := by
  w_on
  refine holds_law Mine.said fun k=>?_
  refine holds_open (q := Mine.Q) (loose := [Str.ofString "BOUND"]) (Xt := Mine.Xt) (XP := XL Mine.Q [(Str.ofString "BOUND",.int 1000000000000000000000000000000)]) (Yf := Hook.obs Hook.none) (Ya := Hook.val Hook.none) (YP := Hook.says Hook.none) (N := 3000) Mine.left (Hook.of Hook.none) (Hook.keeps Hook.none) (fun s e=>xl_of s (Bool.and_eq_true_iff.mp e).1) XL.keeps (by rfl) (by rfl) (by rfl) (fun s e=>recFacts_of (Bool.and_eq_true_iff.mp e).2) rfl k (by decide +kernel) ⟨rfl,rfl,rfl,rfl,rfl,by decide +kernel⟩ ?hw ?hc
  case hw=>w_witness2
  intro w s₀ s₁ mg mb G Y fa o pm cd doc dV kV ho hd hcd hD hmg hg args vals as hpre hlay hrd hwl hlo
  have hm : mg (Str.ofString "law") = some (.ref fa) := hmg
  clear ho hd hcd hD Y hmg
  have T := G.T
  wrow_args hpre hlay hrd hwl hlo
  rename_i hI hr h63 ht
  refine enter_call ?_
  exact Mine.finish (n := 7) hm hg (by decide) (by assumption) hI (fun _=>rfl) (Mine.post_true _ _) (Mine.main11 G (by exact Mine.z486 h63))
