import PyProof.Rows.All
import OpenK.AllK
import Wide.All
import PyProof.StationsW
import PyProof.Rows.Many
import PyProof.Rows.Tup
import PyProof.Walks
import PyProof.Cells
import PyProof.Rows.Nodes
import PyProof.Rows.Chain
import PyProof.Rows.TupSub
import PyProof.Rules3
import PyProof.ExcClass
import PyProof.Raises
import PyProof.Rows.TupAssign
import PyProof.WalksMore
import PyProof.StrWalks
import PyProof.Rows.Globals
import PyProof.Rows.Method
import PyProof.Rows.Exc
import PyProof.CompFree
import PyProof.IsiNone
import PyProof.Conv_int_bool
import PyProof.TupleOfSeq
import PyProof.WalkInts
import PyProof.ConsumeWalk
import PyProof.LetGo
import KE.KRevIter
import KE.KRevSl
import PyProof.DictTruth
import PyProof.Rows.TupMore
import PyProof.Rows.SortWalk
import KE.KDictSum
import PyProof.EnumMake
import PyProof.DictDisplay
import Wide.FinOn
import OpenK.KCall
import PyProof.Rows.Own
import PyProof.Rows.Catch
import PyProof.NsDelKeeps
import PyProof.Rows.CatchOwn
import KE.KTryMore
import KE.KIsAll
import PyProof.ExcArgsOwn
import PyProof.IsiH_list
import PyProof.SetScanFacts
import PyProof.Rows.SetFrom
import PyProof.TupleIter
import PyProof.Rows.ListMul
import PyProof.ListOps
import PySem.Challenge.RW_uf030003_13
set_option Elab.async false
set_option maxRecDepth 100000
set_option maxHeartbeats 8000000
section
set_option linter.all false
set_option genSizeOf false
set_option bootstrap.genMatcherCode false
variable {a b c d i j k n:Nat}{B h h':PySem.Heap}{A:PySem.Around}{E:PySem.Value->PySem.Shared->Prop}{s s' s1:PySem.Shared}{v:PySem.Value}{env:PySem.Env}{vs:List PySem.Value}{S ι ι' ι1 ι2:List PySem.Addr}{es xs:List PySem.Expr}{pos:PySem.Pos}
namespace Mine
universe u v
theorem ya {α:Type u}{β:Type v}{l:List α}(f:α->β):(l.map f).length=l.length:=List.length_map f
theorem yb {α:Type u}{a b:α}(h:a∈[b]):a=b:=List.mem_singleton.mp h
theorem yc {α:Type u}{l:List α}{i:Nat}{a:α}(e:l[i]?=some a):a∈l:=List.mem_of_getElem? e
theorem yd {α:Type u}{a:α}{s t:List α}(h:a∈s++t):a∈s\/a∈t:=List.mem_append.mp h
theorem ye {n m:Nat}(h:Nat.ble n m=true):n<=m:=Nat.le_of_ble_eq_true h
theorem yf {α:Type u}{β:Type v}{x:Option α}{f:α->β}{b:β}(h:x.map f=some b):∃ a,x=some a/\f a=b:=Option.map_eq_some_iff.mp h
theorem yg {α:Type u}{a b:α}{l:List α}(h:a∈b::l):a=b\/a∈l:=List.mem_cons.mp h
theorem yh {α:Type u}{β:Type v}{f:α->β}{l:List α}{b:β}(h:b∈l.map f):∃ a,a∈l/\f a=b:=List.mem_map.mp h
theorem yi {α:Type u}(y:α){a:α}{l:List α}(h:a∈l):a∈y::l:=List.mem_cons_of_mem y h
theorem yj {α:Type u}{a b:α}(h:some a=some b):a=b:=Option.some.inj h
theorem yk (a:Int){b:Int}(h:0<b):a%b<b:=Int.emod_lt_of_pos a h
theorem yl {α:Type u}{a:α}{i:Nat}{l:List α}(h:l[i]?=some a):∃ h:i<l.length,l[i]=a:=List.getElem?_eq_some_iff.mp h
theorem ym {α:Type u}{a b:α}(h:a=b):a∈[b]:=List.mem_singleton.mpr h
theorem yn {α:Type u}{β:Type v}{f:α->β}{l:List α}{b:β}(h:∃ a,a∈l/\f a=b):b∈l.map f:=List.mem_map.mpr h
theorem yo {α:Type u}{a:α}{s t:List α}(h:a∈s\/a∈t):a∈s++t:=List.mem_append.mpr h
theorem yq {α:Type u}{p:α->Bool}{l:List α}(h:l.all p=true):∀ x,x∈l->p x=true:=List.all_eq_true.mp h
theorem zab {a:Int}(h0:0<=a) (h:a<(n:Int)):a.natAbs<n:=Int.natAbs_lt_natAbs_of_nonneg_of_lt h0 h
theorem zlt {a c:Int}(h0:2<=a) (h1:a<(2+(((Int.toNat (c-2)):Nat):Int))):a<c:=by
 obtain ⟨n,e⟩:=Int.eq_ofNat_of_zero_le (Int.sub_nonneg_of_le h0)
 refine Int.lt_of_sub_lt_sub_right (c:=2) ?_
 have k:=Int.sub_left_lt_of_lt_add h1
 rw [e] at k ⊢
 exact Int.lt_toNat.mp (Int.ofNat_lt.mp k)
theorem z0 (h0:¬ (a<b))(h1:a-b=0):a=b:=by grind
theorem z1 (h0:a<128):a<1114112:=by lia
theorem z2 (h0:((a+(8*(b+1)))+200)<c):a+3+8*b+200<c:=by lia
theorem z3 {e:Nat}(h0:a<=100)(h1:b+8*c+200<d):(b+(min a e))<d:=Nat.lt_of_le_of_lt (Nat.add_le_add (Nat.le_add_right ..) (Nat.le_trans (Nat.min_le_left ..) (Nat.le_trans h0 (by decide)))) h1
theorem z4 {b:Int}(h0:a<(2^62))(h1:(Int.toNat b)<a):b<(2^63):=Int.lt_of_le_of_lt (Int.self_le_toNat b) (Int.lt_trans (Int.ofNat_lt.mpr (Nat.lt_trans h1 h0)) (by decide))
theorem z5 {e:Nat}(h0:a<=100)(h1:b+8*c+200<d):(b+1+(min e a))<d:=Nat.lt_of_le_of_lt (Nat.le_trans (Nat.add_le_add_left (Nat.le_trans (Nat.min_le_right ..) h0) _) (show b+101<=_ from Nat.add_le_add (Nat.le_add_right ..) (by decide))) h1
theorem z6 (h0:a<(2^62))(h1:(b:Int)=(a:Int)):(b:Int)<(2^63):=by simp;lia
theorem z7 {a:Int}(h0:a<(2^62)):a<(2^63):=by omega
theorem z8:(((((2:Nat)^(24:Nat)):Nat):Int)<((2:Int)^(62:Nat))):=by simp
theorem z9 {c:Int}(h0:a<=b)(h1:c<=(a:Int))(h2:(b:Int)<(2^62)):c<(2^62):=by simp;lia
theorem z10 {a:Int}(h0:a<=(b:Int)):(min (Int.toNat a) b)=(Int.toNat a):=Nat.min_eq_left (Int.toNat_le.mpr h0)
theorem z11:((1000000:Nat)<=((2:Nat)^(24:Nat))):=by simp
theorem z12 (h0:a+b<=1000000)(h1:1000000<=c)(h2:d=a):d<=c:=by lia
theorem z13 {e:Nat}(h0:a+b<=1000000)(h1:1000000<=c)(h2:d=a)(h3:e=b):d+e<=c+1:=by grind
theorem z14 (h0:a+b<=1000000)(h1:1000000<=c):¬ ((a+b)>c):=by lia
theorem z15 (h0:a<b):0<((b:Int)-(a:Int)):=by simp;lia
theorem z16:((0:Int)<((2:Int)^(62:Nat))):=by simp
theorem z17 (h0:a<b):((((b:Int)-1)-(a:Int))=(((b-1-a):Nat):Int))/\((((b:Int)-1)-(((a+1):Nat):Int))=((((b-1-a):Nat):Int)-1)):=by have e:((b:Int)-1)-(a:Int)=(((b-1)-a:Nat):Int):=by { rw [Int.ofNat_sub (Nat.le_sub_one_of_lt h0),Int.ofNat_sub (Nat.lt_of_le_of_lt (Nat.zero_le _) h0)];rfl };exact ⟨e,by rw [←e];exact (Int.sub_sub ((b:Int)-1) a 1).symm⟩
theorem z18 {b:Int}(h0:a<(2^62))(h1:0<=(b+(a:Int))):(-(2^63))<=b:=by simp;lia
theorem z19 {b:Int}(h0:a<(2^62))(h1:b<(a:Int)):b<(2^63):=by simp;lia
theorem z20 (h0:a=b)(h1:(c:Int)<(b:Int)):c<a:=by lia
theorem z21 (h0:a<(2^62))(h1:b=a):(b:Int)<(2^63):=by simp;lia
theorem z22 :(Int.toNat ((a:Int)+((b:Int)*1)))=a+b:=by rw [Int.mul_one];rfl
theorem z23 (h0:a<=b):(min (c-d) (a-d))<=b:=Nat.le_trans (Nat.min_le_right ..) (Nat.le_trans (Nat.sub_le ..) h0)
theorem z24 (h0:a<64)(h1:b=a):b<=(2^24):=by simp;lia
theorem z25 (h0:a<64):a<=(2^24):=by simp;lia
theorem z26 :(a+(Nat.succ b))=((a+(0+1))+b):=Eq.symm (Nat.succ_add_eq_add_succ a b)
theorem z27 (h0:a<200):1+300+a<1000:=by simp;lia
theorem z28 (h0:a<200):4+8*a+200<9900:=by lia
theorem z29 (h0:300<((a/30)+1))(h1:a<9000):False:=by lia
theorem z30 (h0:(a+(b+1))<c):a+1+b<c:=by lia
theorem z31 (h0:a<b):((a+b)/2)<b:=by lia
theorem z32 (h0:((a+b)/2)<b):a<=((a+b)/2):=by lia
theorem z33 (h0:a<=(b+(c+1)))(h1:b<=d):a<=d+1+c:=by lia
theorem z34 (h0:a<=(b+(c+1)))(h1:d<a):d<=b+c:=by lia
theorem z35 (h0:¬ (a=0)):b<b+a:=by simp;lia
theorem z36 (h0:a+1<b)(h1:c<=a)(h2:d<=c):d+1<b:=by lia
theorem z37 (h0:a-b=c+1):(a-(b+1))=c:=by rw [Nat.sub_add_eq,h0];rfl
theorem z38 (h0:a<=63):a<4611686018427387904:=by lia
theorem z39 {b:Int}(h0:(a:Int)<=b):a<=(Int.toNat b):=by grind
theorem z40 {a b:Int}(h0:0<=a)(h1:a<b)(h2:b<=(10^32)):(Int.natAbs a)<(10^32):=zab h0 (Int.lt_of_lt_of_le h1 (Int.le_trans h2 (by decide)))
theorem z41 :a=((2*(a/2))+(a%2)):=Eq.symm (Nat.div_add_mod a 2)
theorem z42 :((a:Int)/2)=(((a/2):Nat):Int):=by simp
theorem z43 (h0:0<(a:Int)):(a/2)<a:=by lia
theorem z44 {a b:Int}(h0:0<=a)(h1:a<b):b≠0:=by lia
theorem z45 {a b:Int}(h0:0<=a)(h1:a<b):0<=b:=by lia
theorem z46 (h0:¬ (0<(a:Int))):a=0:=by lia
theorem z47 {a:Int}(h0:(0<=a)/\(a<2147483647)):(0<=a)/\(a<4294967296):=by lia
theorem z48 :(-(2^62))<=(a:Int):=Int.neg_ofNat_le_natCast (2^62) a
theorem z49 (h0:a<=1000):(a:Int)<(2^62):=by simp;lia
theorem z50 {a:Int}(h0:0<=a)(h1:a<2147483647):(Int.natAbs a)<=2147483647:=by lia
theorem z51 {a:Int}(h0:0<=a):0<=(a+(b:Int)):=by lia
theorem z52 (h0:a<=1000)(h1:b<a):b<=(2^24):=by simp;lia
theorem z53 (h0:a<=1000):a<=(2^24):=by simp;lia
theorem z54 (h0:a<=100000):a<=(2^24):=by simp;lia
theorem z55 {a:Int}(h0:a<(10^32)):(Int.toNat a)<(10^32):=by simp;lia
theorem z56 {b:Int}(h0:a<=(Int.toNat b))(h1:(2^200)<=c)(h2:c<=a)(h3:(Int.toNat b)<(10^32)):False:=by lia
theorem z57 (h0:a<=200):a<=1000:=by lia
theorem z58 :(((a:Int)%2)=0)\/(((a:Int)%2)=1):=Int.emod_two_eq ↑a
theorem z59 :((2*(a/2))+(Int.toNat ((a:Int)%2)))=a:=Nat.div_add_mod a 2
theorem z60 :((a/2)*2)<=a:=Nat.div_mul_le_self a 2
theorem z61 :a+a=2*a:=Eq.symm (Nat.two_mul a)
theorem z62 {a:Int}(h0:2<=a):0<=a-1:=by lia
theorem z63 {a:Int}(h0:(1<=a)/\((Int.natAbs a)<(2^200))):a≠0:=by omega
theorem z64 {a:Int}(h0:(1<=a)/\((Int.natAbs a)<(2^200))):0<=a:=by lia
theorem z65 {a b:Int}(h0:a<=(10^32))(h1:b<=a-1):b<(10^32):=Int.lt_of_lt_of_le (Int.lt_of_le_sub_one h1) h0
theorem z66 {a b:Int}(h0:0<=a)(h1:a<=b-1):1<=b:=by lia
theorem z67 (h0:2<=a)(h1:a<2):b≠0:=by lia
theorem z68 (h0:a<=1000000)(h1:b<=a):(Int.natAbs (b:Int))<(2^64):=by simp;lia
theorem z69 (h0:2<=a)(h1:b<=c)(h2:2*a<=b):a<c:=by lia
theorem z70 (h0:2<=a):(a:Int)≠0:=by lia
theorem z71 :0<=(a:Int):=Int.natCast_nonneg a
theorem z72 (h0:a<b):(b-(a+1))<b-a:=Nat.sub_succ_lt_self b a h0
theorem z73 (h0:¬ ((a:Int)<=(b:Int))):b<a:=by lia
theorem z74 (h0:2<=a)(h1:a<=b):1<(b:Int):=by lia
theorem z75 (h0:a<b)(h1:b=c)(h2:c<=a*1):2<=d:=by grind
theorem z76 {e:Nat}(h0:a<b)(h1:a=c)(h2:b<=c):d<e:=by grind
theorem z77 (h0:a<=b):1*a<=b:=by simp;lia
theorem z78 (h0:a<=b+1)(h1:c<a):c<=b:=by lia
theorem z79 (h0:a<=b)(h1:b+2=c+d)(h2:d<=a):c=c-1+1:=by lia
theorem z80 (h0:1<(a:Int)):¬ (a<=1):=by lia
theorem z81 :0+a<=a:=by simp
theorem z82 :a+0=a:=by simp
theorem z83 (h0:a+2<=b):(b:Int)≠0:=by lia
theorem z84 (h0:1<=a)(h1:a<=b):b=b-1+1:=by lia
theorem z85 (h0:a<=20000)(h1:a+2=b+1+c):(Int.natAbs (c:Int))<(2^64):=by simp;lia
theorem z86 :a<a+1:=Nat.lt_add_one a
theorem z87 (h0:(a+(b+1))<=c):b<=c:=by lia
theorem z88 (h0:(a+(b+1))<=c):a+1+b<=c:=by lia
theorem z89 (h0:a+1+b=c):(a+(b+1))=c:=by lia
theorem z90 (h0:0+a=b):b=a:=by lia
theorem z91 (h0:a<=20000)(h1:b+2<=c)(h2:a+2=d+1+c):b<=100000:=by lia
theorem z92 (h0:a+2<=b):2<=b+1:=by lia
theorem z93 (h0:a+2=b+1+c):a+2=(b+(c+1)):=by lia
theorem z94 (h0:a+2<=b):a+2<=b:=by omega
theorem z95 (h0:¬ (0<(a:Int))):¬ (0<a):=by simp;lia
theorem z96 (h0:1<=a)(h1:¬ (1<(a:Int))):a=1:=by lia
theorem z97 (h0:a<=20000)(h1:a+2=b+c)(h2:d+2<=c):d<=100000:=by lia
theorem z98 (h0:a<=1000):a<(2^62):=by simp;lia
theorem z99 (h0:a<=1000)(h1:b=a):b<=1000:=by lia
theorem z100 {a b:Int}(h0:a<=b)(h1:1<=a):0<=b:=by lia
theorem z101 (h0:1<=a):((a:Int)-1)=(((a-1):Nat):Int):=(Int.ofNat_sub h0).symm
theorem z102 {a b:Int}(h0:(2<=a)/\((a<402)/\((1<=b)/\(b<=100)))):0<=a:=by lia
theorem z103 :1<=a+1:=Nat.le_add_left 1 a
theorem z104 (h0:a<b)(h1:a ≥ (b-1)):a=b-1:=Nat.le_antisymm (Nat.le_sub_one_of_lt h0) h1
theorem z105 (h0:a<b)(h1:c≠a)(h2:c=b-1):0+1<b:=Nat.lt_of_not_le fun h=>h1 (by rw [h2,Nat.lt_one_iff.mp (Nat.lt_of_lt_of_le h0 h)];exact Nat.sub_eq_zero_of_le h)
theorem z106 (h0:2<=a)(h1:¬ ((a:Int)=2)):3<=a:=by lia
theorem z107 (h0:3<=a):((a:Int)-1)=(((a-1):Nat):Int):=by lia
theorem z108 (h0:1<=a)(h1:a<b):1<=b-1:=Nat.le_sub_one_of_lt (Nat.lt_of_le_of_lt h0 h1)
theorem z109 (h0:a<=401):a-1<=20000:=by simp;lia
theorem z110 (h0:1<=a)(h1:a<b):(((b-1):Nat):Int)≠0:=by lia
theorem z111 :0<=(((a-1):Nat):Int):=Int.natCast_nonneg (a-1)
theorem z112 (h0:1<=a)(h1:a<b):0<(((b-1):Nat):Int):=by simp;lia
theorem z113 {a:Int}(h0:0<=a):1<=(Int.toNat (1+a)):=by lia
theorem z114 {a:Int}(h0:0<=a)(h1:a<(((b-1):Nat):Int)):(Int.toNat (1+a))<b:=by obtain ⟨n,rfl⟩:=Int.eq_ofNat_of_zero_le h0;exact Nat.add_lt_of_lt_sub' (Int.ofNat_lt.mp h1)
theorem z115 {a:Int}(h0:0<=a):0<=1+a:=by lia
theorem z116 {a:Int}(h0:0<=a)(h1:a<(((b-1):Nat):Int)):2<=(b:Int):=Int.ofNat_le.mpr (Nat.lt_of_sub_pos (Int.ofNat_lt.mp (Int.lt_of_le_of_lt h0 h1)))
theorem z117 (h0:a<=401):(a:Int)<=(10^32):=by simp;lia
theorem z118 (h0:a<=401)(h1:b<a):(Int.natAbs (b:Int))<(2^200):=by simp;lia
theorem z119 {a b:Int}(h0:(2<=a)/\((a<402)/\((1<=b)/\(b<=100)))):(1<=a)/\((Int.natAbs a)<(2^200)):=⟨Int.le_trans (by decide) h0.1,zab (Int.le_trans (by decide) h0.1) (Int.lt_trans h0.2.1 (by decide))⟩
theorem z120 {a:Int}(h0:0<=a)(h1:a<(((b-1):Nat):Int)):(((b-1):Nat):Int)≠0:=by lia
theorem z121 (h0:a<=401):(a:Int)<((10^30)-2000):=by simp;lia
theorem z122 (h0:a<b):(a:Int)<=(b:Int):=by simp;lia
theorem z123 {a b:Int}(h0:(2<=a)/\((a<402)/\((1<=b)/\(b<=100)))):(2<=a)/\((a<=20000)/\((1<=b)/\(b<=100))):=⟨h0.1,Int.le_of_lt (Int.lt_of_lt_of_le h0.2.1 (by decide)),h0.2.2⟩
theorem z124 :2<=(2+(a:Int)):=Int.le.intro a rfl
theorem z125 (h0:a<b):(2+(a:Int))<(2+(b:Int)):=by simp;lia
theorem z126 {a:Int}(h0:2<=a)(h1:a<(2+(b:Int))):(Int.toNat (a-2))<b:=(Int.toNat_lt (Int.sub_nonneg_of_le h0)).mpr (Int.sub_left_lt_of_lt_add h1)
theorem z127 {a:Int}(h0:2<=a):(2+(((Int.toNat (a-2)):Nat):Int))=a:=by rw [Int.toNat_of_nonneg (Int.sub_nonneg_of_le h0),Int.add_comm,Int.sub_add_cancel]
theorem z128 (h0:2<=a):(Int.toNat ((a:Int)-1))=a-2+1:=(Int.toNat_sub a 1).trans (Nat.sub_add_cancel (Nat.le_sub_one_of_lt h0)).symm
theorem z129 (h0:(1:Int)=(0:Int)):False:=by lia
theorem z130 (h0:a<=100000):a<(2^62):=by simp;lia
theorem z131 (h0:a<=20000):(a:Int)<(2^62):=by simp;lia
theorem z132 (h0:a<=20000):(Int.toNat ((a:Int)-2))<=100000:=by simp;lia
theorem z133 :(2+(a:Int))≠0:=by lia
theorem z134 :0<=(2+(a:Int)):=Int.zero_le_ofNat (2+a)
theorem z135 {a:Int}(h0:2<=a)(h1:a<(2+(((Int.toNat ((b:Int)-2)):Nat):Int))):a<(b:Int):=zlt h0 h1
theorem z136 (h0:a<b):(a:Int)<(2+(((Int.toNat ((b:Int)-2)):Nat):Int)):=by rw [show ((b:Int)-2).toNat=b-2 from Int.toNat_sub b 2];exact Int.ofNat_lt.mpr (Nat.lt_of_lt_of_le h0 (Nat.sub_le_iff_le_add'.mp (Nat.le_refl _)))
theorem z137 (h0:a<=20000):((a:Int)-2)<=20000:=by lia
theorem z138 :(-(2^62))<=((a:Int)-1):=by lia
theorem z139 (h0:a<=20000):((a:Int)-1)<(2^62):=by lia
theorem z140 (h0:a<=20000):(Int.toNat (((a:Int)-1)-2))<=100000:=by simp;lia
theorem z141 (h0:a<=20000)(h1:b<(Int.toNat (((a:Int)-1)-2))):(Int.natAbs (2+(b:Int)))<(2^64):=show 2+b<2^64 from Nat.lt_trans (Nat.add_lt_add_left (Nat.lt_of_lt_of_le h1 (Nat.le_trans (Int.toNat_le.mpr (Int.le_trans (Int.sub_le_self _ (by decide)) (Int.sub_le_self _ (by decide)))) h0)) 2) (by decide)
theorem z142 (h0:a<(Int.toNat (((b:Int)-1)-2))):(b:Int)≠0:=fun e=>by rw [e] at h0;exact Nat.not_lt_zero a h0
theorem z143 {a:Int}(h0:2<=a)(h1:a<(2+(((Int.toNat (((b:Int)-1)-2)):Nat):Int))):a<((b:Int)-1):=zlt h0 h1
theorem z144 (h0:a<=20000):(((a:Int)-1)-2)<=20000:=by lia
theorem z145 (h0:a<=20000):a<=100000:=by lia
theorem z146 {a:Int}(h0:2<=a):a≠0:=by lia
theorem z147 {b:Int}(h0:a<=20000)(h1:2<=b)(h2:b<(a:Int)):(Int.natAbs b)<(2^64):=zab (Int.le_trans (by decide) h1) (Int.lt_of_lt_of_le h2 (Int.le_trans (Int.ofNat_le.mpr h0) (by decide)))
theorem z148 {a:Int}(h0:2<=a):0<=a:=by lia
theorem z149 {a c d:Int}(h0:a<(b:Int))(h1:(b:Int)=c)(h2:c<=a*1):2<=d:=by grind
theorem z150 {b:Int}(h0:a<=20000)(h1:b<(a:Int)):b<(10^16):=by simp;lia
theorem z151 {b:Int}(h0:a<=20000)(h1:b<=(a:Int)):b<(10^16):=by simp;lia
theorem z152 (h0:a<=20000):(a:Int)<((10^30)-2000):=by simp;lia
theorem z153 {a:Int}(h0:2<=a)(h1:a<(b:Int)):((b:Int)-1)=(((b-1):Nat):Int):=(Int.ofNat_sub (Int.ofNat_le.mp (Int.le_trans (by decide) (Int.le_of_lt (Int.lt_of_le_of_lt h0 h1))))).symm
theorem z154 {a:Int}(h0:2<=a)(h1:a<(b:Int)):(((b-1):Nat):Int)≠0:=by grind
theorem z155 {a:Int}(h0:2<=a)(h1:a<(b:Int)):0<(((b-1):Nat):Int):=Int.ofNat_lt.mpr (Nat.sub_pos_of_lt (Int.ofNat_lt.mp (Int.lt_trans (Int.lt_of_lt_of_le (by decide) h0) h1)))
theorem z156 (h0:a<=20000)(h1:b<a):(Int.natAbs (b:Int))<(2^200):=by simp;lia
theorem z157 (h0:a<b):0<=((b:Int)-1):=by lia
theorem z158 (h0:a<=20000):((a:Int)-1)<(10^32):=by lia
theorem z159 (h0:a<b):1<=(b:Int):=by lia
theorem z160 (h0:a<=20000):(a:Int)<=(10^32):=by simp;lia
theorem z161 {b:Int}(h0:1<=a)(h1:a=(Int.toNat b)):(a:Int)=b:=by lia
theorem z162 {a:Int}(h0:2<=a):1<=(Int.toNat a):=by lia
theorem z163 {a:Int}(h0:2<=a)(h1:a<(b:Int)):(Int.toNat a)<b:=(Int.toNat_lt (Int.le_trans (by decide) h0)).mpr h1
theorem z164 (h0:1<=a)(h1:a<b):2<=(b:Int):=by lia
theorem z165 {a:Int}(h0:2<=a)(h1:a<((b:Int)-1)):2<=(b:Int):=by lia
theorem z166 {a:Int}(h0:a<((b:Int)-1)):a<=(b:Int):=by lia
theorem z167 (h0:a<b*2):(a/2)<b:=by lia
theorem z168 (h0:a<(2^70))(h1:b<=a-1):b<(2^70):=Nat.lt_of_le_of_lt h1 (Nat.lt_of_le_of_lt (Nat.sub_le ..) h0)
theorem z169 (h0:(a=1)\/((a=11)\/((a=13)\/((a=19)\/(a=23))))):a<(2^70):=by rcases h0 with rfl|rfl|rfl|rfl|rfl<;>decide
theorem z170 {a:Int}(h0:402<a):0<=a:=by lia
theorem z171 {a:Int}(h0:402<a):1<=(Int.toNat a):=by lia
theorem z172 {a:Int}(h0:a<(2^70)):(Int.toNat a)<(2^70):=by simp;lia
theorem z173 {a:Int}(h0:402<a):0<a:=by lia
theorem z174 {a:Int}(h0:402<a):¬ (a<=401):=by lia
theorem z175 {a:Int}(h0:402<a):a≠0:=by lia
theorem z176 {a:Int}(h0:402<a):(Int.toNat (a-1))=((Int.toNat (a-2))+1):=Int.ofNat.inj (by show ((a-1).toNat:Int)=((a-2).toNat:Int)+1;rw [Int.toNat_of_nonneg (Int.sub_nonneg_of_le (Int.le_of_lt (Int.lt_trans (by decide) h0))),Int.toNat_of_nonneg (Int.sub_nonneg_of_le (Int.le_of_lt (Int.lt_trans (by decide) h0))),show a-2=a-1-1 from (Int.sub_sub a 1 1).symm,Int.sub_add_cancel])
theorem z177 (h0:(0:Int)=(1:Int)):False:=by lia
theorem z178 (h0:a=4):a<=1000:=by lia
theorem z179 {b:Int}(h0:a=4):(b%4)<(a:Int):=by lia
theorem z180 (h0:a<100):(a:Int)<(10^32):=by simp;lia
theorem z181 {a:Int}(h0:3<=a):1<=a:=by lia
theorem z182 {a:Int}(h0:a<(10^30)):a<=(10^32):=by simp;lia
theorem z183 {a:Int}(h0:3<=a):0<a:=by lia
theorem z184 (h0:a<=10):a<=1000:=by lia
theorem z185 (h0:a=1+b)(h1:c<=d):c+1<=a+d:=by lia
theorem z186 (h0:a<=900):a<=999:=by lia
theorem z187 (h0:a+b<=1000):a+b<=1000000:=by lia
theorem z188 (h0:a=b)(h1:b<=500)(h2:c<=a):c<=1000:=by lia
theorem z189 (h0:a<=500)(h1:(b+(c+0))=a)(h2:d<=b):d<=900:=by lia
theorem z190 (h0:a=1+b)(h1:(c+(a+0))=d):c<d:=by lia
theorem z191 (h0:(a+(b+(c+0)))<=d):a+b<=d:=by lia
theorem z192 (h0:a<=500)(h1:(b+(c+0))=a):b<=500:=by lia
theorem z193 (h0:a<=63):a<=1000:=by lia
theorem z194 (h0:1<=a)(h1:b=a):(b:Int)≠0:=by simp;lia
theorem z195 (h0:a=1+b)(h1:a<=20)(h2:c<=b):c<=20:=by lia
theorem z196 {e:Nat}(h0:a<=500)(h1:(b+(c+0))=a)(h2:d<=b)(h3:e<=20):d+e<=1000:=by lia
theorem z197 (h0:a=1+b)(h1:(c+(a+0))=d):c+b<d:=by lia
theorem z198 {b:Int}(h0:(a:Int)=2)(h1:b≠(a:Int)):¬ (b=2):=Eq.mpr_not (congrArg (Eq b) (id (Eq.symm h0))) h1
theorem z199 (h0:a<=1):a<=1:=by omega
theorem z200 {e:Nat}(h0:a=0+b)(h1:(c+(d+(a+0)))<=e):(c+(d+b))<=e:=by lia
theorem z201 {e:Nat}(h0:a=1+b)(h1:(c+(d+(a+0)))<=e):(c+1+(d+b))<=e:=by lia
theorem z202 (h0:a<=500)(h1:b=1+c)(h2:(d+(b+0))=a):d+c<=500:=by lia
theorem z203 (h0:a<=63)(h1:b=a):b<=1000:=by lia
theorem z204 (h0:a=b)(h1:c=a):c=b:=by lia
theorem z205 {a:Int}(h0:1<=a)(h1:a<=(10^30)):(Int.natAbs a)<(10^32):=zab (Int.le_trans (by decide) h0) (Int.lt_of_le_of_lt h1 (by decide))
theorem z206 {b:Int}(h0:a<=50)(h1:2<=b)(h2:b<=((10^16)+(a:Int))):(Int.natAbs b)<(10^32):=zab (Int.le_trans (by decide) h1) (Int.lt_of_le_of_lt h2 (Int.lt_of_le_of_lt (Int.add_le_add_left (Int.ofNat_le.mpr h0) _) (by decide)))
theorem z207 {b:Int}(h0:a<=50)(h1:2<=b)(h2:b<=(1000000+(10*(a:Int)))):(Int.natAbs b)<(10^32):=zab (Int.le_trans (by decide) h1) (Int.lt_of_le_of_lt h2 (Int.lt_of_le_of_lt (Int.add_le_add_left (Int.mul_le_mul_of_nonneg_left (Int.ofNat_le.mpr h0) (by decide)) _) (by decide)))
theorem z208 (h0:a<=10+b)(h1:b<=50):a<=1000:=by lia
theorem z209 {a:Int}(h0:1<=a):1<=a:=by omega
theorem z210 {a:Int}(h0:1<=a):(-(2^62))<=a:=by simp;lia
theorem z211 {a:Int}(h0:a<=100):a<(2^62):=by omega
theorem z212 {b:Int}(h0:a<=50)(h1:2<=b)(h2:b<=(1000000+(10*(a:Int)))):(Int.natAbs b)<10000000:=by grind
theorem z213 {a b c:Int}(h0:a<b)(h1:b<=c):¬ (c=a):=by lia
theorem z214 {b:Int}(h0:a<=50)(h1:b<=(((10^30)-2000)+(a:Int))):b<=(10^32):=by simp;lia
theorem z215 (h0:a<=50)(h1:b<=10+a):b<=1000:=by lia
theorem z216 {a:Int}(h0:a<=(10^32)):a-1<=(10^32):=by simp;lia
theorem z217 {a b:Int}(h0:1<=a)(h1:¬ (b<=a)):0<=b-1:=by simp;lia
theorem z218 {a b:Int}(h0:1<=a)(h1:¬ (b<=a)):1<=b:=by lia
theorem z219 {a b:Int}(h0:1<a)(h1:a<b-1):b≠0:=by lia
theorem z220 {a b:Int}(h0:1<a)(h1:a<b-1):0<=b:=by lia
theorem z221 {a:Int}(h0:a<=((10^16)+(b:Int))):a<=((10^16)+(((b+1):Nat):Int)):=by simp;lia
theorem z222 {a c:Int}(h0:(2<=a)/\((a<=(1000000+(10*(b:Int))))/\((1<=c)/\(c<=100)))):(2<=a)/\((a<=(1000000+(10*(((b+1):Nat):Int))))/\((1<=c)/\(c<=100))):=⟨h0.1,Int.le_trans h0.2.1 (Int.add_le_add_left (Int.mul_le_mul_of_nonneg_left (Int.ofNat_le.mpr (Nat.le_succ b)) (by decide)) _),h0.2.2⟩
theorem z223 {a:Int}(h0:a<=(((10^30)-2000)+(b:Int))):a<=(((10^30)-2000)+(((b+1):Nat):Int)):=by simp;lia
theorem z224 (h0:1<=a):(0<=(-1+(a:Int)))/\((Int.toNat (-1+(a:Int)))=a-1):=by obtain ⟨k,rfl⟩:=Nat.exists_eq_add_of_le h0;rw [show (-1+((1+k:Nat):Int))=(k:Int) by rw [Int.natCast_add];exact Int.neg_add_cancel_left 1 k];exact ⟨Int.natCast_nonneg _,(Nat.add_sub_cancel_left ..).symm⟩
theorem z225 (h0:a+1<=b):((a+(b-(a+1)))+1)=b:=by rw [Nat.add_right_comm,Nat.add_sub_cancel' h0]
theorem z226 {a b:Int}(h0:2<=a):2<=(a+1-(b%2)):=by lia
theorem z227 {a c:Int}(h0:a<=((10^16)+(b:Int))):(a+1-(c%2))<=((10^16)+(((b+1):Nat):Int)):=by simp;lia
theorem z228 {a b:Int}(h0:2<=a):2<=(a+(b%2)):=by lia
theorem z229 {a c:Int}(h0:a<=((10^16)+(b:Int))):(a+(c%2))<=((10^16)+(((b+1):Nat):Int)):=by simp;lia
theorem z230 {a:Int}:1<=(1+(a%3)):=by lia
theorem z231 {a:Int}:(1+(a%3))<=(10^30):=by lia
theorem z232 {b:Int}(h0:a<=50)(h1:b<=(((10^30)-2000)+(a:Int))):b-1<=(10^30):=by simp;lia
theorem z233:((1:Int)<=((10:Int)^(30:Nat))):=by simp
theorem z234 {b:Int}(h0:a<=50)(h1:b<=(((10^30)-2000)+(a:Int))):b<=(10^30):=by simp;lia
theorem z235 (h0:a<=50)(h1:b<=(10+(a+1))):b<=1000:=by lia
theorem z236 {a:Int}(h0:a<(b:Int)):a<(b:Int):=by omega
theorem z237 {a:Int}(h0:0<=a)(h1:a<(b:Int))(h2:b=0):False:=by lia
theorem z238 {a:Int}:1<=((a%100)+1):=by lia
theorem z239 {a:Int}:((a%100)+1)<=100:=by lia
theorem z240 {a:Int}(h0:0<=a)(h1:a<(b:Int)):1<=b:=by lia
theorem z241 (h0:a<=50)(h1:b<=10+a):b<=999:=by lia
theorem z242 {a b:Int}(h0:2<=a):2<=(a+1+(b%9)):=by lia
theorem z243 {a c:Int}(h0:a<=(1000000+(10*(b:Int)))):(a+1+(c%9))<=(1000000+(10*(((b+1):Nat):Int))):=by simp;lia
theorem z244 {a b c:Int}(h0:a<=b):a<(b+1+(c%9)):=by lia
theorem z245 {b:Int}(h0:a<=50)(h1:b<=(1000000+(10*(a:Int)))):b<(10^32):=by simp;lia
theorem z246 {a:Int}(h0:2<=a):0<a:=by lia
theorem z247 {b c:Int}(h0:a<=50)(h1:b<=(((10^30)-2000)+(a:Int)))(h2:c<b):c<=(10^30):=Int.le_trans (Int.le_of_lt h2) (Int.le_trans h1 (Int.le_trans (Int.add_le_add_left (Int.ofNat_le.mpr h0) _) (by decide)))
theorem z248 (h0:a<=1000)(h1:(a:Int)=(b:Int))(h2:c+d+1=b):c+d<=1000:=by lia
theorem z249 (h0:a<=10+b)(h1:c+d+1=a):c+d<=(10+(b+1)):=by lia
theorem z250 (h0:1<(a:Int))(h1:b+c+1=a)(h2:b+c=0):False:=by lia
theorem z251 (h0:1<=a)(h1:(b:Int)=(a:Int)):(b:Int)≠0:=by lia
theorem z252 {a:Int}:0<=((a/64)%10):=by lia
theorem z253 {a:Int}:((a/64)%10)<10:=by lia
theorem z254 (h0:a+b+1=c)(h1:d<=1):a+d+b<=c:=by lia
theorem z255 (h0:1<=a+b+c)(h1:a+b+c=0):False:=by lia
theorem z256 (h0:a<=63)(h1:b+c+1=a)(h2:d<=1):b+d+c<=63:=by lia
theorem z257 {a:Int}:0<=(a%8):=by lia
theorem z258 {a:Int}:(a%8)<8:=by lia
theorem z259 (h0:a<=63)(h1:b+c+1=a):b<=999:=by lia
theorem z260 (h0:a<=63)(h1:b+c+1=a):b+1+c<=1000:=by lia
theorem z261 :1<=a+1+b:=by lia
theorem z262 {a:Int}(h0:a<=(((10^30)-2000)+(b:Int))):a+1<=(((10^30)-2000)+(((b+1):Nat):Int)):=by simp;lia
theorem z263 {a:Int}(h0:a=((b:Int)-1)):(min (Int.toNat (a+1)) b)=b:=by rw [h0,Int.sub_add_cancel];exact Nat.min_self b
theorem z264 {a:Int}(h0:0<=a)(h1:a<(b:Int))(h2:¬ (a=((b:Int)-1))):(Int.toNat (a+1))<b:=(Int.toNat_lt (Int.le_of_lt (Int.lt_add_one_of_le h0))).mpr (Int.lt_iff_le_and_ne.mpr ⟨Int.add_one_le_of_lt h1,fun e=>h2 (by rw [←e,Int.add_sub_cancel])⟩)
theorem z265 (h0:a<=63)(h1:b+c+1=a):b+c<=1000:=by lia
theorem z266 (h0:a+b+1=c)(h1:1<(c:Int)):1<=a+b:=by lia
theorem z267 (h0:a+1<=b):b=b-1+1:=(Nat.sub_add_cancel (Nat.le_trans (Nat.le_add_left 1 a) h0)).symm
theorem z268 {a b:Int}(h0:a<=b):a<=b:=by omega
theorem z269 {b c:Int}(h0:a<=50)(h1:b<=(((10^30)-2000)+(a:Int)))(h2:c=1000000000000000000000000000000):b<=c:=by lia
theorem z270 {b c:Int}(h0:a<=50)(h1:b=1000000000000000000000000000000)(h2:c<=(1000000+(10*(a:Int)))):c<=b:=by lia
theorem z271 {b c:Int}(h0:a<=50)(h1:b=1000000000000000000000000000000)(h2:c<=((10^16)+(a:Int))):c<=b:=by lia
theorem z272 (h0:a<=63)(h1:1<=a):(1<=(a:Int))/\((a:Int)<=200):=by lia
theorem z273 (h0:a<=b):a<=b:=by omega
theorem z274 {a b:Int}(h0:a<((10^30)-2000))(h1:b<=a):b<=(10^30):=by simp;lia
theorem z275 (h0:a<=10):a<=10+0:=by omega
theorem z276 {a b:Int}(h0:(2<=a)/\((a<=20000)/\((1<=b)/\(b<=100)))):(2<=a)/\((a<=(1000000+(10*((0:Nat):Int))))/\((1<=b)/\(b<=100))):=⟨h0.1,Int.le_trans h0.2.1 (by decide),h0.2.2⟩
theorem z277 {a b:Int}(h0:a=b)(h1:2*2<=b):2<=a:=by lia
theorem z278 (h0:a<=62)(h1:b<=a+1):b<=63:=by lia
theorem z279 :a<=a+1:=Nat.le_add_right a 1
theorem z280 (h0:a<=b+c)(h1:b<=d+1):a<=(d+(c+1)):=by lia
theorem z281 :a<=a+b:=Nat.le_add_right a b
theorem z282 (h0:a<=1000):a<=1000:=by omega
theorem z283 (h0:a<=60):a<=1000:=by lia
theorem z284 (h0:a<=60):a<64:=by lia
theorem z285 (h0:a<b):b=(a+(b-a-1+1)):=by rw [Nat.sub_add_cancel (Nat.sub_pos_of_lt h0),Nat.add_sub_cancel' (Nat.le_of_lt h0)]
theorem z286 (h0:a<=b+1)(h1:2*c<=a):c<=b:=by lia
theorem z287 (h0:1<=a)(h1:a=b*0):False:=by lia
theorem z288 {e:Nat}(h0:a<(2^100))(h1:a=b)(h2:(2^100)<=c)(h3:c<=d)(h4:d*1<=b):e<=100:=by lia
theorem z289 (h0:1<=a)(h1:b=0)(h2:c*0+b=a):1<=d:=by lia
theorem z290 (h0:a<=1000000):(Int.natAbs (a:Int))<(2^64):=by simp;lia
theorem z291 (h0:a<=b)(h1:c<a):c<=b:=by lia
theorem z292 (h0:a+0=b):b=a:=Nat.add_right_cancel (congrFun (congrArg HAdd.hAdd (id (Eq.symm h0))) a)
theorem z293 (h0:a<=1):a+1<=100:=by simp;lia
theorem z294 (h0:a+1<=100):a<=900:=by lia
theorem z295 (h0:a<=61)(h1:b<=a):b<=1000:=by lia
theorem z296 {e:Nat}(h0:a+1<=100)(h1:b<=61)(h2:c+a=d+e)(h3:c<=b):e<=1000:=by lia
theorem z297 (h0:a+b=c+d):a+1+b=(c+(d+1)):=by lia
theorem z298 {e:Nat}(h0:a+b=c+d)(h1:a<=e):e-a+d<(e-c+(b+1)):=by obtain ⟨k,rfl⟩:=Nat.exists_eq_add_of_le h1;rw [Nat.add_sub_cancel_left];refine Nat.lt_succ_of_le (Nat.le_of_add_le_add_right (b:=c) (?_:k+d+c<=a+k-c+b+c));rw [Nat.add_assoc k,Nat.add_comm d c,←h0,Nat.add_left_comm,←Nat.add_assoc,Nat.add_right_comm _ b c];exact Nat.add_le_add_right (Nat.sub_le_iff_le_add.mp (Nat.le_refl _)) b
theorem z299 (h0:a<=61):a<=1000:=by lia
theorem z300 (h0:a=b+1)(h1:c=a+1):b<=c:=by lia
theorem z301 (h0:a=b+1):b≠a:=by lia
theorem z302 (h0:a=b+1)(h1:c=a+1):b≠c:=by lia
theorem z303 (h0:a<=61)(h1:a-b+c=d)(h2:d<=a+1):c<=100:=by lia
theorem z304 {e f:Nat}(h0:a-b+c=d)(h1:d<=a+1)(h2:a-e+f<a-b+c):a-e+f<=a+1:=Nat.le_trans (Nat.le_of_lt h2) (Nat.le_trans (Nat.le_of_eq h0) h1)
theorem z305 (h0:a<=61)(h1:b<=a):b<64:=by lia
theorem z306 (h0:a<=61)(h1:b<=a)(h2:c=b):c<=999:=by lia
theorem z307 (h0:a<=9)(h1:b<=9*c):a+b<=(9*(c+1)):=by lia
theorem z308 {a:Int}(h0:a<=(10^20)):a<=(((10^30)-2000)+((1:Nat):Int)):=by simp;lia
theorem z309 (h0:a<=6):a<=10+1:=by simp;lia
theorem z310 {a:Int}(h0:2<=a):2<=(Int.toNat a):=by lia
theorem z311 {a:Int}(h0:3<=a):1<=(Int.toNat (a-1)):=Int.lt_toNat.mpr (Int.sub_pos_of_lt (Int.lt_of_lt_of_le (by decide) h0))
theorem z312 {a:Int}(h0:3<=a):0<=a-1:=by lia
theorem z313 {a:Int}(h0:a<=(10^20)):(Int.toNat (a-1))<(10^21):=Nat.lt_of_le_of_lt (Int.toNat_le.mpr (show a-1<=((10^20:Nat):Int) from Int.le_trans (Int.sub_le_self _ (by decide)) (Int.le_trans h0 (by decide)))) (by decide)
theorem z314 {a:Int}(h0:a<=30000):a<=(1000000+(10*((1:Nat):Int))):=by simp;lia
theorem z315 {a:Int}(h0:3<=a):0<a-1:=by lia
theorem z316 {a b c:Int}(h0:a<=b)(h1:b<=c-1):a<c:=by lia
theorem z317 (h0:a<=b)(h1:b<=60):a+1<=61:=by simp;lia
theorem z318 (h0:a<=6):a<=1000:=by lia
theorem z319 (h0:a<=9):a<=63:=by lia
theorem z320 {a:Int}(h0:(3<=a)/\(a<=1000000000000000000000000000000))(h1:(a<=(10^20))\/((10^30)<a)):a<=(10^20):=h1.resolve_right fun h=>absurd h (Int.not_lt.mpr (Int.le_trans h0.2 (by decide)))
theorem z321 {a:Int}(h0:(1<=a)/\(a<=1000000000000000000000000000000)):a<=(10^30):=by simp;lia
theorem z322 {a:Int}(h0:a<=(10^20)):(Int.toNat (a-1))<=(10^30):=by simp;lia
theorem z323 {a:Int}(h0:(2<=a)/\(a<=30000)):2<=(Int.toNat a):=by lia
theorem z324 {a:Int}(h0:(2<=a)/\(a<=30000)):(Int.toNat a)<=1000000:=by simp;lia
theorem z325 (h0:a<=6):a<=6:=by omega
theorem z326 (h0:a<=6):a<64:=by lia
theorem z327 (h0:a<=10+1):a<=11:=by omega
theorem z328 (h0:a<=60)(h1:b<=6+11*c)(h2:c<=a):b<=1000:=by lia
theorem z329 (h0:a<=60)(h1:b<=a)(h2:c+1<=6+11*b):c<=900:=by lia
theorem z330 (h0:(((a-b)*20)+(c+1))=d):(((a-b)*20)+c)<d:=by lia
theorem z331 (h0:a<=60)(h1:b<=a):b<=1000:=by lia
theorem z332 (h0:a<=60)(h1:b+1<=6+11*c)(h2:c+1<=a)(h3:d<=11):b+d<=1000:=by lia
theorem z333 {e:Nat}(h0:(((a-b)*20)+(c+1))=d)(h1:b+1<=a)(h2:e<=11):(((a-(b+1))*20)+(c+e))<d:=by obtain ⟨k,rfl⟩:=Nat.exists_eq_add_of_le h1;rw [Nat.add_sub_cancel_left];rw [show b+1+k-b=k+1 by rw [Nat.add_assoc,Nat.add_sub_cancel_left,Nat.add_comm],Nat.succ_mul] at h0;subst h0;rw [Nat.add_assoc];exact Nat.add_lt_add_left (Nat.lt_of_le_of_lt (Nat.add_le_add_left h2 c) (by rw [Nat.add_left_comm];exact Nat.add_lt_add_left (by decide) c)) _
theorem z334 (h0:a+1<=6+11*b)(h1:c<=11):a+c<=(6+(11*(b+1))):=by lia
theorem z335 (h0:a+1<=b):a+1<=b:=by omega
theorem z336 (h0:a<=60)(h1:b=a):b<=1000:=by lia
theorem z337 (h0:a<=60)(h1:b=a):b<=999:=by lia
theorem z338 (h0:(0<a)↔(b=0)):((a:Int)>0)↔((b:Int)=0):=by simp;lia
theorem z339 {a:Int}(h0:3<=a):3<=a:=by omega
theorem z340 {a:Int}(h0:a<=(10^20)):a<=1000000000000000000000000000000:=by lia
theorem z341 (h0:a<=6)(h1:b=a):b<=1000:=by lia
theorem z342 (h0:a<=6)(h1:b<=c)(h2:c+1<=a):b<=1000:=by lia
theorem z343 {a:Int}(h0:a<=20000):a<=30000:=by lia
theorem z344 (h0:a<b)(h1:c=b+1):c≠a:=by lia
theorem z345 (h0:a<=20):a<=500:=by lia
theorem z346 (h0:a<=7+1):a<=1000:=by lia
theorem z347 {b:Int}(h0:a<=1000)(h1:b<(a:Int)):b<(2^62):=by simp;lia
theorem z348 (h0:a<=4):a<=1000:=by lia
theorem z349 (h0:a<=4)(h1:b<=a):b<=5:=by lia
theorem z350 (h0:a=13):a<=1000:=by lia
theorem z351 (h0:a=13):2<=a:=by lia
theorem z352 (h0:a<=4):a<(2^62):=by simp;lia
theorem z353 {a b:Int}(h0:a<=b+1)(h1:b<=20000):a<=30000:=by lia
theorem z354 :2<=4+2*a:=by lia
theorem z355 (h0:a<40):4+2*a<=401:=by lia
theorem z356 (h0:a<40):(Int.natAbs (a:Int))<(2^64):=by simp;lia
theorem z357 :(4+(2*(a:Int)))=(((4+2*a):Nat):Int):=by simp
theorem z358 {b:Int}(h0:a<=4):((min (Int.toNat b) a)+((a-(Int.toNat b))+1))<=5:=by rcases Nat.le_total (Int.toNat b) a with h|h;(rw [Nat.min_eq_left h,←Nat.add_assoc,Nat.add_sub_cancel' h];exact Nat.succ_le_succ h0);(rw [Nat.min_eq_right h,Nat.sub_eq_zero_of_le h];exact Nat.succ_le_succ h0)
theorem z359 (h0:a=13):1<=a:=by lia
theorem z360 (h0:a<b)(h1:c=b+1):a≠c:=by lia
theorem z361 :0<=((a:Int)%3):=Int.zero_le_ofNat (a%Int.natAbs 3)
theorem z362 :((a:Int)%3)=(((a%3):Nat):Int):=by simp
theorem z363 (h0:a=13):(b%3)<=a:=by grind
theorem z364 {a:Int}(h0:(2<=a)/\(a<=401)):0<=a:=by lia
theorem z365 {a:Int}(h0:(2<=a)/\(a<=401)):2<=(Int.toNat a):=by lia
theorem z366 {a:Int}(h0:(2<=a)/\(a<=401)):(Int.toNat a)<=401:=by simp;lia
theorem z367 :1<=(13-(a%3)):=Nat.le_trans (by decide:1<=13-3) (Nat.sub_le_sub_left (Nat.le_of_lt (Nat.mod_lt a (by decide))) 13)
theorem z368 :(13-(a%3))<=1000:=by simp;lia
theorem z369 (h0:a<=4)(h1:b=a):b<=1000:=by lia
theorem z370 (h0:a<=4)(h1:b=a):b<=5:=by lia
theorem z371 (h0:a<b)(h1:b<=c):a≠c:=by lia
theorem z372 (h0:a<=5):a<=1000:=by lia
theorem z373 :(1+(a:Int))≠0:=by lia
theorem z374 :0<=(1+(a:Int)):=Int.zero_le_ofNat (1+a)
theorem z375 :0<(1+(a:Int)):=by lia
theorem z376 {a:Int}(h0:0<=a):0<=a:=by omega
theorem z377 {b:Int}(h0:a<=5):((a-(min (Int.toNat b) a))+(min (min (Int.toNat b) a) a))<=1000:=Nat.le_trans (Nat.add_le_add (Nat.sub_le ..) (Nat.min_le_right ..)) (Nat.le_trans (Nat.add_le_add h0 h0) (by decide))
theorem z378 {b:Int}(h0:a<=5):((a-(min (Int.toNat b) a))+(min (min (Int.toNat b) a) a))<=6:=by grind
theorem z379 (h0:a<=3):(max ((max 0 (max 0 0))+1) a)<=3:=by simp;lia
theorem z380 (h0:a<=3):((max 0 (max 0 (max ((max 0 (max (a+1) 0))+1) 0)))+1)<=8:=by simp;lia
theorem z381 (h0:a<=b+1)(h1:c<=b):(max c a)<=b+1:=Nat.max_le.mpr ⟨Nat.le_succ_of_le h1,h0⟩
theorem z382 (h0:a<=10):a<=20:=by lia
theorem z383 (h0:a<=8+1):a+1<=20:=by simp;lia
theorem z384 (h0:a<=10):((max a 0)+1)<=20:=by simp;lia
theorem z385 (h0:a<=20+1):a+1<=100:=by simp;lia
theorem z386 (h0:a<=20):a<=100:=by lia
theorem z387 {a:Int}(h0:(a=2)\/((a=2)\/((a=1)\/((a=1000000000000000000000000000000+1)\/((a=0)\/(a=2)))))):(a<=(10^20))\/((10^30)<a):=by rcases h0 with rfl|rfl|rfl|rfl|rfl|rfl<;>decide
theorem z388 {a b:Int}(h0:a<=(10^20))(h1:a=b):(b<=(10^20))\/((10^30)<b):=.inl (h1▸h0)
theorem z389 {a:Int}:0<=((a/8)%398):=by lia
theorem z390 {a:Int}:((a/8)%398)<398:=by lia
theorem z391 {a:Int}(h0:0<=a):3<=(Int.toNat (3+a)):=by lia
theorem z392 {a:Int}(h0:a<398):(Int.toNat (3+a))<=401:=by simp;lia
theorem z393 {a:Int}(h0:0<=a):0<=3+a:=by lia
theorem z394 (h0:((a:Int)-1)=(((a-1):Nat):Int)):(a:Int)≠0:=by omega
theorem z395 (h0:3<=a):1<=a-1:=Nat.le_sub_one_of_lt (Nat.lt_of_lt_of_le (by decide) h0)
theorem z396 (h0:a<=401):(a:Int)<=(10^20):=by simp;lia
theorem z397 {a:Int}(h0:0<=a):0<=(a/8):=by lia
theorem z398 (h0:a<=401):a<=1000000:=by lia
theorem z399 {b:Int}(h0:a<=401)(h1:b=(a:Int)):b<=(10^20):=by simp;lia
theorem z400 (h0:a<=401)(h1:b=401-a)(h2:a≠401):(401-(a+1))<b:=by subst h1;exact Nat.sub_lt_sub_left (Nat.lt_of_le_of_ne h0 h2) (Nat.lt_succ_self _)
theorem z401 (h0:a<=401)(h1:a≠401):a+1<=401:=by simp;lia
theorem z402 (h0:¬ (((63:Nat):Int)<(a:Int))):a<=63:=by omega
end Mine
namespace Mine
open PySem PySem.W PyProof.Rows
set_option Elab.async false
noncomputable def topRunT (tb:String->Option Builtin) (p:Program) (w:World) (n₀:Nat) (ann:Option Value):Nat->SharedT->Thread->Option SharedT
 | 0,_,_=>none
 | n+1,s,t=>match through t with
  | true=>some s
  | false=>match stepOk n₀ ann t with
   | false=>none
   | true=>match stepT (denote tb) p w s t with
    | some (s',t')=>topRunT tb p w n₀ ann n s' t'
    | none=>none
theorem topRunT_spec {tb:String->Option Builtin}{p:Program}{w:World}{n0:Nat}{ann:Option Value} :
  ∀ {n:Nat}{s s':SharedT}{t:Thread},topRunT tb p w n0 ann n s t=some s'->topRun tb p w n0 ann n s.abs t=some s'.abs
 | 0,_,_,_,h=>by cases h
 | n+1,s,s',t,h=>by
  unfold topRunT at h
  unfold topRun
  cases he:through t with
  | true=>rw [he] at h;cases h;rfl
  | false =>
   rw [he] at h
   cases hk:stepOk n0 ann t with
   | false=>rw [hk] at h;cases h
   | true =>
    rw [hk] at h
    cases hs:stepT (denote tb) p w s t with
    | none=>rw [hs] at h;cases h
    | some r=>obtain ⟨s2,t2⟩:=r;rw [hs] at h;rw [stepT_spec hs];exact topRunT_spec h
noncomputable def putAll:List Obj->Nat->BT->BT
 | [],_,t=>t
 | o::l,n,t=>putAll l (n+1) (t.ins n o)
noncomputable def bootTree (P:Params):BT:=putAll (boot_heap P).objs.toList 0 .nil
noncomputable def bootLife (P:Params):Life:=(boot_heap P).life
noncomputable def bootT (P:Params) (n:Nat) (os:OsState):SharedT:=⟨bootTree P,n,bootLife P,Array.mk [],boot_drawn,boot_toks,os⟩
theorem boot_abs (P:Params):absHeap (bootTree P) (boot_heap P).objs.size (bootLife P)=boot_heap P:=by kernel_rfl
theorem boot_seen (P:Params):(boot_heap P).isNs mainGlobals=true:=by kernel_rfl
noncomputable def headOf (p q:Program) (loose:List Str) (Xt:Shared->Bool) (M:Nat) (w:World) (os:OsState) :=
 (topRunT treeTable p w (boot_heap w.params).objs.size ((boot_heap w.params).nsMap mainGlobals "__annotations__") M (bootT w.params (boot_heap w.params).objs.size os) (topStub p)).map fun sT =>
  (staticsOk (importedModules p.main.body) (boot_heap w.params) sT.abs.heap&&namesBound p sT.abs.heap&&gensDone sT.abs&&laidKept (boot_heap w.params) sT.abs.heap,
   openSeen q loose (importedModules p.main.body) Xt true sT.abs)
set_option maxHeartbeats 4000000 in
theorem lay1:Function.const _ true (@headOf)=true:=by k_qdec
theorem left_of_head {p q:Program}{loose:List Str}{Xt:Shared->Bool}{M N:Nat}(e:opening p=plainProg p.main.scope.names) (hN:Nat.ble 600 N=true)
  (f:∀ s,fenceModules? p s=some s) (le:Nat.ble M N=true) (h:∀ w os,headOf p q loose Xt M w os=some (true,openGood q loose)) :
  LeftO p q loose Xt (Hook.obs Hook.none) (Hook.val Hook.none) N:=fun w=>by
 obtain ⟨⟨hp,gs,d,k,os⟩,e1,e2⟩:=yf (boot_open e hN f w)
 obtain ⟨rfl,rfl,rfl,rfl⟩:hp=boot_heap w.params/\gs=Array.mk []/\d=boot_drawn/\k=boot_toks:=by simpa using e2
 obtain ⟨sT,r,l⟩:=yf (h w os)
 have l1:=congrArg Prod.fst l
 have l2:=congrArg Prod.snd l
 dsimp only at l1 l2
 have r:=topRunT_spec r
 have ea:(bootT w.params (boot_heap w.params).objs.size os).abs=⟨boot_heap w.params,Array.mk [],boot_drawn,boot_toks,os⟩:=by
  unfold bootT SharedT.abs
  dsimp only
  rw [boot_abs]
 rw [ea] at r
 have r:=topRun_mono (N-M) _ _ _ _ r
 rw [show M+(N-M)=N by have:=ye le;(first|lia|omega)] at r
 have z1:=boot_seen w.params
 unfold openEnds
 rw [e1]
 show Option.map _ (topFrom treeTable p w N ⟨boot_heap w.params,Array.mk [],boot_drawn,boot_toks,os⟩)=_
 have t:topFrom treeTable p w N ⟨boot_heap w.params,Array.mk [],boot_drawn,boot_toks,os⟩=some sT.abs:=by
  unfold topFrom
  dsimp only
  rw [z1,r]
  show (match staticsOk (importedModules p.main.body) (boot_heap w.params) sT.abs.heap&&namesBound p sT.abs.heap&&gensDone sT.abs&&laidKept (boot_heap w.params) sT.abs.heap with|true=>_|false=>_)=_
  rw [l1]
 rw [t]
 exact congrArg some (Prod.ext l2 rfl)
end Mine
namespace Mine
theorem qa4 {p0 p1:Prop}{G:Prop}(h:p0/\p1) (g:p0->p1->G):G:=by
 obtain ⟨h0,h1⟩:=h;exact g h0 h1
theorem qfk {p0 p1 p2:Prop}{G:Prop}(h:p0/\p1/\p2) (g:p0->p1->p2->G):G:=by
 obtain ⟨h0,h1,h2⟩:=h;exact g h0 h1 h2
theorem qh0 {p0 p1 p2 p3:Prop}{G:Prop}(h:p0/\p1/\p2/\p3) (g:p0->p1->p2->p3->G):G:=by
 obtain ⟨h0,h1,h2,h3⟩:=h;exact g h0 h1 h2 h3
theorem qzi {p0 p1 p2 p3 p4:Prop}{G:Prop}(h:p0/\p1/\p2/\p3/\p4) (g:p0->p1->p2->p3->p4->G):G:=by
 obtain ⟨h0,h1,h2,h3,h4⟩:=h;exact g h0 h1 h2 h3 h4
theorem qst {p0 p1 p2 p3 p4 p5:Prop}{G:Prop}(h:p0/\p1/\p2/\p3/\p4/\p5) (g:p0->p1->p2->p3->p4->p5->G):G:=by
 obtain ⟨h0,h1,h2,h3,h4,h5⟩:=h;exact g h0 h1 h2 h3 h4 h5
theorem qar {α0:Sort _}{p0:α0->Prop}{G:Prop}(h:∃ a0,p0 a0) (g:∀ a0,p0 a0->G):G:=by
 obtain ⟨a0,h0⟩:=h;exact g a0 h0
theorem qad {α0:Sort _}{p0 p1:α0->Prop}{G:Prop}(h:∃ a0,p0 a0/\p1 a0) (g:∀ a0,p0 a0->p1 a0->G):G:=by
 obtain ⟨a0,h0,h1⟩:=h;exact g a0 h0 h1
theorem qbi {α0:Sort _}{p0 p1 p2:α0->Prop}{G:Prop}(h:∃ a0,p0 a0/\p1 a0/\p2 a0) (g:∀ a0,p0 a0->p1 a0->p2 a0->G):G:=by
 obtain ⟨a0,h0,h1,h2⟩:=h;exact g a0 h0 h1 h2
theorem qrz {α0:Sort _}{p0 p1 p2 p3:α0->Prop}{G:Prop}(h:∃ a0,p0 a0/\p1 a0/\p2 a0/\p3 a0) (g:∀ a0,p0 a0->p1 a0->p2 a0->p3 a0->G):G:=by
 obtain ⟨a0,h0,h1,h2,h3⟩:=h;exact g a0 h0 h1 h2 h3
theorem qyc {α0:Sort _}{p0 p1 p2 p3 p4 p5:α0->Prop}{G:Prop}(h:∃ a0,p0 a0/\p1 a0/\p2 a0/\p3 a0/\p4 a0/\p5 a0) (g:∀ a0,p0 a0->p1 a0->p2 a0->p3 a0->p4 a0->p5 a0->G):G:=by
 obtain ⟨a0,h0,h1,h2,h3,h4,h5⟩:=h;exact g a0 h0 h1 h2 h3 h4 h5
theorem qjz {α0:Sort _}{α1:Sort _}{p0:α0->α1->Prop}{G:Prop}(h:∃ a0 a1,p0 a0 a1) (g:∀ a0 a1,p0 a0 a1->G):G:=by
 obtain ⟨a0,a1,h0⟩:=h;exact g a0 a1 h0
theorem qjy {α0:Sort _}{α1:Sort _}{p0 p1:α0->α1->Prop}{G:Prop}(h:∃ a0 a1,p0 a0 a1/\p1 a0 a1) (g:∀ a0 a1,p0 a0 a1->p1 a0 a1->G):G:=by
 obtain ⟨a0,a1,h0,h1⟩:=h;exact g a0 a1 h0 h1
theorem qa6 {α0:Sort _}{α1:Sort _}{p0 p1 p2:α0->α1->Prop}{G:Prop}(h:∃ a0 a1,p0 a0 a1/\p1 a0 a1/\p2 a0 a1) (g:∀ a0 a1,p0 a0 a1->p1 a0 a1->p2 a0 a1->G):G:=by
 obtain ⟨a0,a1,h0,h1,h2⟩:=h;exact g a0 a1 h0 h1 h2
theorem qry {α0:Sort _}{α1:Sort _}{p0 p1 p2 p3:α0->α1->Prop}{G:Prop}(h:∃ a0 a1,p0 a0 a1/\p1 a0 a1/\p2 a0 a1/\p3 a0 a1) (g:∀ a0 a1,p0 a0 a1->p1 a0 a1->p2 a0 a1->p3 a0 a1->G):G:=by
 obtain ⟨a0,a1,h0,h1,h2,h3⟩:=h;exact g a0 a1 h0 h1 h2 h3
theorem qzh {α0:Sort _}{α1:Sort _}{p0 p1 p2 p3 p4:α0->α1->Prop}{G:Prop}(h:∃ a0 a1,p0 a0 a1/\p1 a0 a1/\p2 a0 a1/\p3 a0 a1/\p4 a0 a1) (g:∀ a0 a1,p0 a0 a1->p1 a0 a1->p2 a0 a1->p3 a0 a1->p4 a0 a1->G):G:=by
 obtain ⟨a0,a1,h0,h1,h2,h3,h4⟩:=h;exact g a0 a1 h0 h1 h2 h3 h4
theorem qpg {α0:Sort _}{α1:Sort _}{α2:Sort _}{p0:α0->α1->α2->Prop}{G:Prop}(h:∃ a0 a1 a2,p0 a0 a1 a2) (g:∀ a0 a1 a2,p0 a0 a1 a2->G):G:=by
 obtain ⟨a0,a1,a2,h0⟩:=h;exact g a0 a1 a2 h0
theorem qx9 {α0:Sort _}{α1:Sort _}{α2:Sort _}{p0 p1:α0->α1->α2->Prop}{G:Prop}(h:∃ a0 a1 a2,p0 a0 a1 a2/\p1 a0 a1 a2) (g:∀ a0 a1 a2,p0 a0 a1 a2->p1 a0 a1 a2->G):G:=by
 obtain ⟨a0,a1,a2,h0,h1⟩:=h;exact g a0 a1 a2 h0 h1
theorem qi1 {α0:Sort _}{α1:Sort _}{α2:Sort _}{p0 p1 p2:α0->α1->α2->Prop}{G:Prop}(h:∃ a0 a1 a2,p0 a0 a1 a2/\p1 a0 a1 a2/\p2 a0 a1 a2) (g:∀ a0 a1 a2,p0 a0 a1 a2->p1 a0 a1 a2->p2 a0 a1 a2->G):G:=by
 obtain ⟨a0,a1,a2,h0,h1,h2⟩:=h;exact g a0 a1 a2 h0 h1 h2
theorem qvu {α0:Sort _}{α1:Sort _}{α2:Sort _}{p0 p1 p2 p3:α0->α1->α2->Prop}{G:Prop}(h:∃ a0 a1 a2,p0 a0 a1 a2/\p1 a0 a1 a2/\p2 a0 a1 a2/\p3 a0 a1 a2) (g:∀ a0 a1 a2,p0 a0 a1 a2->p1 a0 a1 a2->p2 a0 a1 a2->p3 a0 a1 a2->G):G:=by
 obtain ⟨a0,a1,a2,h0,h1,h2,h3⟩:=h;exact g a0 a1 a2 h0 h1 h2 h3
theorem qyb {α0:Sort _}{α1:Sort _}{α2:Sort _}{p0 p1 p2 p3 p4:α0->α1->α2->Prop}{G:Prop}(h:∃ a0 a1 a2,p0 a0 a1 a2/\p1 a0 a1 a2/\p2 a0 a1 a2/\p3 a0 a1 a2/\p4 a0 a1 a2) (g:∀ a0 a1 a2,p0 a0 a1 a2->p1 a0 a1 a2->p2 a0 a1 a2->p3 a0 a1 a2->p4 a0 a1 a2->G):G:=by
 obtain ⟨a0,a1,a2,h0,h1,h2,h3,h4⟩:=h;exact g a0 a1 a2 h0 h1 h2 h3 h4
theorem qzg {α0:Sort _}{α1:Sort _}{α2:Sort _}{α3:Sort _}{p0:α0->α1->α2->α3->Prop}{G:Prop}(h:∃ a0 a1 a2 a3,p0 a0 a1 a2 a3) (g:∀ a0 a1 a2 a3,p0 a0 a1 a2 a3->G):G:=by
 obtain ⟨a0,a1,a2,a3,h0⟩:=h;exact g a0 a1 a2 a3 h0
theorem qzl {α0:Sort _}{α1:Sort _}{α2:Sort _}{α3:Sort _}{p0 p1:α0->α1->α2->α3->Prop}{G:Prop}(h:∃ a0 a1 a2 a3,p0 a0 a1 a2 a3/\p1 a0 a1 a2 a3) (g:∀ a0 a1 a2 a3,p0 a0 a1 a2 a3->p1 a0 a1 a2 a3->G):G:=by
 obtain ⟨a0,a1,a2,a3,h0,h1⟩:=h;exact g a0 a1 a2 a3 h0 h1
theorem qzf {α0:Sort _}{α1:Sort _}{α2:Sort _}{α3:Sort _}{p0 p1 p2:α0->α1->α2->α3->Prop}{G:Prop}(h:∃ a0 a1 a2 a3,p0 a0 a1 a2 a3/\p1 a0 a1 a2 a3/\p2 a0 a1 a2 a3) (g:∀ a0 a1 a2 a3,p0 a0 a1 a2 a3->p1 a0 a1 a2 a3->p2 a0 a1 a2 a3->G):G:=by
 obtain ⟨a0,a1,a2,a3,h0,h1,h2⟩:=h;exact g a0 a1 a2 a3 h0 h1 h2
theorem qzk {α0:Sort _}{α1:Sort _}{α2:Sort _}{α3:Sort _}{α4:Sort _}{p0:α0->α1->α2->α3->α4->Prop}{G:Prop}(h:∃ a0 a1 a2 a3 a4,p0 a0 a1 a2 a3 a4) (g:∀ a0 a1 a2 a3 a4,p0 a0 a1 a2 a3 a4->G):G:=by
 obtain ⟨a0,a1,a2,a3,a4,h0⟩:=h;exact g a0 a1 a2 a3 a4 h0
theorem qx8 {α0:Sort _}{α1:Sort _}{α2:Sort _}{α3:Sort _}{α4:Sort _}{p0 p1 p2:α0->α1->α2->α3->α4->Prop}{G:Prop}(h:∃ a0 a1 a2 a3 a4,p0 a0 a1 a2 a3 a4/\p1 a0 a1 a2 a3 a4/\p2 a0 a1 a2 a3 a4) (g:∀ a0 a1 a2 a3 a4,p0 a0 a1 a2 a3 a4->p1 a0 a1 a2 a3 a4->p2 a0 a1 a2 a3 a4->G):G:=by
 obtain ⟨a0,a1,a2,a3,a4,h0,h1,h2⟩:=h;exact g a0 a1 a2 a3 a4 h0 h1 h2
end Mine
namespace Mine
open PySem
def Mild (f:Obj->Obj):Prop:=∀ o vs,o.data=.fields vs->∃ vs':Array Value,(f o).data=.fields vs'/\vs'[2]?=vs[2]?
inductive Calm:{α:Type}->Sem α->Prop
 | pure {α:Type}{a:α}:Calm (Sem.pure a)
 | raise {α:Type}{e:Value}:Calm (Sem.raise e:Sem α)
 | unsupported {α:Type}{w:String}:Calm (Sem.unsupported w:Sem α)
 | finish {α:Type}{e:Ending}:Calm (Sem.finish e:Sem α)
 | rule {α:Type}{t:String}{k:Unit->Sem α}:(∀ u,Calm (k u))->Calm (.rule t k)
 | at {α:Type}{p:Pos}{k:Unit->Sem α}:(∀ u,Calm (k u))->Calm (.at p k)
 | load {α:Type}{a:Addr}{p:Option Value}{k:Obj->Sem α}:(∀ u,Calm (k u))->Calm (.load a p k)
 | update {α:Type}{a:Addr}{p:Option Value}{f:Obj->Obj}{k:Unit->Sem α}:Mild f->(∀ u,Calm (k u))->Calm (.update a p f k)
 | alloc {α:Type}{o:Obj}{k:Addr->Sem α}:(∀ u,Calm (k u))->Calm (.alloc o k)
 | loadIfAlive {α:Type}{a:Addr}{k:Option Obj->Sem α}:(∀ u,Calm (k u))->Calm (.loadIfAlive a k)
 | point {α:Type}{l:List Value}{k:Unit->Sem α}:(∀ u,Calm (k u))->Calm (.point l k)
 | fresh {α:Type}{k:Tok->Sem α}:(∀ u,Calm (k u))->Calm (.fresh k)
 | ask {α:Type}{k:Setting->Sem α}:(∀ u,Calm (k u))->Calm (.ask k)
 | handled {α:Type}{o:Bool}{k:Option Value->Sem α}:(∀ u,Calm (k u))->Calm (.handled o k)
 | stack {α:Type}{k:List (Code×Pos)->Sem α}:(∀ u,Calm (k u))->Calm (.stack k)
theorem Calm.bind {α β:Type}{m:Sem α}{f:α->Sem β}(h:Calm m) (k:∀ a,Calm (f a)):Calm (m >>= f):=by
 show Calm (Sem.bind m f)
 induction h with
 | pure=>exact k _
 | raise=>exact .raise
 | unsupported=>exact .unsupported
 | finish=>exact .finish
 | rule _ ih=>exact .rule fun u=>ih u
 | «at» _ ih=>exact .at fun u=>ih u
 | load _ ih=>exact .load fun u=>ih u
 | update hf _ ih=>exact .update hf fun u=>ih u
 | alloc _ ih=>exact .alloc fun u=>ih u
 | loadIfAlive _ ih=>exact .loadIfAlive fun u=>ih u
 | point _ ih=>exact .point fun u=>ih u
 | fresh _ ih=>exact .fresh fun u=>ih u
 | ask _ ih=>exact .ask fun u=>ih u
 | handled _ ih=>exact .handled fun u=>ih u
 | stack _ ih=>exact .stack fun u=>ih u
def qc3 (e:Addr) (h:Heap):Prop:=∃ o vs,h.get? e=some o/\o.data=.fields vs/\(vs:Array Value)[2]?=some .none
theorem qc3.push {e:Addr}(x:qc3 e h) (o:Obj):qc3 e (h.push o):=let ⟨o',vs,a,b,c⟩:=x;⟨o',vs,Heap.get?_push_of_some o a,b,c⟩
theorem qc3.update {e a:Addr}{h:Heap}{f:Obj->Obj}(x:qc3 e h) (hf:Mild f):qc3 e (h.update a f):=by
 refine qa6 (x) fun o vs h1 h2 h3=>?_
 clear x
 by_cases z:a=e
 ·subst z
  refine qad (hf o vs h2) fun vs' h4 h5=>?_
  exact ⟨f o,vs',Heap.get?_update_self f h1 (Obj.isFreed_of_fields h4),h4,h5.trans h3⟩
 ·exact ⟨o,vs,(Heap.get?_update_other h f z).trans h1,h2,h3⟩
theorem qc3.keeps {e:Addr}(x:qc3 e h) (k:∀ b o,h.get? b=some o->h'.get? b=some o):qc3 e h':=let ⟨o',vs,a,b,c⟩:=x;⟨o',vs,k _ _ a,b,c⟩
theorem qu8 {e:Addr}{α:Type}{t:Sem α}(h:Calm t):∀ {M:Model}{Γ:_}{Q:α->Pos->Shared->Prop}{E:Value->Pos->Shared->Prop}{p:Pos}{s:Shared},qc3 e s.heap->Sem.wp M Γ t Q E p s->Sem.wp M Γ t (fun a p s'=>Q a p s'/\qc3 e s'.heap) E p s:=by
 induction h with
 | pure=>intro M Γ Q E p s x w;rw [Sem.wp] at w ⊢;exact ⟨w,x⟩
 | raise=>intro M Γ Q E p s x w;rw [Sem.wp] at w ⊢;exact w
 | unsupported=>intro M Γ Q E p s x w;rw [Sem.wp] at w;exact w.elim
 | finish=>intro M Γ Q E p s x w;rw [Sem.wp] at w;exact w.elim
 | rule _ ih=>intro M Γ Q E p s x w;rw [Sem.wp] at w ⊢;exact ih _ x w
 | «at» _ ih=>intro M Γ Q E p s x w;rw [Sem.wp] at w ⊢;exact ih _ x w
 | load _ ih=>intro M Γ Q E p s x w;rw [Sem.wp] at w ⊢;obtain ⟨o,h1,h2⟩:=w;exact ⟨o,h1,ih _ x h2⟩
 | update hf _ ih=>intro M Γ Q E p s x w;rw [Sem.wp] at w ⊢;exact ⟨w.1,ih _ (x.update hf) w.2⟩
 | alloc _ ih=>intro M Γ Q E p s x w;rw [Sem.wp] at w ⊢;exact ih _ (x.push _) w
 | loadIfAlive _ ih=>intro M Γ Q E p s x w;rw [Sem.wp] at w ⊢;exact ih _ x w
 | point _ ih=>intro M Γ Q E p s x w;rw [Sem.wp] at w ⊢;exact ih _ x w
 | fresh _ ih=>intro M Γ Q E p s x w;rw [Sem.wp] at w ⊢;exact ih _ x w
 | ask _ ih=>intro M Γ Q E p s x w;rw [Sem.wp] at w ⊢;exact ih _ x w
 | handled _ ih=>intro M Γ Q E p s x w;rw [Sem.wp] at w ⊢;exact ih _ x w
 | stack _ ih=>intro M Γ Q E p s x w;rw [Sem.wp] at w ⊢;exact ih _ x w
theorem Calm.any {e:Addr}{α:Type}{t:Sem α}(h:Calm t){M:Model}{Q:α->Shared->Prop}(x:qc3 e s.heap) (w:wpAny M A t Q E s):wpAny M A t (fun a s'=>Q a s'/\qc3 e s'.heap) E s :=
 fun Γ p hΓ=>qu8 h x (w Γ p hΓ)
theorem qlm (h:i≠2):Mild (Obj.mapFields (·.setIfInBounds i v)):=fun o vs hd =>
 ⟨_,Obj.data_mapFields hd _,by rw [Array.getElem?_setIfInBounds_ne h]⟩
theorem qhr :Calm (fieldsOf v):=by
 unfold fieldsOf
 split
 ·refine Calm.bind (Calm.load fun _=>.pure) fun o=>?_
  split
  ·exact .pure
  ·exact .unsupported
 ·exact .unsupported
theorem qda :Calm (field v i):=by
 unfold field
 refine Calm.bind qhr fun vs=>?_
 split
 ·exact .pure
 ·exact .unsupported
theorem qcp {x:Value}(h:i≠2):Calm (setField v i x):=by
 unfold setField
 split
 ·unfold updateField
  refine Calm.bind (Calm.load fun _=>.pure) fun o=>?_
  split
  ·split
   ·exact Calm.update (qlm h) fun _=>.pure
   ·exact .unsupported
  ·exact .unsupported
 ·exact .unsupported
theorem qb7 {f:Option Addr}:Calm (setFlight v f):=by
 unfold setFlight
 refine Calm.bind qda fun tb=>?_
 split
 ·exact qcp (by decide)
 ·exact .pure
theorem qg4:∀ l:List Env,Calm (readyFrames l)
 | []=>.pure
 | env::outer=>by
  unfold readyFrames
  split
  ·refine Calm.bind (Calm.load fun _=>.pure) fun o=>?_
   split
   ·exact .pure
   ·refine Calm.bind ?_ fun b=>?_
    ·unfold behindIsImport
     split
     ·exact .pure
     ·split
      ·exact .pure
      ·exact Calm.bind qda fun _=>.pure
    ·refine Calm.bind ?_ fun k=>?_
     ·unfold keptBack
      split
      ·split
       ·exact .pure
       ·unfold underTheClaimsCaller
        exact Calm.bind (Calm.bind (Calm.stack fun _=>.pure) fun _=>.pure) fun _=>.pure
      ·exact .pure
     ·exact Calm.bind (Calm.update (fun o vs hd=>⟨vs,hd,rfl⟩) fun _=>.pure) fun _=>qg4 outer
  ·exact .unsupported
theorem qiw :Calm (PySem.frameOf env):=by
 unfold PySem.frameOf
 refine Calm.bind ?_ fun l=>Calm.bind ?_ fun r=>?_
 ·unfold frameEnvs
  exact Calm.bind (Calm.stack fun _=>.pure) fun _=>.pure
 ·unfold frameObject
  split
  ·exact .pure
  ·exact Calm.bind (qg4 _) fun _=>.pure
 ·split
  ·exact .pure
  ·exact .unsupported
theorem qgq {T:String}:Calm (newFields T vs):=by
 unfold newFields newObj newObjAsIs
 dsimp only
 split
 ·exact Calm.bind .unsupported fun _=>Calm.bind (Calm.alloc fun _=>.pure) fun _=>.pure
 ·exact Calm.bind (Calm.alloc fun _=>.pure) fun _=>.pure
theorem qdd :Calm (noteFrame v env):=by
 unfold noteFrame
 split
 ·refine Calm.bind qda fun hd=>?_
  have tail:∀ (f:Addr),Calm (do setField v 1 (←EntryCells.newEntry hd (←PySem.frameOf env) .none (rawInt f) .none (←entryPlaceOf f (hd != .none)))):=fun f=>by
   refine Calm.bind qiw fun fr=>Calm.bind ?_ fun pl=>Calm.bind ?_ fun en=>qcp (by decide)
   ·unfold entryPlaceOf
    refine Calm.bind (Calm.stack fun _=>.pure) fun acts=>?_
    split
    ·exact .pure
    ·exact .pure
   ·exact qgq
  dsimp only
  split
  ·refine Calm.bind qda fun x=>?_
   split
   ·exact .pure
   ·exact Calm.bind (qcp (by decide)) fun _=>tail _
  ·exact tail _
 ·exact .unsupported
theorem qfa :Calm (leaving env v):=by
 unfold leaving
 exact Calm.bind qdd fun _=>qb7
end Mine
namespace Mine
open PySem
inductive AV where
 | none
 | bool (b:Bool)
 | int (i:Int)
 | str (x:Str)
 | tup (l:List AV)
 | ref (i:Nat)
 | fro (l:List AV)
 deriving Inhabited
inductive AObj where
 | list (l:List AV)
 | dict (l:List (Int×AV))
 deriving Inhabited
abbrev Hp:=List AObj
abbrev Loc:=List (Option AV)
def PTup (h:Heap) (a:Addr) (vs:Array Value):Prop:=∃ n dd sl,h.get? a=some { cls:=.type "tuple",dict:=dd,data:=.seq vs n,slots:=sl }
theorem PTup.isTup {a:Addr}{vs:Array Value}(x:PTup h a vs):PyProof.Rows.IsTup h a vs:=let ⟨n,_,_,e⟩:=x;⟨_,e,rfl,n,rfl⟩
theorem PTup.of {h:Heap}{a:Addr}{vs:Array Value}(x:PyProof.Rows.IsTup h a vs):PTup h a vs:=by
 refine qbi (x) fun qQ0 e c1 qQ3=>?_
 clear x
 obtain ⟨c,dd,dt,sl⟩:=qQ0
 refine qar (qQ3) fun n d1=>?_
 clear qQ3
 simp only at c1 d1
 subst c1;subst d1
 exact ⟨n,dd,sl,e⟩
theorem PTup.new (h:Heap) (vs:Array Value):PTup (h.push { cls:=.type "tuple",data:=.seq vs }) h.objs.size vs:=⟨0,_,_,Heap.get?_push_size _ rfl⟩
theorem PTup.push {a:Addr}{vs:Array Value}(x:PTup h a vs) (o:Obj):PTup (h.push o) a vs:=let ⟨n,dd,sl,e⟩:=x;⟨n,dd,sl,Heap.get?_push_of_some o e⟩
mutual
def VR (B h:Heap) (ι:List Addr):AV->Value->Prop
 | .none,v=>v=.none
 | .bool b,v=>v=.bool b
 | .int i,v=>∃ t,v=.int i t
 | .str x,v=>PyData.strOk x=true/\∃ t,v=.str x t
 | .tup l,v=>∃ a vs,v=.ref a/\PTup h a (List.toArray vs)/\VRs B h ι l vs
 | .ref i,v=>∃ a,v=.ref a/\ι[i]?=some a
 | .fro l,v=>∃ a vs,v=.ref a/\B.IsList a (List.toArray vs)/\VRs B h ι l vs
def VRs (B h:Heap) (ι:List Addr):List AV->List Value->Prop
 | [],vs=>vs=[]
 | d::ds,vs=>∃ v r,vs=v::r/\VR B h ι d v/\VRs B h ι ds r
end
def ERs (B h:Heap) (ι:List Addr):List (Int×AV)->List DictEntry->Prop
 | [],es=>es=[]
 | (k,d)::r,es=>∃ t v es',es=⟨hashInt k,.int k t,v⟩::es'/\VR B h ι d v/\ERs B h ι r es'
def OR (B h:Heap) (ι:List Addr) (a:Addr):AObj->Prop
 | .list l=>∃ vs,h.PlainList a (List.toArray vs)/\VRs B h ι l vs
 | .dict l=>(a == sysModules)=false/\(l.map (·.1)).Nodup/\∃ es n,h.get? a=some { cls:=.type "dict",data:=.dict (List.toArray es) n }/\ERs B h ι l es
def Kept (S:List Addr) (h h':Heap):Prop :=
 ∀ a o,h.get? a=some o->a∉S->∃ sl,h'.get? a=some { o with slots:=sl }/\((∀ es n,o.data≠.dict es n)->sl=o.slots)
structure HR (B:Heap) (ι:List Addr) (H:Hp) (h:Heap):Prop where
 base:B.StaysIn h
 fresh:∀ a∈ι,B.get? a=Option.none
 nodup:ι.Nodup
 len:ι.length=H.length
 objs:∀ (i:Nat) (o:AObj),H[i]?=some o->∃ a,ι[i]?=some a/\OR B h ι a o
theorem Kept.refl (S:List Addr) (h:Heap):Kept S h h:=fun _ o e _=>⟨o.slots,e,fun _=>rfl⟩
theorem Kept.of_keeps (k:∀ b o,b∉S->h.get? b=some o->h'.get? b=some o):Kept S h h' :=
 fun a o e hn=>⟨o.slots,k a o hn e,fun _=>rfl⟩
theorem Kept.trans {h₁ h₂ h3:Heap}(x:Kept S h₁ h₂) (y:Kept S h₂ h3):Kept S h₁ h3:=fun a o e hn=>by
 refine qad (x a o e hn) fun sl e1 q1=>?_
 refine qad (y a _ e1 hn) fun sl' e2 q2=>?_
 exact ⟨sl',e2,fun c=>(q2 c).trans (q1 c)⟩
theorem Kept.mono {T:List Addr}(x:Kept S h h') (s:∀ a∈S,a∈T):Kept T h h':=fun a o e hn=>x a o e fun q=>hn (s a q)
theorem Kept.exact (x:Kept S h h'){a:Addr}{o:Obj}(e:h.get? a=some o) (hn:a∉S) (hc:∀ es n,o.data≠.dict es n):h'.get? a=some o:=by
 refine qad (x a o e hn) fun sl e1 q1=>?_
 rw [e1,q1 hc]
theorem Kept.data (x:Kept S h h'){a:Addr}{o:Obj}(e:h.get? a=some o) (hn:a∉S):∃ o',h'.get? a=some o'/\o'.data=o.data/\o'.cls=o.cls:=by
 refine qad (x a o e hn) fun sl e1 _=>?_
 exact ⟨_,e1,rfl,rfl⟩
def qbp (S:List Addr) (h:Heap):Prop:=∀ a∈S,∀ vs,¬ PyProof.Rows.IsTup h a vs
theorem qey {S:List Addr}{h h':Heap}(x:Kept S h h') (nt:qbp S h){a:Addr}{vs:Array Value}(t:PTup h a vs):PTup h' a vs:=by
 have hn:a∉S:=fun q=>nt a q vs t.isTup
 refine qpg (t) fun n dd sl e=>?_
 clear t
 exact ⟨n,dd,sl,x.exact e hn fun _ _ q=>by cases q⟩
theorem qcw {ι ι':List Addr}(p:ι<+:ι'){i:Nat}{a:Addr}(e:ι[i]?=some a):ι'[i]?=some a:=by
 refine qar (p) fun t eQ1=>?_
 clear p
 subst eQ1
 rw [List.getElem?_append_left]
 ·exact e
 ·exact (yl e).1
mutual
theorem VR.mono {B h h':Heap}{ι ι' S:List Addr}(x:Kept S h h') (nt:qbp S h) (p:ι<+:ι'):∀ (d:AV) (v:Value),VR B h ι d v->VR B h' ι' d v
 | .none,_,q=>q
 | .bool _,_,q=>q
 | .int _,_,q=>q
 | .str _,_,q=>q
 | .tup l,v,q=>by
  unfold VR at q ⊢
  refine qa6 (q) fun a vs e t r=>?_
  clear q
  exact ⟨a,vs,e,qey x nt t,VRs.mono x nt p l vs r⟩
 | .ref i,v,q=>by
  unfold VR at q ⊢
  refine qad (q) fun a e g=>?_
  clear q
  exact ⟨a,e,qcw p g⟩
 | .fro l,v,q=>by
  unfold VR at q ⊢
  refine qa6 (q) fun a vs e t r=>?_
  clear q
  exact ⟨a,vs,e,t,VRs.mono x nt p l vs r⟩
theorem VRs.mono {B h h':Heap}{ι ι' S:List Addr}(x:Kept S h h') (nt:qbp S h) (p:ι<+:ι'):∀ (l:List AV) (vs:List Value),VRs B h ι l vs->VRs B h' ι' l vs
 | [],_,q=>q
 | d::ds,vs,q=>by
  unfold VRs at q ⊢
  refine qa6 (q) fun v r e a b=>?_
  clear q
  exact ⟨v,r,e,VR.mono x nt p d v a,VRs.mono x nt p ds r b⟩
end
theorem ERs.mono {B h h':Heap}{ι ι' S:List Addr}(x:Kept S h h') (nt:qbp S h) (p:ι<+:ι'):∀ (l:List (Int×AV)) (es:List DictEntry),ERs B h ι l es->ERs B h' ι' l es
 | [],_,q=>q
 | (k,d)::ds,vs,q=>by
  unfold ERs at q ⊢
  refine qi1 (q) fun t v r e a b=>?_
  clear q
  exact ⟨t,v,r,e,VR.mono x nt p d v a,ERs.mono x nt p ds r b⟩
theorem OR.mono {B h h':Heap}{ι ι' S:List Addr}(x:Kept S h h') (nt:qbp S h) (p:ι<+:ι'){a:Addr}{o:AObj}(ex:∀ o,h.get? a=some o->h'.get? a=some o) (q:OR B h ι a o):OR B h' ι' a o:=by
 cases o with
 | list l =>
  refine qad (q) fun vs qQ1 r=>?_
  clear q
  refine qar (qQ1) fun n e=>?_
  clear qQ1
  exact ⟨vs,⟨n,ex _ e⟩,VRs.mono x nt p l vs r⟩
 | dict l =>
  refine qfk (q) fun hm nd qQ2=>?_
  clear q
  refine qjy (qQ2) fun es n e r=>?_
  clear qQ2
  exact ⟨hm,nd,es,n,ex _ e,ERs.mono x nt p l es r⟩
theorem OR.cls {a:Addr}{o:AObj}(q:OR B h ι a o):∃ x,h.get? a=some x/\x.cls≠.type "tuple" := by
 cases o with
 | list l=>exact q.elim fun _ z=>z.1.elim fun _ e=>⟨_,e,by simp⟩
 | dict l=>exact q.2.2.elim fun _ z=>z.elim fun _ e=>⟨_,e.1,by simp⟩
theorem HR.noTup {H:Hp}(q:HR B ι H h):qbp ι h:=by
 intro a ha vs t
 refine qar (List.getElem_of_mem ha) fun i qQ1=>?_
 obtain ⟨hi,rfl⟩:=qQ1
 have hl:i<H.length:=q.len▸hi
 refine qad (q.objs i H[i] (List.getElem?_eq_getElem hl)) fun b eb o=>qad o.cls fun x e hc=>qad t fun o' e' c=>?_
 have:=yj ((List.getElem?_eq_getElem hi).symm.trans eb)
 rw [←this] at e
 exact hc (yj (e.symm.trans e')▸c.1)
structure Post (B:Heap) (ι:List Addr) (s:Shared) (ι':List Addr) (H':Hp) (s':Shared):Prop where
 pre:ι<+:ι'
 hr:HR B ι' H' s'.heap
 kept:Kept ι s.heap s'.heap
 new:∀ a∈ι',a∈ι\/s.heap.get? a=Option.none
 same:s'.gens=s.gens/\s'.os=s.os
theorem Post.refl {H:Hp}(q:HR B ι H s.heap) (t:Nat):Post B ι s ι H { s with toks:=t } :=
 ⟨List.prefix_refl _,q,Kept.refl _ _,fun _ h=>.inl h,rfl,rfl⟩
theorem Post.id {H:Hp}(q:HR B ι H s.heap):Post B ι s ι H s:=Post.refl q s.toks
theorem Post.trans {s2:Shared}{H1 H2:Hp}(x:Post B ι s ι1 H1 s1) (y:Post B ι1 s1 ι2 H2 s2):Post B ι s ι2 H2 s2:=by
 have out:∀ a o,s.heap.get? a=some o->a∉ι->a∉ι1:=fun a o e hn q=>(x.new a q).elim hn fun z=>by rw [e] at z;cases z
 refine ⟨x.pre.trans y.pre,y.hr,fun a o e hn=>?_,fun a ha=>?_,?_⟩
 ·refine qad (x.kept a o e hn) fun sl e1 q1=>?_
  refine qad (y.kept a _ e1 (out a o e hn)) fun sl' e2 q2=>?_
  exact ⟨sl',e2,fun c=>(q2 c).trans (q1 c)⟩
 ·by_cases hi:a∈ι
  ·exact .inl hi
  ·right
   rcases y.new a ha with q|q
   ·exact (x.new a q).resolve_left hi
   ·cases e:s.heap.get? a with
    | none=>rfl
    | some o =>
     refine qad (x.kept a o e hi) fun sl e1 _=>?_
     rw [e1] at q;cases q
 ·exact ⟨y.same.1.trans x.same.1,y.same.2.trans x.same.2⟩
theorem Post.vr {H H':Hp}(x:Post B ι s ι' H' s') (q:HR B ι H s.heap){d:AV}(r:VR B s.heap ι d v):VR B s'.heap ι' d v :=
 VR.mono x.kept q.noTup x.pre d v r
theorem Post.vrs {H H':Hp}(x:Post B ι s ι' H' s') (q:HR B ι H s.heap){d:List AV}{v:List Value}(r:VRs B s.heap ι d v):VRs B s'.heap ι' d v :=
 VRs.mono x.kept q.noTup x.pre d v r
def qeg (A:Around) (B h:Heap) (ι:List Addr):Prop :=
 ∃ fl,A.frames=some fl/\∀ env∈fl,env.scope.kind≠.module/\∃ L o,env.frame=some L/\B.get? L=Option.none/\h.get? L=some o/\(∃ es n,o.data=.dict es n)/\L∉ι
structure Room (A:Around) (d:Nat):Prop where
 depth:A.depth+d<recursionLimit
 units:A.units+8*d+200<cLine
 handled:A.handled=Option.none
structure W (B:Heap) (A:Around) (d:Nat) (ι:List Addr) (H:Hp) (s:Shared):Prop where
 room:Room A d
 fr:qeg A B s.heap ι
 hr:HR B ι H s.heap
theorem qeg.step {A:Around}{B:Heap}{ι ι':List Addr}{s s':Shared}{H':Hp}(x:qeg A B s.heap ι) (p:Post B ι s ι' H' s'):qeg A B s'.heap ι':=by
 refine qad (x) fun fl e q=>?_
 clear x
 refine ⟨fl,e,fun env he=>?_⟩
 refine qa4 (q env he) fun k qQ1=>?_
 obtain ⟨L,o,h1,h2,h3,h4,h5⟩:=qQ1
 refine qbi (p.kept.data h3 h5) fun o' e' d' _=>?_
 exact ⟨k,L,o',h1,h2,e',d'▸h4,fun z=>(p.new L z).elim h5 fun w=>by rw [h3] at w;cases w⟩
theorem W.step {H H':Hp}(x:W B A d ι H s) (p:Post B ι s ι' H' s'):W B A d ι' H' s' :=
 ⟨x.room,x.fr.step p,p.hr⟩
def Has (env:Env) (h:Heap) (x:Str) (ov:Option Value):Prop :=
 (env.kindOf x=some .local/\∃ m,h.Ns env.locals m/\m x=ov) \/
 ((env.kindOf x=some .cell\/env.kindOf x=some .free)/\∃ c,env.cells.lookup x=some c/\h.IsCell c ov)
structure Ctx where
 vars:List (Option Str)
 names:List (Str×NameKind)
 ro:Nat:=0
structure EnvR (B:Heap) (C:Ctx) (env:Env) (ι:List Addr) (h:Heap) (loc:Loc):Prop where
 kind:env.scope.kind=.function
 names:env.scope.names=C.names
 glob:env.globals=mainGlobals
 blt:env.builtins=builtinsNs
 ns:∃ m,h.Ns env.locals m
 offL:env.locals∉ι
 newL:B.get? env.locals=Option.none
 offC:∀ x c,some x∈C.vars->env.cells.lookup x=some c->c∉ι/\c≠env.locals/\B.get? c=Option.none
 isC:∀ x c,some x∈C.vars->env.cells.lookup x=some c->∃ ov,h.IsCell c ov
 apart:∀ x y c,some x∈C.vars->some y∈C.vars->env.cells.lookup x=some c->env.cells.lookup y=some c->x=y
 len:loc.length=C.vars.length
 vars:∀ (i:Nat) (x:Str),C.vars[i]?=some (some x)->∃ ov,Has env h x ov/\∀ d,loc[i]?=some (some d)->∃ v,ov=some v/\VR B h ι d v
theorem Ns.of_data {h h':Heap}{a:Addr}{m:Str->Option Value}(x:h.Ns a m) (k:∀ o,h.get? a=some o->∃ o',h'.get? a=some o'/\o'.data=o.data):h'.Ns a m:=by
 refine qi1 (x) fun o es ep e d r=>?_
 clear x
 refine qad (k o e) fun o' e' d'=>?_
 exact ⟨o',es,ep,e',d'.trans d,r⟩
theorem Cell.of_data {h h':Heap}{a:Addr}{v:Option Value}(x:h.IsCell a v) (k:∀ o,h.get? a=some o->∃ o',h'.get? a=some o'/\o'.data=o.data):h'.IsCell a v:=by
 refine qad (x) fun o e d=>?_
 clear x
 refine qad (k o e) fun o' e' d'=>?_
 exact ⟨o',e',d'.trans d⟩
theorem EnvR.step {C:Ctx}{H H':Hp}{loc:Loc}(x:EnvR B C env ι s.heap loc) (q:HR B ι H s.heap) (p:Post B ι s ι' H' s'):EnvR B C env ι' s'.heap loc:=by
 have kd:∀ a,a∉ι->∀ o,s.heap.get? a=some o->∃ o',s'.heap.get? a=some o'/\o'.data=o.data:=fun a hn o e=>by
  refine qbi (p.kept.data e hn) fun o' e' d' _=>?_
  exact ⟨o',e',d'⟩
 have off:∀ a o,s.heap.get? a=some o->a∉ι->a∉ι':=fun a o e hn z=>(p.new a z).elim hn fun w=>by rw [e] at w;cases w
 refine ⟨x.kind,x.names,x.glob,x.blt,?_,?_,x.newL,fun y c hm hc=>?_,fun y c hm hc=>?_,x.apart,x.len,fun i y hi=>?_⟩
 ·refine qar (x.ns) fun m n=>?_
  exact ⟨m,Ns.of_data n (kd _ x.offL)⟩
 ·refine qzl (x.ns) fun m o es ep e r=>?_
  exact off _ o e x.offL
 ·refine qfk (x.offC y c hm hc) fun c1 c2 c3=>?_
  refine qjy (x.isC y c hm hc) fun ov o e r=>?_
  exact ⟨off _ o e c1,c2,c3⟩
 ·refine qar (x.isC y c hm hc) fun ov r=>?_
  exact ⟨ov,Cell.of_data r (kd _ (x.offC y c hm hc).1)⟩
 ·refine qad (x.vars i y hi) fun ov hs hv=>?_
  refine ⟨ov,?_,fun d hd=>?_⟩
  ·rcases hs with ⟨k,m,n,e⟩|⟨k,c,e,r⟩
   ·exact .inl ⟨k,m,Ns.of_data n (kd _ x.offL),e⟩
   ·exact .inr ⟨k,c,e,Cell.of_data r (kd _ (x.offC y c (yc hi) e).1)⟩
  ·refine qad (hv d hd) fun v e r=>?_
   exact ⟨v,e,p.vr q r⟩
end Mine
namespace Mine
open PySem
structure PEnv where
 prog:Program
 w:World
 B:Heap
 mg:Str->Option Value
 mb:Str->Option Value
structure PEnv.OK (P:PEnv):Prop where
 g:P.B.Ns mainGlobals P.mg
 b:P.B.Ns builtinsNs P.mb
 nolimit:P.B.NoLimit
noncomputable def fAs (l:List Env):List Addr:=l.filterMap (·.frame)
structure XLeft (B:Heap) (l:List Env) (S ι:List Addr) (s:Shared) (ι':List Addr) (H':Hp) (base:Heap) (s':Shared):Prop where
 pre:ι<+:ι'
 hr:HR B ι' H' base
 stays:base.StaysIn s'.heap
 kept:Kept (S++ι) s.heap s'.heap
 inb:∀ a o,s.heap.get? a=some o->a∉S++ι->a∉fAs l->∃ sl,base.get? a=some { o with slots:=sl }
 new:∀ a∈ι',a∈ι\/s.heap.get? a=Option.none
 same:s'.gens=s.gens/\s'.os=s.os
def qrt (P:PEnv) (l:List Env) (S ι:List Addr) (s:Shared) (ι':List Addr) (H':Hp) (s':Shared) (e:Value) (c:Str):Prop :=
 ∃ ea base D,e=.ref ea/\P.mg c=some (.ref D)/\XLeft P.B l S ι s ι' H' base s'/\(∃ a0,Heap.FlyingW base l ea (.ref D) a0 s'.heap)/\qc3 ea s'.heap
abbrev XP:=Str->Hp->Prop
def Acc (P:PEnv) (A:Around) (X:XP) (ι:List Addr) (s:Shared) (E:Value->Shared->Prop):Prop :=
 ∀ l,A.frames=some l->∀ e s' ι' H' c,qrt P l [] ι s ι' H' s' e c->X c H'->E e s'
theorem XLeft.before {l:List Env}{s2:Shared}{H1 H2:Hp}{base:Heap}(p:Post B ι s ι1 H1 s1) (x:XLeft B l [] ι1 s1 ι2 H2 base s2):XLeft B l [] ι s ι2 H2 base s2:=by
 have out:∀ a o,s.heap.get? a=some o->a∉ι->a∉ι1:=fun a o e hn q=>(p.new a q).elim hn fun z=>by rw [e] at z;cases z
 refine ⟨p.pre.trans x.pre,x.hr,x.stays,fun a o e hn=>?_,fun a o e hn hf=>?_,fun a ha=>?_,?_⟩
 ·refine qad (p.kept a o e hn) fun sl e1 q1=>?_
  refine qad (x.kept a _ e1 (out a o e hn)) fun sl' e2 q2=>?_
  exact ⟨sl',e2,fun c=>(q2 c).trans (q1 c)⟩
 ·refine qad (p.kept a o e hn) fun sl e1 q1=>?_
  refine qar (x.inb a _ e1 (out a o e hn) hf) fun sl' e2=>?_
  exact ⟨sl',e2⟩
 ·by_cases hi:a∈ι
  ·exact .inl hi
  ·right
   rcases x.new a ha with q|q
   ·exact (p.new a q).resolve_left hi
   ·cases e:s.heap.get? a with
    | none=>rfl
    | some o =>
     refine qad (p.kept a o e hi) fun sl e1 _=>?_
     rw [e1] at q;cases q
 ·exact ⟨x.same.1.trans p.same.1,x.same.2.trans p.same.2⟩
theorem Acc.step {P:PEnv}{X:XP}{H':Hp}(x:Acc P A X ι s E) (p:Post P.B ι s ι' H' s'):Acc P A X ι' s' E:=by
 rintro l hl e s'' ι'' H'' c ⟨ea,base,D,h1,h2,h3,h4⟩ hx
 exact x l hl e s'' ι'' H'' c ⟨ea,base,D,h1,h2,h3.before p,h4⟩ hx
inductive Gives (B:Heap) (ι:List Addr) (s:Shared) (Q:AV->Hp->Prop) (v:Value) (s':Shared):Prop where
 | mk (ι':List Addr) (H':Hp) (av:AV) (p:Post B ι s ι' H' s') (r:VR B s'.heap ι' av v) (q:Q av H')
theorem gRE {M:Model}{α:Type}{t:Sem α}{Q:α->Shared->Prop}(h:∀ (R:α->Shared->Prop) (F:Value->Shared->Prop),(∀ v s,Q v s->R v s)->wpAny M A t R F s):wpAny M A t Q E s:=h Q E fun _ _ x=>x
theorem gv {M:Model}{t:Sem Value}{s0:Shared}{Q:AV->Hp->Prop}{R:Value->Shared->Prop}(h:wpAny M A t (Gives B ι s Q) E s0)
  (k:∀ v s1 ι1 H1 x,Post B ι s ι1 H1 s1->VR B s1.heap ι1 x v->Q x H1->R v s1):wpAny M A t R E s0 :=
 wpAny_mono h (fun v s1 g=>by cases g with|mk ι1 H1 x p r q=>exact k v s1 ι1 H1 x p r q) fun _ _ x=>x
theorem Gives.mono {Q Q':AV->Hp->Prop}(g:Gives B ι s Q v s') (h:∀ a H,Q a H->Q' a H):Gives B ι s Q' v s':=by
 obtain ⟨ι',H',av,p,r,q⟩:=g
 exact ⟨ι',H',av,p,r,h _ _ q⟩
theorem Gives.before {H1:Hp}{Q:AV->Hp->Prop}(p:Post B ι s ι1 H1 s1) (g:Gives B ι1 s1 Q v s'):Gives B ι s Q v s':=by
 obtain ⟨ι',H',av,p',r,q⟩:=g
 exact ⟨ι',H',av,p.trans p',r,q⟩
theorem Gives.now {H:Hp}{Q:AV->Hp->Prop}{av:AV}(t:Nat) (hr:HR B ι H s.heap) (r:VR B s.heap ι av v) (q:Q av H):Gives B ι s Q v { s with toks:=t } :=
 ⟨ι,H,av,Post.refl hr t,r,q⟩
theorem Gives.same {H:Hp}{Q:AV->Hp->Prop}{av:AV}(hr:HR B ι H s.heap) (r:VR B s.heap ι av v) (q:Q av H):Gives B ι s Q v s :=
 Gives.now s.toks hr r q
inductive GivesB (B:Heap) (ι:List Addr) (s:Shared) (Q:Bool->Hp->Prop) (b:Bool) (s':Shared):Prop where
 | mk (ι':List Addr) (H':Hp) (p:Post B ι s ι' H' s') (q:Q b H')
theorem gb {M:Model}{t:Sem Bool}{s0:Shared}{Q:Bool->Hp->Prop}{R:Bool->Shared->Prop}(h:wpAny M A t (GivesB B ι s Q) E s0)
  (k:∀ v s1 ι1 H1,Post B ι s ι1 H1 s1->Q v H1->R v s1):wpAny M A t R E s0 :=
 wpAny_mono h (fun v s1 g=>by cases g with|mk ι1 H1 p q=>exact k v s1 ι1 H1 p q) fun _ _ x=>x
inductive GivesL (B:Heap) (ι:List Addr) (s:Shared) (Q:List AV->Hp->Prop) (vs:List Value) (s':Shared):Prop where
 | mk (ι':List Addr) (H':Hp) (l:List AV) (p:Post B ι s ι' H' s') (r:VRs B s'.heap ι' l vs) (q:Q l H')
theorem gll {M:Model}{t:Sem (List Value)}{s0:Shared}{Q:List AV->Hp->Prop}{R:List Value->Shared->Prop}(h:wpAny M A t (GivesL B ι s Q) E s0)
  (k:∀ v s1 ι1 H1 x,Post B ι s ι1 H1 s1->VRs B s1.heap ι1 x v->Q x H1->R v s1):wpAny M A t R E s0 :=
 wpAny_mono h (fun v s1 g=>by cases g with|mk ι1 H1 x p r q=>exact k v s1 ι1 H1 x p r q) fun _ _ x=>x
section
variable (P:PEnv) (C:Ctx) (d:Nat)
def EvOK (e:Expr) (loc:Loc) (H:Hp) (Q:AV->Hp->Prop) (X:XP):Prop :=
 ∀ A E env ι s,W P.B A d ι H s->EnvR P.B C env ι s.heap loc->Acc P A X ι s E->wpAny (model P.prog P.w) A (eval e env) (Gives P.B ι s Q) E s
def TsOK (e:Expr) (loc:Loc) (H:Hp) (Q:Bool->Hp->Prop) (X:XP):Prop :=
 ∀ A E env ι s,W P.B A d ι H s->EnvR P.B C env ι s.heap loc->Acc P A X ι s E->wpAny (model P.prog P.w) A (isTrue e env (eval e env)) (GivesB P.B ι s Q) E s
def qct (es:List Expr) (loc:Loc) (H:Hp) (Q:List AV->Hp->Prop) (X:XP):Prop :=
 ∀ A E env ι s pos,W P.B A d ι H s->EnvR P.B C env ι s.heap loc->Acc P A X ι s E->wpAny (model P.prog P.w) A (spliced (backTo pos (starEach es env))) (GivesL P.B ι s Q) E s
def OpOK (t:List Value->Sem Value) (args:List AV) (H:Hp) (Q:AV->Hp->Prop):Prop :=
 ∀ A E ι s vs,W P.B A d ι H s->VRs P.B s.heap ι args vs->wpAny (model P.prog P.w) A (t vs) (Gives P.B ι s Q) E s
end
variable {P:PEnv}{C:Ctx}{d:Nat}{loc:Loc}{H:Hp}{X:XP}
theorem EvOK.mono {e:Expr}{Q Q':AV->Hp->Prop}(h:EvOK P C d e loc H Q X) (q:∀ a H',Q a H'->Q' a H'):EvOK P C d e loc H Q' X :=
 fun A E env ι s w r a=>wpAny_mono (h A E env ι s w r a) (fun _ _ g=>g.mono q) fun _ _ x=>x
theorem qct.mono {Q Q':List AV->Hp->Prop}(h:qct P C d es loc H Q X) (q:∀ a H',Q a H'->Q' a H'):qct P C d es loc H Q' X :=
 fun A E env ι s pos w r a=>wpAny_mono (h A E env ι s pos w r a) (fun _ _ g=>by obtain ⟨ι',H',l,p,r,z⟩:=g;exact ⟨ι',H',l,p,r,q _ _ z⟩) fun _ _ x=>x
theorem TsOK.mono {e:Expr}{Q Q':Bool->Hp->Prop}(h:TsOK P C d e loc H Q X) (q:∀ a H',Q a H'->Q' a H'):TsOK P C d e loc H Q' X :=
 fun A E env ι s w r a=>wpAny_mono (h A E env ι s w r a) (fun _ _ g=>by obtain ⟨ι',H',p,z⟩:=g;exact ⟨ι',H',p,q _ _ z⟩) fun _ _ x=>x
theorem VR.mkInt (i:Int) (t:Tok):VR B h ι (.int i) (.int i t):=⟨t,rfl⟩
theorem VR.mkBool (b:Bool):VR B h ι (.bool b) (.bool b):=rfl
theorem VR.mkNone :VR B h ι .none .none:=rfl
theorem VR.mkStr (x:Str) (t:Tok) (hx:PyData.strOk x=true):VR B h ι (.str x) (.str x t):=⟨hx,t,rfl⟩
theorem qsj {i:Int}{Q:AV->Hp->Prop}(h:Q (.int i) H):EvOK P C d (.Constant (.int i) k pos) loc H Q X :=
 fun _ _ _ _ s w _ _=>wpAny_Constant_int (Gives.now _ w.hr (VR.mkInt i s.toks) h)
theorem qxe {x:Str}{Q:AV->Hp->Prop}(hx:PyData.strOk x=true) (h:Q (.str x) H):EvOK P C d (.Constant (.str x) k pos) loc H Q X :=
 fun _ _ _ _ s w _ _=>wpAny_Constant_str (Gives.now _ w.hr (VR.mkStr x s.toks hx) h)
theorem quy {b:Bool}{Q:AV->Hp->Prop}(h:Q (.bool b) H):EvOK P C d (.Constant (.bool b) k pos) loc H Q X :=
 fun _ _ _ _ _ w _ _=>wpAny_Constant_bool (Gives.same w.hr (VR.mkBool b) h)
theorem qut {Q:AV->Hp->Prop}(h:Q .none H):EvOK P C d (.Constant .none k pos) loc H Q X :=
 fun _ _ _ _ _ w _ _=>wpAny_Constant_none (Gives.same w.hr VR.mkNone h)
theorem qxk {x:Str}{v:AV}{Q:AV->Hp->Prop}(hx:C.vars[i]?=some (some x)) (hd:(x == ("__debug__" : Str))=false) (hcd:(x == ("__classdict__" : Str))=false) (hv:loc[i]?=some (some v)) (h:Q v H) :
  EvOK P C d (.Name x pos) loc H Q X:=fun A E env ι s w r a=>by
 refine qad (r.vars i x hx) fun ov hs q=>?_
 refine qad (q v hv) fun u eQ1 vr=>?_
 subst eQ1
 refine wpAny_Name ?_ hd
 have fin:Gives P.B ι s Q u s:=Gives.same w.hr vr h
 rcases hs with ⟨k,m,n,e⟩|⟨k|k,c,e,r'⟩
 ·exact wpAny_loadName_local r.kind k n e fin
 ·exact wpAny_loadName_cell r.kind k e r' fin
 ·exact wpAny_loadName_free r.kind k e r' fin hcd
theorem quv {x:Str}{v:AV}{u:Value}{Q:AV->Hp->Prop}(ok:P.OK) (hd:(x == ("__debug__" : Str))=false) (hg:P.mg x=some u) (hv:∀ h ι,P.B.StaysIn h->VR P.B h ι v u) (h:Q v H)
  (hk:C.names.lookup x=some .globalImplicit) :
  EvOK P C d (.Name x pos) loc H Q X:=fun A E env ι s w r a=>by
 refine Calls.Name_function_global r.kind (by unfold Env.kindOf;rw [r.names];exact hk) ?_ hd
 exact Calls.loadGlobal_global (r.glob▸ok.g.keeps fun b o e=>w.hr.base b o e) hg (Gives.same w.hr (hv _ _ w.hr.base) h)
theorem qxn {l r:Expr}{op:Operator}{Q:AV->Hp->Prop}
  (h:EvOK P C d l loc H (fun x H1=>EvOK P C d r loc H1 (fun y H2=>OpOK P d (fun vs=>binaryOp op (vs.getD 0 .none) (vs.getD 1 .none)) [x,y] H2 Q) X) X) :
  EvOK P C d (.BinOp l op r pos) loc H Q X:=fun A E env ι s w e a=>by
 refine wpAny_BinOp (gv (h A E env ι s w e a) (fun u s1 ι1 H1 x p1 r1 g=>?_))
 refine gv (g A E env ι1 s1 (w.step p1) (e.step w.hr p1) (a.step p1)) (fun u' s2 ι2 H2 y p₂ r2 g=>?_)
 exact wpAny_mono (g A E ι2 s2 [u,u'] ((w.step p1).step p₂) ⟨_,_,rfl,p₂.vr p1.hr r1,_,_,rfl,r2,rfl⟩) (fun _ _ g=>(g.before p₂).before p1) fun _ _ x=>x
theorem qxm {l r:Expr}{op:CmpOp}{Q:AV->Hp->Prop}
  (h:EvOK P C d l loc H (fun x H1=>EvOK P C d r loc H1 (fun y H2=>OpOK P d (fun vs=>compareOp op (vs.getD 0 .none) (vs.getD 1 .none)) [x,y] H2 Q) X) X)
  (hm:behindInMarks op r=false) :
  EvOK P C d (.Compare l [op] [r] pos) loc H Q X:=fun A E env ι s w e a=>by
 refine wpAny_Compare1 (gv (h A E env ι s w e a) (fun u s1 ι1 H1 x p1 r1 g=>?_)) hm
 refine gv (g A E env ι1 s1 (w.step p1) (e.step w.hr p1) (a.step p1)) (fun u' s2 ι2 H2 y p₂ r2 g=>?_)
 exact wpAny_mono (g A E ι2 s2 [u,u'] ((w.step p1).step p₂) ⟨_,_,rfl,p₂.vr p1.hr r1,_,_,rfl,r2,rfl⟩) (fun _ _ g=>(g.before p₂).before p1) fun _ _ x=>x
theorem qf0 {M:Model}{Q:Bool->Hp->Prop}(g:Gives B ι s (fun a H'=>∃ b,a=.bool b/\Q b H') v s1):wpAny M A (truthy v) (GivesB B ι s Q) E s1:=by
 obtain ⟨ι1,H1,x,p1,r1,b,rfl,q⟩:=g
 cases r1
 exact wpAny_truthy_bool ⟨ι1,H1,p1,q⟩
theorem qv1 {l r:Expr}{op:CmpOp}{Q:Bool->Hp->Prop}
  (h:EvOK P C d l loc H (fun x H1=>EvOK P C d r loc H1 (fun y H2=>OpOK P d (fun vs=>compareOp op (vs.getD 0 .none) (vs.getD 1 .none)) [x,y] H2 (fun a H'=>∃ b,a=.bool b/\Q b H')) X) X)
  (hm:behindInMarks op r=false) :
  TsOK P C d (.Compare l [op] [r] pos) loc H Q X:=fun A E env ι s w e a=>by
 refine wpAny_isTrue_Compare1 (gv (h A E env ι s w e a) (fun u s1 ι1 H1 x p1 r1 g=>?_)) hm
 refine gv (g A E env ι1 s1 (w.step p1) (e.step w.hr p1) (a.step p1)) (fun u' s2 ι2 H2 y p₂ r2 g=>?_)
 exact wpAny_mono (g A E ι2 s2 [u,u'] ((w.step p1).step p₂) ⟨_,_,rfl,p₂.vr p1.hr r1,_,_,rfl,r2,rfl⟩) (fun _ _ g=>qf0 ((g.before p₂).before p1)) fun _ _ x=>x
theorem qpu {e:Expr}{Q:Bool->Hp->Prop}(h:EvOK P C d e loc H (fun a H'=>∃ b,a=.bool b/\Q b H') X)
  (he:∀ env whole,isTrue e env whole=(do let v ←whole;standAt e.pos;holding [v] (truthy v))):TsOK P C d e loc H Q X:=fun A E env ι s w r a =>
 PyProof.Rows.isTrue_plain (wpAny_mono (h A E env ι s w r a) (fun _ _ g=>qf0 g) fun _ _ x=>x) (he env _)
theorem qv0 {x:Expr}{Q:Bool->Hp->Prop}(h:TsOK P C d x loc H (fun b H'=>Q (!b) H') X):TsOK P C d (.UnaryOp .Not x pos) loc H Q X:=fun A E env ι s w r a =>
 PyProof.Rows.isTrue_not (gb (h A E env ι s w r a) fun _ _ ι' H' p q=>⟨ι',H',p,q⟩)
theorem qxi {x:Expr}{Q:AV->Hp->Prop}(h:EvOK P C d x loc H (fun v H'=>∃ b,v=.bool b/\Q (.bool !b) H') X):EvOK P C d (.UnaryOp .Not x pos) loc H Q X:=fun A E env ι s w r a =>
 PyProof.Rows.UnaryOp_ (wpAny_mono (h A E env ι s w r a) (fun v s1 g=>by
  obtain ⟨ι1,H1,x,p1,r1,b,rfl,q⟩:=g
  cases r1
  exact PyProof.Rows.not_of (wpAny_truthy_bool ⟨ι1,H1,.bool !b,p1,rfl,q⟩)) fun _ _ x=>x)
theorem GivesB.before {H1:Hp}{Q:Bool->Hp->Prop}{v:Bool}(p:Post B ι s ι1 H1 s1) (g:GivesB B ι1 s1 Q v s'):GivesB B ι s Q v s':=by
 obtain ⟨ι',H',p',q⟩:=g
 exact ⟨ι',H',p.trans p',q⟩
theorem qk8 {Q:Bool->Hp->Prop}(h:Q true H):TsOK P C d (.BoolOp .And [] pos) loc H Q X:=fun _ _ _ ι _ w _ _=>PyProof.Rows.isTrue_and_nil ⟨ι,H,Post.id w.hr,h⟩
theorem qmc {Q:Bool->Hp->Prop}(h:Q false H):TsOK P C d (.BoolOp .Or [] pos) loc H Q X:=fun _ _ _ ι _ w _ _=>PyProof.Rows.isTrue_or_nil ⟨ι,H,Post.id w.hr,h⟩
theorem qg8 {op:BoolOp}{vs:List Expr}(t t':Sem Value):isTrue (.BoolOp op vs pos) env t=isTrue (.BoolOp op vs pos) env t':=rfl
theorem qmd {x:Expr}{rest:List Expr}{Q:Bool->Hp->Prop}(h:TsOK P C d x loc H (fun b H'=>if b then TsOK P C d (.BoolOp .And rest pos) loc H' Q X else Q false H') X) :
  TsOK P C d (.BoolOp .And (x::rest) pos) loc H Q X:=fun A E env ι s w e a=>by
 refine PyProof.Rows.isTrue_and (gb (h A E env ι s w e a) (fun b s1 ι1 H1 p1 g=>?_))
 cases b with
 | false=>exact ⟨ι1,H1,p1,g⟩
 | true =>
  show wpAny _ _ _ _ _ _
  rw [qg8 _ (eval (.BoolOp .And rest pos) env)]
  exact wpAny_mono (g A E env ι1 s1 (w.step p1) (e.step w.hr p1) (a.step p1)) (fun _ _ g=>g.before p1) fun _ _ x=>x
theorem qs2 {x:Expr}{rest:List Expr}{Q:Bool->Hp->Prop}(h:TsOK P C d x loc H (fun b H'=>if b then Q true H' else TsOK P C d (.BoolOp .Or rest pos) loc H' Q X) X) :
  TsOK P C d (.BoolOp .Or (x::rest) pos) loc H Q X:=fun A E env ι s w e a=>by
 refine PyProof.Rows.isTrue_or (gb (h A E env ι s w e a) (fun b s1 ι1 H1 p1 g=>?_))
 cases b with
 | true=>exact ⟨ι1,H1,p1,g⟩
 | false =>
  show wpAny _ _ _ _ _ _
  rw [qg8 _ (eval (.BoolOp .Or rest pos) env)]
  exact wpAny_mono (g A E env ι1 s1 (w.step p1) (e.step w.hr p1) (a.step p1)) (fun _ _ g=>g.before p1) fun _ _ x=>x
theorem qks {op:BoolOp}{x:Expr}{Q:AV->Hp->Prop}(h:EvOK P C d x loc H Q X):EvOK P C d (.BoolOp op [x] pos) loc H Q X:=fun A E env ι s w e a =>
 PyProof.Rows.BoolOp_one (h A E env ι s w e a)
theorem qsk {x y:Expr}{rest:List Expr}{pos:Pos}{Q:AV->Hp->Prop}(h:EvOK P C d x loc H (fun v H'=>∃ b,v=.bool b/\if b then EvOK P C d (.BoolOp .And (y::rest) pos) loc H' Q X else Q (.bool false) H') X) :
  EvOK P C d (.BoolOp .And (x::y::rest) pos) loc H Q X:=fun A E env ι s w e a=>by
 refine PyProof.Rows.BoolOp_and (gv (h A E env ι s w e a) (fun v s1 ι1 H1 x p1 r1 g=>?_))
 refine qad (g) fun b eQ1 nQ=>?_
 clear g
 revert nQ
 intro g
 subst eQ1
 cases r1
 refine wpAny_truthy_bool ?_
 cases b with
 | false=>exact ⟨ι1,H1,.bool false,p1,rfl,g⟩
 | true=>exact wpAny_mono (g A E env ι1 s1 (w.step p1) (e.step w.hr p1) (a.step p1)) (fun _ _ g=>g.before p1) fun _ _ x=>x
theorem qxh {x y:Expr}{rest:List Expr}{pos:Pos}{Q:AV->Hp->Prop}(h:EvOK P C d x loc H (fun v H'=>∃ b,v=.bool b/\if b then Q (.bool true) H' else EvOK P C d (.BoolOp .Or (y::rest) pos) loc H' Q X) X) :
  EvOK P C d (.BoolOp .Or (x::y::rest) pos) loc H Q X:=fun A E env ι s w e a=>by
 refine PyProof.Rows.BoolOp_or (gv (h A E env ι s w e a) (fun v s1 ι1 H1 x p1 r1 g=>?_))
 refine qad (g) fun b eQ1 nQ=>?_
 clear g
 revert nQ
 intro g
 subst eQ1
 cases r1
 refine wpAny_truthy_bool ?_
 cases b with
 | true=>exact ⟨ι1,H1,.bool true,p1,rfl,g⟩
 | false=>exact wpAny_mono (g A E env ι1 s1 (w.step p1) (e.step w.hr p1) (a.step p1)) (fun _ _ g=>g.before p1) fun _ _ x=>x
theorem qof {Q:List AV->Hp->Prop}(h:Q [] H):qct P C d [] loc H Q X:=fun _ _ _ ι _ _ w _ _=>wpAny_items_nil ⟨ι,H,[],Post.id w.hr,rfl,h⟩
theorem qkr {x:Expr}{rest:List Expr}{Q:List AV->Hp->Prop}(h:EvOK P C d x loc H (fun v H'=>qct P C d rest loc H' (fun vs H''=>Q (v::vs) H'') X) X)
  (he:∀ env,starEach (x::rest) env=(false,eval x env)::starEach rest env) :
  qct P C d (x::rest) loc H Q X:=fun A E env ι s pos w e a=>by
 refine wpAny_items_cons (gv (h A E env ι s w e a) (fun v s1 ι1 H1 x p1 r1 g=>?_)) (he env)
 refine gll (g A E env ι1 s1 pos (w.step p1) (e.step w.hr p1) (a.step p1)) (fun vs s2 ι2 H2 l p₂ r2 g=>?_)
 exact ⟨ι2,H2,x::l,p1.trans p₂,⟨_,_,rfl,p₂.vr p1.hr r1,r2⟩,g⟩
end Mine
namespace Mine
open PySem
theorem qax (k:∀ a o,h.get? a=some o->h'.get? a=some o):Kept [] h h':=Kept.of_keeps fun a o _ e=>k a o e
theorem qa3 :qbp [] h:=fun _ q=>nomatch q
theorem HR.there {H:Hp}(q:HR B ι H h){a:Addr}(e:ι[i]?=some a):∃ o,H[i]?=some o/\OR B h ι a o:=by
 have hl:i<H.length:=q.len▸(yl e).1
 refine ⟨H[i],List.getElem?_eq_getElem hl,?_⟩
 refine qad (q.objs i H[i] (List.getElem?_eq_getElem hl)) fun b eb o=>?_
 rw [e] at eb;cases eb;exact o
theorem OR.some {a:Addr}{o:AObj}(q:OR B h ι a o):∃ x,h.get? a=some x:=by
 cases o with
 | list l=>obtain ⟨_,⟨_,e⟩,_⟩:=q;exact ⟨_,e⟩
 | dict l=>obtain ⟨_,_,_,_,e,_⟩:=q;exact ⟨_,e⟩
theorem HR.mem {H:Hp}(q:HR B ι H h){a:Addr}(m:a∈ι):∃ x,h.get? a=some x:=by
 refine qar (List.getElem_of_mem m) fun i qQ1=>?_
 obtain ⟨hi,rfl⟩:=qQ1
 refine qad (q.there (List.getElem?_eq_getElem hi)) fun o _ r=>?_
 exact r.some
theorem qa1 {a:Addr}{o:Obj}{G:Prop}(e:h.get? a=none) (e':h.get? a=some o):G:=by rw [e] at e';cases e'
theorem HR.noB {H:Hp}(q:HR B ι H h){b:Addr}(e:h.get? b=none):B.get? b=none:=by
 cases z:B.get? b with
 | none=>rfl
 | some o=>exact qa1 e (q.base b o z)
theorem HR.off {T:List Addr}{H:Hp}(q:HR B ι H h) (ext:∀ b o,b∉T->h.get? b=some o->h'.get? b=some o) (nt:qbp T h) (ho:∀ a∈T,a∉ι) (hb:∀ a∈T,B.get? a=none):HR B ι H h' :=
 ⟨fun b o eb=>ext b o (fun m=>qa1 (hb b m) eb) (q.base b o eb),q.fresh,q.nodup,q.len,fun j o ej=>qad (q.objs j o ej) fun a ea r =>
  ⟨a,ea,r.mono (Kept.of_keeps ext) nt (List.prefix_refl _) fun o=>ext a o fun m=>ho a m (yc ea)⟩⟩
theorem HR.keep {H:Hp}(q:HR B ι H h) (k:∀ a o,h.get? a=some o->h'.get? a=some o):HR B ι H h' :=
 ⟨fun a o e=>k a o (q.base a o e),q.fresh,q.nodup,q.len,fun i o e=>by
  refine qad (q.objs i o e) fun a ea r=>?_
  exact ⟨a,ea,r.mono (qax k) qa3 (List.prefix_refl _) (k a)⟩⟩
theorem Post.keep {H:Hp}{t:Nat}(q:HR B ι H s.heap) (k:∀ a o,s.heap.get? a=some o->h'.get? a=some o):Post B ι s ι H { s with heap:=h',toks:=t } :=
 ⟨List.prefix_refl _,q.keep k,Kept.of_keeps fun a o _ e=>k a o e,fun _ h=>.inl h,rfl,rfl⟩
theorem HR.alloc {H:Hp}(q:HR B ι H h) (k:∀ a o,h.get? a=some o->h'.get? a=some o){a:Addr}(ha:h.get? a=none){o:AObj}(ho:OR B h' (ι++[a]) a o) :
  HR B (ι++[a]) (H++[o]) h':=by
 refine ⟨fun b x e=>k b x (q.base b x e),fun b hb=>?_,?_,by simp [q.len],fun i x e=>?_⟩
 ·rcases yd hb with m|m
  ·exact q.fresh b m
  ·have:=yb m;subst this
   cases z:B.get? b with
   | none=>rfl
   | some x=>have:=q.base b x z;rw [ha] at this;cases this
 ·refine List.nodup_append.mpr ⟨q.nodup,by simp,fun x hx y hy e=>?_⟩
  have:=yb hy;subst this;subst e
  refine qar (q.mem hx) fun z hz=>?_
  rw [ha] at hz;cases hz
 ·by_cases hi:i<H.length
  ·rw [List.getElem?_append_left hi] at e
   refine qad (q.objs i x e) fun b eb r=>?_
   exact ⟨b,qcw (List.prefix_append _ _) eb,r.mono (qax k) qa3 (List.prefix_append _ _) (k b)⟩
  ·rw [List.getElem?_append_right (Nat.not_lt.mp hi)] at e
   have h0:i-H.length=0:=by
    cases z:i-H.length with
    | zero=>rfl
    | succ n=>rw [z] at e;simp at e
   rw [h0] at e
   simp only [List.getElem?_cons_zero,Option.some.injEq] at e
   subst e
   refine ⟨a,?_,ho⟩
   have:i=ι.length:=by rw [q.len];exact z0 hi h0
   subst this
   simp
theorem Post.alloc {H:Hp}{t:Nat}(q:HR B ι H s.heap) (k:∀ a o,s.heap.get? a=some o->h'.get? a=some o){a:Addr}(ha:s.heap.get? a=none){o:AObj}(ho:OR B h' (ι++[a]) a o) :
  Post B ι s (ι++[a]) (H++[o]) { s with heap:=h',toks:=t } :=
 ⟨List.prefix_append _ _,q.alloc k ha ho,Kept.of_keeps fun a o _ e=>k a o e,fun _ hb=>(yd hb).elim .inl fun m=>.inr (yb m▸ha),rfl,rfl⟩
theorem qnf {l:List Addr}(n:l.Nodup):∀ {i j:Nat}(hi:i<l.length) (hj:j<l.length),l[i]=l[j]->i=j:=by
 intro i j hi hj e
 have key:∀ {i j:Nat}(hi:i<l.length) (hj:j<l.length),i<j->l[i]≠l[j]:=fun hi hj lt=>(List.pairwise_iff_getElem.mp n) _ _ hi hj lt
 rcases Nat.lt_trichotomy i j with h|h|h
 ·exact absurd e (key hi hj h)
 ·exact h
 ·exact absurd e.symm (key hj hi h)
theorem HR.upd {H:Hp}(q:HR B ι H h){a:Addr}(ea:ι[i]?=some a) (k:∀ b x,b≠a->h.get? b=some x->h'.get? b=some x){o:AObj}(ho:OR B h' ι a o) :
  HR B ι (H.set i o) h':=by
 have kp:Kept [a] h h':=Kept.of_keeps fun b x hb e=>k b x (fun z=>hb (z▸ym rfl)) e
 have ma:a∈ι:=yc ea
 have nt:qbp [a] h:=fun b hb=>by rw [yb hb];exact q.noTup a ma
 refine ⟨fun b x e=>k b x (fun z=>?_) (q.base b x e),q.fresh,q.nodup,by rw [List.length_set];exact q.len,fun j x e=>?_⟩
 ·have:=q.fresh a ma;rw [←z,e] at this;cases this
 ·rw [List.getElem?_set] at e
  split at e
  ·rename_i hij
   subst hij
   split at e
   ·simp only [Option.some.injEq] at e;subst e
    exact ⟨a,ea,ho⟩
   ·cases e
  ·rename_i hij
   refine qad (q.objs j x e) fun b eb r=>?_
   refine ⟨b,eb,r.mono kp nt (List.prefix_refl _) fun y=>k b y fun hb=>?_⟩
   subst hb
   refine qar (yl ea) fun h1 e1=>?_
   refine qar (yl eb) fun h2 e2=>?_
   exact hij (qnf q.nodup h1 h2 (e1.trans e2.symm))
theorem Post.upd {H:Hp}{t:Nat}(q:HR B ι H s.heap){a:Addr}(ea:ι[i]?=some a) (k:∀ b x,b≠a->s.heap.get? b=some x->h'.get? b=some x){o:AObj}(ho:OR B h' ι a o) :
  Post B ι s ι (H.set i o) { s with heap:=h',toks:=t } :=
 ⟨List.prefix_refl _,q.upd ea k ho,Kept.of_keeps fun b x hb e=>k b x (fun z=>hb (z▸yc ea)) e,fun _ h=>.inl h,rfl,rfl⟩
theorem HR.vrs_upd {H:Hp}(q:HR B ι H h){a:Addr}(ma:a∈ι) (k:∀ b x,b≠a->h.get? b=some x->h'.get? b=some x){l:List AV}(r:VRs B h ι l vs):VRs B h' ι l vs :=
 VRs.mono (S:=[a]) (Kept.of_keeps fun b x hb e=>k b x (fun z=>hb (z▸ym rfl)) e) (fun b hb=>by rw [yb hb];exact q.noTup a ma) (List.prefix_refl _) l vs r
theorem HR.vr_upd {H:Hp}(q:HR B ι H h){a:Addr}(ma:a∈ι) (k:∀ b x,b≠a->h.get? b=some x->h'.get? b=some x){l:AV}{vs:Value}(r:VR B h ι l vs):VR B h' ι l vs :=
 VR.mono (S:=[a]) (Kept.of_keeps fun b x hb e=>k b x (fun z=>hb (z▸ym rfl)) e) (fun b hb=>by rw [yb hb];exact q.noTup a ma) (List.prefix_refl _) l vs r
theorem VRs.length {B h:Heap}{ι:List Addr}:∀ {l:List AV}{vs:List Value},VRs B h ι l vs->vs.length=l.length
 | [],_,q=>by rw [show _=[] from q];rfl
 | _::l,_,q=>by
  refine qa6 (q) fun v r eQ2 _ b=>?_
  clear q
  subst eQ2
  rw [List.length_cons,List.length_cons,VRs.length b]
theorem VRs.get {B h:Heap}{ι:List Addr}:∀ {l:List AV}{vs:List Value},VRs B h ι l vs->∀ {i:Nat}{x:AV},l[i]?=some x->∃ v,vs[i]?=some v/\VR B h ι x v
 | [],_,_,_,_,e=>by simp at e
 | _::l,_,q,i,x,e=>by
  refine qa6 (q) fun v r eQ2 a b=>?_
  clear q
  subst eQ2
  cases i with
  | zero=>simp only [List.getElem?_cons_zero,Option.some.injEq] at e;subst e;exact ⟨v,rfl,a⟩
  | succ i=>simp only [List.getElem?_cons_succ] at e ⊢;exact VRs.get b e
theorem VRs.append {B h:Heap}{ι:List Addr}:∀ {l m:List AV}{vs ws:List Value},VRs B h ι l vs->VRs B h ι m ws->VRs B h ι (l++m) (vs++ws)
 | [],_,_,_,q,r=>by rw [show _=[] from q];exact r
 | _::l,_,_,_,q,r=>by
  refine qa6 (q) fun v t eQ2 a b=>?_
  clear q
  subst eQ2
  exact ⟨v,t++_,rfl,a,VRs.append b r⟩
theorem VRs.take {B h:Heap}{ι:List Addr}:∀ {l:List AV}{vs:List Value}(n:Nat),VRs B h ι l vs->VRs B h ι (l.take n) (vs.take n)
 | [],_,_,q=>by rw [show _=[] from q];simp [VRs]
 | _::l,_,0,q=>by simp [VRs]
 | _::l,_,n+1,q=>by
  refine qa6 (q) fun v t eQ2 a b=>?_
  clear q
  subst eQ2
  exact ⟨v,t.take n,rfl,a,VRs.take n b⟩
theorem VRs.drop {B h:Heap}{ι:List Addr}:∀ {l:List AV}{vs:List Value}(n:Nat),VRs B h ι l vs->VRs B h ι (l.drop n) (vs.drop n)
 | [],_,_,q=>by rw [show _=[] from q];simp [VRs]
 | _::l,_,0,q=>q
 | _::l,_,n+1,q=>by
  refine qa6 (q) fun v t eQ2 a b=>?_
  clear q
  subst eQ2
  exact VRs.drop n b
theorem VRs.reverse {B h:Heap}{ι:List Addr}:∀ {l:List AV}{vs:List Value},VRs B h ι l vs->VRs B h ι l.reverse vs.reverse
 | [],_,q=>by rw [show _=[] from q];simp [VRs]
 | _::l,_,q=>by
  refine qa6 (q) fun v t eQ2 a b=>?_
  clear q
  subst eQ2
  rw [List.reverse_cons,List.reverse_cons]
  exact VRs.append (VRs.reverse b) ⟨v,[],rfl,a,rfl⟩
theorem VRs.set {B h:Heap}{ι:List Addr}:∀ {l:List AV}{vs:List Value}{n:Nat}{x:AV}{v:Value},VRs B h ι l vs->VR B h ι x v->VRs B h ι (l.set n x) (vs.set n v)
 | [],_,_,_,_,q,_=>by rw [show _=[] from q];simp [VRs]
 | _::l,_,0,_,_,q,r=>by
  refine qa6 (q) fun v t eQ2 a b=>?_
  clear q
  subst eQ2
  exact ⟨_,t,rfl,r,b⟩
 | _::l,_,n+1,_,_,q,r=>by
  refine qa6 (q) fun v t eQ2 a b=>?_
  clear q
  subst eQ2
  exact ⟨v,_,rfl,a,VRs.set b r⟩
variable {P:PEnv}{C:Ctx}{d:Nat}{loc:Loc}{H:Hp}{X:XP}
theorem qbg (h:Heap):h.get? h.objs.size=none:=by
 cases e:h.get? h.objs.size with
 | none=>rfl
 | some o=>exact absurd (Heap.lt_size e) (Nat.lt_irrefl _)
theorem qb6 {l:List AV}{Q:AV->Hp->Prop}(hr:HR P.B ι H s.heap) (r:VRs P.B s.heap ι l vs) (q:Q (.tup l) H) :
  Gives P.B ι s Q (.ref s.heap.objs.size) { s with heap:=s.heap.push { cls:=.type "tuple",data:=.seq vs.toArray } }:=by
 have k:∀ a o,s.heap.get? a=some o->(s.heap.push { cls:=.type "tuple",data:=.seq vs.toArray }).get? a=some o:=fun a o e=>Heap.get?_push_of_some _ e
 refine ⟨ι,H,.tup l,Post.keep (t:=s.toks) hr k,?_,q⟩
 unfold VR
 exact ⟨_,vs,rfl,PTup.new _ _,VRs.mono (qax k) qa3 (List.prefix_refl _) l vs r⟩
theorem qbq {l:List AV}{Q:AV->Hp->Prop}(hr:HR P.B ι H s.heap) (r:VRs P.B s.heap ι l vs) (q:Q (.ref H.length) (H++[.list l])) :
  Gives P.B ι s Q (.ref s.heap.objs.size) { s with heap:=s.heap.push { cls:=.type "list",data:=.seq vs.toArray } }:=by
 have k:∀ a o,s.heap.get? a=some o->(s.heap.push { cls:=.type "list",data:=.seq vs.toArray }).get? a=some o:=fun a o e=>Heap.get?_push_of_some _ e
 refine ⟨ι++[s.heap.objs.size],H++[.list l],.ref H.length,Post.alloc (o:=.list l) (t:=s.toks) hr k (qbg _) ⟨vs,⟨0,Heap.get?_push_size _ rfl⟩,VRs.mono (qax k) qa3 (List.prefix_append _ _) l vs r⟩,?_,q⟩
 exact ⟨_,rfl,by rw [←hr.len];simp⟩
theorem qsh {Q:AV->Hp->Prop}(h:qct P C d es loc H (fun l H'=>l.length<=sizeLine/\Q (.tup l) H') X):EvOK P C d (.Tuple es k pos) loc H Q X:=fun A E env ι s w e a=>by
 refine wpAny_Tuple (gll (h A E env ι s pos w e a) (fun vs s1 ι1 H1 l p1 r1 g=>?_))
 refine qa4 (g) fun hl g=>?_
 exact ⟨by rw [r1.length];exact hl,(qb6 p1.hr r1 g).before p1⟩
theorem qxj {Q:AV->Hp->Prop}(h:qct P C d es loc H (fun l H'=>l.length<=sizeLine/\Q (.ref H'.length) (H'++[.list l])) X):EvOK P C d (.List es pos) loc H Q X:=fun A E env ι s w e a=>by
 refine wpAny_List (gll (h A E env ι s pos w e a) (fun vs s1 ι1 H1 l p1 r1 g=>?_))
 refine qa4 (g) fun hl g=>?_
 exact ⟨by rw [r1.length];exact hl,(qbq p1.hr r1 g).before p1⟩
theorem qxd {o i:Expr}{Q:AV->Hp->Prop}
  (h:EvOK P C d o loc H (fun x H1=>EvOK P C d i loc H1 (fun y H2=>OpOK P d (fun vs=>PyProof.Rows.subscriptTail o i (vs.getD 0 .none) (vs.getD 1 .none)) [x,y] H2 Q) X) X) :
  EvOK P C d (.Subscript o i pos) loc H Q X:=fun A E env ι s w e a=>by
 refine PyProof.Rows.Subscript_ (gv (h A E env ι s w e a) (fun u s1 ι1 H1 x p1 r1 g=>?_))
 refine gv (g A E env ι1 s1 (w.step p1) (e.step w.hr p1) (a.step p1)) (fun u' s2 ι2 H2 y p₂ r2 g=>?_)
 exact wpAny_mono (g A E ι2 s2 [u,u'] ((w.step p1).step p₂) ⟨_,_,rfl,p₂.vr p1.hr r1,_,_,rfl,r2,rfl⟩) (fun _ _ g=>(g.before p₂).before p1) fun _ _ x=>x
end Mine
namespace Mine
open PySem
inductive MFlow where
 | next|brk|cont
 | ret (v:AV)
 | exc (c:Str)
def FR (B h:Heap) (ι:List Addr):MFlow->Flow->Prop
 | .next,f=>f=.next
 | .brk,f=>f=.brk
 | .cont,f=>f=.cont
 | .ret d,f=>∃ v,f=.ret v/\VR B h ι d v
 | .exc _,_=>False
noncomputable def own (C:Ctx) (env:Env):List Addr:=env.locals::(C.vars.drop C.ro).filterMap fun o=>o.bind fun x=>env.cells.lookup x
theorem qfv {C:Ctx}{a:Addr}(h:a∈own C env):a=env.locals\/∃ x,some x∈C.vars/\env.cells.lookup x=some a:=by
 rcases yg h with e|m
 ·exact .inl e
 ·refine qad (List.mem_filterMap.mp m) fun o ho e=>?_
  cases o with
  | none=>cases e
  | some x=>exact .inr ⟨x,List.mem_of_mem_drop ho,e⟩
theorem qqe {C:Ctx}{x:Str}{c:Addr}(hi:C.ro<=i) (hx:C.vars[i]?=some (some x)) (hc:env.cells.lookup x=some c):c∈own C env :=
 yi _ (List.mem_filterMap.mpr ⟨some x,yc (i:=i-C.ro) (by rw [List.getElem?_drop,Nat.add_sub_cancel' hi];exact hx),hc⟩)
structure PostS (B:Heap) (S ι:List Addr) (s:Shared) (ι':List Addr) (H':Hp) (s':Shared):Prop where
 pre:ι<+:ι'
 hr:HR B ι' H' s'.heap
 kept:Kept (S++ι) s.heap s'.heap
 new:∀ a∈ι',a∈ι\/s.heap.get? a=Option.none
 same:s'.gens=s.gens/\s'.os=s.os
theorem Post.toS {H':Hp}(p:Post B ι s ι' H' s'):PostS B S ι s ι' H' s' :=
 ⟨p.pre,p.hr,p.kept.mono fun _ h=>yo (.inr h),p.new,p.same⟩
theorem PostS.trans {s2:Shared}{H1 H2:Hp}(x:PostS B S ι s ι1 H1 s1) (y:PostS B S ι1 s1 ι2 H2 s2) (hS:∀ a∈S,a∉ι2):PostS B S ι s ι2 H2 s2:=by
 have out:∀ a o,s.heap.get? a=some o->a∉S++ι->a∉S++ι1:=fun a o e hn q=>(yd q).elim (fun m=>hn (yo (.inl m))) fun m =>
  (x.new a m).elim (fun z=>hn (yo (.inr z))) fun z=>by rw [e] at z;cases z
 refine ⟨x.pre.trans y.pre,y.hr,fun a o e hn=>?_,fun a ha=>?_,?_⟩
 ·refine qad (x.kept a o e hn) fun sl e1 q1=>?_
  refine qad (y.kept a _ e1 (out a o e hn)) fun sl' e2 q2=>?_
  exact ⟨sl',e2,fun c=>(q2 c).trans (q1 c)⟩
 ·by_cases hi:a∈ι
  ·exact .inl hi
  ·right
   rcases y.new a ha with q|q
   ·exact (x.new a q).resolve_left hi
   ·cases e:s.heap.get? a with
    | none=>rfl
    | some o =>
     refine qad (x.kept a o e fun m=>(yd m).elim (fun z=>hS a z ha) hi) fun sl e1 _=>?_
     rw [e1] at q;cases q
 ·exact ⟨y.same.1.trans x.same.1,y.same.2.trans x.same.2⟩
theorem EnvR.offOwn {C:Ctx}{loc:Loc}(x:EnvR B C env ι h loc):∀ a∈own C env,a∉ι:=fun a ha=>by
 rcases qfv ha with rfl|⟨y,hm,e⟩
 ·exact x.offL
 ·exact (x.offC y a hm e).1
theorem EnvR.isOwn {C:Ctx}{loc:Loc}(x:EnvR B C env ι h loc):∀ a∈own C env,∃ o,h.get? a=some o/\(∀ vs,o.data≠.fields vs)/\∀ vs n,o.data≠.seq vs n:=fun a ha=>by
 rcases qfv ha with rfl|⟨y,hm,e⟩
 ·refine qzf (x.ns) fun m o es ep e d _=>?_
  exact ⟨o,e,fun vs=>by rw [d];simp,fun vs n=>by rw [d];simp⟩
 ·refine qjy (x.isC y a hm e) fun ov o e d=>?_
  exact ⟨o,e,fun vs=>by rw [d];simp,fun vs n=>by rw [d];simp⟩
theorem EnvR.noTup {B:Heap}{C:Ctx}{env:Env}{ι:List Addr}{h:Heap}{loc:Loc}{H:Hp}(x:EnvR B C env ι h loc) (q:HR B ι H h):qbp (own C env++ι) h:=fun a ha vs t=>by
 rcases yd ha with m|m
 ·refine qbi (x.isOwn a m) fun o e _ d=>?_
  refine qbi (t) fun o' e' _ qQ3=>?_
  clear t
  refine qar (qQ3) fun n d'=>?_
  clear qQ3
  rw [e] at e';cases e'
  exact d _ _ d'
 ·exact q.noTup a m vs t
theorem EnvR.newOwn {C:Ctx}{loc:Loc}(x:EnvR B C env ι h loc):∀ a∈own C env,B.get? a=none:=fun a ha=>by
 rcases qfv ha with rfl|⟨y,hm,e⟩
 ·exact x.newL
 ·exact (x.offC y a hm e).2.2
theorem W.stepS {B:Heap}{A:Around}{d:Nat}{C:Ctx}{env:Env}{ι ι':List Addr}{H H':Hp}{s s':Shared}{loc loc':Loc}(x:W B A d ι H s) (e0:EnvR B C env ι s.heap loc) (p:PostS B (own C env) ι s ι' H' s') (e:EnvR B C env ι' s'.heap loc'):W B A d ι' H' s':=by
 refine ⟨x.room,?_,p.hr⟩
 refine qad (x.fr) fun fl ef q=>?_
 refine ⟨fl,ef,fun en he=>?_⟩
 refine qa4 (q en he) fun k qQ1=>?_
 obtain ⟨L,o,h1,h2,h3,h4,h5⟩:=qQ1
 have h6:L∉ι':=fun z=>(p.new L z).elim h5 fun w=>by rw [h3] at w;cases w
 by_cases hL:L∈own C env
 ·rcases qfv hL with rfl|⟨y,hm,ec⟩
  ·refine qzf (e.ns) fun m o' es ep e' d' _=>?_
   exact ⟨k,_,o',h1,h2,e',⟨es,ep,d'⟩,h6⟩
  ·refine qjy (e0.isC y L hm ec) fun ov o2 e2 d2=>?_
   refine qjz (h4) fun es n d3=>?_
   clear h4
   rw [h3] at e2;cases e2;rw [d2] at d3;cases d3
 ·refine qbi (p.kept.data h3 fun m=>(yd m).elim hL h5) fun o' e' d' _=>?_
  exact ⟨k,L,o',h1,h2,e',d'▸h4,h6⟩
theorem PostS.vr {C:Ctx}{H H':Hp}{loc:Loc}(x:PostS B (own C env) ι s ι' H' s') (q:HR B ι H s.heap) (e:EnvR B C env ι s.heap loc){d:AV}(r:VR B s.heap ι d v):VR B s'.heap ι' d v :=
 VR.mono x.kept (e.noTup q) x.pre d v r
noncomputable def XF:XP:=fun _ _=>False
theorem Acc.no {P:PEnv}:Acc P A XF ι s E:=fun _ _ _ _ _ _ _ _ h=>h.elim
inductive GivesS (B:Heap) (C:Ctx) (env:Env) (ι:List Addr) (s:Shared) (Q:MFlow->Loc->Hp->Prop) (f:Flow) (s':Shared):Prop where
 | mk (ι':List Addr) (H':Hp) (loc':Loc) (fl:MFlow) (p:PostS B (own C env) ι s ι' H' s') (e:EnvR B C env ι' s'.heap loc') (r:FR B s'.heap ι' fl f) (q:Q fl loc' H')
theorem gs {M:Model}{t:Sem Flow}{C:Ctx}{s0:Shared}{Q:MFlow->Loc->Hp->Prop}{R:Flow->Shared->Prop}(h:wpAny M A t (GivesS B C env ι s Q) E s0)
  (k:∀ f s1 ι1 H1 loc1 fl,PostS B (own C env) ι s ι1 H1 s1->EnvR B C env ι1 s1.heap loc1->FR B s1.heap ι1 fl f->Q fl loc1 H1->R f s1):wpAny M A t R E s0 :=
 wpAny_mono h (fun v s1 g=>by cases g with|mk ι1 H1 l fl p e r q=>exact k v s1 ι1 H1 l fl p e r q) fun _ _ x=>x
theorem GivesS.before {C:Ctx}{H1:Hp}{Q:MFlow->Loc->Hp->Prop}{f:Flow}(p:PostS B (own C env) ι s ι1 H1 s1) (g:GivesS B C env ι1 s1 Q f s'):GivesS B C env ι s Q f s':=by
 obtain ⟨ι',H',loc',fl,p',e,r,q⟩:=g
 exact ⟨ι',H',loc',fl,p.trans p' e.offOwn,e,r,q⟩
section
variable (P:PEnv) (C:Ctx) (d:Nat)
def ExOK (st:Stmt) (loc:Loc) (H:Hp) (Q:MFlow->Loc->Hp->Prop):Prop :=
 ∀ A E env ι s,W P.B A d ι H s->EnvR P.B C env ι s.heap loc->wpAny (model P.prog P.w) A (exec st env) (GivesS P.B C env ι s Q) E s
def qgb (sts:List Stmt) (loc:Loc) (H:Hp) (Q:MFlow->Loc->Hp->Prop):Prop :=
 ∀ A E env ι s,W P.B A d ι H s->EnvR P.B C env ι s.heap loc->wpAny (model P.prog P.w) A (execs sts env) (GivesS P.B C env ι s Q) E s
end
variable {P:PEnv}{C:Ctx}{d:Nat}{loc:Loc}{H:Hp}
theorem qoc {Q:MFlow->Loc->Hp->Prop}(h:Q .next loc H):qgb P C d [] loc H Q:=fun _ _ _ ι _ w e=>wpAny_execs_nil ⟨ι,H,loc,.next,(Post.id w.hr).toS,e,rfl,h⟩
theorem qq2 {st:Stmt}{rest:List Stmt}{Q:MFlow->Loc->Hp->Prop}
  (h:ExOK P C d st loc H (fun fl loc' H'=>match fl with|.next=>qgb P C d rest loc' H' Q|fl=>Q fl loc' H')):qgb P C d (st::rest) loc H Q:=fun A E env ι s w e=>by
 refine wpAny_execs_cons (gs (h A E env ι s w e) (fun f s1 ι1 H1 loc1 fl p1 e1 r1 g=>?_))
 cases fl with
 | next =>
  cases r1
  exact wpAny_mono (g A E env ι1 s1 (w.stepS e p1 e1) e1) (fun _ _ g=>g.before p1) fun _ _ x=>x
 | brk=>cases r1;exact ⟨ι1,H1,loc1,.brk,p1,e1,rfl,g⟩
 | cont=>cases r1;exact ⟨ι1,H1,loc1,.cont,p1,e1,rfl,g⟩
 | exc c=>exact r1.elim
 | ret v=>obtain ⟨u,rfl,r⟩:=r1;exact ⟨ι1,H1,loc1,.ret v,p1,e1,⟨u,rfl,r⟩,g⟩
theorem qxb {x:Expr}{Q:MFlow->Loc->Hp->Prop}(h:EvOK P C d x loc H (fun v H'=>Q (.ret v) loc H') XF):ExOK P C d (.Return (some x) pos) loc H Q:=fun A E env ι s w e=>by
 rw [exec_Return_some]
 refine wpAny_bind (wpAny_standAt (wpAny_bind (gv (h A E env ι s w e Acc.no) (fun v s1 ι1 H1 x p1 r1 g=>?_))))
 exact wpAny_pure ⟨ι1,H1,loc,.ret x,p1.toS,e.step w.hr p1,⟨v,rfl,r1⟩,g⟩
theorem qy5 {t:Expr}{a b:List Stmt}{Q:MFlow->Loc->Hp->Prop}(h:TsOK P C d t loc H (fun c H'=>if c then qgb P C d a loc H' Q else qgb P C d b loc H' Q) XF):ExOK P C d (.If t a b pos) loc H Q:=fun A E env ι s w e=>by
 refine wpAny_If (gb (h A E env ι s w e Acc.no) (fun c s1 ι1 H1 p1 g=>?_))
 cases c with
 | true=>exact wpAny_mono (g A E env ι1 s1 (w.step p1) (e.step w.hr p1)) (fun _ _ g=>g.before p1.toS) fun _ _ x=>x
 | false=>exact wpAny_mono (g A E env ι1 s1 (w.step p1) (e.step w.hr p1)) (fun _ _ g=>g.before p1.toS) fun _ _ x=>x
theorem qup {x:Expr}{Q:MFlow->Loc->Hp->Prop}(h:EvOK P C d x loc H (fun _ H'=>Q .next loc H') XF) (hi:∀ env,swapsWith x none pos.line env=pure false):ExOK P C d (.Expr x pos) loc H Q:=fun A E env ι s w e=>by
 refine wpAny_Expr_any (wpAny_mono (h A E env ι s w e Acc.no) (fun v s1 g=>?_) fun _ _ x=>x) ?_ (hi env)
 ·obtain ⟨ι1,H1,x,p1,r1,g⟩:=g
  exact ⟨ι1,H1,loc,.next,p1.toS,e.step w.hr p1,rfl,g⟩
 ·unfold interactive;rw [e.kind];rfl
theorem qij {h:Heap}{a:Addr}{m m':Str->Option Value}(x:h.Ns a m) (y:h.Ns a m'):m=m':=by
 refine qvu (x) fun o es ep e d _ r=>?_
 clear x
 refine qvu (y) fun o' es' ep' e' d' _ r'=>?_
 clear y
 rw [e] at e';cases e'
 rw [d] at d';cases d'
 funext z;rw [←r,←r']
theorem qr4 {v:AV}{loc:Loc}(hi:i<loc.length):(loc.set i (some v))[j]?=if j=i then some (some v) else loc[j]?:=by
 rw [List.getElem?_set]
 by_cases h:i=j
 ·subst h;simp [hi]
 ·have:¬ j=i:=fun e=>h e.symm
  simp [h,this]
theorem qbn {a:Addr}{Z:Addr->Prop}(z:Z a):∀ b∈[a],Z b:=fun _ hb=>yb hb▸z
theorem qh5 {x:Str}{u:Value}{v:AV}(e:EnvR P.B C env ι h loc) (hx:C.vars[i]?=some (some x)) (hu:∀ j,C.vars[j]?=some (some x)->j=i) (ns:∃ m,h'.Ns env.locals m)
  (isC:∀ y c,some y∈C.vars->env.cells.lookup y=some c->∃ ov,h'.IsCell c ov) (me:Has env h' x (some u)) (oth:∀ y ov,some y∈C.vars->y≠x->Has env h y ov->Has env h' y ov) (vr:∀ d w,VR P.B h ι d w->VR P.B h' ι d w) (r:VR P.B h ι v u):EnvR P.B C env ι h' (loc.set i (some v)):=by
 have hi:i<loc.length:=by rw [e.len];exact (yl hx).1
 refine ⟨e.kind,e.names,e.glob,e.blt,ns,e.offL,e.newL,e.offC,isC,e.apart,by rw [List.length_set];exact e.len,fun j y hj=>?_⟩
 by_cases hji:j=i
 ·subst hji
  have:=yj (yj (hx.symm.trans hj))
  subst this
  refine ⟨some u,me,fun dd hdd=>⟨u,rfl,?_⟩⟩
  rw [qr4 hi,if_pos rfl] at hdd
  exact yj (yj hdd)▸vr _ _ r
 ·refine qad (e.vars j y hj) fun ov hs hv=>⟨ov,oth y ov (yc hj) (fun z=>hji (hu j (z▸hj))) hs,fun dd hdd=>?_⟩
  rw [qr4 hi,if_neg hji] at hdd
  exact qad (hv dd hdd) fun v' ev' rv'=>⟨v',ev',vr _ _ rv'⟩
theorem qdx {x:Str}{u:Value}{v:AV}{Q:Unit->Shared->Prop}(w:HR P.B ι H s.heap) (e:EnvR P.B C env ι s.heap loc)
  (hlo:C.ro<=i) (hx:C.vars[i]?=some (some x)) (hu:∀ j,C.vars[j]?=some (some x)->j=i) (hk:C.names.lookup x=some .local\/C.names.lookup x=some .cell) (r:VR P.B s.heap ι v u)
  (h:∀ s',PostS P.B (own C env) ι s ι H s'->EnvR P.B C env ι s'.heap (loc.set i (some v))->Q () s'):wpAny (model P.prog P.w) A (storeName env x u) Q E s:=by
 have hko:∀ y k,C.names.lookup y=k->env.kindOf y=k:=fun y k q=>by unfold Env.kindOf;rw [e.names];exact q
 have fin:∀ a h',a∈own C env->(∀ b o,b≠a->s.heap.get? b=some o->h'.get? b=some o)->HR P.B ι H h'/\Kept (own C env++ι) s.heap h':=fun a h' ha k1 =>
  ⟨w.off (T:=[a]) (fun b o hb eb=>k1 b o (fun z=>hb (z▸ym rfl)) eb) (qbn (Z:=fun b=>∀ vs,¬ PyProof.Rows.IsTup s.heap b vs) (e.noTup w a (yo (.inl ha)))) (qbn (Z:=fun b=>b∉ι) (e.offOwn a ha)) (qbn (Z:=fun b=>P.B.get? b=none) (e.newOwn a ha)),
   Kept.of_keeps fun b o hb eb=>k1 b o (fun z=>hb (z▸yo (.inl ha))) eb⟩
 rcases hk with hk|hk
 ·refine e.ns.elim fun m n=>?_
  refine wpAny_storeName_local (hko _ _ hk) n (fun h' n' sb=>?_) (by rw [e.kind];rfl)
  have f:=fin env.locals h' (List.mem_cons_self ..) sb.extBut
  refine h _ ⟨List.prefix_refl _,f.1,f.2,fun _ q=>.inl q,rfl,rfl⟩ (qh5 e hx hu ⟨_,n'⟩ (fun y c hm hc=>(e.isC y c hm hc).elim fun ov q=>⟨ov,q.sameBut sb (e.offC y c hm hc).2.1⟩) (.inl ⟨hko _ _ hk,_,n',by simp⟩) (fun y ov hm hyx hs=>?_) (fun _ _ q=>VR.mono f.2 (e.noTup w) (List.prefix_refl _) _ _ q) r)
  refine hs.imp (fun q=>⟨q.1,qad q.2 fun m' nn em=>⟨_,n',?_⟩⟩) fun q=>⟨q.1,qad q.2 fun c ec rc=>⟨c,ec,rc.sameBut sb (e.offC y c hm ec).2.1⟩⟩
  have:=qij n nn
  subst this
  simp [hyx,em]
 ·refine qad (e.vars i x hx) fun ov hs hv=>?_
  refine hs.elim (fun q=>?_) fun q=>qad q.2 fun c ec rc=>?_
  ·have k:=q.1
   rw [hko _ _ hk] at k;cases k
  ·have oc:=e.offC x c (yc hx) ec
   refine wpAny_storeName_cell e.kind (hko _ _ hk) ec rc fun h' c' sb=>?_
   have f:=fin c h' (qqe hlo hx ec) sb.extBut
   refine h _ ⟨List.prefix_refl _,f.1,f.2,fun _ q=>.inl q,rfl,rfl⟩ (qh5 e hx hu (e.ns.elim fun m n=>⟨m,n.sameBut sb (Ne.symm oc.2.1)⟩) (fun y c'' hm hc=>?_) (.inr ⟨.inl (hko _ _ hk),c,ec,c'⟩) (fun y ov hm hyx hs=>?_) (fun _ _ q=>VR.mono f.2 (e.noTup w) (List.prefix_refl _) _ _ q) r)
   ·by_cases hcc:c''=c
    ·subst hcc;exact ⟨_,c'⟩
    ·exact (e.isC y c'' hm hc).elim fun ov q=>⟨ov,q.sameBut sb hcc⟩
   ·exact hs.imp (fun q=>⟨q.1,qad q.2 fun m' nn em=>⟨m',nn.sameBut sb (Ne.symm oc.2.1),em⟩⟩) fun q=>⟨q.1,qad q.2 fun c2 ec2 rc2=>⟨c2,ec2,rc2.sameBut sb fun z=>hyx (e.apart y x c hm (yc hx) (z▸ec2) ec)⟩⟩
structure Slot (C:Ctx) (i:Nat) (x:Str):Prop where
 lo:C.ro<=i
 at_:C.vars[i]?=some (some x)
 uniq:∀ j,C.vars[j]?=some (some x)->j=i
 kind:C.names.lookup x=some .local\/C.names.lookup x=some .cell
theorem qir {x:Str}{v:Expr}{p':Pos}{Q:MFlow->Loc->Hp->Prop}(sl:Slot C i x) (h:EvOK P C d v loc H (fun a H'=>Q .next (loc.set i (some a)) H') XF)
  (hs:∀ env,swapsWith v (some (.Name x p')) pos.line env=pure false):ExOK P C d (.Assign [.Name x p'] v pos) loc H Q:=fun A E env ι s w e=>by
 refine wpAny_Assign_Name (gv (h A E env ι s w e Acc.no) (fun u s1 ι1 H1 a p1 r1 g=>?_)) (hs env)
 exact qdx p1.hr (e.step w.hr p1) sl.lo sl.at_ sl.uniq sl.kind r1 fun s' ps e'=>⟨ι1,H1,_,.next,PostS.trans p1.toS ps e'.offOwn,e',rfl,g⟩
end Mine
namespace Mine
open PySem
variable {P:PEnv}{C:Ctx}{d:Nat}{loc:Loc}{H:Hp}
inductive WhI (P:PEnv) (C:Ctx) (env:Env) (ι:List Addr) (s:Shared) (J:Nat->Loc->Hp->Prop) (n:Nat) (s':Shared):Prop where
 | mk (ι':List Addr) (H':Hp) (loc':Loc) (p:PostS P.B (own C env) ι s ι' H' s') (e:EnvR P.B C env ι' s'.heap loc') (j:J n loc' H')
theorem WhI.el {P:PEnv}{C:Ctx}{J:Nat->Loc->Hp->Prop}{G:Prop}(h:WhI P C env ι s J n s')
  (k:∀ ι' H' loc',PostS P.B (own C env) ι s ι' H' s'->EnvR P.B C env ι' s'.heap loc'->J n loc' H'->G):G:=by cases h with|mk a b c p e j=>exact k a b c p e j
theorem qq5 {t:Expr}{body:List Stmt}{Q:MFlow->Loc->Hp->Prop}(J:Nat->Loc->Hp->Prop) (n:Nat) (h0:J n loc H)
  (turn:∀ n loc H,J n loc H->TsOK P C d t loc H (fun c H'=>if c then qgb P C d body loc H' (fun fl l'' H''=>match fl with
   | .next=>∃ m,m<n/\J m l'' H''
   | .cont=>∃ m,m<n/\J m l'' H''
   | .brk=>Q .next l'' H''
   | .ret v=>Q (.ret v) l'' H''
   | .exc _=>False) else Q .next loc H') XF):ExOK P C d (.While t body [] pos) loc H Q:=fun A E env ι s w e=>by
 refine wpAny_While ?_
 refine codeAny_whileLoop (WhI P C env ι s J) (fun n s' hI=>hI.el fun ι' H' loc' p e' hj=>?_) n ⟨ι,H,loc,(Post.id w.hr).toS,e,h0⟩
 have w':=w.stepS e p e'
 refine gb (turn n loc' H' hj A _ env ι' s' w' e' Acc.no) (fun c s1 ι1 H1 p1 g=>?_)
 have e1:=e'.step w'.hr p1
 have pp:=p.trans (S:=own C env) p1.toS e1.offOwn
 cases c with
 | false=>exact wpAny_execs_nil ⟨ι1,H1,loc',.next,pp,e1,rfl,g⟩
 | true =>
  refine gs (g A _ env ι1 s1 (w'.step p1) e1) (fun f s2 ι2 H2 loc2 fl p₂ e2 r2 g=>?_)
  have pp2:=pp.trans p₂ e2.offOwn
  cases fl with
  | next=>cases r2;obtain ⟨m,hm,hj'⟩:=g;exact ⟨m,hm,ι2,H2,loc2,pp2,e2,hj'⟩
  | cont=>cases r2;obtain ⟨m,hm,hj'⟩:=g;exact ⟨m,hm,ι2,H2,loc2,pp2,e2,hj'⟩
  | brk=>cases r2;exact ⟨ι2,H2,loc2,.next,pp2,e2,rfl,g⟩
  | ret v=>obtain ⟨u,rfl,r⟩:=r2;exact ⟨ι2,H2,loc2,.ret v,pp2,e2,⟨u,rfl,r⟩,g⟩
  | exc c=>exact r2.elim
inductive TgG (P:PEnv) (C:Ctx) (env:Env) (ι:List Addr) (H:Hp) (s:Shared) (K:Loc->Prop) (u:Unit) (s':Shared):Prop where
 | mk (loc':Loc) (p:PostS P.B (own C env) ι s ι H s') (e:EnvR P.B C env ι s'.heap loc') (k:K loc')
def TgOK (P:PEnv) (C:Ctx) (tg:Expr) (x:AV) (loc:Loc) (K:Loc->Prop):Prop :=
 ∀ A E env ι H s v,A.handled=none->HR P.B ι H s.heap->EnvR P.B C env ι s.heap loc->VR P.B s.heap ι x v ->
  wpAny (model P.prog P.w) A (assign tg env v) (TgG P C env ι H s K) E s
theorem TgG.el {H:Hp}{K:Loc->Prop}{u:Unit}{G:Prop}(h:TgG P C env ι H s K u s') (k:∀ loc',PostS P.B (own C env) ι s ι H s'->EnvR P.B C env ι s'.heap loc'->K loc'->G):G:=by
 cases h with|mk a b c e=>exact k a b c e
theorem qmh {x:Str}{v:AV}{K:Loc->Prop}(sl:Slot C i x) (h:K (loc.set i (some v))):TgOK P C (.Name x pos) v loc K:=fun A E env ι H s u _ hr e r =>
 wpAny_assign_Name (qdx hr e sl.lo sl.at_ sl.uniq sl.kind r fun s' ps e'=>⟨_,ps,e',h⟩)
noncomputable def qby:List (Nat×AV)->Loc->Loc
 | [],l=>l
 | (i,v)::r,l=>qby r (l.set i (some v))
inductive Names (C:Ctx):List Expr->List Nat->Prop
 | nil:Names C [] []
 | cons {x:Str}{pos:Pos}{i:Nat}{es:List Expr}{is:List Nat}:Slot C i x->Names C es is->Names C (.Name x pos::es) (i::is)
theorem Names.each {C:Ctx}{is:List Nat}(n:Names C es is) (env:Env):(assignEach es env).length=es.length/\(assignEach es env).findIdx? (·.1)=none:=by
 induction n with
 | nil=>exact ⟨rfl,rfl⟩
 | cons _ _ ih =>
  refine ⟨?_,?_⟩
  ·show _+1=_;rw [ih.1];rfl
  ·show List.findIdx? _ ((false,_)::assignEach _ env)=none
   rw [List.findIdx?_cons];simp [ih.2]
theorem Names.length {C:Ctx}{is:List Nat}(n:Names C es is):es.length=is.length:=by
 induction n with
 | nil=>rfl
 | cons _ _ ih=>simp [ih]
theorem qmf {A:Around}{E:Value->Shared->Prop}{env:Env}{ι:List Addr}{H:Hp}{s0:Shared}{es:List Expr}{is:List Nat}(n:Names C es is):∀ {vs:List AV}{us:List Value}{loc:Loc}{s:Shared}{K:Loc->Prop},vs.length=is.length ->
  PostS P.B (own C env) ι s0 ι H s->EnvR P.B C env ι s.heap loc->VRs P.B s.heap ι vs us->K (qby (is.zip vs) loc) ->
  wpAny (model P.prog P.w) A (assignInOrder ((assignEach es env).map (·.2)) us) (TgG P C env ι H s0 K) E s:=by
 induction n with
 | nil =>
  intro vs us loc s K hl p e r hk
  have:vs=[]:=List.length_eq_zero_iff.mp hl
  subst this
  exact PyProof.Rows.assignInOrder_nil ⟨loc,p,e,hk⟩
 | cons sl n ih =>
  intro vs us loc s K hl p e r hk
  cases vs with
  | nil=>cases hl
  | cons v vs =>
   refine qa6 r fun u ur eQ2 r1 r2=>?_
   clear r
   subst eQ2
   refine PyProof.Rows.assignInOrder_cons (wpAny_assign_Name (qdx p.hr e sl.lo sl.at_ sl.uniq sl.kind r1 fun s' ps e'=>?_))
   exact ih (Nat.succ.inj hl) (p.trans ps e'.offOwn) e' (VRs.mono ps.kept (e.noTup p.hr) (List.prefix_refl _) _ _ r2) hk
theorem qmg {es:List Expr}{k:Nat}{is:List Nat}{pos:Pos}{vs:List AV}{K:Loc->Prop}(n:Names C es is) (hl:vs.length=is.length) (h:K (qby (is.zip vs) loc)):TgOK P C (.Tuple es k pos) (.tup vs) loc K:=fun A E env ι H s u hh hr e r=>by
 unfold VR at r
 refine qa6 (r) fun t us eQ2 ht nQ=>?_
 clear r
 revert nQ
 intro r
 subst eQ2
 refine PyProof.Rows.assign_Tuple_tuple hh ht.isTup ?_ (n.each env).2 fun h' he=>?_
 ·rw [(n.each env).1,n.length,List.size_toArray,r.length,hl]
 ·have k:∀ a o,s.heap.get? a=some o->h'.get? a=some o:=fun a o ea=>he a o (Nat.ne_of_lt (Heap.lt_size ea)) ea
  have p:Post P.B ι s ι H { s with heap:=h',toks:=s.toks }:=Post.keep hr k
  exact qmf n hl (p.toS (S:=own C env)) (e.step hr p) (p.vrs hr r) h
noncomputable def qd5 (e:Expr):Bool:=e.ctorIdx == Expr.ctorIdx (.Tuple [] 0 default)
structure Itr (P:PEnv) (tt:Bool) (I:Addr) (wr:List Addr) (items:List AV) (Cnd:Hp->Prop) (It:Nat->List Addr->Heap->Prop) (Mid:Nat->Value->List Addr->Heap->Prop):Prop where
 mono:∀ k ι ι' S h h',It k ι h->Kept S h h'->qbp S h->ι<+:ι'->(∀ a∈wr,a∉S)->It k ι' h'
 there:∀ k ι h,It k ι h->∀ a∈wr,∃ o,h.get? a=some o/\∀ vs n,o.data≠.seq vs n
 thereM:∀ k v ι h,Mid k v ι h->∀ a∈wr,∃ o,h.get? a=some o/\∀ vs n,o.data≠.seq vs n
 next:∀ A E ι H s k x (Q:Option Value->Shared->Prop),A.handled=none->HR P.B ι H s.heap->Cnd H->It k ι s.heap->items[k]?=some x ->
  (∀ v h' tk,VR P.B h' ι x v->Mid k v ι h'->(∀ b o,b∉wr->s.heap.get? b=some o->h'.get? b=some o)->Q (some v) { s with heap:=h',toks:=tk })->wpAny (model P.prog P.w) A (pyNext (.ref I)) Q E s
 go:∀ tgt A E ι s k v (Q:Unit->Shared->Prop),(tt=true->qd5 tgt=true)->Mid k v ι s.heap->(∀ h',It (k+1) ι h'->(∀ b o,b∉wr->s.heap.get? b=some o->h'.get? b=some o)->Q () { s with heap:=h' }) ->
  wpAny (model P.prog P.w) A (letOwnedTupleGo tgt (.ref I) v) Q E s
 stop:∀ A E ι H s (Q:Option Value->Shared->Prop),A.handled=none->HR P.B ι H s.heap->Cnd H->It items.length ι s.heap ->
  (∀ h' tk,(∀ b o,b∉wr->s.heap.get? b=some o->h'.get? b=some o)->Q none { s with heap:=h',toks:=tk })->wpAny (model P.prog P.w) A (pyNext (.ref I)) Q E s
 self:∀ A E ι s k (Q:Value->Shared->Prop),It k ι s.heap->Q (.ref I) s->wpAny (model P.prog P.w) A (pyIter (.ref I)) Q E s
theorem Itr.any {tt:Bool}{I:Addr}{wr:List Addr}{items:List AV}{Cnd:Hp->Prop}{It:Nat->List Addr->Heap->Prop}{Mid:Nat->Value->List Addr->Heap->Prop}(h:Itr P false I wr items Cnd It Mid):Itr P tt I wr items Cnd It Mid :=
 ⟨h.mono,h.there,h.thereM,h.next,fun tgt A E ι s k v Q _=>h.go tgt A E ι s k v Q (fun e=>by cases e),h.stop,h.self⟩
def ItOK (P:PEnv) (x:AV) (H:Hp) (items:List AV) (Cnd:Hp->Prop):Prop :=
 ∀ A E ι s v (Q:Value->Shared->Prop),HR P.B ι H s.heap->VR P.B s.heap ι x v ->
  (∀ I wr It Mid h' tk,Itr P false I wr items Cnd It Mid->It 0 ι h'->(∀ a∈wr,s.heap.get? a=none)->(∀ b o,s.heap.get? b=some o->h'.get? b=some o)->Q (.ref I) { s with heap:=h',toks:=tk }) ->
  wpAny (model P.prog P.w) A (pyIter v) Q E s
theorem qkn {M:Model}{tgt:Expr}{I:Addr}{o:Obj}{n:String}{Q:Unit->Shared->Prop}(ho:s.heap.get? I=some o) (hc:o.cls=.type n)
  (hn:["enumerate", "zip", "dict_itemiterator", "dict_reverseitemiterator", "odict_iterator", "itertools.zip_longest", "itertools.pairwise"].contains n=false) (h:Q () s):wpAny M A (letOwnedTupleGo tgt (.ref I) v) Q E s:=by
 have key:wpAny M A (do
  let (.ref r,.ref a):=(Value.ref I,v)|return
  let o ←load r
  match o.cls,o.data with
  | .type n,.fields vs =>
   if ["enumerate", "zip", "dict_itemiterator", "dict_reverseitemiterator", "odict_iterator", "itertools.zip_longest", "itertools.pairwise"].contains n&&vs[0]? == some (rawInt a) then
    rule "for.unpacks-the-owned-tuple"
    updateField r 0 .none
  | _,_=>pure ():Sem Unit) Q E s:=by
  cases v with
  | ref a =>
   refine wpAny_bind (wpAny_load ho ?_)
   rw [hc]
   cases o.data with
   | fields vs=>simp only [hn,Bool.false_and,Bool.false_eq_true,if_false];exact wpAny_pure h
   | _=>exact wpAny_pure h
  | _=>exact wpAny_pure h
 cases tgt<;>first|exact key|exact wpAny_pure h
structure One (P:PEnv) (I:Addr) (items:List AV) (Cnd:Hp->Prop) (At:Nat->Obj->Prop) (Pre:List Addr->Heap->Prop) (T:String):Prop where
 dat:∀ k o,At k o->o.cls=.type T/\(∀ vs n,o.data≠.seq vs n)/\∀ es n,o.data≠.dict es n
 go:["enumerate", "zip", "dict_itemiterator", "dict_reverseitemiterator", "odict_iterator", "itertools.zip_longest", "itertools.pairwise"].contains T=false
 pre:∀ ι ι' S h h',Pre ι h->Kept S h h'->qbp S h->ι<+:ι'->Pre ι' h'
 next:∀ A E ι H s k x (Q:Option Value->Shared->Prop),A.handled=none->HR P.B ι H s.heap->Cnd H->Pre ι s.heap->(∃ o,s.heap.get? I=some o/\At k o)->items[k]?=some x ->
  (∀ v h' tk,VR P.B s.heap ι x v->(∃ o,h'.get? I=some o/\At (k+1) o)->Heap.SameBut I s.heap h'->Q (some v) { s with heap:=h',toks:=tk })->wpAny (model P.prog P.w) A (pyNext (.ref I)) Q E s
 stop:∀ A E ι H s (Q:Option Value->Shared->Prop),A.handled=none->HR P.B ι H s.heap->Cnd H->Pre ι s.heap->(∃ o,s.heap.get? I=some o/\At items.length o) ->
  (∀ h' tk,Heap.ExtBut I s.heap h'->Q none { s with heap:=h',toks:=tk })->wpAny (model P.prog P.w) A (pyNext (.ref I)) Q E s
 self:∀ A E s k (Q:Value->Shared->Prop),(∃ o,s.heap.get? I=some o/\At k o)->Q (.ref I) s->wpAny (model P.prog P.w) A (pyIter (.ref I)) Q E s
theorem One.itr {I:Addr}{items:List AV}{Cnd:Hp->Prop}{At:Nat->Obj->Prop}{Pre:List Addr->Heap->Prop}{T:String}(h:One P I items Cnd At Pre T) :
  Itr P false I [I] items Cnd (fun k ι h=>Pre ι h/\∃ o,h.get? I=some o/\At k o) (fun k _ ι h=>Pre ι h/\∃ o,h.get? I=some o/\At (k+1) o):=by
 have nt:∀ {h₁:Heap}{k:Nat},(∃ o,h₁.get? I=some o/\At k o)->qbp [I] h₁:=fun q=>qbn (Z:=fun b=>∀ vs,¬ PyProof.Rows.IsTup _ b vs) fun vs t =>
  qad q fun o e z=>qbi t fun o' e' _ n=>n.elim fun n d=>(h.dat _ _ z).2.1 _ _ (yj (e.symm.trans e')▸d)
 have th:∀ {h₁:Heap}{k:Nat},(∃ o,h₁.get? I=some o/\At k o)->∀ a∈[I],∃ o,h₁.get? a=some o/\∀ vs n,o.data≠.seq vs n:=fun q=>qbn (Z:=fun b=>∃ o,_/\_) (qad q fun o e z=>⟨o,e,(h.dat _ _ z).2.1⟩)
 have ex:∀ {h₁ h₂:Heap},Heap.ExtBut I h₁ h₂->∀ b o,b∉[I]->h₁.get? b=some o->h₂.get? b=some o:=fun x b o hb eb=>x b o (fun z=>hb (z▸ym rfl)) eb
 exact ⟨fun k ι ι' S h₁ h₂ q kp ns pr hw=>⟨h.pre _ _ _ _ _ q.1 kp ns pr,qad q.2 fun o e z=>⟨o,kp.exact e (hw _ (ym rfl)) (h.dat _ _ z).2.2,z⟩⟩,fun k ι h₁ q=>th q.2,fun k v ι h₁ q=>th q.2,
  fun A E ι1 H1 s1 k x Q hh hr hc q hx hQ=>h.next A E ι1 H1 s1 k x Q hh hr hc q.1 q.2 hx fun v h' tk rv q' sb =>
   have kp:=Kept.of_keeps (ex sb.extBut)
   hQ v h' tk (VR.mono kp (nt q.2) (List.prefix_refl _) _ _ rv) ⟨h.pre _ _ _ _ _ q.1 kp (nt q.2) (List.prefix_refl _),q'⟩ (ex sb.extBut),
  fun tgt A E ι1 s1 k v Q _ q hQ=>qad q.2 fun o e z=>qkn e (h.dat _ _ z).1 h.go (hQ s1.heap q fun _ _ _ e=>e),
  fun A E ι1 H1 s1 Q hh hr hc q hQ=>h.stop A E ι1 H1 s1 Q hh hr hc q.1 q.2 fun h' tk x=>hQ h' tk (ex x),
  fun A E ι1 s1 k Q q hQ=>h.self A E s1 k Q q.2 hQ⟩
theorem One.new {tt:Bool}{items:List AV}{Cnd:Hp->Prop}{At:Nat->Obj->Prop}{Pre:List Addr->Heap->Prop}{T:String}{o:Obj}{Q:Value->Shared->Prop}
  (h:∀ I wr It Mid h' tk,Itr P tt I wr items Cnd It Mid->It 0 ι h'->(∀ a∈wr,s.heap.get? a=none)->(∀ b o,s.heap.get? b=some o->h'.get? b=some o)->Q (.ref I) { s with heap:=h',toks:=tk })
  (one:One P s.heap.objs.size items Cnd At Pre T) (at0:At 0 o) (fr:o.isFreed=false) (pre:Pre ι s.heap):Q (.ref s.heap.objs.size) { s with heap:=s.heap.push o } :=
 have k:∀ b o',s.heap.get? b=some o'->(s.heap.push o).get? b=some o':=fun b o' e=>Heap.get?_push_of_some _ e
 h _ _ _ _ _ s.toks one.itr.any ⟨one.pre _ _ _ _ _ pre (qax k) qa3 (List.prefix_refl _),o,Heap.get?_push_size _ fr,at0⟩ (qbn (Z:=fun b=>s.heap.get? b=none) (qbg _)) k
theorem qbu {o:Obj}{vs:Array Value}(h:o.data=.fields vs):(∀ vs n,o.data≠.seq vs n)/\∀ es n,o.data≠.dict es n:=⟨(fun _ _ z=>nomatch h.symm.trans z),fun _ _ z=>nomatch h.symm.trans z⟩
theorem qf6 {l:List AV}(h:vs.length=l.length):vs.toArray[l.length]?=none:=by rw [List.getElem?_toArray];exact List.getElem?_eq_none_iff.mpr (Nat.le_of_eq h)
theorem qt5 {l:List AV}(hi:H[i]?=some (.list l)):ItOK P (.ref i) H l (fun H'=>H'[i]?=some (.list l)):=fun A E ι s v Q hr r h=>by
 refine qad r fun a eQ ea=>?_
 subst eQ
 have at_:∀ {ι H h},HR P.B ι H h->H[i]?=some (.list l)->ι[i]?=some a->∃ vs,h.PlainList a (List.toArray vs)/\VRs P.B h ι l vs:=fun hr hi ea=>qad (hr.objs i _ hi) fun a' ea' o=>yj (ea'.symm.trans ea)▸o
 refine qad (at_ hr hi ea) fun vs pl rv=>wpAny_pyIter_list pl.isList ?_
 refine One.new (P:=P) (T := "list_iterator") (At:=fun k o=>o.cls=.type "list_iterator" /\ o.data=.fields #[.ref a,.int k 0]) (Pre:=fun ι _=>ι[i]?=some a) h ⟨fun k o z=>⟨z.1,qbu z.2⟩,by decide,fun ι ι' S h h' q _ _ pr=>qcw pr q,?_,?_,fun A E s k Q q hQ=>wpAny_pyIter_listiter q hQ⟩ ⟨rfl,rfl⟩ rfl ea
 ·intro A E ι1 H1 s1 k x Q hh hr1 hc q1 q2 hx hQ
  refine qad (at_ hr1 hc q1) fun vs2 pl2 rv2=>qad (rv2.get hx) fun u hu ru=>?_
  exact wpAny_pyNext_list_item q2 pl2.isList (x:=u) (by simpa using hu) fun h' it' sb=>hQ u h' s1.toks ru it' sb
 ·intro A E ι1 H1 s1 Q hh hr1 hc q1 q2 hQ
  refine qad (at_ hr1 hc q1) fun vs2 pl2 rv2=>?_
  exact wpAny_pyNext_list_end hh q2 pl2.isList (qf6 rv2.length) fun h' x=>hQ h' s1.toks x
theorem qwy {l:List AV}:ItOK P (.fro l) H l (fun _=>True):=fun A E ι s v Q hr r h=>by
 unfold VR at r
 refine qa6 r fun a vs eQ bl rv=>?_
 subst eQ
 have keepL:∀ h',P.B.StaysIn h'->h'.IsList a vs.toArray:=fun h' q=>bl.at fun o e=>q a o e
 refine wpAny_pyIter_list (keepL _ hr.base) ?_
 refine One.new (P:=P) (T := "list_iterator") (At:=fun k o=>o.cls=.type "list_iterator" /\ o.data=.fields #[.ref a,.int k 0]) (Pre:=fun ι h=>VRs P.B h ι l vs) h ⟨fun k o z=>⟨z.1,qbu z.2⟩,by decide,fun ι ι' S h h' q kp nt pr=>VRs.mono kp nt pr _ _ q,?_,?_,fun A E s k Q q hQ=>wpAny_pyIter_listiter q hQ⟩ ⟨rfl,rfl⟩ rfl rv
 ·intro A E ι1 H1 s1 k x Q hh hr1 hc q1 q2 hx hQ
  refine qad (q1.get hx) fun u hu ru=>?_
  exact wpAny_pyNext_list_item q2 (keepL _ hr1.base) (x:=u) (by simpa using hu) fun h' it' sb=>hQ u h' s1.toks ru it' sb
 ·intro A E ι1 H1 s1 Q hh hr1 hc q1 q2 hQ
  exact wpAny_pyNext_list_end hh q2 (keepL _ hr1.base) (qf6 q1.length) fun h' x=>hQ h' s1.toks x
theorem qwv {l:List AV}:ItOK P (.tup l) H l (fun _=>True):=fun A E ι s v Q hr r h=>by
 unfold VR at r
 refine qa6 r fun a vs eQ tl rv=>?_
 subst eQ
 refine wpAny_pyIter_tuple tl.isTup ?_
 refine One.new (P:=P) (T := "tuple_iterator") (At:=fun k o=>o.cls=.type "tuple_iterator" /\ o.data=.fields #[.ref a,.int k 0]) (Pre:=fun ι h=>PTup h a vs.toArray/\VRs P.B h ι l vs) h ⟨fun k o z=>⟨z.1,qbu z.2⟩,by decide,fun ι ι' S h h' q kp nt pr=>⟨qey kp nt q.1,VRs.mono kp nt pr _ _ q.2⟩,?_,?_,fun A E s k Q q hQ=>wpAny_pyIter_tupleiter q hQ⟩ ⟨rfl,rfl⟩ rfl ⟨tl,rv⟩
 ·intro A E ι1 H1 s1 k x Q hh hr1 hc q1 q2 hx hQ
  refine qad (q1.2.get hx) fun u hu ru=>?_
  exact wpAny_pyNext_tuple_item q2 q1.1.isTup (x:=u) (by simpa using hu) fun h' it' sb=>hQ u h' s1.toks ru it' sb
 ·intro A E ι1 H1 s1 Q hh hr1 hc q1 q2 hQ
  exact wpAny_pyNext_tuple_end hh q2 q1.1.isTup (qf6 q1.2.length) fun h' x=>hQ h' s1.toks x
def qk4 (P:PEnv) (tt:Bool) (A:Around) (ι₁:List Addr) (items:List AV) (Cnd:Hp->Prop) (v:Value) (s₀ s₁:Shared):Prop :=
 ∀ E (Q:Value->Shared->Prop),(∀ I wr It Mid h' tk,Itr P tt I wr items Cnd It Mid->It 0 ι₁ h'->(∀ a∈wr,s₀.heap.get? a=none)->(∀ b o,s₀.heap.get? b=some o->h'.get? b=some o)->Q (.ref I) { s₀ with heap:=h',toks:=tk }) ->
   wpAny (model P.prog P.w) A (pyIter v) Q E s₁
inductive ItG (P:PEnv) (tt:Bool) (A:Around) (ι:List Addr) (s:Shared) (K:List AV->(Hp->Prop)->Hp->Prop) (v:Value) (s₁:Shared):Prop where
 | mk (ι₁:List Addr) (H₁:Hp) (items:List AV) (Cnd:Hp->Prop) (s₀:Shared) (p:Post P.B ι s ι₁ H₁ s₀) (tl:qk4 P tt A ι₁ items Cnd v s₀ s₁) (k:K items Cnd H₁)
theorem gi {P:PEnv}{tt:Bool}{t:Sem Value}{s0:Shared}{K:List AV->(Hp->Prop)->Hp->Prop}{R:Value->Shared->Prop}(h:wpAny (model P.prog P.w) A t (ItG P tt A ι s K) E s0)
  (k:∀ v s2 ι1 H1 items Cnd s1,Post P.B ι s ι1 H1 s1->qk4 P tt A ι1 items Cnd v s1 s2->K items Cnd H1->R v s2):wpAny (model P.prog P.w) A t R E s0 :=
 wpAny_mono h (fun v s1 g=>by cases g with|mk a b c d e p r q=>exact k v s1 a b c d e p r q) fun _ _ x=>x
def ItEv (P:PEnv) (tt:Bool) (C:Ctx) (d:Nat) (it:Expr) (loc:Loc) (H:Hp) (K:List AV->(Hp->Prop)->Hp->Prop) (X:XP):Prop :=
 ∀ A E env ι s,W P.B A d ι H s->EnvR P.B C env ι s.heap loc->Acc P A X ι s E->wpAny (model P.prog P.w) A (eval it env) (ItG P tt A ι s K) E s
theorem qt7 {tt:Bool}{it:Expr}{K:List AV->(Hp->Prop)->Hp->Prop}{X:XP}(h:EvOK P C d it loc H (fun x H1=>∃ items Cnd,ItOK P x H1 items Cnd/\K items Cnd H1) X):ItEv P tt C d it loc H K X:=fun A E env ι s w e a =>
 gv (h A E env ι s w e a) fun v s1 ι1 H1 x p1 r1 g=>qjy g fun items Cnd io k =>
  ⟨ι1,H1,items,Cnd,s1,p1,fun E Q hq=>io A E ι1 s1 v Q p1.hr r1 fun I wr It Mid h' tk itr=>hq I wr It Mid h' tk itr.any,k⟩
theorem ItEv.mono {tt:Bool}{it:Expr}{K K':List AV->(Hp->Prop)->Hp->Prop}{X:XP}(h:ItEv P tt C d it loc H K X) (k:∀ i c H,K i c H->K' i c H):ItEv P tt C d it loc H K' X:=fun A E env ι s w e a =>
 gi (h A E env ι s w e a) fun v s1 ι1 H1 items Cnd s0 p1 io q=>⟨ι1,H1,items,Cnd,s0,p1,io,k _ _ _ q⟩
theorem ntw {wr:List Addr}(q:∀ a∈wr,∃ o,h.get? a=some o/\∀ vs n,o.data≠.seq vs n):qbp wr h:=fun a ha vs t=>by
 refine qad (q a ha) fun o eo d1=>?_
 exact qbi t fun o' eo' _ q=>q.elim fun n d2=>d1 _ _ (yj (eo.symm.trans eo')▸d2)
theorem EnvR.off {C:Ctx}{T:List Addr}{loc:Loc}(ee:EnvR B C env ι h loc) (ext:∀ b o,b∉T->h.get? b=some o->h'.get? b=some o) (nt:qbp T h) (hL:env.locals∉T)
  (hC:∀ x c,some x∈C.vars->env.cells.lookup x=some c->c∉T):EnvR B C env ι h' loc:=by
 have kO:∀ a,a∉T->∀ o,h.get? a=some o->∃ o',h'.get? a=some o'/\o'.data=o.data:=fun a ha o eo=>⟨o,ext a o ha eo,rfl⟩
 refine ⟨ee.kind,ee.names,ee.glob,ee.blt,ee.ns.elim fun m n=>⟨m,Ns.of_data n (kO _ hL)⟩,ee.offL,ee.newL,ee.offC,fun x c hm hx=>(ee.isC x c hm hx).elim fun ov q=>⟨ov,Cell.of_data q (kO c (hC x c hm hx))⟩,ee.apart,ee.len,fun j x hj=>?_⟩
 refine qad (ee.vars j x hj) fun ov hs hv=>⟨ov,?_,fun dd hd=>qad (hv dd hd) fun v' ev rv=>⟨v',ev,VR.mono (Kept.of_keeps ext) nt (List.prefix_refl _) _ _ rv⟩⟩
 exact hs.imp (fun q=>⟨q.1,q.2.elim fun m n=>⟨m,Ns.of_data n.1 (kO _ hL),n.2⟩⟩) fun q=>⟨q.1,q.2.elim fun c n=>⟨c,n.1,Cell.of_data n.2 (kO c (hC x c (yc hj) n.1))⟩⟩
theorem qm0 {H2:Hp}{s2:Shared}{t':Nat}{wr:List Addr}(wrn:∀ a∈wr,s1.heap.get? a=none) (q:PostS P.B (own C env) ι1 s1 ι2 H2 s2) (hr:HR P.B ι2 H2 h') (ext:∀ b o,b∉wr->s2.heap.get? b=some o->h'.get? b=some o) :
  PostS P.B (own C env) ι1 s1 ι2 H2 { s2 with heap:=h',toks:=t' }:=by
 refine ⟨q.pre,hr,fun a o eo hn=>?_,q.new,?_⟩
 ·exact qad (q.kept a o eo hn) fun sl e1 q1=>⟨sl,ext a _ (fun m=>qa1 (wrn a m) eo) e1,q1⟩
 ·exact q.same
inductive ForI (P:PEnv) (C:Ctx) (env:Env) (ι₁:List Addr) (s₁:Shared) (wr:List Addr) (It:Nat->List Addr->Heap->Prop) (m:Nat) (J:Nat->Loc->Hp->Prop) (n:Nat) (s':Shared):Prop where
 | mk (k:Nat) (ι':List Addr) (H':Hp) (loc':Loc) (hn:n=m+1-k) (hk:k<=m) (wrO:∀ a∈wr,a∉own C env++ι') (p:PostS P.B (own C env) ι₁ s₁ ι' H' s') (e:EnvR P.B C env ι' s'.heap loc') (j:J k loc' H') (it:It k ι' s'.heap)
theorem ForI.el {wr:List Addr}{It:Nat->List Addr->Heap->Prop}{m:Nat}{J:Nat->Loc->Hp->Prop}{G:Prop}(h:ForI P C env ι1 s1 wr It m J n s')
  (g:∀ k ι' H' loc',n=m+1-k->k<=m->(∀ a∈wr,a∉own C env++ι')->PostS P.B (own C env) ι1 s1 ι' H' s'->EnvR P.B C env ι' s'.heap loc'->J k loc' H'->It k ι' s'.heap->G):G:=by
 cases h with|mk k a b c h1 h2 h3 h4 h5 h6 h7=>exact g k a b c h1 h2 h3 h4 h5 h6 h7
theorem qng {m:Nat}(h:n=m+1-k) (hk:k<m):m+1-(k+1)<n:=h▸Nat.sub_lt_sub_left (Nat.lt_succ_of_lt hk) (Nat.lt_succ_self k)
def qw5 (J:Nat->Loc->Hp->Prop) (Q:MFlow->Loc->Hp->Prop) (k:Nat) (fl:MFlow) (l'':Loc) (H'':Hp):Prop:=match fl with
    | .next=>J (k+1) l'' H''
    | .cont=>J (k+1) l'' H''
    | .brk=>Q .next l'' H''
    | .ret v=>Q (.ret v) l'' H''
    | .exc _=>False
theorem qg1 {tt:Bool}{tgt it:Expr}{body:List Stmt}{pos:Pos}{Q:MFlow->Loc->Hp->Prop}
  (ht:tt=true->qd5 tgt=true) (h:ItEv P tt C d it loc H (fun items Cnd H1=>∃ J:Nat->Loc->Hp->Prop,J 0 loc H1/\∀ k loc H,J k loc H->Cnd H /\
   (∀ y,items[k]?=some y->TgOK P C tgt y loc (fun l'=>qgb P C d body l' H (qw5 J Q k))) /\
   (k=items.length->Q .next loc H)) XF)
  (hs:∀ env x,foldedSetIterable it env x=pure x):ExOK P C d (.For tgt it body [] pos) loc H Q:=fun A E env ι s w e=>by
 refine wpAny_For (gi (h A E env ι s w e Acc.no) fun v s0 ι1 H1 items Cnd s1 p1 io g=>qad g fun J j0 turn=>?_) (hs env)
 clear g
 have w1:=w.step p1
 have e1:=e.step w.hr p1
 refine io E _ fun I wr It Mid h₂ tk itr it0 wrn k2=>?_
 have p₂:Post P.B ι1 s1 ι1 H1 { s1 with heap:=h₂,toks:=tk }:=Post.keep w1.hr k2
 have hL:env.locals∉wr:=fun m=>e1.ns.elim fun _ q=>qx9 q fun o _ _ eo _=>qa1 (wrn _ m) eo
 have hC:∀ x c,some x∈C.vars->env.cells.lookup x=some c->c∉wr:=fun x c hm hc m=>(e1.isC x c hm hc).elim fun ov q=>qad q fun o eo _=>qa1 (wrn c m) eo
 have nbW:∀ a∈wr,P.B.get? a=none:=fun a ha=>w1.hr.noB (wrn a ha)
 refine codeAny_forLoop_any (ForI P C env ι1 s1 wr It items.length J) (fun n s' hI=>gRE fun R F kR=>hI.el fun k ι' H' loc' hn hk wrO p e' hj hit=>?_) (items.length+1)
  ⟨0,ι1,H1,loc,rfl,Nat.zero_le _,fun a ha m=>?_,p₂.toS,e1.step w1.hr p₂,j0,it0⟩
 rotate_left
 ·rcases yd m with m|m
  ·exact qad (e1.isOwn a m) fun o eo _=>qa1 (wrn a ha) eo
  ·exact (w1.hr.mem m).elim fun o eo=>qa1 (wrn a ha) eo
 clear hI
 refine qfk (turn k loc' H' hj) fun hc htg hend=>?_
 have w':=w1.stepS e1 p e'
 have offW:∀ a∈wr,a∉ι':=fun a ha m=>wrO a ha (yo (.inr m))
 have nt0:=ntw (itr.there k ι' _ hit)
 cases hx:items[k]? with
 | none =>
  have hke:k=items.length:=Nat.le_antisymm hk (List.getElem?_eq_none_iff.mp hx)
  refine itr.stop A _ ι' H' s' _ w'.room.handled w'.hr hc (hke▸hit) fun h' tk ext=>kR _ _ ?_
  have ee3:=e'.off ext nt0 hL hC
  exact wpAny_execs_nil ⟨ι',H',loc',.next,PostS.trans p1.toS (qm0 wrn p (w'.hr.off ext nt0 offW nbW) ext) ee3.offOwn,ee3,rfl,hend hke⟩
 | some y =>
  have hkl:k<items.length:=(yl hx).1
  refine itr.next A _ ι' H' s' k y _ w'.room.handled w'.hr hc hit hx fun v h3 tk3 rv mid ext3=>kR _ _ (gRE fun R1 F1 kR1=>?_)
  have hr3:=w'.hr.off ext3 nt0 offW nbW
  have p3:=qm0 (t':=tk3) wrn p hr3 ext3
  have nt1:=ntw (itr.thereM k v ι' _ mid)
  refine itr.go tgt A _ ι' { s' with heap:=h3,toks:=tk3 } k v _ ht mid fun h4 it4 ext4=>kR1 _ _ (gRE fun R2 F2 kR2=>?_)
  have hr4:=hr3.off ext4 nt1 offW nbW
  have p4:=qm0 (t':=tk3) wrn p3 hr4 ext4
  have e4:=(e'.off ext3 nt0 hL hC).off ext4 nt1 hL hC
  refine wpAny_mono (htg y hx A _ env ι' H' { s' with heap:=h4,toks:=tk3 } v w'.room.handled hr4 e4 (VR.mono (S:=wr) (Kept.of_keeps ext4) nt1 (List.prefix_refl _) _ _ rv)) (fun u s5 g=>kR2 u s5 (g.el fun loc5 p5 e5 g=>?_)) fun _ _ x=>x
  clear kR kR1 kR2
  have pp5:=p4.trans p5 e5.offOwn
  have it5:It (k+1) ι' s5.heap:=itr.mono _ _ _ _ _ _ it4 p5.kept (e4.noTup hr4) (List.prefix_refl _) wrO
  refine gs (g A _ env ι' s5 (w1.stepS e1 pp5 e5) e5) (fun f s6 ι6 H6 loc6 fl p6 e6 r6 g=>?_)
  have pp6:=pp5.trans p6 e6.offOwn
  have I6:J (k+1) loc6 H6->∃ m,m<n/\ForI P C env ι1 s1 wr It items.length J m s6:=fun g=>⟨items.length+1-(k+1),qng hn hkl,k+1,ι6,H6,loc6,rfl,hkl,fun a ha m=>?_,pp6,e6,g,
   itr.mono _ _ _ _ _ _ it5 p6.kept (e5.noTup p5.hr) p6.pre wrO⟩
  ·cases fl with
   | next=>cases r6;exact I6 g
   | cont=>cases r6;exact I6 g
   | brk=>cases r6;exact ⟨ι6,H6,loc6,.next,PostS.trans p1.toS pp6 e6.offOwn,e6,rfl,g⟩
   | ret v=>exact qad r6 fun u hu r=>by subst hu;exact ⟨ι6,H6,loc6,.ret v,PostS.trans p1.toS pp6 e6.offOwn,e6,⟨u,rfl,r⟩,g⟩
   | exc c=>exact r6.elim
  ·rcases yd m with m|m
   ·exact wrO a ha (yo (.inl m))
   ·exact (p6.new a m).elim (offW a ha) fun z=>qad (itr.there _ _ _ it5 a ha) fun o eo _=>qa1 z eo
end Mine
namespace Mine
open PySem
variable {P:PEnv}{H:Hp}
noncomputable def chrs (x:Str):List AV:=x.cps.toList.map fun c=>.str ⟨#[c]⟩
theorem qww {x:Str}(ha:x.cps.all (·<128)=true):ItOK P (.str x) H (chrs x) (fun _=>True):=fun A E ι s v Q hr r h=>by
 refine qa4 (r) fun _ qQ1=>?_
 clear r
 obtain ⟨t,rfl⟩:=qQ1
 refine wpAny_pyIter_ascii ha ?_
 refine h s.heap.objs.size [s.heap.objs.size] (fun k ι' h'=>h'.IsStrIter s.heap.objs.size "str_ascii_iterator" x t k) (fun k _ ι' h'=>h'.IsStrIter s.heap.objs.size "str_ascii_iterator" x t (k+1)) _ s.toks ?_
  ⟨_,Heap.get?_push_size _ rfl,rfl,rfl⟩ (fun b hb=>by rw [yb hb];exact qbg _) (fun b o e=>Heap.get?_push_of_some _ e)
 refine ⟨?_,?_,?_,?_,?_,?_,?_⟩
 ·rintro k ι1 ι2 S h₁ h₂ ⟨o,e,c,dt⟩ kp nts pr hw
  exact ⟨o,kp.exact e (hw _ (ym rfl)) (fun _ _=>by rw [dt];simp),c,dt⟩
 ·rintro k ι1 h₁ ⟨o,e,c,dt⟩ b hb
  rw [yb hb]
  exact ⟨o,e,fun vs n=>by rw [dt];simp⟩
 ·rintro k v ι1 h₁ ⟨o,e,c,dt⟩ b hb
  rw [yb hb]
  exact ⟨o,e,fun vs n=>by rw [dt];simp⟩
 ·intro A E ι1 H1 s1 k y Q hh hr1 hc q hx hQ
  unfold chrs at hx
  rw [List.getElem?_map] at hx
  refine qad (yf hx) fun c hcx eQ2=>?_
  subst eQ2
  have hlt:c<128:=by
   have:=yc hcx
   rw [←Array.all_toList,List.all_eq_true] at ha
   simpa using ha c this
  refine wpAny_pyNext_ascii_item q (c:=c) (by rw [←Array.getElem?_toList];exact hcx) fun h' it' sb=>?_
  refine hQ _ h' _ (VR.mkStr _ _ ?_) it' fun b o hb eb=>sb.extBut b o (fun z=>hb (z▸ym rfl)) eb
  unfold PyData.strOk
  simp;exact z1 hlt
 ·rintro tgt A E ι1 s1 k v Q _ ⟨o,e,c,dt⟩ hQ
  exact qkn e c (by decide) (hQ s1.heap ⟨o,e,c,dt⟩ fun _ _ _ e=>e)
 ·intro A E ι1 H1 s1 Q hh hr1 hc q hQ
  refine wpAny_pyNext_ascii_end hh q ?_ fun h' ext=>hQ h' s1.toks fun b o hb eb=>ext b o (fun z=>hb (z▸ym rfl)) eb
  unfold chrs
  simp
 ·intro A E ι1 s1 k Q q hQ
  exact wpAny_pyIter_striter_ascii q hQ
end Mine
namespace Mine
open PySem
def qa2 (P:PEnv) (d:Nat) (x:Str) (args:List AV) (H:Hp) (Q:AV->Hp->Prop) (X:XP):Prop :=
 ∀ A ι s vs fa (R:Result->Shared->Prop),P.mg x=some (.ref fa)->W P.B A d ι H s->VRs P.B s.heap ι args vs->(∀ v s',Gives P.B ι s Q v s'->R (.ok (.ret v)) s')->Acc P A X ι s (fun e s'=>R (.error e) s') ->
  codeAny (model P.prog P.w) A (.call (.ref fa) ⟨vs,[]⟩) R s
theorem qa2.mono {P:PEnv}{x:Str}{args:List AV}{H:Hp}{Q Q':AV->Hp->Prop}{X:XP}(h:qa2 P d x args H Q X) (q:∀ a H',Q a H'->Q' a H'):qa2 P d x args H Q' X :=
 fun A ι s vs fa R e w r hR hX=>h A ι s vs fa R e w r (fun v s' g=>hR v s' (g.mono q)) hX
theorem qa2.x {P:PEnv}{d:Nat}{x:Str}{args:List AV}{H:Hp}{Q:AV->Hp->Prop}{X:XP}(h:qa2 P d x args H Q XF):qa2 P d x args H Q X :=
 fun A ι s vs fa R e w r hR hX=>h A ι s vs fa R e w r hR Acc.no
structure FnAt (P:PEnv) (x:Str) (C:Ctx) (params:List Str) (body:List Stmt):Prop where
 ex:∃ fa o fd,P.mg x=some (.ref fa)/\P.B.get? fa=some o/\o.data=.func fd/\fd.body=.stmts body/\fd.scope.names=C.names/\fd.scope.kind=.function/\fd.scope.isCoroutine=false/\fd.scope.isGenerator=false /\
  fd.closure=[]/\fd.globals=mainGlobals/\fd.builtins=builtinsNs/\P.B.CodeRec fd.code fd.qualname/\∀ vals:List Value,vals.length=params.length->bindArgs fd ⟨vals,[]⟩=pure (params.zip vals)
noncomputable def Ctx.good (C:Ctx) (params:List Str):Bool :=
 (C.vars.all fun o=>match o with|some x=>C.names.lookup x == some .local||C.names.lookup x == some .cell|none=>false)&&decide (C.vars.Nodup)&&decide ((params.map some).isPrefixOf C.vars=true)&&decide (C.ro=0)
theorem qix {k:Str->Option NameKind}{x:Str}:∀ {b:List (Str×Value)}{m:Str->Option Value},x∉b.map (·.1)->bindL k b m x=m x
 | [],_,_=>rfl
 | (n,v)::r,m,h=>by
  have h1:x≠n:=fun e=>h (e▸List.mem_cons_self ..)
  have h2:x∉r.map (·.1):=fun q=>h (yi _ q)
  unfold bindL
  rw [qix h2]
  split
  ·simp [h1]
  ·rfl
theorem qiy {k:Str->Option NameKind}{x:Str}:∀ {b:List (Str×Value)}{m:Str->Option Value},x∉b.map (·.1)->bindC k b m x=m x
 | [],_,_=>rfl
 | (n,v)::r,m,h=>by
  have h1:x≠n:=fun e=>h (e▸List.mem_cons_self ..)
  have h2:x∉r.map (·.1):=fun q=>h (yi _ q)
  unfold bindC
  rw [qiy h2]
  split
  ·rfl
  ·simp [h1]
theorem qg6:∀ {ps:List Str}{vs:List Value}{x:Str},x∉ps->x∉(ps.zip vs).map (·.1)
 | [],_,_,_=>by simp
 | p::ps,[],_,_=>by simp
 | p::ps,v::vs,x,h=>by
  simp only [List.zip_cons_cons,List.map_cons,List.mem_cons,not_or] at h ⊢
  exact ⟨h.1,qg6 h.2⟩
theorem qhu {k:Str->Option NameKind}{x:Str}(hk:k x=some .local):∀ {ps:List Str}{vs:List Value}{m:Str->Option Value}{i:Nat}{v:Value},ps.Nodup->ps[i]?=some x->vs[i]?=some v->bindL k (ps.zip vs) m x=some v
 | [],_,_,_,_,_,h,_=>by simp at h
 | p::ps,[],_,_,_,_,_,h=>by simp at h
 | p::ps,v::vs,m,0,u,nd,h1,h2=>by
  simp only [List.getElem?_cons_zero,Option.some.injEq] at h1 h2
  subst h1;subst h2
  have:=List.nodup_cons.mp nd
  show bindL k (ps.zip vs) _ p=some v
  rw [qix (qg6 this.1),if_pos hk];simp
 | p::ps,v::vs,m,i+1,u,nd,h1,h2=>by
  simp only [List.getElem?_cons_succ] at h1 h2
  show bindL k (ps.zip vs) _ x=some u
  exact qhu hk (List.nodup_cons.mp nd).2 h1 h2
theorem qky {k:Str->Option NameKind}{x:Str}(hk:k x=some .cell):∀ {ps:List Str}{vs:List Value}{m:Str->Option Value}{i:Nat}{v:Value},ps.Nodup->ps[i]?=some x->vs[i]?=some v->bindC k (ps.zip vs) m x=some v
 | [],_,_,_,_,_,h,_=>by simp at h
 | p::ps,[],_,_,_,_,_,h=>by simp at h
 | p::ps,v::vs,m,0,u,nd,h1,h2=>by
  simp only [List.getElem?_cons_zero,Option.some.injEq] at h1 h2
  subst h1;subst h2
  have:=List.nodup_cons.mp nd
  show bindC k (ps.zip vs) _ p=some v
  rw [qiy (qg6 this.1),if_neg (by rw [hk];decide)];simp
 | p::ps,v::vs,m,i+1,u,nd,h1,h2=>by
  simp only [List.getElem?_cons_succ] at h1 h2
  show bindC k (ps.zip vs) _ x=some u
  exact qky hk (List.nodup_cons.mp nd).2 h1 h2
theorem qcn {α:Type}{x:Str}{c:α}:∀ {l:List (Str×α)},(x,c)∈l->∃ c',l.lookup x=some c'
 | (n,u)::r,h=>by
  rw [List.lookup_cons]
  cases hx:x == n with
  | true=>exact ⟨u,rfl⟩
  | false =>
   rcases yg h with e|m
   ·rw [(Prod.mk.inj e).1] at hx;simp at hx
   ·exact qcn m
theorem qco {x:Str}:∀ {names:List (Str×NameKind)}{n:Nat}{acc:List (Str×Addr)},(x,NameKind.cell)∈names\/(∃ c,(x,c)∈acc)->∃ c,(x,c)∈cellsFrom n names acc
 | [],_,_,h=>h.elim (fun q=>nomatch q) fun q=>q
 | (y,k)::r,n,acc,h=>by
  unfold cellsFrom
  split
  ·rename_i hk
   refine qco ?_
   rcases h with h|⟨c,h⟩
   ·rcases yg h with e|m
    ·exact .inr ⟨n,by rw [(Prod.mk.inj e).1];exact List.mem_cons_self ..⟩
    ·exact .inl m
   ·exact .inr ⟨c,yi _ h⟩
  ·rename_i hk
   refine qco ?_
   rcases h with h|h
   ·rcases yg h with e|m
    ·rw [←(Prod.mk.inj e).2] at hk;exact absurd rfl hk
    ·exact .inl m
   ·exact .inr h
theorem qgl {x:Str}{k:NameKind}:∀ {l:List (Str×NameKind)},l.lookup x=some k->(x,k)∈l:=fun h=>mem_of_lookup h
variable {P:PEnv}{C:Ctx}{d:Nat}{loc:Loc}{H:Hp}{X:XP}
noncomputable def start (C:Ctx) (args:List AV):Loc:=args.map some++List.replicate (C.vars.length-args.length) none
def qa8 (Q:AV->Hp->Prop):MFlow->Loc->Hp->Prop
 | .ret v,_,H=>Q v H
 | .next,_,H=>Q .none H
 | _,_,_=>False
def qx2 (P:PEnv) (l:List Env) (S ι:List Addr) (s:Shared) (ι':List Addr) (H':Hp) (s':Shared) (e:Value) (c:Str):Prop :=
 ∃ ea base D,e=.ref ea/\P.mg c=some (.ref D)/\XLeft P.B l S ι s ι' H' base s'/\∃ h args,base.StaysIn h/\h.FunFrames base l/\Heap.MadeExcOf h s'.heap ea (.ref D) args
def qx3 (A:Around) (env:Env):Prop:=env.frame=some env.locals/\∃ l,A.frames=some (env::l)
def XAcc (P:PEnv) (C:Ctx) (A:Around) (env:Env) (ι:List Addr) (s:Shared) (Q:MFlow->Loc->Hp->Prop) (E:Value->Shared->Prop):Prop :=
 ∀ l,A.frames=some l->∀ e s' ι' H' loc' c,(qrt P l (own C env) ι s ι' H' s' e c\/qx2 P l (own C env) ι s ι' H' s' e c)->EnvR P.B C env ι' s'.heap loc'->Q (.exc c) loc' H'->E e s'
def ExX (P:PEnv) (C:Ctx) (d:Nat) (st:Stmt) (loc:Loc) (H:Hp) (Q:MFlow->Loc->Hp->Prop):Prop :=
 ∀ A E env ι s,W P.B A d ι H s->EnvR P.B C env ι s.heap loc->qx3 A env->XAcc P C A env ι s Q E->wpAny (model P.prog P.w) A (exec st env) (GivesS P.B C env ι s Q) E s
def ExsX (P:PEnv) (C:Ctx) (d:Nat) (sts:List Stmt) (loc:Loc) (H:Hp) (Q:MFlow->Loc->Hp->Prop):Prop :=
 ∀ A E env ι s,W P.B A d ι H s->EnvR P.B C env ι s.heap loc->qx3 A env->XAcc P C A env ι s Q E->wpAny (model P.prog P.w) A (execs sts env) (GivesS P.B C env ι s Q) E s
theorem ExOK.x {st:Stmt}{Q:MFlow->Loc->Hp->Prop}(h:ExOK P C d st loc H Q):ExX P C d st loc H Q:=fun A E env ι s w e _ _=>h A E env ι s w e
theorem qgb.x {sts:List Stmt}{Q:MFlow->Loc->Hp->Prop}(h:qgb P C d sts loc H Q):ExsX P C d sts loc H Q:=fun A E env ι s w e _ _=>h A E env ι s w e
def endX (Q:AV->Hp->Prop) (X:XP):MFlow->Loc->Hp->Prop
 | .ret v,_,H=>Q v H
 | .next,_,H=>Q .none H
 | .exc c,_,H=>X c H
 | _,_,_=>False
theorem XLeft.out {l:List Env}{H':Hp}{base:Heap}(x:XLeft B (env::l) S ι s1 ι' H' base s') (ef:env.frame=some env.locals)
  (keep:∀ a o,s.heap.get? a=some o->s1.heap.get? a=some o) (hS:∀ a∈S,s.heap.get? a=none) (hL:s.heap.get? env.locals=none) (hs:s1.gens=s.gens/\s1.os=s.os)
  (fr:∀ a∈fAs l,∀ o,s.heap.get? a=some o->∃ es n,o.data=.dict es n) (st:base.StaysIn h') (up:s'.heap.UpToSlots h'):XLeft B l [] ι s ι' H' base { s' with heap:=h' }:=by
 have off:∀ a o,s.heap.get? a=some o->a∉ι->a∉S++ι:=fun a o e hn m=>(yd m).elim (fun z=>by rw [hS a z] at e;cases e) hn
 have offF:∀ a o,s.heap.get? a=some o->a∉fAs l->a∉fAs (env::l):=fun a o e hn m=>by
  unfold fAs at m
  rw [List.filterMap_cons,ef] at m
  rcases yg m with z|z
  ·rw [z,hL] at e;cases e
  ·exact hn z
 refine ⟨x.pre,x.hr,st,fun a o e hn=>?_,fun a o e hn hf=>?_,fun a ha=>?_,?_⟩
 ·refine qad (x.kept a o (keep a o e) (off a o e hn)) fun sl e1 q1=>?_
  by_cases hf:a∈fAs l
  ·refine qjz (fr a hf o e) fun es n hd=>?_
   obtain ⟨sl',e2⟩:=up a _ e1 fun vs q=>by rw [show ({ o with slots:=sl }:Obj).data=o.data from rfl,hd] at q;cases q
   exact ⟨sl',e2,fun c=>absurd hd (c es n)⟩
  ·refine qar (x.inb a o (keep a o e) (off a o e hn) (offF a o e hf)) fun sl' e2=>?_
   have e3:=x.stays a _ e2
   rw [e1] at e3
   have e4:sl'=sl:=by injection e3 with q;injection q with _ _ _ q;exact q.symm
   subst e4
   exact ⟨sl',st a _ e2,q1⟩
 ·exact x.inb a o (keep a o e) (off a o e hn) (offF a o e hf)
 ·rcases x.new a ha with z|z
  ·exact .inl z
  ·right
   cases y:s.heap.get? a with
   | none=>rfl
   | some o=>rw [keep a o y] at z;cases z
 ·exact ⟨x.same.1.trans hs.1,x.same.2.trans hs.2⟩
theorem qh6 {params:List Str}{args:List AV}{rest:List (Option Str)}(hrest:params.map some++rest=C.vars) (hl:args.length=params.length){y:Str}{dd:AV}(hi:C.vars[i]?=some (some y)) (hd:(start C args)[i]?=some (some dd)):params[i]?=some y/\args[i]?=some dd:=by
 unfold start at hd
 by_cases hlt:i<args.length
 ·rw [List.getElem?_append_left (by rw [ya];exact hlt),List.getElem?_map] at hd
  rw [←hrest,List.getElem?_append_left (by rw [ya,←hl];exact hlt),List.getElem?_map] at hi
  exact ⟨qad (yf hi) fun z h1 h2=>yj h2▸h1,qad (yf hd) fun z h1 h2=>yj h2▸h1⟩
 ·rw [List.getElem?_append_right (by rw [ya];exact Nat.not_lt.mp hlt),List.getElem?_replicate] at hd
  split at hd<;>cases hd
theorem qmi {params:List Str}{args:List AV}{rest:List (Option Str)}(hrest:params.map some++rest=C.vars) (hl:args.length=params.length):(start C args).length=C.vars.length:=by
 unfold start
 rw [List.length_append,ya,List.length_replicate,Nat.add_sub_cancel']
 rw [hl,←hrest,List.length_append,ya];exact Nat.le_add_right _ _
theorem qoy {params:List Str}{args:List AV}{rest:List (Option Str)}(hrest:params.map some++rest=C.vars) (hl:args.length=params.length)
  (kinds:∀ y,some y∈C.vars->C.names.lookup y=some .local\/C.names.lookup y=some .cell) (pnd:params.Nodup) (hk:env.scope.kind=.function) (hn:env.scope.names=C.names) (hg:env.globals=mainGlobals) (hb:env.builtins=builtinsNs)
  (lo:∀ a,env.locals<=a->a∉ι/\P.B.get? a=none) (ic:InCallC s env.locals (bindL env.kindOf (params.zip vs) fun _=>none) env.cells (bindC env.kindOf (params.zip vs) fun _=>none) s1)
  (kc:∀ y,C.names.lookup y=some .cell->∃ c,env.cells.lookup y=some c) (rv:VRs P.B s1.heap ι args vs):EnvR P.B C env ι s1.heap (start C args):=by
 have ek:∀ y k,C.names.lookup y=k->env.kindOf y=k:=fun y k q=>by unfold Env.kindOf;rw [hn];exact q
 refine ⟨hk,hn,hg,hb,⟨_,ic.toInCall.ns⟩,(lo _ (Nat.le_refl _)).1,(lo _ (Nat.le_refl _)).2,fun y c hm hc=>?_,fun y c hm hc=>⟨_,ic.cell y c hc⟩,fun y z c hy hz hc hc'=>name_of_addr ic.apart (mem_of_lookup hc) (mem_of_lookup hc'),qmi hrest hl,fun i y hi=>?_⟩
 ·have ab:=ic.above y c (mem_of_lookup hc)
  exact ⟨(lo c (Nat.le_of_lt ab)).1,Nat.ne_of_gt ab,(lo c (Nat.le_of_lt ab)).2⟩
 ·refine (kinds y (yc hi)).elim (fun q=>⟨_,.inl ⟨ek _ _ q,_,ic.toInCall.ns,rfl⟩,fun dd hd=>?_⟩) fun q=>(kc y q).elim fun c hc=>⟨_,.inr ⟨.inl (ek _ _ q),c,hc,ic.cell y c hc⟩,fun dd hd=>?_⟩
  ·have pr:=qh6 hrest hl hi hd
   exact qad (rv.get pr.2) fun u hu ru=>⟨u,qhu (ek _ _ q) pnd pr.1 hu,ru⟩
  ·have pr:=qh6 hrest hl hi hd
   exact qad (rv.get pr.2) fun u hu ru=>⟨u,qky (ek _ _ q) pnd pr.1 hu,ru⟩
theorem qxz (w:W P.B A (d+1) ι H s) (p1:Post P.B ι s ι H s1) (ef:env.frame=some env.locals) (e:EnvR P.B C env ι s1.heap loc):W P.B (A.deeper env) d ι H s1:=by
 refine ⟨⟨?_,?_,w.room.handled⟩,?_,p1.hr⟩
 ·show A.depth+1+d<_;have:=w.room.depth;rw [Nat.add_assoc,Nat.add_comm 1 d];exact this
 ·show A.units+3+8*d+200<_;have:=w.room.units;exact z2 this
 ·refine qad (w.fr.step p1) fun fl efl q=>⟨env::fl,by show A.frames.map _=_;rw [efl];rfl,fun en hen'=>?_⟩
  refine (yg hen').elim (fun z=>?_) (q en)
  rw [z]
  exact e.ns.elim fun m n=>qi1 n fun o' es' ep' eo' d' _=>⟨by rw [e.kind];decide,env.locals,o',ef,e.newL,eo',⟨es',ep',d'⟩,e.offL⟩
theorem qo1 (keep:∀ a o,s.heap.get? a=some o->s1.heap.get? a=some o){a:Addr}(z:s1.heap.get? a=none):s.heap.get? a=none:=by
 cases y:s.heap.get? a with
 | none=>rfl
 | some o=>rw [keep a o y] at z;cases z
theorem qrh {s2:Shared}{H2:Hp}{h₁:Heap}{t1:Nat}(hs1:s1={ s with heap:=h₁,toks:=t1 }) (keep:∀ a o,s.heap.get? a=some o->s1.heap.get? a=some o) (hi:∀ a∈S,s.heap.get? a=none) (p₂:PostS P.B S ι s1 ι2 H2 s2):Post P.B ι s ι2 H2 s2 :=
 ⟨p₂.pre,p₂.hr,fun a o eo hn=>p₂.kept a o (keep a o eo) fun m=>(yd m).elim (fun z=>by have:=hi a z;rw [eo] at this;cases this) hn,fun a ha=>(p₂.new a ha).imp id (qo1 keep),p₂.same.1.trans (by rw [hs1]),p₂.same.2.trans (by rw [hs1])⟩
theorem qn3 {A:Around}{fl:List Env}(hfl:∀ env∈fl,env.scope.kind≠.module/\∃ L o,env.frame=some L/\B.get? L=Option.none/\h.get? L=some o/\(∃ es n,o.data=.dict es n)/\L∉ι) :
  ∀ a∈fAs fl,∀ o,h.get? a=some o->∃ es n,o.data=.dict es n:=fun a ha o eo =>
 qad (List.mem_filterMap.mp ha) fun en hen q=>qzh (hfl en hen).2 fun L o' h1 _ h3 h4 _=>by
  rw [q] at h1
  have:=yj h1;subst this
  have:=yj (eo.symm.trans h3);subst this
  exact h4
theorem qri {A:Around}{env:Env}{ι ι':List Addr}{s s1 s':Shared}{H':Hp}{S:List Addr}{fl:List Env}{e':Value}{c:Str}{R:Value->Shared->Prop}(hdf:(A.deeper env).frames=some (env::fl)) (ef:env.frame=some env.locals) (hx:qrt P (env::fl) S ι s1 ι' H' s' e' c\/qx2 P (env::fl) S ι s1 ι' H' s' e' c)
  (out:∀ base h',XLeft P.B (env::fl) S ι s1 ι' H' base s'->base.StaysIn h'->s'.heap.UpToSlots h'->XLeft P.B fl [] ι s ι' H' base { s' with heap:=h' }) (hR:∀ s'',qrt P fl [] ι s ι' H' s'' e' c->R e' s'') :
  wpAny (model P.prog P.w) (A.deeper env) (leaving env e') (fun _ s''=>R e' s'') (fun e s''=>R e s'') s':=by
 rcases hx with ⟨ea,base,D,rfl,hD,xl,⟨a0,hf⟩,nc⟩|⟨ea,base,D,rfl,hD,xl,hh,vs',hb,hfr,hm⟩
 ·refine wpAny_mono (qfa.any nc (wpAny_leaves_onW (Q:=fun _ s''=>∃ h',s''={ s' with heap:=h' }/\Heap.FlyingW base fl ea (.ref D) a0 h'/\s'.heap.UpToSlots h') hdf ef hf fun h' hf' up=>⟨h',rfl,hf',up⟩)) (fun _ s'' g=>?_) fun _ _ x=>x
  refine qa4 (g) fun qQ0 nc'=>?_
  clear g
  obtain ⟨h',rfl,hf',up⟩:=qQ0
  exact hR _ ⟨ea,base,D,rfl,hD,out base h' xl hf'.1 up,⟨a0,hf'⟩,nc'⟩
 ·have nc:qc3 ea s'.heap:=qad hm.there fun t he _=>⟨_,_,he,rfl,rfl⟩
  refine wpAny_mono (qfa.any nc (wpAny_leaves_madeW (Q:=fun _ s''=>∃ h' t,s''={ s' with heap:=h' }/\Heap.FlyingW base fl ea (.ref D) (.ref t) h'/\s'.heap.UpToSlots h') hdf ef hb hfr hm fun h' t hf' _ _ up=>⟨h',t,rfl,hf',up⟩)) (fun _ s'' g=>?_) fun _ _ x=>x
  refine qa4 (g) fun qQ0 nc'=>?_
  clear g
  obtain ⟨h',t,rfl,hf',up⟩:=qQ0
  exact hR _ ⟨ea,base,D,rfl,hD,out base h' xl hf'.1 up,⟨_,hf'⟩,nc'⟩
theorem qkw {x:Str}{params:List Str}{body:List Stmt}{args:List AV}{Q:AV->Hp->Prop}(ok:P.OK) (fn:FnAt P x C params body) (good:C.good params=true) (hl:args.length=params.length)
  (h:ExsX P C d body (start C args) H (endX Q X)):qa2 P (d+1) x args H Q X:=fun A ι s vs fa R e w r hR hX=>by
 refine qyb (fn.ex) fun fa' o fd h1 h2 h3 h4 qQ7=>?_
 have:=Value.ref.inj (yj (e.symm.trans h1))
 subst this
 refine qzi qQ7 fun h5 h6 h7 h8 q=>qzi q fun h9 h10 h11 h12 h13=>?_
 clear q qQ7 h1
 simp only [Ctx.good,Bool.and_eq_true,List.all_eq_true,decide_eq_true_eq] at good
 have g1:=good.1.1.1
 have g2:=good.1.1.2
 refine (List.isPrefixOf_iff_prefix.mp good.1.2).elim fun rest hrest=>?_
 clear good
 have hlv:vs.length=params.length:=r.length.trans hl
 have kinds:∀ y,some y∈C.vars->C.names.lookup y=some .local\/C.names.lookup y=some .cell:=fun y hy=>by
  have:=g1 _ hy
  simpa using this
 have pnd:params.Nodup:=by
  rw [←hrest] at g2
  exact (List.pairwise_map.mp (List.nodup_append.mp g2).1).imp fun hne hxy=>hne (congrArg some hxy)
 have kc:∀ {n:Nat} y,C.names.lookup y=some .cell->∃ c,(cellsFrom n fd.scope.names []).lookup y=some c:=fun y hy =>
  (qco (n:=_) (acc:=[]) (.inl (h5▸qgl hy))).elim fun c hc=>qcn hc
 refine codeAny_call_cells (fd:=fd) (body:=body) (binds:=params.zip vs) (Nat.lt_of_le_of_lt (Nat.le_add_right _ _) w.room.depth) (w.hr.base _ _ h2) h3 (ok.nolimit.keeps w.hr.base) (h12.keeps w.hr.base) h4 (h13 vs hlv) h9 (fun y hy=>?_) (fun s1 ic=>?_) h7 h8 h6
 ·have hy1:y.1∈params:=(List.of_mem_zip (show (y.1,y.2)∈params.zip vs from hy)).1
  have h5':fd.scope.names.lookup y.1=C.names.lookup y.1:=by rw [h5]
  rw [h5']
  exact (kinds _ (by rw [←hrest];exact yo (.inl (yn ⟨_,hy1,rfl⟩)))).imp id fun q=>⟨q,(kc _ q).elim fun c hc=>by rw [hc];rfl⟩
 ·generalize hen:callEnvC fd s.heap.objs.size fa=env at ic ⊢
  have el:env.locals=s.heap.objs.size:=by rw [←hen];rfl
  have ef:env.frame=some env.locals:=by rw [←hen];rfl
  have keep:=ic.toInCall.keep
  refine qjz (ic.toInCall.same) fun h₁ t1 hs1=>qad w.fr fun fl efl hfl=>?_
  have p1:Post P.B ι s ι H s1:=by rw [hs1];exact Post.keep w.hr (by rw [hs1] at keep;exact keep)
  have nn:∀ a,env.locals<=a->s.heap.get? a=none:=fun a ha=>by
   cases z:s.heap.get? a with
   | none=>rfl
   | some o=>exact absurd (Heap.lt_size z) (Nat.not_lt.mpr (el▸ha))
  have envR:EnvR P.B C env ι s1.heap (start C args):=by
   refine qoy hrest hl kinds pnd (by rw [←hen];exact h6) (by rw [←hen];exact h5) (by rw [←hen];exact h10) (by rw [←hen];exact h11) (fun a ha=>⟨fun m=>?_,?_⟩) ic (fun y hy=>by rw [←hen];exact kc y hy) (p1.vrs w.hr r)
   ·exact (w.hr.mem m).elim fun o eo=>by rw [nn a ha] at eo;cases eo
   ·cases z:P.B.get? a with
    | none=>rfl
    | some o=>have:=w.hr.base a o z;rw [nn a ha] at this;cases this
  have hi:∀ a∈own C env,s.heap.get? a=none:=fun a ha=>(qfv ha).elim (fun q=>nn a (Nat.le_of_eq q.symm)) fun q=>qad q fun y _ q=>nn a (Nat.le_of_lt (ic.above y a (mem_of_lookup q)))
  have hdf:(A.deeper env).frames=some (env::fl):=by show A.frames.map _=_;rw [efl];rfl
  clear hen
  refine gs (h (A.deeper env) _ env ι s1 (qxz w p1 ef envR) envR ⟨ef,fl,hdf⟩ fun l' hl' e' s' ι' H' loc' c hx _ hc=>?_) fun f s2 ι2 H2 loc2 fl p₂ e2 r2 g=>?_
  ·have:=yj (hdf.symm.trans hl')
   subst this
   exact qri (R:=fun e s=>R (.error e) s) hdf ef hx (fun base h' xl st up=>xl.out ef keep hi (nn _ (Nat.le_refl _)) ⟨by rw [hs1],by rw [hs1]⟩ (qn3 (A:=A) hfl) st up) fun s'' q=>hX fl efl _ _ ι' H' c q hc
  ·have pp:=qrh hs1 keep hi p₂
   cases fl with
   | next=>cases r2;exact hR .none s2 ⟨ι2,H2,.none,pp,rfl,g⟩
   | brk=>exact g.elim
   | cont=>exact g.elim
   | ret v=>exact qad r2 fun u hu ru=>by subst hu;exact hR u s2 ⟨ι2,H2,v,pp,ru,g⟩
   | exc c=>exact r2.elim
theorem qoz {x:Str}{params:List Str}{body:List Stmt}{args:List AV}{Q:AV->Hp->Prop}(ok:P.OK) (fn:FnAt P x C params body) (good:C.good params=true) (hl:args.length=params.length)
  (h:qgb P C d body (start C args) H (qa8 Q)):qa2 P (d+1) x args H Q X :=
 qa2.x (qkw ok fn good hl fun A E env ι s w e _ _=>wpAny_mono (h A E env ι s w e) (fun f s' g=>by
  obtain ⟨ι',H',loc',fl,p,e',r,g⟩:=g
  refine ⟨ι',H',loc',fl,p,e',r,?_⟩
  cases fl with
  | exc c=>exact r.elim
  | _=>exact g) fun _ _ x=>x)
end Mine
namespace Mine
open PySem
variable {P:PEnv}{C:Ctx}{d:Nat}{loc:Loc}{H:Hp}{X:XP}
def qcb (es:List Expr):Prop:=∀ env pos,(backTo pos (starEach es env)).any (·.1)=false
theorem qoi {x:Str}{pn:Pos}{e0:Expr}{Q:AV->Hp->Prop}(ok:P.OK) (hk:C.names.lookup x=some .globalImplicit) (hd:(x == ("__debug__" : Str))=false)
  {fa:Addr}{o:Obj}{fd:FuncData}(hg:P.mg x=some (.ref fa)) (ho:P.B.get? fa=some o) (hf:o.data=.func fd)
  (h:qct P C d (e0::es) loc H (fun args H'=>qa2 P d x args H' Q X) X) (he:∀ env,starEach (e0::es) env=(false,eval e0 env)::starEach es env) :
  EvOK P C d (.Call (.Name x pn) (e0::es) [] pos) loc H Q X:=fun A E env ι s w e a=>by
 refine PyProof.Rows.Call_ (Calls.Name_function_global e.kind (by unfold Env.kindOf;rw [e.names];exact hk) (Calls.loadGlobal_global (e.glob▸ok.g.keeps fun b o e=>w.hr.base b o e) hg ?_) hd)
 refine PyProof.Rows.callWith_def (o:=o) (fd:=fd) hf (gll (h A E env ι s pos w e a) (fun vs s1 ι1 H1 l p1 r1 g=>?_)) (he env)
 refine ⟨p1.hr.base _ _ ho,wpAny_call (g A ι1 s1 vs fa _ hg (w.step p1) r1 (fun v s' gv=>gv.before p1) ?_)⟩
 exact a.step p1
theorem qlv {x:Str}{id:String}{pn:Pos}{e0:Expr}{Q:AV->Hp->Prop}(ok:P.OK) (hk:C.names.lookup x=some .globalImplicit) (hd:(x == ("__debug__" : Str))=false)
  (hg:P.mg x=none) (hb:P.mb x=some (.builtin id))
  (h:qct P C d (e0::es) loc H (fun args H'=>OpOK P d (fun vs=>call (.builtin id) vs) args H' Q) X) (he:∀ env,starEach (e0::es) env=(false,eval e0 env)::starEach es env) (hp:qcb es) :
  EvOK P C d (.Call (.Name x pn) (e0::es) [] pos) loc H Q X:=fun A E env ι s w e a=>by
 refine PyProof.Rows.Call_ (Calls.Name_function_global e.kind (by unfold Env.kindOf;rw [e.names];exact hk) (Calls.loadGlobal_builtin (e.glob▸ok.g.keeps fun b o e=>w.hr.base b o e) hg (e.blt▸ok.b.keeps fun b o e=>w.hr.base b o e) hb ?_) hd)
 refine PyProof.Rows.callWith_builtin1 (gll (h A E env ι s pos w e a) (fun vs s1 ι1 H1 l p1 r1 g=>?_)) (he env) (hp env pos)
 exact wpAny_mono (g A E ι1 s1 vs (w.step p1) r1) (fun v s' gv=>gv.before p1) fun _ _ x=>x
theorem qus {x:Str}{T:String}{pn:Pos}{e0:Expr}{Q:AV->Hp->Prop}(ok:P.OK) (hk:C.names.lookup x=some .globalImplicit) (hd:(x == ("__debug__" : Str))=false)
  (hg:P.mg x=none) (hb:P.mb x=some (.type T))
  (h:qct P C d (e0::es) loc H (fun args H'=>OpOK P d (fun vs=>call (.type T) vs) args H' Q) X) (he:∀ env,starEach (e0::es) env=(false,eval e0 env)::starEach es env) (hp:qcb es) :
  EvOK P C d (.Call (.Name x pn) (e0::es) [] pos) loc H Q X:=fun A E env ι s w e a=>by
 refine PyProof.Rows.Call_ (Calls.Name_function_global e.kind (by unfold Env.kindOf;rw [e.names];exact hk) (Calls.loadGlobal_builtin (e.glob▸ok.g.keeps fun b o e=>w.hr.base b o e) hg (e.blt▸ok.b.keeps fun b o e=>w.hr.base b o e) hb ?_) hd)
 refine PyProof.Rows.callWith_type1 (gll (h A E env ι s pos w e a) (fun vs s1 ι1 H1 l p1 r1 g=>?_)) (he env) (hp env pos)
 exact wpAny_mono (g A E ι1 s1 vs (w.step p1) r1) (fun v s' gv=>gv.before p1) fun _ _ x=>x
theorem qxl {x y:Str}{id:String}{tv:Value}{pn pt:Pos}{e0:Expr}{Q:AV->Hp->Prop}(ok:P.OK) (hk:C.names.lookup x=some .globalImplicit) (hd:(x == ("__debug__" : Str))=false)
  (hg:P.mg x=none) (hb:P.mb x=some (.builtin id)) (hk':C.names.lookup y=some .globalImplicit) (hd':(y == ("__debug__" : Str))=false) (hty:P.mg y=some tv\/(P.mg y=none/\P.mb y=some tv))
  (h:EvOK P C d e0 loc H (fun v H'=>OpOK P d (fun vs=>call (.builtin id) [vs.getD 0 .none,tv]) [v] H' Q) X) (he:∀ env,starEach [e0,.Name y pt] env=(false,eval e0 env)::starEach [.Name y pt] env) :
  EvOK P C d (.Call (.Name x pn) [e0,.Name y pt] [] pos) loc H Q X:=fun A E env ι s w e a=>by
 refine PyProof.Rows.Call_ (Calls.Name_function_global e.kind (by unfold Env.kindOf;rw [e.names];exact hk) (Calls.loadGlobal_builtin (e.glob▸ok.g.keeps fun b o e=>w.hr.base b o e) hg (e.blt▸ok.b.keeps fun b o e=>w.hr.base b o e) hb ?_) hd)
 refine PyProof.Rows.callWith_builtin1 ?_ (he env) rfl
 refine wpAny_items_cons (gv (h A E env ι s w e a) (fun v s1 ι1 H1 l p1 r1 g=>?_)) (he env)
 have e1:=e.step w.hr p1
 refine wpAny_items_cons (Calls.Name_function_global e1.kind (by unfold Env.kindOf;rw [e1.names];exact hk') ?_ hd') rfl
 have fin:wpAny (model P.prog P.w) A (spliced (backTo pos (starEach [] env))) (fun vs s2=>wpAny (model P.prog P.w) A (call (.builtin id) (v::tv::vs)) (Gives P.B ι s Q) E s2) E s1 :=
  wpAny_items_nil (wpAny_mono (g A E ι1 s1 [v] (w.step p1) ⟨_,_,rfl,r1,rfl⟩) (fun _ _ gv=>gv.before p1) fun _ _ x=>x)
 rcases hty with q|⟨q1,q2⟩
 ·exact Calls.loadGlobal_global (e1.glob▸ok.g.keeps fun b o e=>p1.hr.base b o e) q fin
 ·exact Calls.loadGlobal_builtin (e1.glob▸ok.g.keeps fun b o e=>p1.hr.base b o e) q1 (e1.blt▸ok.b.keeps fun b o e=>p1.hr.base b o e) q2 fin
def qk3 (P:PEnv) (x:AV) (H:Hp) (name:Str) (id:String):Prop :=
 ∀ A E ι s v (pl:Sem Bool) (Q:Value×List Value->Shared->Prop),HR P.B ι H s.heap->VR P.B s.heap ι x v->Q (.builtin id,[v]) s->wpAny (model P.prog P.w) A (getMethod v name pl) Q E s
theorem qq8 {o:Expr}{name:Str}{apos:Pos}{pl:Env->Sem Bool}{Q:AV->Hp->Prop}
  (h:EvOK P C d o loc H (fun x H1=>∃ id,qk3 P x H1 name id/\OpOK P d (fun vs=>call (.builtin id) vs) [x] H1 Q) X)
  (he:∀ env,eval (.Call (.Attribute o name apos) [] [] pos) env=(do
   let ov ←eval o env
   standAt apos.atName
   let (f,first) ←holding [ov] (getMethod ov name (pl env))
   callWith pos f first (backTo pos (starEach [] env)) [])) :
  EvOK P C d (.Call (.Attribute o name apos) [] [] pos) loc H Q X:=fun A E env ι s w e a=>by
 refine PyProof.Rows.MethodCall_ (gv (h A E env ι s w e a) (fun v s1 ι1 H1 x p1 r1 g=>?_)) (he env)
 refine qad (g) fun id hm g=>?_
 refine hm A E ι1 s1 v _ _ p1.hr r1 ?_
 refine PyProof.Rows.callWith_method0 (wpAny_mono (g A E ι1 s1 [v] (w.step p1) ⟨_,_,rfl,r1,rfl⟩) (fun _ _ gv=>gv.before p1) fun _ _ x=>x)
theorem quu {o:Expr}{name:Str}{apos:Pos}{e0:Expr}{pl:Env->Sem Bool}{Q:AV->Hp->Prop}
  (h:EvOK P C d o loc H (fun x H1=>∃ id,qk3 P x H1 name id/\qct P C d (e0::es) loc H1 (fun args H2=>OpOK P d (fun vs=>call (.builtin id) vs) (x::args) H2 Q) X) X)
  (he:∀ env,eval (.Call (.Attribute o name apos) (e0::es) [] pos) env=(do
   let ov ←eval o env
   standAt apos.atName
   let (f,first) ←holding [ov] (getMethod ov name (pl env))
   callWith pos f first (backTo pos (starEach (e0::es) env)) []))
  (hs:∀ env,starEach (e0::es) env=(false,eval e0 env)::starEach es env) (hp:qcb es) :
  EvOK P C d (.Call (.Attribute o name apos) (e0::es) [] pos) loc H Q X:=fun A E env ι s w e a=>by
 refine PyProof.Rows.MethodCall_ (gv (h A E env ι s w e a) (fun v s1 ι1 H1 x p1 r1 g=>?_)) (he env)
 refine qad (g) fun id hm g=>?_
 refine hm A E ι1 s1 v _ _ p1.hr r1 ?_
 refine PyProof.Rows.callWith_method1 (gll (g A E env ι1 s1 pos (w.step p1) (e.step w.hr p1) (a.step p1)) (fun vs s2 ι2 H2 l p₂ r2 g=>?_)) (hs env) (hp env pos)
 exact wpAny_mono (g A E ι2 s2 (v::vs) ((w.step p1).step p₂) ⟨_,_,rfl,p₂.vr p1.hr r1,r2⟩) (fun _ _ gv=>(gv.before p₂).before p1) fun _ _ x=>x
end Mine
namespace Mine
open PySem
variable {P:PEnv}{C:Ctx}{d:Nat}{loc:Loc}{H:Hp}{X:XP}
theorem Post.off {T:List Addr}{H':Hp}{t:Nat}(p:Post B ι s ι' H' s') (ext:∀ b o,b∉T->s'.heap.get? b=some o->h'.get? b=some o) (nt:qbp T s'.heap) (ho:∀ a∈T,a∉ι')
  (hn:∀ a∈T,s.heap.get? a=none) (hb:∀ a∈T,B.get? a=none):Post B ι s ι' H' { s' with heap:=h',toks:=t } :=
 ⟨p.pre,p.hr.off ext nt ho hb,fun a o eo hna=>qad (p.kept a o eo hna) fun sl e1 q1=>⟨sl,ext a _ (fun m=>qa1 (hn a m) eo) e1,q1⟩,p.new,p.same⟩
theorem Post.gone {H':Hp}(p:Post B ι s ι' H' s'){b:Addr}(hb:s'.heap.get? b=none):s.heap.get? b=none:=by
 cases z:s.heap.get? b with
 | none=>rfl
 | some o =>
  by_cases hi:b∈ι
  ·exact (p.hr.mem (p.pre.subset hi)).elim fun o' eo'=>qa1 hb eo'
  ·exact qad (p.kept b o z hi) fun sl e1 _=>qa1 hb e1
noncomputable def qfq (outer names:List (Str×NameKind)):List (Str×NameKind):=names.map fun (n,k)=>if (k == .free&&outer.lookup n == some .cell) then (n,.cell) else (n,k)
noncomputable def qas (C:Ctx) (scope:Scope) (locals:List Str):Ctx where
 vars:=(C.vars.map fun o=>o.bind fun x=>if scope.names.lookup x == some .free then some x else none)++locals.map some
 names:=qfq C.names scope.names
 ro:=C.vars.length
noncomputable def qkv (C:Ctx) (scope:Scope) (locals:List Str):Bool :=
 decide (scope.kind=.function)&&decide ((scope.names.map (·.1)).Nodup)&&scope.names.all (fun x=>decide (x.2≠.cell)) &&
 scope.names.all (fun x=>x.2 != .free||(C.vars.contains (some x.1)&&(C.names.lookup x.1 == some .cell||C.names.lookup x.1 == some .free)&&((qfq C.names scope.names).lookup x.1 == some .cell||(qfq C.names scope.names).lookup x.1 == some .free))) &&
 locals.all (fun x=>scope.names.lookup x == some .local&&(qfq C.names scope.names).lookup x == some .local)&&decide (locals.Nodup)
theorem qex {x:Str}{k:NameKind}:∀ {l:List (Str×NameKind)},(l.map (·.1)).Nodup->(x,k)∈l->l.lookup x=some k
 | (n,u)::r,nd,h=>by
  rw [List.lookup_cons]
  have:=List.nodup_cons.mp nd
  rcases yg h with e|m
  ·rw [(Prod.mk.inj e).1,(Prod.mk.inj e).2];simp
  ·have hx:x≠n:=fun e=>this.1 (e▸yn ⟨(x,k),m,rfl⟩)
   have:(x == n)=false:=by simpa using hx
   rw [this]
   exact qex (List.nodup_cons.mp nd).2 m
theorem qe0 {env:Env}:∀ (names:List (Str×NameKind)) (acc:List (Str×Addr)),(∀ x,(x,NameKind.free)∈names->∃ c,env.cells.lookup x=some c)->(∀ y∈acc,env.cells.lookup y.1=some y.2) ->
  ∃ cl:List (Str×Addr),(forIn names acc (fun (x:Str×NameKind) (cs:List (Str×Addr))=>(if x.2 == .free then (do let c ←cellOf env x.1;pure (ForInStep.yield ((x.1,c)::cs))) else pure (ForInStep.yield cs):Sem (ForInStep (List (Str×Addr)))))=pure cl) /\
   (∀ y∈cl,env.cells.lookup y.1=some y.2)/\(∀ x,((x,NameKind.free)∈names\/∃ c,(x,c)∈acc)↔∃ c,(x,c)∈cl)
 | [],acc,_,ha=>⟨acc,rfl,ha,fun x=>by simp⟩
 | (n,k)::r,acc,hf,ha=>by
  rw [List.forIn_cons]
  cases hk:k == NameKind.free with
  | true =>
   have hk':k=.free:=by simpa using hk
   subst hk'
   refine qar (hf n (List.mem_cons_self ..)) fun c hc=>?_
   obtain ⟨cl,e,h1,h2⟩:=qe0 r ((n,c)::acc) (fun x hx=>hf x (yi _ hx)) (fun y hy=>(yg hy).elim (fun e=>by rw [e];exact hc) (ha y))
   refine ⟨cl,?_,h1,fun x=>?_⟩
   ·have:cellOf env n=pure c:=by unfold cellOf;rw [hc]
    simp only [if_true,this]
    exact e
   ·rw [←h2 x]
    constructor
    ·rintro (h|⟨c',h⟩)
     ·rcases yg h with e|m
      ·exact .inr ⟨c,by rw [(Prod.mk.inj e).1];exact List.mem_cons_self ..⟩
      ·exact .inl m
     ·exact .inr ⟨c',yi _ h⟩
    ·rintro (h|⟨c',h⟩)
     ·exact .inl (yi _ h)
     ·rcases yg h with e|m
      ·exact .inl (by rw [(Prod.mk.inj e).1];exact List.mem_cons_self ..)
      ·exact .inr ⟨c',m⟩
  | false =>
   refine qbi (qe0 r acc (fun x hx=>hf x (yi _ hx)) ha) fun cl e h1 h2=>?_
   refine ⟨cl,?_,h1,fun x=>?_⟩
   ·simp only [Bool.false_eq_true,if_false]
    exact e
   ·rw [←h2 x]
    constructor
    ·rintro (h|h)
     ·rcases yg h with e|m
      ·rw [←(Prod.mk.inj e).2] at hk;simp at hk
      ·exact .inl m
     ·exact .inr h
    ·rintro (h|h)
     ·exact .inl (yi _ h)
     ·exact .inr h
theorem qlz {scope:Scope}(hf:∀ x,(x,NameKind.free)∈scope.names->∃ c,env.cells.lookup x=some c) :
  ∃ cl:List (Str×Addr),closureFor scope env=pure cl/\(∀ y∈cl,env.cells.lookup y.1=some y.2)/\∀ x,(x,NameKind.free)∈scope.names↔∃ c,(x,c)∈cl:=by
 refine qbi (qe0 (env:=env) scope.names [] hf (fun _ h=>nomatch h)) fun cl e h1 h2=>?_
 refine ⟨cl,?_,h1,fun x=>?_⟩
 ·show (forIn scope.names ([]:List (Str×Addr)) (fun (x:Str×NameKind) (cs:List (Str×Addr))=>(if x.2 == .free then (do let c ←cellOf env x.1;pure (ForInStep.yield ((x.1,c)::cs))) else pure (ForInStep.yield cs):Sem (ForInStep (List (Str×Addr))))) >>= fun cs=>pure cs)=pure cl
  rw [e];rfl
 ·have:=h2 x
  simpa using this
def qx7 (M:Model) (A:Around) (F:Value->Shared->Prop) (elt target:Expr) (ifs:List Expr) (it acc:Value) (env:Env) (stop nxt:Shared->Prop) (r:Option Value) (s₁:Shared):Prop:=match r with
 | none=>stop s₁
 | some v=>wpAny M A (letOwnedTupleGo target it v) (fun _ s₁'=>wpAny M A (assign target env v) (fun _ s₂ =>
   wpAny M A (forIn ifs true fun c r=>if r=true then do let ok ←isTrue c env (eval c env);pure (ForInStep.yield ok) else pure (ForInStep.yield r)) (fun ok s₃ =>
    if ok=true then wpAny M A (eval elt env) (fun x s₄=>wpAny M A (call (.builtin "list.append") [acc,x]) (fun _ s₅=>nxt s₅) F s₄) F s₃ else nxt s₃) F s₂) F s₁') F s₁
theorem qjt {prog:Program}{w:World}{R:Result->Shared->Prop}{elt target iter:Expr}{ifs:List Expr}{scope:Scope}{it acc:Value}(I:Nat->Shared->Prop)
  (turn:∀ n s F,I n s->wpAny (model prog w) A (pyNext it) (qx7 (model prog w) A F elt target ifs it acc env (R (.ok .next)) fun s5=>∃ m,m<n/\I m s5) F s)
  (n:Nat) (h:I n s):codeAny (model prog w) A (.compLoop (.ListComp elt [⟨target,iter,ifs,0⟩] scope pos) 0 it acc env) R s:=by
 refine codeAny_loop rfl I (fun n s hI=>?_) n h
 show wpAny _ A ((compTurn (.ListComp elt [⟨target,iter,ifs,0⟩] scope pos) 0 it acc env).onRaise (fun x=>do noteFrame x env;theTreesLotGoes x)) _ _ s
 refine wpAny_noted ?_
 rw [compTurn_list]
 refine wpAny_bind (wpAny_standAt (wpAny_bind (wpAny_mono (turn n s _ hI) (fun r s1 h₁=>?_) fun _ _ h'=>h')))
 cases r with
 | none=>exact wpAny_pure h₁
 | some v =>
  refine wpAny_bind (wpAny_mono h₁ (fun _ s1' h1'=>?_) fun _ _ h'=>h')
  refine wpAny_bind (wpAny_mono h1' (fun _ s2 h₂=>wpAny_bind (wpAny_mono h₂ (fun ok s3 h3=>?_) fun _ _ h'=>h')) fun _ _ h'=>h')
  cases ok with
  | false=>exact wpAny_pure ⟨rfl,h3⟩
  | true=>exact wpAny_bind (wpAny_bind (wpAny_mono h3 (fun x s4 h4=>wpAny_bind (wpAny_mono h4 (fun _ s5 h5=>wpAny_pure (wpAny_pure ⟨rfl,h5⟩)) fun _ _ h'=>h')) fun _ _ h'=>h'))
def qi0 (P:PEnv) (C:Ctx) (d:Nat) (ifs:List Expr) (loc:Loc) (H:Hp) (K:Bool->Hp->Prop):Prop :=
 match ifs with
 | []=>K true H
 | [c]=>TsOK P C d c loc H K XF
 | _=>False
theorem qu2 {ifs:List Expr}{K:Bool->Hp->Prop}(w:W P.B A d ι H s) (e:EnvR P.B C env ι s.heap loc) (h:qi0 P C d ifs loc H K) :
  wpAny (model P.prog P.w) A (forIn ifs true fun c r=>if r=true then do let ok ←isTrue c env (eval c env);pure (ForInStep.yield ok) else pure (ForInStep.yield r)) (GivesB P.B ι s K) E s:=by
 match ifs,h with
 | [],h=>exact wpAny_tests_nil ⟨ι,H,Post.id w.hr,h⟩
 | [c],h=>exact wpAny_tests_one (h A E env ι s w e Acc.no)
structure CompOK (C:Ctx) (scope:Scope) (locals:List Str):Prop where
 kind:scope.kind=.function
 nodup:(scope.names.map (·.1)).Nodup
 nocell:∀ x∈scope.names,x.2≠.cell
 free:∀ x,(x,NameKind.free)∈scope.names->some x∈C.vars/\(C.names.lookup x=some .cell\/C.names.lookup x=some .free)/\((qfq C.names scope.names).lookup x=some .cell\/(qfq C.names scope.names).lookup x=some .free)
 locs:∀ x∈locals,scope.names.lookup x=some .local/\(qfq C.names scope.names).lookup x=some .local
 lnd:locals.Nodup
theorem qah {C:Ctx}{scope:Scope}{locals:List Str}(h:qkv C scope locals=true):CompOK C scope locals:=by
 simp only [qkv,Bool.and_eq_true,decide_eq_true_eq,List.all_eq_true] at h
 refine qa4 (h) fun qQ0 h6=>?_
 clear h
 obtain ⟨⟨⟨⟨h1,h2⟩,h3⟩,h4⟩,h5⟩:=qQ0
 refine ⟨h1,h2,fun x hx=>by simpa using h3 x hx,fun x hx=>?_,fun x hx=>by simpa using h5 x hx,h6⟩
 have:=h4 _ hx
 simpa [and_assoc] using this
structure CpS (P:PEnv) (C':Ctx) (cenv:Env) (ι₁:List Addr) (H₁:Hp) (s₁:Shared) (wr:List Addr) (D Ca:Addr):Prop where
 hr:HR P.B ι₁ H₁ s₁.heap
 capd:∀ x c,cenv.cells.lookup x=some c->∃ o,s₁.heap.get? c=some o
 ownC:∀ b∈own C' cenv,b=Ca
 wrn:∀ a∈wr,s₁.heap.get? a=none
 wrD:∀ b∈wr,b≠D/\b≠Ca
 nD:s₁.heap.get? D=none
 nC:s₁.heap.get? Ca=none
 ne:D≠Ca
 loc:cenv.locals=Ca
structure CpA (P:PEnv) (C':Ctx) (cenv:Env) (ι₁:List Addr) (s₁:Shared) (wr:List Addr) (D:Addr) (l:List AV) (vs:List Value) (ι':List Addr) (H':Hp) (s':Shared) (lc:Loc):Prop where
 p:Post P.B ι₁ s₁ ι' H' s'
 e:EnvR P.B C' cenv ι' s'.heap lc
 pl:s'.heap.PlainList D (List.toArray vs)
 rl:VRs P.B s'.heap ι' l vs
 wrO:∀ b∈wr,b∉ι'
 dO:D∉ι'
section
variable {C':Ctx}{cenv:Env}{ι₁:List Addr}{H₁:Hp}{s₁:Shared}{wr:List Addr}{D Ca:Addr}{l:List AV}{vs:List Value}{ι':List Addr}{H':Hp}{s':Shared}{lc:Loc}
theorem CpA.off (a:CpA P C' cenv ι1 s1 wr D l vs ι' H' s' lc) (S:CpS P C' cenv ι1 H1 s1 wr D Ca){t:Nat}(nt:qbp wr s'.heap) (ext:∀ b o,b∉wr->s'.heap.get? b=some o->h'.get? b=some o) :
  CpA P C' cenv ι1 s1 wr D l vs ι' H' { s' with heap:=h',toks:=t } lc :=
 ⟨a.p.off ext nt a.wrO S.wrn fun b hb=>S.hr.noB (S.wrn b hb),a.e.off ext nt (fun m=>(S.wrD _ m).2 S.loc) (fun x c _ hc m=>(S.capd x c hc).elim fun o eo=>qa1 (S.wrn c m) eo),
  a.pl.at fun o eo=>ext D o (fun m=>(S.wrD D m).1 rfl) eo,VRs.mono (Kept.of_keeps ext) nt (List.prefix_refl _) _ _ a.rl,a.wrO,a.dO⟩
theorem qws {ha hb:Heap}{us:List Value}(kp:Kept S ha hb) (hn:D∉S) (q:ha.PlainList D (List.toArray us)):hb.PlainList D (List.toArray us):=q.elim fun n eo=>⟨n,kp.exact eo hn fun _ _ z=>by cases z⟩
theorem CpS.own (S:CpS P C' cenv ι1 H1 s1 wr D Ca){b:Addr}(hb:b∈own C' cenv++ι'):b=Ca\/b∈ι':=(yd hb).imp (S.ownC b) id
theorem CpA.tgt (a:CpA P C' cenv ι1 s1 wr D l vs ι' H' s' lc) (S:CpS P C' cenv ι1 H1 s1 wr D Ca){s2:Shared}{lc':Loc}(q:PostS P.B (own C' cenv) ι' s' ι' H' s2) (e:EnvR P.B C' cenv ι' s2.heap lc'):CpA P C' cenv ι1 s1 wr D l vs ι' H' s2 lc' :=
 ⟨⟨a.p.pre,q.hr,fun b o eo hn=>qad (a.p.kept b o eo hn) fun sl e1 z1=>qad (q.kept b _ e1 fun m=>(S.own m).elim (fun z=>qa1 S.nC (z▸eo)) fun z=>(a.p.new b z).elim hn fun u=>qa1 u eo) fun sl' e2 z2=>⟨sl',e2,fun c=>(z2 c).trans (z1 c)⟩,
   a.p.new,q.same.1.trans a.p.same.1,q.same.2.trans a.p.same.2⟩,e,qws q.kept (fun m=>(S.own m).elim S.ne a.dO) a.pl,VRs.mono q.kept (a.e.noTup a.p.hr) (List.prefix_refl _) _ _ a.rl,a.wrO,a.dO⟩
theorem CpA.post (a:CpA P C' cenv ι1 s1 wr D l vs ι' H' s' lc){H2:Hp}{s2:Shared}(q:Post P.B ι' s' ι2 H2 s2) (th:∀ a∈wr,∃ o,s'.heap.get? a=some o/\∀ vs n,o.data≠.seq vs n):CpA P C' cenv ι1 s1 wr D l vs ι2 H2 s2 lc :=
 ⟨a.p.trans q,a.e.step a.p.hr q,qws q.kept a.dO a.pl,q.vrs a.p.hr a.rl,fun b hb m=>(q.new b m).elim (a.wrO b hb) fun u=>qad (th b hb) fun o eo _=>qa1 u eo,fun m=>(q.new D m).elim a.dO fun u=>a.pl.elim fun n eo=>qa1 u eo⟩
theorem qft (pl:h.PlainList D (List.toArray vs)):qbp [D] h:=fun b hb us t=>by
 rw [yb hb] at t
 refine qbi t fun o' eo' c' _=>pl.elim fun n eo=>?_
 have:=yj (eo.symm.trans eo')
 subst this
 simp at c'
theorem CpA.app (a:CpA P C' cenv ι1 s1 wr D l vs ι' H' s' lc) (S:CpS P C' cenv ι1 H1 s1 wr D Ca){u:Value}{x:AV}(pl':h'.PlainList D (List.toArray (vs++[u]))) (ext:∀ b o,b∉[D]->s'.heap.get? b=some o->h'.get? b=some o) (r:VR P.B s'.heap ι' x u) :
  CpA P C' cenv ι1 s1 wr D (l++[x]) (vs++[u]) ι' H' { s' with heap:=h',toks:=s'.toks } lc :=
 have nt:=qft a.pl
 have one:∀ {Z:Addr->Prop},Z D->∀ b∈[D],Z b:=fun z b hb=>yb hb▸z
 ⟨a.p.off ext nt (one (Z:=fun b=>b∉ι') a.dO) (one (Z:=fun b=>s1.heap.get? b=none) S.nD) (one (Z:=fun b=>P.B.get? b=none) (S.hr.noB S.nD)),a.e.off ext nt (fun m=>S.ne ((yb m).symm.trans S.loc)) (fun x c _ hc m=>(S.capd x c hc).elim fun o eo=>qa1 S.nD (yb m▸eo)),
  pl',VRs.append (VRs.mono (Kept.of_keeps ext) nt (List.prefix_refl _) _ _ a.rl) ⟨u,[],rfl,VR.mono (Kept.of_keeps ext) nt (List.prefix_refl _) _ _ r,rfl⟩,a.wrO,a.dO⟩
end
inductive CpI (P:PEnv) (C':Ctx) (cenv:Env) (ι₁:List Addr) (s₁:Shared) (wr:List Addr) (D:Addr) (It:Nat->List Addr->Heap->Prop) (loc:Loc) (q m:Nat) (J:Nat->List AV->Hp->Prop) (n:Nat) (s':Shared):Prop where
 | mk (k:Nat) (ι':List Addr) (H':Hp) (l:List AV) (vs:List Value) (cv:Loc) (hn:n=m+1-k) (hk:k<=m) (hl:l.length<=k) (hcv:cv.length=q) (a:CpA P C' cenv ι₁ s₁ wr D l vs ι' H' s' (loc++cv)) (it:It k ι' s'.heap) (j:J k l H')
theorem CpI.el {C':Ctx}{cenv:Env}{wr:List Addr}{D:Addr}{It:Nat->List Addr->Heap->Prop}{q m:Nat}{J:Nat->List AV->Hp->Prop}{G:Prop}(h:CpI P C' cenv ι1 s1 wr D It loc q m J n s')
  (g:∀ k ι' H' l vs cv,n=m+1-k->k<=m->l.length<=k->cv.length=q->CpA P C' cenv ι1 s1 wr D l vs ι' H' s' (loc++cv)->It k ι' s'.heap->J k l H'->G):G:=by
 cases h with|mk k ι' H' l vs cv h1 h2 h3 h4 h5 h6 h7=>exact g k ι' H' l vs cv h1 h2 h3 h4 h5 h6 h7
theorem qos {tt:Bool}{elt tgt:Expr}{ifs:List Expr}{C':Ctx}{cenv:Env}{ι1:List Addr}{H1:Hp}{s1:Shared}{wr:List Addr}{D Ca I:Addr}{items:List AV}{Cnd:Hp->Prop}{It:Nat->List Addr->Heap->Prop}{Mid:Nat->Value->List Addr->Heap->Prop}{q:Nat}{J:Nat->List AV->Hp->Prop}{K:List AV->Hp->Prop}
  {A:Around}{F:Value->Shared->Prop}{stop:Shared->Prop}{n:Nat}{s':Shared}(S:CpS P C' cenv ι1 H1 s1 wr D Ca) (w1:W P.B A d ι1 H1 s1) (itr:Itr P tt I wr items Cnd It Mid) (ht:tt=true->qd5 tgt=true) (hsz:items.length<=sizeLine)
  (turn:∀ k l H,J k l H->Cnd H/\(∀ y,items[k]?=some y->∀ cv:Loc,cv.length=q->TgOK P C' tgt y (loc++cv) (fun l'=>(∃ cv':Loc,cv'.length=q/\l'=loc++cv')/\qi0 P C' d ifs l' H (fun b H' =>
    if b then EvOK P C' d elt l' H' (fun v H''=>J (k+1) (l++[v]) H'') XF else J (k+1) l H')))/\(k=items.length->K l H))
  (fin:∀ ι' H' l vs s' lc,CpA P C' cenv ι1 s1 wr D l vs ι' H' s' lc->l.length<=sizeLine->K l H'->stop s') (hI:CpI P C' cenv ι1 s1 wr D It loc q items.length J n s') :
  wpAny (model P.prog P.w) A (pyNext (.ref I)) (qx7 (model P.prog P.w) A F elt tgt ifs (.ref I) (.ref D) cenv stop fun s5=>∃ m,m<n/\CpI P C' cenv ι1 s1 wr D It loc q items.length J m s5) F s':=by
 refine hI.el fun k ι' H' l vs cv hn hk hlk hcv a hit hj=>?_
 clear hI
 refine qfk (turn k l H' hj) fun hc htg hend=>?_
 clear turn
 have w':=w1.step a.p
 have nt0:=ntw (itr.there k ι' _ hit)
 cases hx:items[k]? with
 | none =>
  have hke:k=items.length:=Nat.le_antisymm hk (List.getElem?_eq_none_iff.mp hx)
  exact itr.stop A _ ι' H' s' _ w'.room.handled w'.hr hc (hke▸hit) fun h' tk' ext=>fin ι' H' l vs _ _ (a.off S nt0 ext) (Nat.le_trans hlk (Nat.le_trans hk hsz)) (hend hke)
 | some y =>
  have hkl:k<items.length:=(yl hx).1
  have nx:∀ {ι2 H2 l2 vs2 s2 cv'},cv'.length=q->l2.length<=k+1->CpA P C' cenv ι1 s1 wr D l2 vs2 ι2 H2 s2 (loc++cv')->It (k+1) ι2 s2.heap->J (k+1) l2 H2->∃ m,m<n/\CpI P C' cenv ι1 s1 wr D It loc q items.length J m s2 :=
   fun h1 h2 h3 h4 h5=>⟨_,qng hn hkl,k+1,_,_,_,_,_,rfl,hkl,h2,h1,h3,h4,h5⟩
  refine itr.next A _ ι' H' s' k y _ w'.room.handled w'.hr hc hit hx fun v h₅ tk5 rv mid ext5=>?_
  have a5:=a.off (t:=tk5) S nt0 ext5
  have nt1:=ntw (itr.thereM k v ι' _ mid)
  refine itr.go tgt A _ ι' { s' with heap:=h₅,toks:=tk5 } k v _ ht mid fun h6 it6 ext6=>?_
  have a6:=a5.off (t:=tk5) S nt1 ext6
  refine wpAny_mono (htg y hx cv hcv A _ cenv ι' H' { s' with heap:=h6,toks:=tk5 } v w'.room.handled a6.p.hr a6.e (VR.mono (S:=wr) (Kept.of_keeps ext6) nt1 (List.prefix_refl _) _ _ rv)) (fun _ s7 g=>g.el fun loc7 q7 e7 g=>?_) fun _ _ x=>x
  refine qa4 (g) fun qQ0 nQ=>?_
  clear g
  revert nQ
  intro g
  obtain ⟨cv',hcv',rfl⟩:=qQ0
  have a7:=a6.tgt S q7 e7
  have it7:It (k+1) ι' s7.heap:=itr.mono _ _ _ _ _ _ it6 q7.kept (a6.e.noTup a6.p.hr) (List.prefix_refl _) fun b hb m=>(S.own m).elim (S.wrD b hb).2 (a.wrO b hb)
  refine gb (qu2 (w1.step a7.p) e7 g) fun ok s8 ι8 H8 q8 g=>?_
  have a8:=a7.post q8 (itr.there _ _ _ it7)
  have it8:It (k+1) ι8 s8.heap:=itr.mono _ _ _ _ _ _ it7 q8.kept a7.p.hr.noTup q8.pre a7.wrO
  cases ok with
  | false=>exact nx hcv' (Nat.le_succ_of_le hlk) a8 it8 g
  | true =>
   refine gv (g A _ cenv ι8 s8 (w1.step a8.p) a8.e Acc.no) fun u s9 ι9 H9 av q9 rv9 g=>?_
   have a9:=a8.post q9 (itr.there _ _ _ it8)
   have it9:It (k+1) ι9 s9.heap:=itr.mono _ _ _ _ _ _ it8 q9.kept a8.p.hr.noTup q9.pre a8.wrO
   refine wpAny_list_append_plain a9.pl (fun h10 pl10 sb10=>?_) (by rw [List.size_toArray,a9.rl.length];exact Nat.le_trans hlk (Nat.le_trans hk hsz))
   have ext10:∀ b o,b∉[D]->s9.heap.get? b=some o->h10.get? b=some o:=fun b o hb eo=>sb10.extBut b o (fun z=>hb (z▸ym rfl)) eo
   exact nx hcv' (by rw [List.length_append];exact Nat.succ_le_succ hlk) (a9.app S (List.push_toArray vs u▸pl10) ext10 rv9) (itr.mono _ _ _ _ _ _ it9 (Kept.of_keeps ext10) (qft a9.pl) (List.prefix_refl _) fun b hb m=>(S.wrD b hb).1 (yb m)) g
theorem qjc {scope:Scope}(hk:env.scope.kind=.function) (hn:env.scope.names=C.names):(relabel scope env).names=qfq C.names scope.names:=by
 unfold relabel qfq Env.kindOf
 rw [hk,hn]
 exact List.map_congr_left fun y hy=>by simp
theorem qrf {scope:Scope}{locals:List Str}{cenv:Env}{Ca:Addr}{cl:List (Str×Addr)}(cg:CompOK C scope locals) (celC:cenv.cells=cl) (locC:cenv.locals=Ca) (cl4:∀ x c,cl.lookup x=some c->(x,NameKind.free)∈scope.names):∀ b∈own (qas C scope locals) cenv,b=Ca:=fun b hb=>by
 refine (yg hb).elim (fun q=>by rw [q,locC]) fun m=>?_
 exfalso
 refine qad (List.mem_filterMap.mp m) fun ox hox eb=>?_
 cases ox with
 | none=>cases eb
 | some x =>
  have eb:cenv.cells.lookup x=some b:=eb
  rw [celC] at eb
  have hx:some x∈locals.map some:=by
   have:(qas C scope locals).vars.drop (qas C scope locals).ro=locals.map some:=by
    show List.drop C.vars.length ((C.vars.map _)++locals.map some)=_
    rw [List.drop_append_of_le_length (by simp)]
    simp
   rw [this] at hox;exact hox
  refine qad (yh hx) fun y hy ey=>?_
  cases ey
  have:=(cg.locs x hy).1
  rw [qex cg.nodup (cl4 x b eb)] at this
  cases this
theorem qrg {scope:Scope}{locals:List Str}{env cenv:Env}{Ca:Addr}{cl:List (Str×Addr)}{ι1:List Addr}{H1:Hp}{s1:Shared}{h4:Heap}{m:Str->Option Value}(cg:CompOK C scope locals) (hr:HR P.B ι1 H1 s1.heap) (e1:EnvR P.B C env ι1 s1.heap loc)
  (hc:compEnvC scope cl Ca env=cenv) (cl1:∀ y∈cl,env.cells.lookup y.1=some y.2) (cl2:∀ x,(x,NameKind.free)∈scope.names↔∃ c,(x,c)∈cl) (nC:s1.heap.get? Ca=none) (ns:h4.Ns Ca m) (m0:∀ x,m x=none) (old:∀ b o,s1.heap.get? b=some o->h4.get? b=some o) :
  EnvR P.B (qas C scope locals) cenv ι1 h4 (loc++List.replicate locals.length none):=by
 have celC:cenv.cells=cl:=by rw [←hc];rfl
 have locC:cenv.locals=Ca:=by rw [←hc];rfl
 have nmC:cenv.scope.names=qfq C.names scope.names:=by rw [←hc];exact qjc e1.kind e1.names
 have cl3:∀ x c,cenv.cells.lookup x=some c->env.cells.lookup x=some c/\(x,NameKind.free)∈scope.names:=fun x c hc =>
  have hc:cl.lookup x=some c:=celC▸hc
  ⟨cl1 _ (mem_of_lookup hc),(cl2 x).mpr ⟨c,mem_of_lookup hc⟩⟩
 have kd:∀ x k,(qfq C.names scope.names).lookup x=k->cenv.kindOf x=k:=fun x k q=>by unfold Env.kindOf;rw [nmC];exact q
 refine ⟨by rw [←hc];exact cg.kind,nmC,by rw [←hc];exact e1.glob,by rw [←hc];exact e1.blt,⟨_,locC▸ns⟩,fun q=>(hr.mem q).elim fun o eo=>qa1 nC (locC▸eo),locC▸hr.noB nC,fun x c hm hc=>?_,fun x c hm hc=>?_,fun x y c hx hy hc hc'=>?_,by simp [qas,e1.len],fun i x hi=>?_⟩
 ·have q:=cl3 x c hc
  have o3:=e1.offC x c (cg.free x q.2).1 q.1
  exact ⟨o3.1,fun z=>(e1.isC x c (cg.free x q.2).1 q.1).elim fun ov r=>qad r fun o eo _=>qa1 nC (z.trans locC▸eo),o3.2.2⟩
 ·have q:=cl3 x c hc
  exact (e1.isC x c (cg.free x q.2).1 q.1).elim fun ov r=>⟨ov,r.keeps old⟩
 ·have q:=cl3 x c hc
  have r:=cl3 y c hc'
  exact e1.apart x y c (cg.free x q.2).1 (cg.free y r.2).1 q.1 r.1
 ·by_cases hlt:i<C.vars.length
  ·have hi':(C.vars.map fun o=>o.bind fun x=>if scope.names.lookup x == some .free then some x else none)[i]?=some (some x):=by
    rw [←hi];show _=((C.vars.map _)++locals.map some)[i]?
    rw [List.getElem?_append_left (by simpa using hlt)]
   rw [List.getElem?_map] at hi'
   refine qad (yf hi') fun ox eox hox=>?_
   refine qad (Option.bind_eq_some_iff.mp hox) fun y hy hoy=>?_
   clear hox
   subst hy
   by_cases hfree:(scope.names.lookup y == some .free)=true
   ·rw [if_pos hfree] at hoy
    have:=yj hoy
    subst this
    have q2:(y,NameKind.free)∈scope.names:=mem_of_lookup (by simpa using hfree)
    refine qfk (cg.free y q2) fun _ f2 f3=>qad (e1.vars i y eox) fun ov hs hv=>?_
    refine hs.elim (fun q=>?_) fun q=>qad q.2 fun c ec rc=>?_
    ·have k:=q.1
     unfold Env.kindOf at k;rw [e1.names] at k
     exact f2.elim (fun z=>by rw [z] at k;cases k) fun z=>by rw [z] at k;cases k
    ·refine ((cl2 y).mp q2).elim fun c' hc'=>(qcn hc').elim fun c'' hc''=>?_
     have h3:cenv.cells.lookup y=some c'':=by rw [celC];exact hc''
     have:=yj (ec.symm.trans (cl3 y c'' h3).1)
     subst this
     refine ⟨ov,.inr ⟨f3.imp (kd _ _) (kd _ _),c,h3,rc.keeps old⟩,fun dd hd=>?_⟩
     rw [List.getElem?_append_left (by rw [e1.len];exact hlt)] at hd
     exact qad (hv dd hd) fun v' ev rv=>⟨v',ev,VR.mono (qax old) qa3 (List.prefix_refl _) _ _ rv⟩
   ·rw [if_neg hfree] at hoy;cases hoy
  ·have hi':(locals.map some)[i-C.vars.length]?=some (some x):=by
    rw [←hi];show _=((C.vars.map _)++locals.map some)[i]?
    rw [List.getElem?_append_right (by simpa using Nat.not_lt.mp hlt)]
    simp
   refine qad (yh (yc hi')) fun y hy ey=>?_
   have:=yj ey
   subst this
   refine ⟨none,.inl ⟨kd _ _ (cg.locs y hy).2,_,locC▸ns,m0 y⟩,fun dd hd=>?_⟩
   rw [List.getElem?_append_right (by rw [e1.len];exact Nat.not_lt.mp hlt),List.getElem?_replicate] at hd
   split at hd<;>simp at hd
theorem qiv {tt:Bool}{elt tgt it:Expr}{ifs:List Expr}{scope:Scope}{locals:List Str}{pos:Pos}{use:Option (Value->Sem Unit)}{Qc:Value->Shared->Prop}{K:List AV->Hp->Prop}{A:Around}{E:Value->Shared->Prop}{env:Env}{ι:List Addr}{s:Shared}
  (cg:CompOK C scope locals) (w:W P.B A d ι H s) (e:EnvR P.B C env ι s.heap loc) (a:Acc P A X ι s E)
  (ht:tt=true->qd5 tgt=true) (h:ItEv P tt C d it loc H (fun items Cnd H1=>items.length<=sizeLine/\∃ J:Nat->List AV->Hp->Prop,J 0 [] H1/\∀ k l H,J k l H->Cnd H /\
   (∀ y,items[k]?=some y->∀ cv:Loc,cv.length=locals.length->TgOK P (qas C scope locals) tgt y (loc++cv) (fun l'=>(∃ cv':Loc,cv'.length=locals.length/\l'=loc++cv')/\qi0 P (qas C scope locals) d ifs l' H (fun b H' =>
    if b then EvOK P (qas C scope locals) d elt l' H' (fun v H''=>J (k+1) (l++[v]) H'') XF else J (k+1) l H'))) /\
   (k=items.length->K l H)) X)
  (hs:∀ x,foldedSetIterable it env x=pure x)
  (fin:∀ D Ca ι' H' l s' m,Post P.B ι s ι' H' s'->(∃ vs,s'.heap.PlainList D (List.toArray vs)/\VRs P.B s'.heap ι' l vs)->s.heap.get? D=none->s.heap.get? Ca=none->D∉ι'->Ca∉ι'->D≠Ca->s'.heap.Ns Ca m->l.length<=sizeLine->K l H' ->
   compPost (model P.prog P.w) A E use Qc (.ref D) Ca (.ok .next) s') :
  wpAny (model P.prog P.w) A (comprehension (.ListComp elt [⟨tgt,it,ifs,0⟩] scope pos) scope env it.pos (newList []) false (eval it env) use) Qc E s:=by
 refine qbi (qlz (env:=env) (scope:=scope) fun x hx=>?_) fun cl hcl cl1 cl2=>?_
 ·refine qfk (cg.free x hx) fun q1 q2 _=>?_
  refine qar (List.getElem_of_mem q1) fun i qQ1=>?_
  obtain ⟨hi,ei⟩:=qQ1
  refine qad (e.vars i x (by rw [List.getElem?_eq_getElem hi,ei])) fun ov hs _=>hs.elim (fun q=>?_) fun q=>q.2.elim fun c r=>⟨c,r.1⟩
  have k:=q.1
  unfold Env.kindOf at k;rw [e.names] at k
  exact q2.elim (fun z=>by rw [z] at k;cases k) fun z=>by rw [z] at k;cases k
 refine wpAny_comprehension_free (g:=⟨tgt,it,ifs,0⟩) (gs:=[]) rfl hs hcl cg.kind (fun x hx hl=>qex cg.nodup (by rw [←hl];exact hx)) (gi (h A E env ι s w e a) fun v s0 ι1 H1 items Cnd s1 p1 io g=>?_)
 have hsz:=g.1
 refine qad g.2 fun J j0 turn=>?_
 clear g
 have w1:=w.step p1
 have e1:=e.step w.hr p1
 refine io E _ fun I wr It Mid h₂ tk itr it0 wrn k2=>?_
 refine wpAny_newObj_type (wpAny_newFunctionEnv cg.nocell (by intro y hy;simp at hy) (fun h4 hns4 hsb4=>?_) cg.kind) (by size_fits)
 generalize hD:h₂.objs.size=D at *
 have szH:(h₂.push { cls:=.type "list",dict:=none,data:=.seq ([]:List Value).toArray }).objs.size=D+1:=by rw [Heap.size_push,hD]
 have hnD:∀ b o,h₂.get? b=some o->b<D:=fun b o eo=>hD▸Heap.lt_size eo
 have qD:(h₂.push { cls:=.type "list",dict:=none,data:=.seq ([]:List Value).toArray }).get? D=some { cls:=.type "list",dict:=none,data:=.seq ([]:List Value).toArray }:=by rw [←hD];exact Heap.get?_push_size _ rfl
 generalize hCa:(h₂.push { cls:=.type "list",dict:=none,data:=.seq ([]:List Value).toArray }).objs.size=Ca at *
 have hDCa:D<Ca:=by rw [szH];exact Nat.lt_succ_self _
 have old:∀ b o,h₂.get? b=some o->h4.get? b=some o:=fun b o eo=>hsb4.extBut b o (Nat.ne_of_lt (Nat.lt_trans (hnD b o eo) hDCa)) (Heap.get?_push_of_some _ (Heap.get?_push_of_some _ eo))
 have pl4:h4.PlainList D (List.toArray []):=⟨0,hsb4.extBut D _ (Nat.ne_of_lt hDCa) (Heap.get?_push_of_some _ qD)⟩
 have no:∀ b,¬ b<D->s1.heap.get? b=none:=fun b hb=>by
  cases z:s1.heap.get? b with
  | none=>rfl
  | some o=>exact absurd (hnD b o (k2 b o z)) hb
 clear hsb4 qD szH hD hCa
 generalize hcenv:compEnvC scope cl Ca env=cenv
 have celC:cenv.cells=cl:=by rw [←hcenv];rfl
 have S:CpS P (qas C scope locals) cenv ι1 H1 s1 wr D Ca:=by
  refine ⟨w1.hr,fun x c hc=>?_,qrf cg celC (by rw [←hcenv];rfl) fun x c hc=>(cl2 x).mpr ⟨c,mem_of_lookup hc⟩,wrn,fun b hb=>?_,no D (Nat.lt_irrefl _),no Ca (Nat.not_lt_of_le (Nat.le_of_lt hDCa)),Nat.ne_of_lt hDCa,by rw [←hcenv];rfl⟩
  ·rw [celC] at hc
   exact (e1.isC x c (cg.free x ((cl2 x).mpr ⟨c,mem_of_lookup hc⟩)).1 (cl1 _ (mem_of_lookup hc))).elim fun ov r=>r.elim fun o z=>⟨o,z.1⟩
  ·refine qad (itr.there 0 _ _ it0 b hb) fun o eo _=>?_
   have:=hnD b o eo
   exact ⟨Nat.ne_of_lt this,Nat.ne_of_lt (Nat.lt_trans this hDCa)⟩
 have old1:∀ b o,s1.heap.get? b=some o->h4.get? b=some o:=fun b o eo=>old b o (k2 b o eo)
 have envR4:=qrg cg w1.hr e1 hcenv cl1 cl2 S.nC hns4 (fun _=>rfl) old1
 have it4:It 0 ι1 h4:=itr.mono 0 _ _ [] _ _ it0 (qax old) qa3 (List.prefix_refl _) (fun _ _=>List.not_mem_nil)
 have loop:codeAny (model P.prog P.w) A (.compLoop (.ListComp elt [⟨tgt,it,ifs,0⟩] scope pos) 0 (.ref I) (.ref D) cenv) (compPost (model P.prog P.w) A E use Qc (.ref D) Ca) { s1 with heap:=h4,toks:=tk }:=by
  refine qjt (CpI P (qas C scope locals) cenv ι1 s1 wr D It loc locals.length items.length J) (fun n s' F hI=>qos S w1 itr ht hsz turn (fun ι' H' l vs s' lc a hl hk=>a.e.ns.elim fun m5 n5=>?_) hI) (items.length+1)
   ⟨0,ι1,H1,[],[],List.replicate locals.length none,rfl,Nat.zero_le _,Nat.zero_le _,List.length_replicate,⟨Post.keep w1.hr old1,envR4,pl4,rfl,fun b hb m=>(w1.hr.mem m).elim fun o eo=>qa1 (wrn b hb) eo,fun m=>(w1.hr.mem m).elim fun o eo=>qa1 S.nD eo⟩,it4,j0⟩
  exact fin D Ca ι' H' l s' m5 (p1.trans a.p) ⟨vs,a.pl,a.rl⟩ (p1.gone S.nD) (p1.gone S.nC) a.dO (S.loc▸a.e.offL) S.ne (S.loc▸n5) hl hk
 subst hcenv
 refine codeAny_compStart_list loop ?_
 exact itr.self A _ ι1 { s1 with heap:=h4,toks:=tk } 0 _ it4 loop
end Mine
namespace Mine
open PySem
variable {P:PEnv}{C:Ctx}{d:Nat}{loc:Loc}{H:Hp}{X:XP}
theorem HR.adopt {H:Hp}(q:HR B ι H h){a:Addr}(ha:a∉ι) (hb:B.get? a=none){o:AObj}(ho:OR B h (ι++[a]) a o):HR B (ι++[a]) (H++[o]) h:=by
 refine ⟨q.base,fun b m=>?_,?_,by simp [q.len],fun i x e=>?_⟩
 ·rcases yd m with m|m
  ·exact q.fresh b m
  ·rw [yb m];exact hb
 ·refine List.nodup_append.mpr ⟨q.nodup,by simp,fun x hx y hy e=>?_⟩
  have:=yb hy;subst this;subst e
  exact ha hx
 ·by_cases hi:i<H.length
  ·rw [List.getElem?_append_left hi] at e
   refine qad (q.objs i x e) fun b eb r=>?_
   exact ⟨b,qcw (List.prefix_append _ _) eb,r.mono (Kept.refl [] h) qa3 (List.prefix_append _ _) fun _ e=>e⟩
  ·rw [List.getElem?_append_right (Nat.not_lt.mp hi)] at e
   have h0:i-H.length=0:=by
    cases z:i-H.length with
    | zero=>rfl
    | succ n=>rw [z] at e;simp at e
   rw [h0] at e
   simp only [List.getElem?_cons_zero,Option.some.injEq] at e
   subst e
   refine ⟨a,?_,ho⟩
   have:i=ι.length:=by rw [q.len];exact z0 hi h0
   subst this
   simp
theorem Post.adopt {H':Hp}(p:Post B ι s ι' H' s'){a:Addr}(ha:a∉ι') (hs:s.heap.get? a=none) (hb:B.get? a=none){o:AObj}(ho:OR B s'.heap (ι'++[a]) a o):Post B ι s (ι'++[a]) (H'++[o]) s' :=
 ⟨p.pre.trans (List.prefix_append _ _),p.hr.adopt ha hb ho,p.kept,fun b m=>(yd m).elim (p.new b) fun z=>.inr (by rw [yb z];exact hs),p.same⟩
def qpf (P:PEnv) (tt:Bool) (C:Ctx) (d:Nat) (elt tgt it:Expr) (ifs:List Expr) (scope:Scope) (locals:List Str) (loc:Loc) (H:Hp) (K:List AV->Hp->Prop) (X:XP):Prop :=
 ItEv P tt C d it loc H (fun items Cnd H₁=>items.length<=sizeLine/\∃ J:Nat->List AV->Hp->Prop,J 0 [] H₁/\∀ k l H,J k l H->Cnd H /\
   (∀ y,items[k]?=some y->∀ cv:Loc,cv.length=locals.length->TgOK P (qas C scope locals) tgt y (loc++cv) (fun l'=>(∃ cv':Loc,cv'.length=locals.length/\l'=loc++cv')/\qi0 P (qas C scope locals) d ifs l' H (fun b H' =>
    if b then EvOK P (qas C scope locals) d elt l' H' (fun v H''=>J (k+1) (l++[v]) H'') XF else J (k+1) l H'))) /\
   (k=items.length->K l H)) X
theorem qoh {tt:Bool}{elt tgt it:Expr}{ifs:List Expr}{scope:Scope}{locals:List Str}{pos:Pos}{Q:AV->Hp->Prop}(cg:CompOK C scope locals)
  (ht:tt=true->qd5 tgt=true) (h:qpf P tt C d elt tgt it ifs scope locals loc H (fun l H'=>Q (.ref H'.length) (H'++[.list l])) X) (hs:∀ env x,foldedSetIterable it env x=pure x) :
  EvOK P C d (.ListComp elt [⟨tgt,it,ifs,0⟩] scope pos) loc H Q X:=fun A E env ι s w e a=>by
 show wpAny _ _ (comprehension (.ListComp elt [⟨tgt,it,ifs,0⟩] scope pos) scope env it.pos (newList []) false (eval it env) none) _ _ _
 refine qiv cg w e a ht h (hs env) fun D Ca ι' H' l s' m p hd sD sC dO cO hDC ns hl hk=>?_
 refine ⟨m,ns,fun h' sb=>?_⟩
 have bN:∀ b,s.heap.get? b=none->P.B.get? b=none:=fun b hb=>by
  cases z:P.B.get? b with
  | none=>rfl
  | some o=>have:=w.hr.base b o z;rw [hb] at this;cases this
 refine qad (hd) fun vs pl rl=>?_
 clear hd
 have ext:∀ b o,b∉[Ca]->s'.heap.get? b=some o->h'.get? b=some o:=fun b o hb eo=>sb.extBut b o (fun z=>hb (z▸ym rfl)) eo
 have nt:qbp [Ca] s'.heap:=fun b hb us t=>by
  rw [yb hb] at t
  refine qbi (t) fun o' eo' _ qQ3=>?_
  clear t
  refine qar (qQ3) fun n d'=>?_
  clear qQ3
  refine qi1 (ns) fun o es ep eo d1 _=>?_
  clear ns
  rw [eo] at eo';cases eo';rw [d1] at d';cases d'
 have p':Post P.B ι s ι' H' { s' with heap:=h',toks:=s'.toks }:=p.off ext nt (fun b hb=>by rw [yb hb];exact cO) (fun b hb=>by rw [yb hb];exact sC) (fun b hb=>by rw [yb hb];exact bN _ sC)
 have pl':h'.PlainList D vs.toArray:=pl.at fun o eo=>ext D o (fun z=>hDC (yb z)) eo
 refine ⟨ι'++[D],H'++[.list l],.ref H'.length,p'.adopt (o:=.list l) dO sD (bN _ sD) ⟨vs,pl',VRs.mono (Kept.of_keeps ext) nt (List.prefix_append _ _) _ _ rl⟩,⟨D,rfl,?_⟩,hk⟩
 rw [←p'.hr.len];simp
theorem ex_assign' {x:Str}{v:Expr}{p':Pos}{Q:MFlow->Loc->Hp->Prop}(sl:Slot C i x) (h:EvOK P C d v loc H (fun a H'=>Q .next (loc.set i (some a)) H') XF)
  (hs:∀ env:Env,env.scope.kind=.function->env.scope.names=C.names->swapsWith v (some (.Name x p')) pos.line env=pure false):ExOK P C d (.Assign [.Name x p'] v pos) loc H Q:=fun A E env ι s w e=>by
 refine wpAny_Assign_Name (gv (h A E env ι s w e Acc.no) (fun u s1 ι1 H1 a p1 r1 g=>?_)) (hs env e.kind e.names)
 exact qdx p1.hr (e.step w.hr p1) sl.lo sl.at_ sl.uniq sl.kind r1 fun s' ps e'=>⟨ι1,H1,_,.next,PostS.trans p1.toS ps e'.offOwn,e',rfl,g⟩
theorem qgo {tt:Bool}{elt tgt it:Expr}{ifs:List Expr}{scope:Scope}{locals:List Str}{cpos p' pos:Pos}{i:Nat}{x:Str}{Q:MFlow->Loc->Hp->Prop}(sl:Slot C i x) (cg:CompOK C scope locals)
  (ht:tt=true->qd5 tgt=true) (h:qpf P tt C d elt tgt it ifs scope locals loc H (fun l H'=>Q .next (loc.set i (some (.ref H'.length))) (H'++[.list l])) XF) (hs:∀ env x,foldedSetIterable it env x=pure x) :
  ExOK P C d (.Assign [.Name x p'] (.ListComp elt [⟨tgt,it,ifs,0⟩] scope cpos) pos) loc H Q:=by
 have sw:∀ env:Env,env.scope.kind=.function->env.scope.names=C.names->swapsWith (.ListComp elt [⟨tgt,it,ifs,0⟩] scope cpos) (some (.Name x p')) pos.line env=pure (C.names.lookup x == some .local&&p'.line == cpos.line&&!(scope.names.any fun (n,k)=>n == x&&(k == .local||k == .cell))):=fun env hk hn=>by
  show (pure (env.blockKind == .function&&env.kindOf x == some .local&&p'.line == cpos.line&&!(scope.names.any fun (n,k)=>n == x&&(k == .local||k == .cell))):Sem Bool)=_
  simp only [Env.blockKind,Env.kindOf,hk,hn]
  rfl
 cases hb:(C.names.lookup x == some .local&&p'.line == cpos.line&&!(scope.names.any fun (n,k)=>n == x&&(k == .local||k == .cell))) with
 | false=>exact ex_assign' sl (qoh cg ht h hs) fun env hk hn=>by rw [sw env hk hn,hb]
 | true =>
  intro A E env ι s w e
  rw [exec_Assign_Name_used x p' _ pos (by rw [sw env e.kind e.names,hb])]
  refine wpAny_bind (wpAny_standAt (wpAny_bind ?_))
  show wpAny _ _ (comprehension (.ListComp elt [⟨tgt,it,ifs,0⟩] scope cpos) scope env it.pos (newList []) false (eval it env) (some (assign (.Name x p') env)) >>= fun _=>pure PUnit.unit) _ _ _
  refine wpAny_bind ?_
  refine qiv (Qc:=fun _ s'=>wpAny (model P.prog P.w) A (pure PUnit.unit:Sem PUnit) (fun _ s''=>wpAny (model P.prog P.w) A (pure .next:Sem Flow) (GivesS P.B C env ι s Q) E s'') E s') cg w e Acc.no ht h (hs env) fun D Ca ι' H' l s' m p hd sD sC dO cO hDC ns hl hk=>?_
  have bN:∀ b,s.heap.get? b=none->P.B.get? b=none:=fun b hb=>by
   cases z:P.B.get? b with
   | none=>rfl
   | some o=>have:=w.hr.base b o z;rw [hb] at this;cases this
  refine qad (hd) fun vs pl rl=>?_
  clear hd
  have pa:Post P.B ι s (ι'++[D]) (H'++[.list l]) s':=p.adopt dO sD (bN _ sD) ⟨vs,pl,VRs.mono (Kept.refl [] _) qa3 (List.prefix_append _ _) _ _ rl⟩
  have ea:=e.step w.hr pa
  have caO:Ca∉own C env:=fun m=>by
   refine qad (e.isOwn Ca m) fun o eo _=>?_
   rw [sC] at eo;cases eo
  have caI:Ca∉ι'++[D]:=fun m=>(yd m).elim cO fun z=>hDC (yb z).symm
  have vr:VR P.B s'.heap (ι'++[D]) (.ref H'.length) (.ref D):=⟨D,rfl,by rw [←p.hr.len];simp⟩
  refine wpAny_assign_Name (qdx pa.hr ea sl.lo sl.at_ sl.uniq sl.kind vr fun s'' ps e''=>?_)
  -- the comprehension's own table stands as it stood
  have ns'':∃ m,s''.heap.Ns Ca m:=⟨m,Ns.of_data ns fun o eo=>by
   refine qbi (ps.kept.data eo fun q=>(yd q).elim caO caI) fun o' eo' d' _=>?_
   exact ⟨o',eo',d'⟩⟩
  refine qar (ns'') fun m'' n''=>?_
  clear ns''
  refine ⟨m'',n'',fun h' sb=>wpAny_pure (wpAny_pure ?_)⟩
  have ext:∀ b o,b∉[Ca]->s''.heap.get? b=some o->h'.get? b=some o:=fun b o hb eo=>sb.extBut b o (fun z=>hb (z▸ym rfl)) eo
  have nt:qbp [Ca] s''.heap:=fun b hb us t=>by
   rw [yb hb] at t
   refine qbi (t) fun o' eo' _ qQ3=>?_
   clear t
   refine qar (qQ3) fun n d'=>?_
   clear qQ3
   refine qi1 (n'') fun o es ep eo d1 _=>?_
   clear n''
   rw [eo] at eo';cases eo';rw [d1] at d';cases d'
  have hr':HR P.B (ι'++[D]) (H'++[.list l]) h':=ps.hr.off ext nt (fun b hb=>by rw [yb hb];exact caI) (fun b hb=>by rw [yb hb];exact bN _ sC)
  have e3:EnvR P.B C env (ι'++[D]) h' (loc.set i (some (.ref H'.length))):=e''.off ext nt (fun z=>caO ((yb z)▸List.mem_cons_self ..)) (fun y c hm hc z=>by
   refine qjy (e.isC y c hm hc) fun ov o eo _=>?_
   rw [yb z,sC] at eo;cases eo)
  have pf:=PostS.trans (pa.toS (S:=own C env)) ps e''.offOwn
  refine ⟨ι'++[D],H'++[.list l],loc.set i (some (.ref H'.length)),.next,⟨pf.pre,hr',fun b o eo hn=>?_,pf.new,?_⟩,e3,rfl,hk⟩
  ·refine qad (pf.kept b o eo hn) fun sl' e1 q1=>?_
   exact ⟨sl',ext b _ (fun z=>by rw [yb z,sC] at eo;cases eo) e1,q1⟩
  ·exact pf.same
end Mine
namespace Mine
open PySem
variable {P:PEnv}{C:Ctx}{d:Nat}{loc:Loc}{H:Hp}{X:XP}
theorem vrs1 {B h:Heap}{ι:List Addr}{x:AV}{vs:List Value}(r:VRs B h ι [x] vs):∃ u,vs=[u]/\VR B h ι x u:=by
 refine qa6 (r) fun u t eQ2 r1 r2=>?_
 clear r
 subst eQ2
 exact ⟨u,by rw [show t=[] from r2],r1⟩
theorem vrs2 {B h:Heap}{ι:List Addr}{x y:AV}{vs:List Value}(r:VRs B h ι [x,y] vs):∃ u v,vs=[u,v]/\VR B h ι x u/\VR B h ι y v:=by
 refine qa6 (r) fun u t eQ2 r1 r2=>?_
 clear r
 subst eQ2
 refine qad (vrs1 r2) fun v eQ1 r3=>?_
 subst eQ1
 exact ⟨u,v,rfl,r1,r3⟩
theorem vrs3 {B h:Heap}{ι:List Addr}{x y z:AV}{vs:List Value}(r:VRs B h ι [x,y,z] vs):∃ u v w,vs=[u,v,w]/\VR B h ι x u/\VR B h ι y v/\VR B h ι z w:=by
 refine qa6 (r) fun u t eQ2 r1 r2=>?_
 clear r
 subst eQ2
 refine qa6 (vrs2 r2) fun v w eQ2 r3 r4=>?_
 subst eQ2
 exact ⟨u,v,w,rfl,r1,r3,r4⟩
abbrev qgc (P:PEnv) (d:Nat) (op:Operator) (x y:AV) (H:Hp) (Q:AV->Hp->Prop):Prop:=OpOK P d (fun vs=>binaryOp op (vs.getD 0 .none) (vs.getD 1 .none)) [x,y] H Q
abbrev qbw (P:PEnv) (d:Nat) (op:CmpOp) (x y:AV) (H:Hp) (Q:AV->Hp->Prop):Prop:=OpOK P d (fun vs=>compareOp op (vs.getD 0 .none) (vs.getD 1 .none)) [x,y] H Q
theorem op2 {t:Value->Value->Sem Value}{x y:AV}{Q:AV->Hp->Prop}(h:∀ A E ι s u v,W P.B A d ι H s->VR P.B s.heap ι x u->VR P.B s.heap ι y v->wpAny (model P.prog P.w) A (t u v) (Gives P.B ι s Q) E s) :
  OpOK P d (fun vs=>t (vs.getD 0 .none) (vs.getD 1 .none)) [x,y] H Q:=fun A E ι s vs w r=>by
 refine qa6 (vrs2 r) fun u v eQ2 r1 r2=>?_
 subst eQ2
 exact h A E ι s u v w r1 r2
theorem qvf {a b:Int}{Q:AV->Hp->Prop}(h:Q (.int (a+b)) H):qgc P d .Add (.int a) (.int b) H Q:=op2 fun A E ι s u v w r1 r2=>by
 obtain ⟨t,rfl⟩:=r1;obtain ⟨t',rfl⟩:=r2
 exact PyProof.Rows.add_int (Gives.now _ w.hr (VR.mkInt _ _) h)
theorem qvb {a b:Int}{Q:AV->Hp->Prop}(h:Q (.int (a-b)) H):qgc P d .Sub (.int a) (.int b) H Q:=op2 fun A E ι s u v w r1 r2=>by
 obtain ⟨t,rfl⟩:=r1;obtain ⟨t',rfl⟩:=r2
 exact PyProof.Rows.sub_int (Gives.now _ w.hr (VR.mkInt _ _) h)
theorem qvd {a b:Int}{Q:AV->Hp->Prop}(hm:IntMulOk a b) (h:Q (.int (a*b)) H):qgc P d .Mult (.int a) (.int b) H Q:=op2 fun A E ι s u v w r1 r2=>by
 obtain ⟨t,rfl⟩:=r1;obtain ⟨t',rfl⟩:=r2
 exact PyProof.Rows.mul_int (Gives.now _ w.hr (VR.mkInt _ _) h) hm
theorem qve {a b:Int}{Q:AV->Hp->Prop}(hb:b≠0) (h:Q (.int (a.fmod b)) H):qgc P d .Mod (.int a) (.int b) H Q:=op2 fun A E ι s u v w r1 r2=>by
 obtain ⟨t,rfl⟩:=r1;obtain ⟨t',rfl⟩:=r2
 exact PyProof.Rows.mod_int' hb (Gives.now _ w.hr (VR.mkInt _ _) h)
theorem qrl {a b:Int}{Q:AV->Hp->Prop}(hb:b≠0) (hp:Builtin.divisionGoesByPylong a b=false) (h:Q (.int (a.fdiv b)) H):qgc P d .FloorDiv (.int a) (.int b) H Q:=op2 fun A E ι s u v w r1 r2=>by
 obtain ⟨t,rfl⟩:=r1;obtain ⟨t',rfl⟩:=r2
 exact PyProof.Rows.floordiv_int hb (Gives.now _ w.hr (VR.mkInt _ _) h) (.inl hp)
theorem qvc {a n:Int}{Q:AV->Hp->Prop}(hn:0<=n) (hn2:n<=1000000) (ha:a.natAbs<2^64) (h:Q (.int (a^n.toNat)) H):qgc P d .Pow (.int a) (.int n) H Q:=op2 fun A E ι s u v w r1 r2=>by
 obtain ⟨t,rfl⟩:=r1;obtain ⟨t',rfl⟩:=r2
 exact PyProof.Rows.pow_int_small hn hn2 ha (Gives.now _ w.hr (VR.mkInt _ _) h)
theorem qxq {a b:Int}{Q:AV->Hp->Prop}(h:Q (.bool (decide (a<b))) H):qbw P d .Lt (.int a) (.int b) H Q:=op2 fun A E ι s u v w r1 r2=>by
 obtain ⟨t,rfl⟩:=r1;obtain ⟨t',rfl⟩:=r2
 exact PyProof.Rows.lt_int (Gives.same w.hr (VR.mkBool _) h)
theorem qxr {a b:Int}{Q:AV->Hp->Prop}(h:Q (.bool (decide (a<=b))) H):qbw P d .LtE (.int a) (.int b) H Q:=op2 fun A E ι s u v w r1 r2=>by
 obtain ⟨t,rfl⟩:=r1;obtain ⟨t',rfl⟩:=r2
 exact PyProof.Rows.le_int (Gives.same w.hr (VR.mkBool _) h)
theorem qxu {a b:Int}{Q:AV->Hp->Prop}(h:Q (.bool (decide (b<a))) H):qbw P d .Gt (.int a) (.int b) H Q:=op2 fun A E ι s u v w r1 r2=>by
 obtain ⟨t,rfl⟩:=r1;obtain ⟨t',rfl⟩:=r2
 exact PyProof.Rows.gt_int (Gives.same w.hr (VR.mkBool _) h)
theorem qxv {a b:Int}{Q:AV->Hp->Prop}(h:Q (.bool (decide (b<=a))) H):qbw P d .GtE (.int a) (.int b) H Q:=op2 fun A E ι s u v w r1 r2=>by
 obtain ⟨t,rfl⟩:=r1;obtain ⟨t',rfl⟩:=r2
 exact PyProof.Rows.ge_int (Gives.same w.hr (VR.mkBool _) h)
theorem HR.list {H:Hp}(q:HR B ι H h){a:Addr}{l:List AV}(e:ι[i]?=some a) (hi:H[i]?=some (.list l)):∃ vs,h.PlainList a (List.toArray vs)/\VRs B h ι l vs:=by
 refine qad (q.objs i _ hi) fun a' e' r=>?_
 rw [e] at e';cases e';exact r
noncomputable def seqL (H:Hp):AV->Option (List AV)
 | .ref i=>match H[i]? with|some (.list l)=>some l|_=>none
 | .fro l=>some l
 | _=>none
theorem qbj {ι:List Addr}{h:Heap}{x:AV}{v:Value}{l:List AV}(hr:HR P.B ι H h) (r:VR P.B h ι x v) (e:seqL H x=some l):∃ a vs,v=.ref a/\h.IsList a (List.toArray vs)/\VRs P.B h ι l vs:=by
 cases x with
 | ref i =>
  refine qad (r) fun a eQ1 ea=>?_
  clear r
  subst eQ1
  simp only [seqL] at e
  split at e
  ·rename_i l' hl
   cases e
   refine qad (hr.list ea hl) fun vs pl rl=>?_
   exact ⟨a,vs,rfl,pl.isList,rl⟩
  ·cases e
 | fro l' =>
  simp only [seqL,Option.some.injEq] at e
  subst e
  unfold VR at r
  refine qa6 (r) fun a vs eQ2 bl rl=>?_
  clear r
  subst eQ2
  exact ⟨a,vs,rfl,bl.at fun o eo=>hr.base a o eo,rl⟩
 | _=>simp [seqL] at e
theorem qro {i j:Nat}{l m:List AV}{Q:AV->Hp->Prop}(hx:H[i]?=some (.list l)) (hy:H[j]?=some (.list m)) (hz:l.length+m.length<=sizeLine) (h:Q (.ref H.length) (H++[.list (l++m)])):qgc P d .Add (.ref i) (.ref j) H Q:=op2 fun A E ι s u v w r1 r2=>by
 refine qad (r1) fun a eQ1 ea=>?_
 clear r1
 subst eQ1
 refine qad (r2) fun b eQ1 eb=>?_
 clear r2
 subst eQ1
 refine qad (w.hr.list ea hx) fun vs qQ1 rl=>?_
 refine qar (qQ1) fun n pl=>?_
 clear qQ1
 refine qad (w.hr.list eb hy) fun ws qQ1 rm=>?_
 refine qar (qQ1) fun n' pm=>?_
 clear qQ1
 refine PySem.P.add_list pl pm ?_ (by simp only [List.size_toArray,rl.length,rm.length];exact hz)
 have:=qbq (Q:=Q) w.hr (rl.append rm) h
 simpa using this
theorem qrm {l m:List AV}{Q:AV->Hp->Prop}(hz:l.length+m.length<=sizeLine) (h:Q (.tup (l++m)) H):qgc P d .Add (.tup l) (.tup m) H Q:=op2 fun A E ι s u v w r1 r2=>by
 have r1':=r1
 have r2':=r2
 unfold VR at r1 r2
 refine qa6 (r1) fun a vs eQ2 qQ3 rl=>?_
 clear r1
 subst eQ2
 refine qpg (qQ3) fun n dd sl pl=>?_
 clear qQ3
 refine qa6 (r2) fun b ws eQ2 qQ3 rm=>?_
 clear r2
 subst eQ2
 refine qpg (qQ3) fun n' dd' sl' pm=>?_
 clear qQ3
 have hvl:=rl.length
 have hwl:=rm.length
 by_cases hv:vs=[]
 ·have:l=[]:=by rw [hv] at hvl;exact List.length_eq_zero_iff.mp hvl.symm
  subst this
  exact concat_meets ⟨_,pl,rfl⟩ ⟨_,pm,rfl⟩ noFill_tuple_add seq_tuple_add PySem.F.slot_tuple_add PySem.F.entry_tuple_add (PySem.F.args_tuple_add_2 _ _)
   (PyProof.Rows.tuple_addW0 a b vs.toArray ws.toArray n n' dd dd' sl sl' (by simp [hv])) ⟨pl,pm,Gives.same w.hr r2' (by simpa using h)⟩
 ·by_cases hw:ws=[]
  ·have:m=[]:=by rw [hw] at hwl;exact List.length_eq_zero_iff.mp hwl.symm
   subst this
   exact concat_meets ⟨_,pl,rfl⟩ ⟨_,pm,rfl⟩ noFill_tuple_add seq_tuple_add PySem.F.slot_tuple_add PySem.F.entry_tuple_add (PySem.F.args_tuple_add_2 _ _)
    (PyProof.Rows.tuple_addW1 a b vs.toArray ws.toArray n n' dd dd' sl sl' (by simpa using hv) (by simp [hw])) ⟨pl,pm,Gives.same w.hr r1' (by simpa using h)⟩
  ·refine concat_meets ⟨_,pl,rfl⟩ ⟨_,pm,rfl⟩ noFill_tuple_add seq_tuple_add PySem.F.slot_tuple_add PySem.F.entry_tuple_add (PySem.F.args_tuple_add_2 _ _)
    (PyProof.Rows.tuple_addW2 a b vs.toArray ws.toArray n n' dd dd' sl sl' (by simpa using hv) (by simpa using hw) (by simp only [List.size_toArray,hvl,hwl];exact hz)) ⟨pl,pm,?_⟩
   have:=qb6 (Q:=Q) w.hr (rl.append rm) h
   simpa using this
theorem qrn {x y:Str}{Q:AV->Hp->Prop}(hz:x.length+y.length<=sizeLine) (h:Q (.str (x++y)) H):qgc P d .Add (.str x) (.str y) H Q:=op2 fun A E ι s u v w r1 r2=>by
 obtain ⟨k1,t,rfl⟩:=r1;obtain ⟨k2,t',rfl⟩:=r2
 refine PyProof.Rows.add_str (fun t' tk=>Gives.now tk w.hr (VR.mkStr _ _ ?_) h) hz
 unfold PyData.strOk at k1 k2 ⊢
 simp only [Str.cps_append,Array.all_append,k1,k2,Bool.and_self]
mutual
noncomputable def datR (ρ:Nat->Option PyData):AV->Option PyData
 | .none=>some .none
 | .bool b=>some (.bool b)
 | .int i=>some (.int i)
 | .str x=>some (.str x)
 | .tup l=>(datRs ρ l).map .tuple
 | .ref i=>ρ i
 | .fro l=>(datRs ρ l).map .list
noncomputable def datRs (ρ:Nat->Option PyData):List AV->Option (List PyData)
 | []=>some []
 | x::r=>(datR ρ x).bind fun y=>(datRs ρ r).map (y::·)
end
noncomputable def rho (H:Hp):Nat->Nat->Option PyData
 | 0,_=>none
 | n+1,i=>match H[i]? with
  | some (.list l)=>(datRs (rho H n) l).map .list
  | _=>none
noncomputable def dat (H:Hp) (x:AV):Option PyData:=datR (rho H 4) x
noncomputable def dats (H:Hp) (l:List AV):Option (List PyData):=datRs (rho H 4) l
def qvn (P:PEnv) (ι:List Addr) (h:Heap) (ρ:Nat->Option PyData):Prop:=∀ i d a,ρ i=some d->ι[i]?=some a->(∃ as,Reads h (.ref a) d as)/\d.canLay0=true
mutual
theorem qop {ι:List Addr}{h:Heap}{ρ:Nat->Option PyData}(B:P.B.StaysIn h) (k:qvn P ι h ρ):∀ (x:AV) (v:Value) (d:PyData),VR P.B h ι x v->datR ρ x=some d->(∃ as,Reads h v d as)/\d.canLay0=true
 | .none,_,_,r,e=>by cases r;cases e;exact ⟨⟨_,Reads.none⟩,rfl⟩
 | .bool b,_,_,r,e=>by cases r;cases e;exact ⟨⟨_,Reads.bool b⟩,rfl⟩
 | .int i,_,_,r,e=>by obtain ⟨t,rfl⟩:=r;cases e;exact ⟨⟨_,Reads.int i t⟩,rfl⟩
 | .str x,_,_,r,e=>by obtain ⟨hx,t,rfl⟩:=r;cases e;exact ⟨⟨_,Reads.str x t⟩,hx⟩
 | .tup l,v,d,r,e=>by
  unfold VR at r
  refine qa6 (r) fun a vs eQ2 qQ3 rl=>?_
  clear r
  subst eQ2
  refine qpg (qQ3) fun n _ _ pt=>?_
  clear qQ3
  simp only [datR,Option.map_eq_some_iff] at e
  refine qad (e) fun ds e1 eQ2=>?_
  clear e
  subst eQ2
  refine qa4 (datRs_ok B k l vs ds rl e1) fun qQ0 q2=>?_
  obtain ⟨as,q1⟩:=qQ0
  exact ⟨⟨as,Reads.tuple pt rfl rfl q1⟩,q2⟩
 | .ref i,v,d,r,e=>by
  refine qad (r) fun a eQ1 ea=>?_
  clear r
  subst eQ1
  exact k i d a e ea
 | .fro l,v,d,r,e=>by
  unfold VR at r
  refine qa6 (r) fun a vs eQ2 qQ3 rl=>?_
  clear r
  subst eQ2
  refine qbi (qQ3) fun o eo hc nQ=>?_
  clear qQ3
  revert nQ
  intro qQ3
  obtain ⟨n,hd⟩:=qQ3
  simp only [datR,Option.map_eq_some_iff] at e
  refine qad (e) fun ds e1 eQ2=>?_
  clear e
  subst eQ2
  refine qa4 (datRs_ok B k l vs ds rl e1) fun qQ0 q2=>?_
  obtain ⟨as,q1⟩:=qQ0
  exact ⟨⟨_,Reads.list (B a o eo) hc hd q1⟩,q2⟩
theorem datRs_ok {ι:List Addr}{h:Heap}{ρ:Nat->Option PyData}(B:P.B.StaysIn h) (k:qvn P ι h ρ):∀ (l:List AV) (vs:List Value) (ds:List PyData),VRs P.B h ι l vs->datRs ρ l=some ds->(∃ as,ReadsAll h vs ds as)/\PyData.canLayAll0 ds=true
 | [],_,_,r,e=>by rw [show _=[] from r];cases e;exact ⟨⟨_,ReadsAll.nil⟩,rfl⟩
 | x::l,_,ds,r,e=>by
  refine qa6 (r) fun v vs eQ2 r1 r2=>?_
  clear r
  subst eQ2
  simp only [datRs,Option.bind_eq_some_iff,Option.map_eq_some_iff] at e
  refine qad (e) fun y e1 qQ2=>?_
  clear e
  refine qad (qQ2) fun ys e2 eQ2=>?_
  clear qQ2
  subst eQ2
  refine qa4 (qop B k x v y r1 e1) fun qQ0 q2=>?_
  obtain ⟨as,q1⟩:=qQ0
  refine qa4 (datRs_ok B k l vs ys r2 e2) fun qQ0 q4=>?_
  obtain ⟨bs,q3⟩:=qQ0
  exact ⟨⟨_,ReadsAll.cons q1 q3⟩,by simp [PyData.canLayAll0,q2,q4]⟩
end
theorem qmy {ι:List Addr}{h:Heap}(hr:HR P.B ι H h):∀ n,qvn P ι h (rho H n)
 | 0,_,_,_,e,_=>by cases e
 | n+1,i,d,a,e,ea=>by
  unfold rho at e
  split at e
  ·rename_i l hl
   simp only [Option.map_eq_some_iff] at e
   refine qad (e) fun ds e1 eQ2=>?_
   clear e
   subst eQ2
   refine qad (hr.list ea hl) fun vs qQ1 rl=>?_
   refine qar (qQ1) fun k pl=>?_
   clear qQ1
   refine qa4 (datRs_ok hr.base (qmy hr n) l vs ds rl e1) fun qQ0 q2=>?_
   obtain ⟨as,q1⟩:=qQ0
   exact ⟨⟨_,Reads.list pl rfl rfl q1⟩,q2⟩
  ·cases e
theorem qe9 {x:AV}{dd:PyData}(hr:HR P.B ι H h) (r:VR P.B h ι x v) (e:dat H x=some dd):(∃ as,Reads h v dd as)/\dd.canLay0=true :=
 qop hr.base (qmy hr 4) x v dd r e
theorem qhq {l:List AV}{ds:List PyData}(hr:HR P.B ι H h) (r:VRs P.B h ι l vs) (e:dats H l=some ds):(∃ as,ReadsAll h vs ds as)/\PyData.canLayAll0 ds=true :=
 datRs_ok hr.base (qmy hr 4) l vs ds r e
theorem qxw {x y:AV}{dx dy:PyData}{Q:AV->Hp->Prop}(hx:dat H x=some dx) (hy:dat H y=some dy) (hd:dx.depth<=100) (h:Q (.bool (PyData.eqv dx dy)) H):qbw P d .Eq x y H Q:=op2 fun A E ι s u v w r1 r2=>by
 refine qa4 (qe9 w.hr r1 hx) fun qQ0 q2=>?_
 obtain ⟨as,q1⟩:=qQ0
 refine qa4 (qe9 w.hr r2 hy) fun qQ0 q4=>?_
 obtain ⟨bs,q3⟩:=qQ0
 exact SeqAt.compareEq_reads q1 q3 q2 q4 (by have:=w.room.units;exact z3 hd this) (Gives.same w.hr (VR.mkBool _) h)
theorem qxp {x y:AV}{dx dy:PyData}{Q:AV->Hp->Prop}(hx:dat H x=some dx) (hy:dat H y=some dy) (hd:dx.depth<=100) (h:Q (.bool !(PyData.eqv dx dy)) H):qbw P d .NotEq x y H Q:=op2 fun A E ι s u v w r1 r2=>by
 refine qa4 (qe9 w.hr r1 hx) fun qQ0 q2=>?_
 obtain ⟨as,q1⟩:=qQ0
 refine qa4 (qe9 w.hr r2 hy) fun qQ0 q4=>?_
 obtain ⟨bs,q3⟩:=qQ0
 exact SeqAt.compareNe_reads q1 q3 q2 q4 (by have:=w.room.units;exact z3 hd this) (Gives.same w.hr (VR.mkBool _) h)
end Mine
namespace Mine
open PySem
variable {P:PEnv}{C:Ctx}{d:Nat}{loc:Loc}{H:Hp}{X:XP}
theorem fn1 {f:Value}{x:AV}{Q:AV->Hp->Prop}(h:∀ A E ι s u,W P.B A d ι H s->VR P.B s.heap ι x u->wpAny (model P.prog P.w) A (call f [u]) (Gives P.B ι s Q) E s) :
  OpOK P d (fun vs=>call f vs) [x] H Q:=fun A E ι s vs w r=>by
 refine qad (vrs1 r) fun u eQ1 r1=>?_
 subst eQ1
 exact h A E ι s u w r1
theorem fn2 {f:Value}{x y:AV}{Q:AV->Hp->Prop}(h:∀ A E ι s u v,W P.B A d ι H s->VR P.B s.heap ι x u->VR P.B s.heap ι y v->wpAny (model P.prog P.w) A (call f [u,v]) (Gives P.B ι s Q) E s) :
  OpOK P d (fun vs=>call f vs) [x,y] H Q:=fun A E ι s vs w r=>by
 refine qa6 (vrs2 r) fun u v eQ2 r1 r2=>?_
 subst eQ2
 exact h A E ι s u v w r1 r2
theorem fn3 {f:Value}{x y z:AV}{Q:AV->Hp->Prop}(h:∀ A E ι s u v t,W P.B A d ι H s->VR P.B s.heap ι x u->VR P.B s.heap ι y v->VR P.B s.heap ι z t->wpAny (model P.prog P.w) A (call f [u,v,t]) (Gives P.B ι s Q) E s) :
  OpOK P d (fun vs=>call f vs) [x,y,z] H Q:=fun A E ι s vs w r=>by
 refine qvu (vrs3 r) fun u v t eQ3 r1 r2 r3=>?_
 subst eQ3
 exact h A E ι s u v t w r1 r2 r3
theorem qbc (sl:Expr) (o i:Value):∃ ops,subscripted sl false o i=operate ops (getItem o i):=by
 cases sl with
 | Slice a b c p=>cases c<;>exact ⟨_,rfl⟩
 | _=>exact ⟨_,rfl⟩
abbrev ql3 (P:PEnv) (d:Nat) (eo ei:Expr) (x y:AV) (H:Hp) (Q:AV->Hp->Prop):Prop:=OpOK P d (fun vs=>PyProof.Rows.subscriptTail eo ei (vs.getD 0 .none) (vs.getD 1 .none)) [x,y] H Q
noncomputable def place (k:Int) (n:Nat):Option Nat:=if 0<=k then (if k<n then some k.toNat else none) else if 0<=k+n then some (k+n).toNat else none
theorem qdc {k:Int}(h:place k n=some j):seqIndex? k n=some j:=by
 unfold place at h
 unfold seqIndex?
 by_cases h0:0<=k
 ·rw [if_pos h0] at h
  rw [if_neg (Int.not_lt.mpr h0)]
  by_cases h1:k<n
  ·rw [if_pos h1] at h
   exact (if_pos (by rw [decide_eq_true h0,decide_eq_true h1];rfl)).trans h
  ·rw [if_neg h1] at h;cases h
 ·rw [if_neg h0] at h
  have h0:=Int.not_le.mp h0
  rw [if_pos h0]
  by_cases h1:0<=k+n
  ·rw [if_pos h1] at h
   exact (if_pos (by rw [decide_eq_true h1,decide_eq_true (show k+n<n by have:=Int.add_lt_add_right h0 n;rwa [Int.zero_add] at this)];rfl)).trans h
  ·rw [if_neg h1] at h;cases h
theorem qs6 {eo ei:Expr}{l:List AV}{k:Int}{j:Nat}{x:AV}{Q:AV->Hp->Prop}(hn:l.length<2^62) (hj:place k l.length=some j) (hx:l[j]?=some x) (h:Q x H):ql3 P d eo ei (.tup l) (.int k) H Q:=op2 fun A E ι s u v w r1 r2=>by
 unfold VR at r1
 refine qa6 (r1) fun a vs eQ2 pt rl=>?_
 clear r1
 subst eQ2
 refine qar (r2) fun t eQ1=>?_
 clear r2
 subst eQ1
 refine qad (rl.get hx) fun z hz rz=>?_
 refine qar (qbc ei (.ref a) (.int k t)) fun ops ho=>?_
 have hb : -(2^63)<=k/\k<2^63:=by unfold place at hj;split at hj<;>(try split at hj)<;>(first|cases hj|skip)<;>(first|lia|omega)
 exact PyProof.Rows.tail_any pt.isTup.typeIs PyProof.Rows.slot_tuple_getitem.lookup (PyProof.Rows.getItem_tuple pt.isTup hb.1 hb.2 (by rw [List.size_toArray,rl.length];exact qdc hj) (by simpa using hz) (Gives.same w.hr rz h)) ho
theorem qpw {eo ei:Expr}{o:AV}{l:List AV}{k:Int}{x:AV}{Q:AV->Hp->Prop}(ho:seqL H o=some l) (hn:l.length<2^62) (h0:0<=k) (hx:l[k.toNat]?=some x) (h:Q x H):ql3 P d eo ei o (.int k) H Q:=op2 fun A E ι s u v w r1 r2=>by
 refine qa6 (qbj w.hr r1 ho) fun a vs eQ2 il rl=>?_
 subst eQ2
 refine qar (r2) fun t eQ1=>?_
 clear r2
 subst eQ1
 refine qad (rl.get hx) fun z hz rz=>?_
 refine qar (qbc ei (.ref a) (.int k t)) fun ops hops=>?_
 have hlt:k.toNat<l.length:=(yl hx).1
 exact PyProof.Rows.tail_any il.typeIs slot_list_getitem.lookup (wpAny_getItem_list il h0 (by exact z4 hn hlt) (by simpa using hz) (Gives.same w.hr rz h)) hops
theorem ERs.pairs (P:PEnv){B h:Heap}{ι:List Addr}:∀ {l:List (Int×AV)}{es:List DictEntry},ERs B h ι l es->∃ kvs:List (Int×Value),Pairs (intKind P.prog P.w) es kvs/\kvs.map (·.1)=l.map (·.1)/\VRs B h ι (l.map (·.2)) (kvs.map (·.2))/\∀ e∈es,∃ k,(intKind P.prog P.w).is k e.key=true/\e.hash=(intKind P.prog P.w).hash k
 | [],es,q=>⟨[],by rw [show es=[] from q];exact .nil,rfl,rfl,fun e he=>by rw [show es=[] from q] at he;cases he⟩
 | (k,x)::l,es,q=>by
  refine qi1 (q) fun t v es' eQ3 rv r=>?_
  clear q
  subst eQ3
  refine qrz (ERs.pairs P r) fun kvs p1 p2 p3 p4=>?_
  have hk:(intKind P.prog P.w).is k (.int k t)=true:=by simp [intKind,Value.isInt]
  refine ⟨(k,v)::kvs,.cons hk rfl p1,by simp [p2],⟨v,_,rfl,rv,p3⟩,fun e he=>?_⟩
  rcases yg he with rfl|m
  ·exact ⟨k,hk,rfl⟩
  ·exact p4 e m
theorem qnc {kvs:List (Int×Value)}{es:List DictEntry}(p:Pairs (intKind P.prog P.w) es kvs):∀ {l:List (Int×AV)},(∀ e∈es,∃ k,(intKind P.prog P.w).is k e.key=true/\e.hash=(intKind P.prog P.w).hash k)->kvs.map (·.1)=l.map (·.1)->VRs B h ι (l.map (·.2)) (kvs.map (·.2))->ERs B h ι l es:=by
 induction p with
 | nil=>intro l _ hk hv;cases l with
  | nil=>rfl
  | cons _ _=>cases hk
 | cons h1 h2 h3 ih=>rename_i e kv es kvs;intro l hh hk hv;cases l with
  | nil=>cases hk
  | cons y l =>
   have hz:=List.cons.inj hk
   have hz1:kv.1=y.1:=hz.1
   refine qa6 hv fun v' r' e1 rv rr=>qad (hh e (List.mem_cons_self ..)) fun k2 q1 q2=>(Value.isInt_shape q1).elim fun t ht=>?_
   have e2:=List.cons.inj e1
   have e21:kv.2=v':=e2.1
   have hkk:k2=y.1:=((intKind P.prog P.w).inj _ _ _ q1 h1).trans hz1
   refine ⟨t,kv.2,es,?_,e21▸rv,ih (fun e he=>hh e (yi _ he)) hz.2 (e2.2▸rr)⟩
   rw [←h2,←hkk,←ht]
   exact congrArg (·::es) (show e=⟨hashInt k2,e.key,e.val⟩ by rw [←show e.hash=hashInt k2 from q2])
theorem HR.dict {ι:List Addr}{h:Heap}(q:HR P.B ι H h){i:Nat}{a:Addr}{l:List (Int×AV)}(e:ι[i]?=some a) (hi:H[i]?=some (.dict l)) :
  ∃ kvs:List (Int×Value),h.DictOf (intKind P.prog P.w) a kvs/\kvs.map (·.1)=l.map (·.1)/\VRs P.B h ι (l.map (·.2)) (kvs.map (·.2)):=by
 refine qrz (q.objs i _ hi) fun a' e' _ nd qQ4=>?_
 refine qjy (qQ4) fun es n eo r=>?_
 clear qQ4
 rw [e] at e';cases e'
 refine qrz (ERs.pairs P r) fun kvs p1 p2 p3 p4=>?_
 exact ⟨kvs,⟨_,_,n,eo,⟨rfl,rfl,rfl⟩,rfl,fun e he=>p4 e (by simpa using he),by simpa using p1,by rw [p2];exact nd⟩,p2,p3⟩
theorem OR.ofDict {ι:List Addr}{h:Heap}{a:Addr}{kvs:List (Int×Value)}{l:List (Int×AV)}(hm:(a == sysModules)=false) (q:h.DictOf (intKind P.prog P.w) a kvs) (hk:kvs.map (·.1)=l.map (·.1)) (hv:VRs P.B h ι (l.map (·.2)) (kvs.map (·.2))):OR P.B h ι a (.dict l):=by
 refine qyb (q) fun o es ep ho qQ4 hd hks qQ7=>?_
 clear q
 refine qfk (qQ4) fun h1 h2 h3=>?_
 clear qQ4
 refine qa4 (qQ7) fun hp hn=>?_
 clear qQ7
 refine ⟨hm,by rw [←hk];exact hn,es.toList,ep,?_,qnc hp (fun e he=>hks e (by simpa using he)) hk hv⟩
 obtain ⟨c,dd,dt,sl⟩:=o
 simp only at h1 h2 h3 hd
 subst h1;subst h2;subst h3;subst hd
 simpa using ho
noncomputable def dget (l:List (Int×AV)) (k:Int):Option AV:=(l.find? fun kv=>kv.1=k).map (·.2)
noncomputable def dset (l:List (Int×AV)) (k:Int) (v:AV):List (Int×AV):=if l.any (fun kv=>kv.1=k) then l.map (fun kv=>if kv.1=k then (kv.1,v) else kv) else l++[(k,v)]
theorem qkp {α:Type}{f:Int×α->Bool}{k:Int}(hf:∀ x,f x=decide (x.1=k)){z:Int×α}{l:List (Int×α)}(h:z.1=k):(z::l).find? f=some z:=List.find?_cons_of_pos (by rw [hf];exact decide_eq_true h)
theorem qkq {α:Type}{f:Int×α->Bool}{k:Int}(hf:∀ x,f x=decide (x.1=k)){z:Int×α}{l:List (Int×α)}(h:¬ z.1=k):(z::l).find? f=l.find? f:=List.find?_cons_of_neg (by rw [hf];exact fun q=>h (of_decide_eq_true q))
theorem qcu {k:Int}{l:List (Int×AV)}:∀ {kvs:List (Int×Value)},kvs.map (·.1)=l.map (·.1)->VRs B h ι (l.map (·.2)) (kvs.map (·.2)) ->
  (∀ x,dget l k=some x->∃ v,valueAt kvs k=some v/\VR B h ι x v)/\(valueAt kvs k).isSome=(dget l k).isSome:=by
 induction l with
 | nil=>intro kvs hk hv;cases kvs with
  | nil=>exact ⟨(fun x e=>nomatch e),rfl⟩
  | cons _ _=>cases hk
 | cons y l ih=>intro kvs hk hv;cases kvs with
  | nil=>cases hk
  | cons z kvs =>
   have hz:=List.cons.inj hk
   have hz1:z.1=y.1:=hz.1
   refine qa6 hv fun v' r' e1 rv rr=>?_
   have e2:=List.cons.inj e1
   have i:=ih hz.2 (e2.2▸rr)
   unfold valueAt dget at i ⊢
   by_cases hkk:z.1=k
   ·rw [qkp (fun _=>rfl) hkk,qkp (fun _=>rfl) (hz1.symm.trans hkk)]
    exact ⟨fun x e=>⟨z.2,rfl,yj e▸(show z.2=v' from e2.1)▸rv⟩,rfl⟩
   ·rw [qkq (fun _=>rfl) hkk,qkq (fun _=>rfl) fun q=>hkk (hz1.trans q)]
    exact i
theorem qb0 (hr:HR P.B ι H h){a:Addr}{l:List (Int×AV)}(ea:ι[i]?=some a) (hi:H[i]?=some (.dict l)):(a == sysModules)=false:=by
 refine qbi (hr.objs i _ hi) fun a' e' hm _=>?_
 rw [ea] at e';cases e'
 exact hm
theorem qu4 {i:Nat}{l:List (Int×AV)}{k:Int}{Q:AV->Hp->Prop}(hi:H[i]?=some (.dict l)) (h:Q (.bool (dget l k).isSome) H):qbw P d .In (.int k) (.ref i) H Q:=op2 fun A E ι s u v w r1 r2=>by
 refine qar (r1) fun t eQ1=>?_
 clear r1
 subst eQ1
 refine qad (r2) fun a eQ1 ea=>?_
 clear r2
 subst eQ1
 refine qbi (w.hr.dict ea hi) fun kvs hd hk hv=>?_
 refine qa4 (qcu (k:=k) hk hv) fun _ i2=>?_
 exact wpAny_in_of (knd:=intKind P.prog P.w) (k:=k) (by simp [intKind,Value.isInt]) (qb0 w.hr ea hi) hd.mapOf (Gives.now _ w.hr (VR.mkBool _) (by rw [i2];exact h))
theorem qly {i:Nat}{l:List (Int×AV)}{k:Int}{Q:AV->Hp->Prop}(hi:H[i]?=some (.dict l)) (h:Q (.bool !(dget l k).isSome) H):qbw P d .NotIn (.int k) (.ref i) H Q:=op2 fun A E ι s u v w r1 r2=>by
 refine qar (r1) fun t eQ1=>?_
 clear r1
 subst eQ1
 refine qad (r2) fun a eQ1 ea=>?_
 clear r2
 subst eQ1
 refine qbi (w.hr.dict ea hi) fun kvs hd hk hv=>?_
 refine qa4 (qcu (k:=k) hk hv) fun _ i2=>?_
 exact wpAny_notIn_of (knd:=intKind P.prog P.w) (k:=k) (by simp [intKind,Value.isInt]) (qb0 w.hr ea hi) hd.mapOf (Gives.now _ w.hr (VR.mkBool _) (by rw [i2];exact h))
theorem qpx {eo ei:Expr}{i:Nat}{l:List (Int×AV)}{k:Int}{x:AV}{Q:AV->Hp->Prop}(hi:H[i]?=some (.dict l)) (hx:dget l k=some x) (h:Q x H):ql3 P d eo ei (.ref i) (.int k) H Q:=op2 fun A E ι s u v w r1 r2=>by
 refine qad (r1) fun a eQ1 ea=>?_
 clear r1
 subst eQ1
 refine qar (r2) fun t eQ1=>?_
 clear r2
 subst eQ1
 refine qbi (w.hr.dict ea hi) fun kvs hd hk hv=>?_
 refine qa4 (qcu (k:=k) hk hv) fun i1 _=>?_
 refine qad (i1 x hx) fun z hz rz=>?_
 refine qar (qbc ei (.ref a) (.int k t)) fun ops hops=>?_
 exact PyProof.Rows.tail_any hd.typeIs slot_dict_getitem.lookup (wpAny_getItem_of (knd:=intKind P.prog P.w) (k:=k) (by simp [intKind,Value.isInt]) hd.mapOf hz (Gives.now _ w.hr rz h)) hops
theorem qxt {x y:AV}{l:List AV}{dx:PyData}{ds:List PyData}{Q:AV->Hp->Prop}(hy:seqL H y=some l) (hx:dat H x=some dx) (hl:dats H l=some ds) (hd:dx.depth<=100) (h:Q (.bool (ds.any fun z=>PyData.eqv z dx)) H):qbw P d .In x y H Q:=op2 fun A E ι s u v w r1 r2=>by
 refine qa4 (qe9 w.hr r1 hx) fun qQ0 q2=>?_
 obtain ⟨as,q1⟩:=qQ0
 refine qa6 (qbj w.hr r2 hy) fun a vs eQ2 qQ3 rl=>?_
 subst eQ2
 refine qbi (qQ3) fun o eo hc nQ=>?_
 clear qQ3
 revert nQ
 intro qQ3
 obtain ⟨n,hdt⟩:=qQ3
 refine qa4 (qhq w.hr rl hl) fun qQ0 q4=>?_
 obtain ⟨bs,q3⟩:=qQ0
 exact SeqAt.in_list_reads (Reads.list eo hc hdt q3) q1 q4 q2 (by have:=w.room.units;exact z5 hd this) (Gives.same w.hr (VR.mkBool _) h)
theorem qot {x y:AV}{l:List AV}{dx:PyData}{ds:List PyData}{Q:AV->Hp->Prop}(hy:seqL H y=some l) (hx:dat H x=some dx) (hl:dats H l=some ds) (hd:dx.depth<=100) (h:Q (.bool !(ds.any fun z=>PyData.eqv z dx)) H):qbw P d .NotIn x y H Q:=op2 fun A E ι s u v w r1 r2=>by
 refine qa4 (qe9 w.hr r1 hx) fun qQ0 q2=>?_
 obtain ⟨as,q1⟩:=qQ0
 refine qa6 (qbj w.hr r2 hy) fun a vs eQ2 qQ3 rl=>?_
 subst eQ2
 refine qbi (qQ3) fun o eo hc nQ=>?_
 clear qQ3
 revert nQ
 intro qQ3
 obtain ⟨n,hdt⟩:=qQ3
 refine qa4 (qhq w.hr rl hl) fun qQ0 q4=>?_
 obtain ⟨bs,q3⟩:=qQ0
 exact SeqAt.notIn_list_reads (Reads.list eo hc hdt q3) q1 q4 q2 (by have:=w.room.units;exact z5 hd this) (Gives.same w.hr (VR.mkBool _) h)
theorem qu3 {x:AV}{l:List AV}{dx:PyData}{ds:List PyData}{Q:AV->Hp->Prop}(hx:dat H x=some dx) (hl:dats H l=some ds) (hd:dx.depth<=100) (h:Q (.bool (ds.any fun z=>PyData.eqv z dx)) H):qbw P d .In x (.tup l) H Q:=op2 fun A E ι s u v w r1 r2=>by
 refine qa4 (qe9 w.hr r1 hx) fun qQ0 q2=>?_
 obtain ⟨as,q1⟩:=qQ0
 unfold VR at r2
 refine qa6 (r2) fun a vs eQ2 qQ3 rl=>?_
 clear r2
 subst eQ2
 refine qpg (qQ3) fun n _ _ eo=>?_
 clear qQ3
 refine qa4 (qhq w.hr rl hl) fun qQ0 q4=>?_
 obtain ⟨bs,q3⟩:=qQ0
 exact SeqAt.in_tuple_reads (Reads.tuple eo rfl rfl q3) q1 q4 q2 (by have:=w.room.units;exact z5 hd this) (Gives.same w.hr (VR.mkBool _) h)
theorem qlx {x:AV}{l:List AV}{dx:PyData}{ds:List PyData}{Q:AV->Hp->Prop}(hx:dat H x=some dx) (hl:dats H l=some ds) (hd:dx.depth<=100) (h:Q (.bool !(ds.any fun z=>PyData.eqv z dx)) H):qbw P d .NotIn x (.tup l) H Q:=op2 fun A E ι s u v w r1 r2=>by
 refine qa4 (qe9 w.hr r1 hx) fun qQ0 q2=>?_
 obtain ⟨as,q1⟩:=qQ0
 unfold VR at r2
 refine qa6 (r2) fun a vs eQ2 qQ3 rl=>?_
 clear r2
 subst eQ2
 refine qpg (qQ3) fun n _ _ eo=>?_
 clear qQ3
 refine qa4 (qhq w.hr rl hl) fun qQ0 q4=>?_
 obtain ⟨bs,q3⟩:=qQ0
 exact SeqAt.notIn_tuple_reads (Reads.tuple eo rfl rfl q3) q1 q4 q2 (by have:=w.room.units;exact z5 hd this) (Gives.same w.hr (VR.mkBool _) h)
noncomputable def qgv (x y:AV):Option Bool:=match y with
 | .none=>(match x with|.none=>some true|_=>some false)
 | .bool b=>(match x with|.none=>some false|.int _=>some false|.bool a=>some (a == b)|_=>Option.none)
 | _=>Option.none
theorem VR.isNone {x:AV}{u:Value}(r:VR B h ι x u):qgv x .none=some (u == Value.none):=by
 cases x with
 | none=>rw [show u=_ from r];rfl
 | bool a=>rw [show u=_ from r];rfl
 | int i=>exact r.elim fun t e=>e▸rfl
 | str i=>exact r.2.elim fun t e=>e▸rfl
 | tup l=>unfold VR at r;exact r.elim fun a q=>q.elim fun vs z=>z.1▸rfl
 | ref i=>exact r.elim fun a z=>z.1▸rfl
 | fro l=>unfold VR at r;exact r.elim fun a q=>q.elim fun vs z=>z.1▸rfl
theorem qj4 {x y:AV}{u:Value}{b:Bool}(hb:qgv x y=some b) (r1:VR B h ι x u) (r2:VR B h ι y v):(u == v)=b/\(v=.none\/plainIs u v=true):=by
 cases y with
 | none=>rw [show v=_ from r2];exact ⟨yj (r1.isNone.symm.trans hb),.inl rfl⟩
 | bool e =>
  rw [show v=_ from r2]
  cases x with
  | none=>rw [show u=_ from r1];exact ⟨yj hb,.inr rfl⟩
  | bool a=>rw [show u=_ from r1];exact ⟨(show (Value.bool a == Value.bool e)=(a == e) by cases a<;>cases e<;>rfl).trans (yj hb),.inr rfl⟩
  | int i=>exact r1.elim fun t z=>z▸⟨yj hb,.inr rfl⟩
  | _=>exact nomatch (show (Option.none:Option Bool)=some _ from hb)
 | _=>exact nomatch (show (Option.none:Option Bool)=some _ from hb)
theorem qxs {x y:AV}{b:Bool}{Q:AV->Hp->Prop}(hb:qgv x y=some b) (h:Q (.bool b) H):qbw P d .Is x y H Q:=op2 fun A E ι s u v w r1 r2=>by
 have e:=qj4 hb r1 r2
 have g:Gives P.B ι s Q (.bool (u == v)) s:=e.1.symm▸Gives.same w.hr (VR.mkBool _) h
 exact e.2.elim (fun z=>z▸is_none (z▸g)) fun z=>wpAny_is_plain z g
theorem qou {x y:AV}{b:Bool}{Q:AV->Hp->Prop}(hb:qgv x y=some b) (h:Q (.bool !b) H):qbw P d .IsNot x y H Q:=op2 fun A E ι s u v w r1 r2=>by
 have e:=qj4 hb r1 r2
 have g:Gives P.B ι s Q (.bool (!(u == v))) s:=e.1.symm▸Gives.same w.hr (VR.mkBool _) h
 exact e.2.elim (fun z=>z▸isNot_none (z▸g)) fun z=>wpAny_isNot_plain z g
theorem qn5 {x:AV}{l:List AV}{Q:AV->Hp->Prop}(hx:seqL H x=some l) (hn:l.length<2^62) (h:Q (.int l.length) H):OpOK P d (fun vs=>call (.builtin "len") vs) [x] H Q:=fn1 fun A E ι s u w r=>by
 refine qa6 (qbj w.hr r hx) fun a vs eQ2 il rl=>?_
 subst eQ2
 have e:((List.toArray vs).size:Int)=l.length:=by rw [List.size_toArray,rl.length]
 refine Calls.call_len_list il (by exact z6 hn e) (Gives.now _ w.hr (av:=.int l.length) ?_ h)
 rw [e];exact VR.mkInt _ _
theorem qug {l:List AV}{Q:AV->Hp->Prop}(hn:l.length<2^62) (h:Q (.int l.length) H):OpOK P d (fun vs=>call (.builtin "len") vs) [.tup l] H Q:=fn1 fun A E ι s u w r=>by
 unfold VR at r
 refine qa6 (r) fun a vs eQ2 pt rl=>?_
 clear r
 subst eQ2
 have e:((List.toArray vs).size:Int)=l.length:=by rw [List.size_toArray,rl.length]
 refine PyProof.Rows.len_tuple pt.isTup (by exact z6 hn e) (Gives.now _ w.hr (av:=.int l.length) ?_ h)
 rw [e];exact VR.mkInt _ _
theorem qcf {a:Addr}{l:List AV}{x:AV}{Q:AV->Hp->Prop}(hr:HR P.B ι H s.heap) (ea:ι[i]?=some a) (sb:∀ b o,b≠a->s.heap.get? b=some o->h'.get? b=some o)
  (pl:h'.PlainList a (List.toArray vs)) (rl:VRs P.B s.heap ι l vs) (rx:VR P.B s.heap ι x v) (q:Q x (H.set i (.list l))) (t:Nat):Gives P.B ι s Q v { s with heap:=h',toks:=t }:=by
 have ma:a∈ι:=yc ea
 exact ⟨ι,_,x,Post.upd (t:=t) hr ea sb (o:=.list l) ⟨vs,pl,hr.vrs_upd ma sb rl⟩,hr.vr_upd ma sb rx,q⟩
theorem qb8 {a:Addr}{its:Array Value}(e:h.get? a=some { cls:=.type "list",dict:=none,data:=.seq its n,slots:=#[] }) (f:Array Value->Array Value) :
  (h.update a (Obj.mapSeq f)).PlainList a (f its)/\∀ b o,b≠a->h.get? b=some o->(h.update a (Obj.mapSeq f)).get? b=some o:=by
 refine ⟨⟨if (f its).size == its.size then n else n+1,?_⟩,fun b o hb eb=>(Heap.get?_update_other h _ (Ne.symm hb)).trans eb⟩
 exact Heap.get?_update_self _ e rfl
theorem qn8 {i:Nat}{l:List AV}{x:AV}{Q:AV->Hp->Prop}(hi:H[i]?=some (.list l)) (hn:l.length<=sizeLine) (h:Q .none (H.set i (.list (l++[x])))):OpOK P d (fun vs=>call (.builtin "list.append") vs) [.ref i,x] H Q:=fn2 fun A E ι s u v w r1 r2=>by
 refine qad (r1) fun a eQ1 ea=>?_
 clear r1
 subst eQ1
 refine qad (w.hr.list ea hi) fun vs qQ1 rl=>?_
 refine qar (qQ1) fun n pl=>?_
 clear qQ1
 refine wpAny_list_append_plain ⟨n,pl⟩ (fun h' pl' sb=>?_) (by rw [List.size_toArray,rl.length];exact hn)
 exact qcf (vs:=vs++[v]) w.hr ea (fun b o hb eb=>sb.extBut b o hb eb) (by simpa using pl') (rl.append (m:=[x]) ⟨v,[],rfl,r2,rfl⟩) VR.mkNone h s.toks
theorem qw6 {i:Nat}{l:List AV}{x:AV}{Q:AV->Hp->Prop}(hi:H[i]?=some (.list (l++[x]))) (hn:l.length+1<=sizeLine) (h:Q x (H.set i (.list l))):OpOK P d (fun vs=>call (.builtin "list.pop") vs) [.ref i] H Q:=fn1 fun A E ι s u w r1=>by
 refine qad (r1) fun a eQ1 ea=>?_
 clear r1
 subst eQ1
 refine qad (w.hr.list ea hi) fun vs qQ1 rl=>?_
 refine qar (qQ1) fun n pl=>?_
 clear qQ1
 have hlen:vs.length=l.length+1:=by rw [rl.length];simp
 refine qad (rl.get (i:=l.length) (x:=x) (by simp)) fun z hz rz=>?_
 refine call_meets PySem.F.slot_list_pop ⟨_,pl,rfl⟩ PySem.F.entry_list_pop (PySem.F.args_list_pop_1 _) (MeetsSeq.list_pop_last a vs.toArray n z (by simpa [hlen] using hz) (by rw [List.size_toArray,hlen];exact hn)) ⟨pl,?_⟩
 refine qa4 (qb8 pl (fun xs=>xs.eraseIdxIfInBounds (vs.toArray.size-1))) fun p1 p2=>?_
 have e:vs.toArray.eraseIdxIfInBounds (vs.toArray.size-1)=(vs.take l.length).toArray:=by
  simp only [List.size_toArray,List.eraseIdxIfInBounds_toArray,hlen,Nat.add_sub_cancel]
  congr 1
  rw [List.eraseIdx_eq_take_drop_succ,List.drop_eq_nil_of_le (by exact Nat.le_of_eq hlen)];simp
 rw [e] at p1
 have rt:=rl.take l.length
 rw [List.take_left] at rt
 exact qcf (vs:=vs.take l.length) w.hr ea p2 p1 rt rz h s.toks
end Mine
namespace Mine
open PySem
inductive BOp where|add|sub|mul|fdiv|mod|pow
inductive COp where|eq|ne|lt|le|gt|ge|is|isNot|isin|notIn
inductive Ty where|int|bool|str|tuple|list
abbrev Fun:=Str->List AV->Hp->(AV->Hp->Prop)->Prop
abbrev PQ:=AV->Hp->Prop
def NoPy (a b:Int):Prop:=Builtin.divisionGoesByPylong a b=false
def asB (v:AV) (K:Bool->Prop):Prop:=match v with|.bool b=>K b|_=>False
def asI (v:AV) (K:Int->Prop):Prop:=match v with|.int b=>K b|_=>False
theorem asB.ex {v:AV}{K:Bool->Prop}(h:asB v K):∃ b,v=.bool b/\K b:=by
 cases v<;>first|exact h.elim|exact ⟨_,rfl,h⟩
theorem asI.ex {v:AV}{K:Int->Prop}(h:asI v K):∃ b,v=.int b/\K b:=by
 cases v<;>first|exact h.elim|exact ⟨_,rfl,h⟩
def asS (v:AV) (K:Str->Prop):Prop:=match v with|.str b=>K b|_=>False
theorem asS.ex {v:AV}{K:Str->Prop}(h:asS v K):∃ b,v=.str b/\K b:=by
 cases v<;>first|exact h.elim|exact ⟨_,rfl,h⟩
def asR (v:AV) (K:Nat->Prop):Prop:=match v with|.ref b=>K b|_=>False
theorem asR.ex {v:AV}{K:Nat->Prop}(h:asR v K):∃ b,v=.ref b/\K b:=by
 cases v<;>first|exact h.elim|exact ⟨_,rfl,h⟩
def asTp (v:AV) (K:List AV->Prop):Prop:=match v with|.tup b=>K b|_=>False
theorem asTp.ex {v:AV}{K:List AV->Prop}(h:asTp v K):∃ b,v=.tup b/\K b:=by
 cases v<;>first|exact h.elim|exact ⟨_,rfl,h⟩
def qsz (x y:AV) (H:Hp) (Q:PQ):Prop :=
 match x with
 | .int a=>asI y fun b=>Q (.int (a+b)) H
 | .ref i=>asR y fun j=>∃ l m,H[i]?=some (.list l)/\H[j]?=some (.list m)/\l.length+m.length<=sizeLine/\Q (.ref H.length) (H++[.list (l++m)])
 | .tup l=>asTp y fun m=>l.length+m.length<=sizeLine/\Q (.tup (l++m)) H
 | .str a=>asS y fun b=>a.length+b.length<=sizeLine/\Q (.str (a++b)) H
 | _=>False
def qeh (op:BOp) (x y:AV) (H:Hp) (Q:PQ):Prop :=
 match op with
 | .add=>qsz x y H Q
 | .sub=>asI x fun a=>asI y fun b=>Q (.int (a-b)) H
 | .mul=>asI x fun a=>asI y fun b=>IntMulOk a b/\Q (.int (a*b)) H
 | .fdiv=>asI x fun a=>asI y fun b=>b≠0/\NoPy a b/\Q (.int (a.fdiv b)) H
 | .mod=>asI x fun a=>asI y fun b=>b≠0/\Q (.int (a.fmod b)) H
 | .pow=>asI x fun a=>asI y fun n=>0<=n/\n<=1000000/\a.natAbs<2^64/\Q (.int (a^n.toNat)) H
def wpIn (x y:AV) (H:Hp) (K:Bool->Prop):Prop :=
 match y with
 | .ref i=>match H[i]? with
  | some (.list l)=>∃ dx ds,dat H x=some dx/\dats H l=some ds/\dx.depth<=100/\K (ds.any fun z=>PyData.eqv z dx)
  | some (.dict l)=>∃ k,x=.int k/\K (dget l k).isSome
  | none=>False
 | .tup l=>∃ dx ds,dat H x=some dx/\dats H l=some ds/\dx.depth<=100/\K (ds.any fun z=>PyData.eqv z dx)
 | _=>False
def eqD (x y:AV) (H:Hp) (K:Bool->Prop):Prop:=∃ dx dy,dat H x=some dx/\dat H y=some dy/\dx.depth<=100/\K (PyData.eqv dx dy)
def wpEq (x y:AV) (H:Hp) (K:Bool->Prop):Prop :=
 match x with
 | .int a=>(match y with|.int b=>K (a == b)|y=>eqD (.int a) y H K)
 | .str a=>(match y with|.str b=>K (a == b)|y=>eqD (.str a) y H K)
 | .bool a=>(match y with|.bool b=>K (a == b)|y=>eqD (.bool a) y H K)
 | x=>eqD x y H K
theorem wpEq.data {x y:AV}{H:Hp}{K:Bool->Prop}(h:wpEq x y H K):eqD x y H K:=by
 cases x with
 | int a =>
  cases y with
  | int b =>
   have g:K (a == b):=h
   exact ⟨.int a,.int b,rfl,rfl,by simp [PyData.depth],by simpa [PyData.eqv] using g⟩
  | _=>exact h
 | str a =>
  cases y with
  | str b =>
   have g:K (a == b):=h
   exact ⟨.str a,.str b,rfl,rfl,by simp [PyData.depth],by simpa [PyData.eqv] using g⟩
  | _=>exact h
 | bool a =>
  cases y with
  | bool b =>
   have g:K (a == b):=h
   exact ⟨.bool a,.bool b,rfl,rfl,by simp [PyData.depth],by simpa [PyData.eqv] using g⟩
  | _=>exact h
 | _=>exact h
def qbk (op:COp) (x y:AV) (H:Hp) (Q:PQ):Prop :=
 match op with
 | .eq=>wpEq x y H fun b=>Q (.bool b) H
 | .ne=>wpEq x y H fun b=>Q (.bool !b) H
 | .lt=>asI x fun a=>asI y fun b=>Q (.bool (decide (a<b))) H
 | .le=>asI x fun a=>asI y fun b=>Q (.bool (decide (a<=b))) H
 | .gt=>asI x fun a=>asI y fun b=>Q (.bool (decide (b<a))) H
 | .ge=>asI x fun a=>asI y fun b=>Q (.bool (decide (b<=a))) H
 | .is=>∃ b,qgv x y=some b/\Q (.bool b) H
 | .isNot=>∃ b,qgv x y=some b/\Q (.bool !b) H
 | .isin=>wpIn x y H fun b=>Q (.bool b) H
 | .notIn=>wpIn x y H fun b=>Q (.bool !b) H
section
variable {P:PEnv}{d:Nat}{H:Hp}
noncomputable def BOp.op:BOp->Operator|.add=>.Add|.sub=>.Sub|.mul=>.Mult|.fdiv=>.FloorDiv|.mod=>.Mod|.pow=>.Pow
noncomputable def COp.op:COp->CmpOp|.eq=>.Eq|.ne=>.NotEq|.lt=>.Lt|.le=>.LtE|.gt=>.Gt|.ge=>.GtE|.is=>.Is|.isNot=>.IsNot|.isin=>.In|.notIn=>.NotIn
theorem qpq {x y:AV}{Q:PQ}(h:qsz x y H Q):qgc P d .Add x y H Q:=by
 cases x with
 | int a=>obtain ⟨b,rfl,h⟩:=asI.ex h;exact qvf h
 | ref i=>obtain ⟨j,rfl,l,m,h1,h2,h3,h4⟩:=asR.ex h;exact qro h1 h2 h3 h4
 | tup l=>obtain ⟨m,rfl,h⟩:=asTp.ex h;exact qrm h.1 h.2
 | str a=>obtain ⟨b,rfl,h⟩:=asS.ex h;exact qrn h.1 h.2
 | _=>exact h.elim
theorem qpp {op:BOp}{x y:AV}{Q:PQ}(h:qeh op x y H Q):qgc P d op.op x y H Q:=by
 cases op with
 | add=>exact qpq h
 | sub=>obtain ⟨a,rfl,h⟩:=asI.ex h;obtain ⟨b,rfl,h⟩:=asI.ex h;exact qvb h
 | mul=>obtain ⟨a,rfl,h⟩:=asI.ex h;obtain ⟨b,rfl,h⟩:=asI.ex h;exact qvd h.1 h.2
 | fdiv=>obtain ⟨a,rfl,h⟩:=asI.ex h;obtain ⟨b,rfl,h⟩:=asI.ex h;exact qrl h.1 h.2.1 h.2.2
 | mod=>obtain ⟨a,rfl,h⟩:=asI.ex h;obtain ⟨b,rfl,h⟩:=asI.ex h;exact qve h.1 h.2
 | pow=>obtain ⟨a,rfl,h⟩:=asI.ex h;obtain ⟨b,rfl,h⟩:=asI.ex h;exact qvc h.1 h.2.1 h.2.2.1 h.2.2.2
structure PEnv.OK2 (P:PEnv):Prop extends P.OK where
 low:∃ b o,P.B.get? b=some o/\sysModules<b
theorem qsw (ok:P.OK2){x y:AV}{Q:PQ}(h:wpIn x y H fun b=>Q (.bool b) H):qbw P d .In x y H Q:=by
 unfold wpIn at h
 split at h
 ·rename_i i
  split at h
  ·rename_i l hl
   refine qry (h) fun dx ds h1 h2 h3 h4=>?_
   clear h
   exact qxt (by simp [seqL,hl]) h1 h2 h3 h4
  ·rename_i l hl
   refine qad (h) fun k eQ1 nQ=>?_
   clear h
   revert nQ
   intro h
   subst eQ1
   exact qu4 hl h
  ·exact h.elim
 ·refine qry (h) fun dx ds h1 h2 h3 h4=>?_
  clear h
  exact qu3 h1 h2 h3 h4
 ·exact h.elim
theorem qk6 (ok:P.OK2){x y:AV}{Q:PQ}(h:wpIn x y H fun b=>Q (.bool !b) H):qbw P d .NotIn x y H Q:=by
 unfold wpIn at h
 split at h
 ·rename_i i
  split at h
  ·rename_i l hl
   refine qry (h) fun dx ds h1 h2 h3 h4=>?_
   clear h
   exact qot (by simp [seqL,hl]) h1 h2 h3 h4
  ·rename_i l hl
   refine qad (h) fun k eQ1 nQ=>?_
   clear h
   revert nQ
   intro h
   subst eQ1
   exact qly hl h
  ·exact h.elim
 ·refine qry (h) fun dx ds h1 h2 h3 h4=>?_
  clear h
  exact qlx h1 h2 h3 h4
 ·exact h.elim
theorem qsx {x y:AV}{Q:PQ}(h:wpEq x y H fun b=>Q (.bool b) H):qbw P d .Eq x y H Q:=by
 refine qry (h.data) fun dx dy h1 h2 h3 h4=>?_
 exact qxw h1 h2 h3 h4
theorem qsv {x y:AV}{Q:PQ}(h:wpEq x y H fun b=>Q (.bool !b) H):qbw P d .NotEq x y H Q:=by
 refine qry (h.data) fun dx dy h1 h2 h3 h4=>?_
 exact qxp h1 h2 h3 h4
theorem qc4 (ok:P.OK2){op:COp}{x y:AV}{Q:PQ}(h:qbk op x y H Q):qbw P d op.op x y H Q:=by
 cases op with
 | eq=>exact qsx h
 | ne=>exact qsv h
 | lt=>obtain ⟨a,rfl,h⟩:=asI.ex h;obtain ⟨b,rfl,h⟩:=asI.ex h;exact qxq h
 | le=>obtain ⟨a,rfl,h⟩:=asI.ex h;obtain ⟨b,rfl,h⟩:=asI.ex h;exact qxr h
 | gt=>obtain ⟨a,rfl,h⟩:=asI.ex h;obtain ⟨b,rfl,h⟩:=asI.ex h;exact qxu h
 | ge=>obtain ⟨a,rfl,h⟩:=asI.ex h;obtain ⟨b,rfl,h⟩:=asI.ex h;exact qxv h
 | is=>obtain ⟨b,h1,h2⟩:=h;exact qxs h1 h2
 | isNot=>obtain ⟨b,h1,h2⟩:=h;exact qou h1 h2
 | isin=>exact qsw ok h
 | notIn=>exact qk6 ok h
end
end Mine
variable {l:List Mine.AV}{H:Mine.Hp}{Φ:Mine.Fun}
namespace Mine
open PySem
variable {P:PEnv}{C:Ctx}{d:Nat}{loc:Loc}{H:Hp}{X:XP}
noncomputable def Ty.nm:Ty->String|.int => "int" | .bool => "bool" | .str => "str" | .tuple => "tuple" | .list => "list"
noncomputable def isi (H:Hp) (x:AV) (t:Ty):Bool :=
 match x with
 | .none=>false
 | .bool _=>(match t with|.bool=>true|.int=>true|_=>false)
 | .int _=>(match t with|.int=>true|_=>false)
 | .str _=>(match t with|.str=>true|_=>false)
 | .tup _=>(match t with|.tuple=>true|_=>false)
 | .fro _=>(match t with|.list=>true|_=>false)
 | .ref i=>(match t with|.list=>(match H[i]? with|some (.list _)=>true|_=>false)|_=>false)
theorem qw0 {x:AV}{t:Ty}{Q:AV->Hp->Prop}(h:Q (.bool (isi H x t)) H):OpOK P d (fun vs=>call (.builtin "isinstance") [vs.getD 0 .none,.type t.nm]) [x] H Q:=fun A E ι s us w rs=>by
 refine qad (vrs1 rs) fun u eQ1 r=>?_
 subst eQ1
 show wpAny (model P.prog P.w) A (call (.builtin "isinstance") [u,.type t.nm]) (Gives P.B ι s Q) E s
 have b0:∀ b,Q (.bool b) H->Gives P.B ι s Q (.bool b) s:=fun b q=>Gives.same w.hr (VR.mkBool b) q
 have b1:∀ b,Q (.bool b) H->Gives P.B ι s Q (.bool b) { s with toks:=s.toks+1 }:=fun b q=>Gives.now _ w.hr (VR.mkBool b) q
 cases x with
 | none =>
  cases r
  cases t
  ·exact IsiPair.NoneType_int (b1 _ h)
  ·exact IsiPair.NoneType_bool (b1 _ h)
  ·exact IsiPair.NoneType_str (b1 _ h)
  ·exact IsiPair.NoneType_tuple (b1 _ h)
  ·exact IsiPair.NoneType_list (b1 _ h)
 | bool b =>
  cases r
  cases t
  ·exact IsiPair.bool_int (b0 _ h)
  ·exact IsiPair.bool_bool (b0 _ h)
  ·exact IsiPair.bool_str (b1 _ h)
  ·exact IsiPair.bool_tuple (b1 _ h)
  ·exact IsiPair.bool_list (b1 _ h)
 | int i =>
  refine qar (r) fun tk eQ1=>?_
  clear r
  subst eQ1
  cases t
  ·exact IsiPair.int_int (b0 _ h)
  ·exact IsiPair.int_bool (b1 _ h)
  ·exact IsiPair.int_str (b1 _ h)
  ·exact IsiPair.int_tuple (b1 _ h)
  ·exact IsiPair.int_list (b1 _ h)
 | str y =>
  refine qa4 (r) fun _ qQ1=>?_
  clear r
  obtain ⟨tk,rfl⟩:=qQ1
  cases t
  ·exact IsiPair.str_int (b1 _ h)
  ·exact IsiPair.str_bool (b1 _ h)
  ·exact IsiPair.str_str (b0 _ h)
  ·exact IsiPair.str_tuple (b1 _ h)
  ·exact IsiPair.str_list (b1 _ h)
 | tup l =>
  unfold VR at r
  refine qa6 (r) fun a vs eQ2 qQ3 rl=>?_
  clear r
  subst eQ2
  refine qpg (qQ3) fun n _ _ e=>?_
  clear qQ3
  cases t
  ·exact IsiPair.tuple_int e rfl (b1 _ h)
  ·exact IsiPair.tuple_bool e rfl (b1 _ h)
  ·exact IsiPair.tuple_str e rfl (b1 _ h)
  ·exact IsiPair.tuple_tuple e rfl (b0 _ h)
  ·exact IsiPair.tuple_list e rfl (b1 _ h)
 | fro l =>
  unfold VR at r
  refine qa6 (r) fun a vs eQ2 qQ3 rl=>?_
  clear r
  subst eQ2
  refine qbi (qQ3) fun o e hc _=>?_
  clear qQ3
  have e:=w.hr.base _ _ e
  cases t
  ·exact IsiPair.list_int e hc (b1 _ h)
  ·exact IsiPair.list_bool e hc (b1 _ h)
  ·exact IsiPair.list_str e hc (b1 _ h)
  ·exact IsiPair.list_tuple e hc (b1 _ h)
  ·exact IsiPair.list_list e hc (b0 _ h)
 | ref i =>
  unfold VR at r
  refine qad (r) fun a eQ1 ea=>?_
  clear r
  subst eQ1
  refine qad (w.hr.there ea) fun o eo oo=>?_
  cases o with
  | list l =>
   refine qad (oo) fun vs qQ1 _=>?_
   clear oo
   refine qar (qQ1) fun n e=>?_
   clear qQ1
   cases t
   ·exact IsiPair.list_int e rfl (b1 _ h)
   ·exact IsiPair.list_bool e rfl (b1 _ h)
   ·exact IsiPair.list_str e rfl (b1 _ h)
   ·exact IsiPair.list_tuple e rfl (b1 _ h)
   ·exact IsiPair.list_list e rfl (b0 _ (by simpa [isi,eo] using h))
  | dict l =>
   refine qfk (oo) fun _ _ qQ2=>?_
   clear oo
   refine qjy (qQ2) fun vs n e _=>?_
   clear qQ2
   cases t
   ·exact IsiPair.dict_int e rfl (b1 _ h)
   ·exact IsiPair.dict_bool e rfl (b1 _ h)
   ·exact IsiPair.dict_str e rfl (b1 _ h)
   ·exact IsiPair.dict_tuple e rfl (b1 _ h)
   ·exact IsiPair.dict_list e rfl (b1 _ (by simpa [isi,eo] using h))
theorem qui {b:Bool}{Q:AV->Hp->Prop}(h:Q (.int (if b then 1 else 0)) H):OpOK P d (fun vs=>call (.type "int") vs) [.bool b] H Q:=fn1 fun A E ι s u w r=>by
 cases r
 exact call_int_bool (Gives.now _ w.hr (VR.mkInt _ _) h)
theorem qw8 {a b:Int}{Q:AV->Hp->Prop}(h:Q (.int (if b>a then b else a)) H):OpOK P d (fun vs=>call (.builtin "max") vs) [.int a,.int b] H Q:=fn2 fun A E ι s u v w r1 r2=>by
 obtain ⟨t,rfl⟩:=r1;obtain ⟨t',rfl⟩:=r2
 refine max_two_ints w.room.handled fun h' tk hk=>⟨ι,H,_,Post.keep w.hr hk,?_,h⟩
 split
 ·exact VR.mkInt _ _
 ·exact VR.mkInt _ _
theorem qw7 {a b:Int}{Q:AV->Hp->Prop}(h:Q (.int (if b<a then b else a)) H):OpOK P d (fun vs=>call (.builtin "min") vs) [.int a,.int b] H Q:=fn2 fun A E ι s u v w r1 r2=>by
 obtain ⟨t,rfl⟩:=r1;obtain ⟨t',rfl⟩:=r2
 refine min_two_ints w.room.handled fun h' tk hk=>⟨ι,H,_,Post.keep w.hr hk,?_,h⟩
 split
 ·exact VR.mkInt _ _
 ·exact VR.mkInt _ _
theorem VRs.cons {x:AV}(a:VR B h ι x v) (b:VRs B h ι l vs):VRs B h ι (x::l) (v::vs):=by unfold VRs;exact ⟨v,vs,rfl,a,b⟩
theorem VRs.kept (k:∀ b o,h.get? b=some o->h'.get? b=some o) (p:ι<+:ι')(r:VRs B h ι l vs):VRs B h' ι' l vs :=
 VRs.mono (qax k) qa3 p l vs r
theorem qd8 {x:AV}{l:List AV}{Q:AV->Hp->Prop}(hx:seqL H x=some l\/x=.tup l) (hn:l.length<=sizeLine) (h:Q (.ref H.length) (H++[.list l])):OpOK P d (fun vs=>call (.type "list") vs) [x] H Q:=fn1 fun A E ι s u w r=>by
 have fin:∀ a vs T o n,T = "list" \/ T = "tuple" -> VRs P.B s.heap ι l vs->s.heap.get? a=some o->o.cls=.type T->o.data=.seq vs.toArray n ->
   wpAny (model P.prog P.w) A (call (.type "list") [.ref a]) (Gives P.B ι s Q) E s:=fun a vs T o n hT rl ho hc hd=>by
  refine call_list_seq a hT ho hc hd (fun h' c' hk hnew=>?_) (by rw [List.size_toArray,rl.length];exact hn)
  refine ⟨_,_,.ref H.length,Post.alloc (t:=s.toks) w.hr hk (qbg _) (o:=.list l) ⟨vs,⟨c',hnew⟩,rl.kept hk (List.prefix_append _ _)⟩,?_,h⟩
  unfold VR
  exact ⟨_,rfl,by rw [←w.hr.len];simp⟩
 rcases hx with hx|rfl
 ·refine qa6 (qbj w.hr r hx) fun a vs eQ2 il rl=>?_
  subst eQ2
  refine qbi (il) fun o ho hc qQ3=>?_
  clear il
  refine qar (qQ3) fun n hd=>?_
  clear qQ3
  exact fin a vs _ o n (.inl rfl) rl ho hc hd
 ·unfold VR at r
  refine qa6 (r) fun a vs eQ2 qQ3 rl=>?_
  clear r
  subst eQ2
  refine qpg (qQ3) fun n _ _ e=>?_
  clear qQ3
  exact fin a vs _ _ n (.inr rfl) rl e rfl rfl
theorem qlr {x:AV}{Q:AV->Hp->Prop}(hx:seqL H x=some l) (hn:l.length<=sizeLine) (h:Q (.tup l) H):OpOK P d (fun vs=>call (.type "tuple") vs) [x] H Q:=fn1 fun A E ι s u w r=>by
 refine qa6 (qbj w.hr r hx) fun a vs eQ2 il rl=>?_
 subst eQ2
 refine call_tuple_list il (fun h' hk=>?_) (by rw [List.size_toArray,rl.length];exact hn)
 have hk':∀ b o,s.heap.get? b=some o->(h'.push { cls:=.type "tuple",data:=.seq vs.toArray }).get? b=some o:=fun b o e=>Heap.get?_push_of_some _ (hk b o e)
 refine ⟨ι,H,.tup l,Post.keep (t:=s.toks) w.hr hk',?_,h⟩
 unfold VR
 exact ⟨_,vs,rfl,PTup.new _ _,rl.kept hk' (List.prefix_refl _)⟩
theorem VRs.bools {B h:Heap}{ι:List Addr}:∀ {bs:List Bool}{vs:List Value},VRs B h ι (bs.map .bool) vs->vs=bs.map .bool
 | [],_,r=>r
 | b::bs,vs,r=>by
  refine qa6 (r) fun v t eQ2 hv ht=>?_
  clear r
  subst eQ2
  rw [VRs.bools ht,show v=.bool b from hv];rfl
theorem qxa {x:AV}{bs:List Bool}{Q:AV->Hp->Prop}(hx:seqL H x=some (bs.map .bool)) (h:Q (.bool (bs.all fun b=>b)) H):OpOK P d (fun vs=>call (.builtin "all") vs) [x] H Q:=fn1 fun A E ι s u w r=>by
 refine qa6 (qbj w.hr r hx) fun a vs eQ2 il rl=>?_
 subst eQ2
 have:=rl.bools;subst this
 refine call_all_walk (wpAny_pyIter_list il ⟨_,_,_,_,_,_,fun i=>(bs[i]?).getD false,rfl,Walks.list (A:=A.in1) w.room.handled s.heap.objs.size a ?_ (bs.map Value.bool).toArray,⟨?_,?_⟩,?_,fun h' tk hk=>?_⟩)
 ·rintro rfl;obtain ⟨o,e,_⟩:=il;rw [qbg] at e;cases e
 ·exact ⟨_,Heap.get?_push_size _ rfl,rfl,rfl⟩
 ·exact il.push _
 ·intro i v Q' E' s' hv hq
  simp only [List.getElem?_toArray,List.getElem?_map] at hv
  cases hb:bs[i]? with
  | none=>rw [hb] at hv;simp at hv
  | some b =>
   rw [hb] at hv;simp at hv;subst hv
   simp only [hb,Option.getD_some] at hq
   exact wpAny_truthy_bool hq
 ·have hk':∀ b o,s.heap.get? b=some o->h'.get? b=some o:=fun b o e=>hk b o (fun m=>by
   simp only [List.mem_singleton] at m;subst m;rw [qbg] at e;cases e) (Heap.get?_push_of_some _ e)
  have e:(List.range (bs.map Value.bool).toArray.size).all (fun i=>(bs[i]?).getD false)=bs.all fun b=>b:=by
   rw [Bool.eq_iff_iff]
   simp only [List.all_eq_true,List.mem_range,List.size_toArray,ya]
   constructor
   ·intro q b hb
    refine qar (List.getElem_of_mem hb) fun i qQ1=>?_
    obtain ⟨hi,rfl⟩:=qQ1
    simpa [hi] using q i hi
   ·intro q i hi
    simpa [hi] using q _ (List.getElem_mem hi)
  rw [e]
  exact ⟨ι,H,_,Post.keep w.hr hk',VR.mkBool _,h⟩
theorem qw9 {x:AV}{bs:List Bool}{Q:AV->Hp->Prop}(hx:seqL H x=some (bs.map .bool)) (h:Q (.bool (bs.any fun b=>b)) H):OpOK P d (fun vs=>call (.builtin "any") vs) [x] H Q:=fn1 fun A E ι s u w r=>by
 refine qa6 (qbj w.hr r hx) fun a vs eQ2 il rl=>?_
 subst eQ2
 have:=rl.bools;subst this
 refine call_any_walk (wpAny_pyIter_list il ⟨_,_,_,_,_,_,fun i=>(bs[i]?).getD false,rfl,Walks.list (A:=A.in1) w.room.handled s.heap.objs.size a ?_ (bs.map Value.bool).toArray,⟨?_,?_⟩,?_,fun h' tk hk=>?_⟩)
 ·rintro rfl;obtain ⟨o,e,_⟩:=il;rw [qbg] at e;cases e
 ·exact ⟨_,Heap.get?_push_size _ rfl,rfl,rfl⟩
 ·exact il.push _
 ·intro i v Q' E' s' hv hq
  simp only [List.getElem?_toArray,List.getElem?_map] at hv
  cases hb:bs[i]? with
  | none=>rw [hb] at hv;simp at hv
  | some b =>
   rw [hb] at hv;simp at hv;subst hv
   simp only [hb,Option.getD_some] at hq
   exact wpAny_truthy_bool hq
 ·have hk':∀ b o,s.heap.get? b=some o->h'.get? b=some o:=fun b o e=>hk b o (fun m=>by
   simp only [List.mem_singleton] at m;subst m;rw [qbg] at e;cases e) (Heap.get?_push_of_some _ e)
  have e:(List.range (bs.map Value.bool).toArray.size).any (fun i=>(bs[i]?).getD false)=bs.any fun b=>b:=by
   rw [Bool.eq_iff_iff]
   simp only [List.any_eq_true,List.mem_range,List.size_toArray,ya]
   constructor
   ·rintro ⟨i,hi,q⟩
    exact ⟨bs[i],List.getElem_mem hi,by simpa [hi] using q⟩
   ·rintro ⟨b,hb,q⟩
    refine qar (List.getElem_of_mem hb) fun i qQ1=>?_
    obtain ⟨hi,rfl⟩:=qQ1
    exact ⟨i,hi,by simpa [hi] using q⟩
  rw [e]
  exact ⟨ι,H,_,Post.keep w.hr hk',VR.mkBool _,h⟩
theorem qki {k:Int}(h0:0<=k) (h1:k<2^62):Builtin.List.listFitsIndex k=true:=fitsIndex_of h0 (by exact z7 h1)
theorem qqz {i:Nat}{l:List AV}{k:Int}{x:AV}{Q:AV->Hp->Prop}(hi:H[i]?=some (.list l)) (hn:l.length<=sizeLine) (h0:0<=k) (h1:k<2^62) (hx:l[k.toNat]?=some x) (h:Q x (H.set i (.list (l.eraseIdx k.toNat)))) :
  OpOK P d (fun vs=>call (.builtin "list.pop") vs) [.ref i,.int k] H Q:=fn2 fun A E ι s u v w r1 r2=>by
 refine qad (r1) fun a eQ1 ea=>?_
 clear r1
 subst eQ1
 refine qar (r2) fun t eQ1=>?_
 clear r2
 subst eQ1
 refine qad (w.hr.list ea hi) fun vs qQ1 rl=>?_
 refine qar (qQ1) fun n pl=>?_
 clear qQ1
 refine qad (rl.get hx) fun z hz rz=>?_
 have hlt:k.toNat<l.length:=(yl hx).1
 refine call_meets PySem.F.slot_list_pop ⟨_,pl,rfl⟩ PySem.F.entry_list_pop (PySem.F.args_list_pop_2 _ _) (MeetsSeq.list_pop_at a vs.toArray n k t k.toNat z (qki h0 h1) ?_ (by simpa using hz) (by rw [List.size_toArray,rl.length];exact hn)) ⟨pl,?_⟩
 ·refine qdc ?_
  unfold place
  rw [if_pos h0,if_pos (by rw [List.size_toArray,rl.length];exact Int.lt_of_toNat_lt hlt)]
 ·refine qa4 (qb8 pl (fun xs=>xs.eraseIdxIfInBounds k.toNat)) fun p1 p2=>?_
  have e:vs.toArray.eraseIdxIfInBounds k.toNat=(vs.eraseIdx k.toNat).toArray:=by simp
  rw [e] at p1
  have rt:VRs P.B s.heap ι (l.eraseIdx k.toNat) (vs.eraseIdx k.toNat):=by
   rw [List.eraseIdx_eq_take_drop_succ,List.eraseIdx_eq_take_drop_succ]
   exact (rl.take _).append (rl.drop _)
  exact qcf w.hr ea p2 p1 rt rz h s.toks
theorem qn6 {i:Nat}{l:List AV}{k:Int}{x:AV}{Q:AV->Hp->Prop}(hi:H[i]?=some (.list l)) (hn:l.length<=sizeLine) (h0:0<=k) (h1:k<=l.length) (h:Q .none (H.set i (.list (l.take k.toNat++x::l.drop k.toNat)))) :
  OpOK P d (fun vs=>call (.builtin "list.insert") vs) [.ref i,.int k,x] H Q:=fn3 fun A E ι s u v y w r1 r2 r3=>by
 refine qad (r1) fun a eQ1 ea=>?_
 clear r1
 subst eQ1
 refine qar (r2) fun t eQ1=>?_
 clear r2
 subst eQ1
 refine qad (w.hr.list ea hi) fun vs qQ1 rl=>?_
 refine qar (qQ1) fun n pl=>?_
 clear qQ1
 have hsl:(sizeLine:Int)<2^62:=by unfold sizeLine;exact z8
 refine call_meets PySem.F.slot_list_insert ⟨_,pl,rfl⟩ PySem.F.entry_list_insert (PySem.F.args_list_insert_3 _ _ _) (AutoListH.list_insert_list_int_val_1 a vs.toArray n k t y (by rw [qki h0 (by exact z9 hn h1 hsl)];decide) (by rw [List.size_toArray,rl.length];exact hn)) ⟨pl,?_⟩
 obtain ⟨p1,p2⟩:=qb8 pl (fun xs=>have k':=if k<0 then (k+((xs.size:Nat):Int)).toNat else min k.toNat xs.size;(xs.extract 0 k').push y++xs.extract k')
 have hk:(if k<0 then (k+((vs.toArray.size:Nat):Int)).toNat else min k.toNat vs.toArray.size)=k.toNat:=by
  rw [if_neg (by exact Int.not_lt_of_ge h0),List.size_toArray,rl.length];exact z10 h1
 have e:(have k':=if k<0 then (k+((vs.toArray.size:Nat):Int)).toNat else min k.toNat vs.toArray.size;(vs.toArray.extract 0 k').push y++vs.toArray.extract k')=(vs.take k.toNat++y::vs.drop k.toNat).toArray:=by
  simp only [hk]
  apply Array.toList_inj.mp
  simp [List.take_of_length_le]
 rw [e] at p1
 exact qcf w.hr ea p2 p1 ((rl.take _).append (VRs.cons r3 (rl.drop _))) VR.mkNone h s.toks
theorem qn7 {i j:Nat}{l m:List AV}{Q:AV->Hp->Prop}(hi:H[i]?=some (.list l)) (hj:H[j]?=some (.list m)) (hn:l.length+m.length<=1000000) (h:Q .none (H.set i (.list (l++m)))) :
  OpOK P d (fun vs=>call (.builtin "list.extend") vs) [.ref i,.ref j] H Q:=fn2 fun A E ι s u v w r1 r2=>by
 refine qad (r1) fun a eQ1 ea=>?_
 clear r1
 subst eQ1
 refine qad (w.hr.list ea hi) fun vs qQ1 rl=>?_
 refine qar (qQ1) fun n pl=>?_
 clear qQ1
 have hsl:1000000<=sizeLine:=by unfold sizeLine;exact z11
 have hl:=rl.length
 refine qad (r2) fun b eQ1 eb=>?_
 clear r2
 subst eQ1
 refine qad (w.hr.list eb hj) fun ws qQ1 rm=>?_
 refine qar (qQ1) fun n' pm=>?_
 clear qQ1
 have hm:=rm.length
 refine call_meets PySem.F.slot_list_extend ⟨_,pl,rfl⟩ PySem.F.entry_list_extend (PySem.F.args_list_extend_2 _ _) (AutoSeq1.list_extend_list_list_0 a vs.toArray n b ws.toArray n' ?_ (by rw [List.size_toArray];exact z12 hn hsl hl) (by simp only [List.size_toArray];exact z13 hn hsl hl hm)) ⟨pl,pm,?_⟩
 ·simp only [Bool.and_eq_true,not_and];intro _;simp only [Builtin.List.listTooLong,List.size_toArray,hl,hm,decide_eq_true_eq];exact z14 hn hsl
 ·refine qa4 (qb8 pl (fun xs=>xs++ws.toArray)) fun p1 p2=>?_
  exact qcf (vs:=vs++ws) w.hr ea p2 (by simpa using p1) (rl.append rm) VR.mkNone h s.toks
theorem qq1 {i:Nat}{l:List AV}{Q:AV->Hp->Prop}(hi:H[i]?=some (.list l)) (hn:l.length<=sizeLine) (h:Q .none (H.set i (.list []))) :
  OpOK P d (fun vs=>call (.builtin "list.clear") vs) [.ref i] H Q:=fn1 fun A E ι s u w r1=>by
 refine qad (r1) fun a eQ1 ea=>?_
 clear r1
 subst eQ1
 refine qad (w.hr.list ea hi) fun vs qQ1 rl=>?_
 refine qar (qQ1) fun n pl=>?_
 clear qQ1
 refine call_meets PySem.F.slot_list_clear ⟨_,pl,rfl⟩ PySem.F.entry_list_clear (PySem.F.args_list_clear_1 _) (AutoSeq1.list_clear_list_0 a vs.toArray n (by rw [List.size_toArray,rl.length];exact hn)) ⟨pl,?_⟩
 refine qa4 (qb8 pl (fun _=>#[])) fun p1 p2=>?_
 exact qcf (vs:=[]) (l:=[]) w.hr ea p2 p1 rfl VR.mkNone h s.toks
end Mine
namespace Mine
open PySem
variable {P:PEnv}{C:Ctx}{d:Nat}{loc:Loc}{H:Hp}{X:XP}
def qf9 (P:PEnv) (tt:Bool) (d:Nat) (t:List Value->Sem Value) (args:List AV) (H:Hp) (K:List AV->(Hp->Prop)->Hp->Prop):Prop :=
 ∀ A E ι s vs,W P.B A d ι H s->VRs P.B s.heap ι args vs->wpAny (model P.prog P.w) A (t vs) (ItG P tt A ι s K) E s
theorem qt6 {tt:Bool}{x:Str}{T:String}{pn:Pos}{e0:Expr}{K:List AV->(Hp->Prop)->Hp->Prop}(ok:P.OK) (hk:C.names.lookup x=some .globalImplicit) (hd:(x == ("__debug__" : Str))=false)
  (hg:P.mg x=none) (hb:P.mb x=some (.type T))
  (h:qct P C d (e0::es) loc H (fun args H'=>qf9 P tt d (fun vs=>call (.type T) vs) args H' K) X) (he:∀ env,starEach (e0::es) env=(false,eval e0 env)::starEach es env) (hp:qcb es) :
  ItEv P tt C d (.Call (.Name x pn) (e0::es) [] pos) loc H K X:=fun A E env ι s w e a=>by
 refine PyProof.Rows.Call_ (Calls.Name_function_global e.kind (by unfold Env.kindOf;rw [e.names];exact hk) (Calls.loadGlobal_builtin (e.glob▸ok.g.keeps fun b o e=>w.hr.base b o e) hg (e.blt▸ok.b.keeps fun b o e=>w.hr.base b o e) hb ?_) hd)
 refine PyProof.Rows.callWith_type1 (gll (h A E env ι s pos w e a) (fun vs s1 ι1 H1 l p1 r1 g=>?_)) (he env) (hp env pos)
 refine gi (g A E ι1 s1 vs (w.step p1) r1) fun v s' ι2 H2 items Cnd s0 p₂ tl k=>?_
 exact ⟨ι2,H2,items,Cnd,s0,p1.trans p₂,tl,k⟩
theorem qqa (h:k<n):0<(n:Int)-k:=by exact z15 h
theorem qgr {tt:Bool}{a b:Int}{t u v:Tok}{r:Addr}(hr:HR P.B ι H s.heap) (hs:IsRange s.heap r a b 1 t u v) (ha : -(2^62)<=a) (ha':a<2^62) (hb : -(2^62)<=b) (hb':b<2^62) :
  qk4 P tt A ι ((List.range (b-a).toNat).map fun (k:Nat)=>AV.int (a+k)) (fun _=>True) (.ref r) s s:=fun E Q h=>by
 refine wpAny_pyIter_range hs (small_one ha ha' hb hb') ?_
 have rs:Builtin.Range.rangeSize a b 1=((b-a).toNat:Int):=by rw [rangeSize_one];split<;>(first|lia|omega)
 rw [rs]
 refine One.new (P:=P) (T := "range_iterator") (At:=fun k o=>o={ cls:=.type "range_iterator",dict:=none,data:=.fields #[rawInt (a+k),rawInt (((b-a).toNat:Int)-k),rawInt 1],slots:=#[] }) (Pre:=fun _ _=>True) h
  ⟨fun k o z=>⟨by rw [z],by rw [z];exact qbu rfl⟩,by decide,fun _ _ _ _ _ _ _ _ _=>trivial,?_,?_,fun A E s k Q q hQ=>qad q fun o e z=>wpAny_pyIter_rangeiter (z▸e) hQ⟩ (by rw [Int.natCast_zero,Int.add_zero,Int.sub_zero]) rfl trivial
 ·intro A E ι1 H1 s1 k x Q hh hr1 hc _ q hx hQ
  refine qad q fun o e z=>?_
  subst z
  have hk:k<(b-a).toNat:=by
   have:=(yl hx).1
   rwa [ya,List.length_range] at this
  rw [List.getElem?_map,List.getElem?_range hk] at hx
  refine wpAny_pyNext_range_item e (qqa hk) fun h' it' sb=>hQ _ h' (s1.toks+1) (yj hx▸VR.mkInt _ _) ⟨_,it',?_⟩ sb
  rw [Int.natCast_add,Int.natCast_one,Int.add_assoc,Int.sub_sub]
 ·intro A E ι1 H1 s1 Q hh hr1 hc _ q hQ
  refine qad q fun o e z=>?_
  subst z
  rw [ya,List.length_range] at e
  exact wpAny_pyNext_range_end hh e (Int.le_of_eq (Int.sub_self _)) fun h' ext=>hQ h' s1.toks ext
theorem qns {tt:Bool}{n:Int}{K:List AV->(Hp->Prop)->Hp->Prop}(h0 : -(2^62)<=n) (h1:n<2^62) (h:K ((List.range n.toNat).map fun (k:Nat)=>AV.int k) (fun _=>True) H):qf9 P tt d (fun vs=>call (.type "range") vs) [.int n] H K:=fun A E ι s vs w rs=>by
 refine qad (vrs1 rs) fun u eQ1 r=>?_
 subst eQ1
 clear rs
 refine qar (r) fun t eQ1=>?_
 clear r
 subst eQ1
 refine call_range_1 ?_
 have p:Post P.B ι s ι H { s with heap:=s.heap.push { cls:=.type "range",data:=.fields #[.int 0 s.toks,.int n t,.int 1 (s.toks+1)] },toks:=s.toks+1+1 }:=Post.keep w.hr fun b o e=>Heap.get?_push_of_some _ e
 refine ⟨ι,H,_,_,_,p,qgr (a:=0) (b:=n) p.hr (IsRange.new ..) (by exact Int.neg_ofNat_le_ofNat (2^62) 0) (by exact z16) h0 h1,?_⟩
 simpa using h
theorem qnr {tt:Bool}{a b:Int}{K:List AV->(Hp->Prop)->Hp->Prop}(ha : -(2^62)<=a) (ha':a<2^62) (hb : -(2^62)<=b) (hb':b<2^62) (h:K ((List.range (b-a).toNat).map fun (k:Nat)=>AV.int (a+k)) (fun _=>True) H):qf9 P tt d (fun vs=>call (.type "range") vs) [.int a,.int b] H K:=fun A E ι s vs w rs=>by
 refine qa6 (vrs2 rs) fun u v eQ2 r1 r2=>?_
 subst eQ2
 clear rs
 refine qar (r1) fun t eQ1=>?_
 clear r1
 subst eQ1
 refine qar (r2) fun t' eQ1=>?_
 clear r2
 subst eQ1
 refine call_range_2 ?_
 have p:Post P.B ι s ι H { s with heap:=s.heap.push { cls:=.type "range",data:=.fields #[.int a t,.int b t',.int 1 s.toks] },toks:=s.toks+1 }:=Post.keep w.hr fun b o e=>Heap.get?_push_of_some _ e
 exact ⟨ι,H,_,_,_,p,qgr (a:=a) (b:=b) p.hr (IsRange.new ..) ha ha' hb hb',h⟩
theorem qr7 (h:k<n):(n:Int)-1-k=((n-1-k:Nat):Int)/\(n:Int)-1-(k+1:Nat)=((n-1-k:Nat):Int)-1:=by exact z17 h
theorem qwx {tt:Bool}{i:Nat}{l:List AV}{K:List AV->(Hp->Prop)->Hp->Prop}(hi:H[i]?=some (.list l)) (h:K l.reverse (fun H'=>H'[i]?=some (.list l)) H):qf9 P tt d (fun vs=>call (.type "reversed") vs) [.ref i] H K:=fun A E ι s vs w rs=>by
 refine qad (vrs1 rs) fun u eQ1 r=>qad r fun a eQ ea=>?_
 subst eQ1
 subst eQ
 clear rs r
 have at_:∀ {ι H h},HR P.B ι H h->H[i]?=some (.list l)->ι[i]?=some a->∃ vs,h.PlainList a (List.toArray vs)/\VRs P.B h ι l vs:=fun hr hi ea=>qad (hr.objs i _ hi) fun a' ea' o=>yj (ea'.symm.trans ea)▸o
 refine qad (at_ w.hr hi ea) fun ws pl rl=>?_
 refine call_reversed_list pl.isList ?_
 have hz:(ws.toArray.size:Int)=l.length:=by rw [List.size_toArray,rl.length]
 rw [hz]
 refine ⟨ι,H,l.reverse,_,s,Post.id w.hr,fun E' Q hq=>wpAny_pyIter_revIter ⟨_,Heap.get?_push_size _ rfl,rfl,rfl⟩ ?_,h⟩
 refine One.new (P:=P) (T := "list_reverseiterator") (At:=fun k o=>o.cls=.type "list_reverseiterator" /\ o.data=.fields #[.ref a,rawInt ((l.length:Int)-1-k)]) (Pre:=fun ι _=>ι[i]?=some a) hq
  ⟨fun k o z=>⟨z.1,qbu z.2⟩,by decide,fun ι ι' S h h' q _ _ pr=>qcw pr q,?_,?_,fun A E s k Q q hQ=>wpAny_pyIter_revIter q hQ⟩ ⟨rfl,by rw [Int.natCast_zero,Int.sub_zero];rfl⟩ rfl ea
 ·intro A E ι1 H1 s1 k x Q hh hr1 hc q1 q2 hx hQ
  have hk:k<l.length:=by
   have:=(yl hx).1
   rwa [List.length_reverse] at this
  rw [List.getElem?_reverse hk] at hx
  refine qad (at_ hr1 hc q1) fun vs2 pl2 rv2=>qad (rv2.get hx) fun u hu ru=>?_
  rw [(qr7 hk).1] at q2
  refine wpAny_pyNext_rev_item q2 pl2.isList (x:=u) (by simpa using hu) fun h' it' sb=>hQ u h' s1.toks ru ?_ sb
  rw [(qr7 hk).2];exact it'
 ·intro A E ι1 H1 s1 Q hh hr1 hc q1 q2 hQ
  rw [List.length_reverse,show (l.length:Int)-1-l.length = -1 by exact Int.sub_eq_iff_eq_add'.mpr rfl] at q2
  exact wpAny_pyNext_rev_end hh q2 fun h' ext=>hQ h' s1.toks ext
noncomputable def qbx (n:Nat):Option Int->Nat->Nat
 | some k,_=>min k.toNat n
 | none,dflt=>dflt
noncomputable def qag {α:Type}(l:List α) (lo hi:Option Int):List α:=(l.drop (qbx l.length lo 0)).take (qbx l.length hi l.length-qbx l.length lo 0)
def qbs:Option Int->Prop|some k=>0<=k|none=>True
theorem VRs.slice {lo hi:Option Int}(r:VRs B h ι l vs):VRs B h ι (qag l lo hi) (qag vs lo hi):=by
 unfold qag
 rw [r.length]
 exact (r.drop _).take _
theorem qov {o:Option Int}{dflt:Nat}(h:qbs o):o.elim dflt (clipAt n)=qbx n o dflt:=by
 cases o with
 | none=>rfl
 | some k =>
  refine qar (Int.eq_ofNat_of_zero_le h) fun j eQ1=>?_
  subst eQ1
  show clipAt n (j:Int)=min _ _
  rw [clipAt_nat];simp
def qg2 (P:PEnv) (C:Ctx) (d:Nat) (o:Option Expr) (loc:Loc) (H:Hp) (Q:Option Int->Hp->Prop) (X:XP):Prop :=
 match o with
 | none=>Q none H
 | some e=>EvOK P C d e loc H (fun v H'=>∃ k,v=.int k/\Q (some k) H') X
theorem qd9 {o:Option Expr}{Q:Option Int->Hp->Prop}(h:qg2 P C d o loc H Q X):∀ A E env ι s,W P.B A d ι H s->EnvR P.B C env ι s.heap loc->Acc P A X ι s E ->
  wpAny (model P.prog P.w) A (evalPart o env) (fun v s1=>∃ ι1 H1 k,Post P.B ι s ι1 H1 s1/\IsPart v k/\Q k H1) E s:=fun A E env ι s w e a=>by
 cases o with
 | none=>exact wpAny_pure ⟨ι,H,none,Post.id w.hr,.none,h⟩
 | some x =>
  refine gv (h A E env ι s w e a) (fun v s1 ι1 H1 av p1 r1 g=>?_)
  refine qad (g) fun k eQ1 q=>?_
  clear g
  subst eQ1
  refine qar (r1) fun t eQ1=>?_
  clear r1
  subst eQ1
  exact ⟨ι1,H1,some k,p1,.int k t,q⟩
theorem qh4 {prog:Program}{w:World}{value:Expr}{lower upper:Option Expr}{p:Pos}{T id:String}{Q:Value->Shared->Prop}
  (hl:typeLookup (.type T) "__getitem__" = pure (some (.builtin id)))
  (h:wpAny (model prog w) A (eval value env) (fun o s1=>wpAny (model prog w) A (eval (.Slice lower upper none p) env) (fun i s2=>s2.TypeIs o T/\wpAny (model prog w) A (getItem o i) Q E s2) E s1) E s) :
  wpAny (model prog w) A (eval (.Subscript value (.Slice lower upper none p) pos) env) Q E s:=by
 rw [eval_Subscript]
 refine wpAny_bind (wpAny_mono h (fun o s1 h₁=>wpAny_bind (wpAny_holding (wpAny_mono h₁ (fun i s2 h₂=>wpAny_bind (wpAny_standAt ?_)) fun _ _ x=>x))) fun _ _ x=>x)
 have fin:wpAny (model prog w) A (operate [i,o] (getItem o i)) (fun r s3=>wpAny (model prog w) A (letTemporaryGo value o r >>= fun _=>pure r) Q E s3) E s2 :=
  wpAny_operating (wpAny_mono h₂.2 (fun r s3 h3=>wpAny_bind (wpAny_letTemporaryGo (wpAny_pure h3))) fun _ _ x=>x)
 first
  | (refine wpAny_bind ?_
     rw [getitemInPython_of_ne h₂.1.not_modules]
     refine wpAny_bind (wpAny_specialOf h₂.1 hl ?_)
     first
       | exact wpAny_pure (wpAny_bind fin)
       | exact wpAny_bind (wpAny_pure (wpAny_bind fin)))
  | (refine wpAny_bind (wpAny_specialOf h₂.1 hl ?_)
     exact wpAny_bind fin)
theorem qq7 {o:Expr}{lo hi:Option Expr}{p pos:Pos}{Q:AV->Hp->Prop}
  (h:EvOK P C d o loc H (fun x H1=>qg2 P C d lo loc H1 (fun a H2=>qg2 P C d hi loc H2 (fun b H3=>∃ l,seqL H3 x=some l/\l.length<=sizeLine/\qbs a/\qbs b/\Q (.ref H3.length) (H3++[.list (qag l a b)])) X) X) X) :
  EvOK P C d (.Subscript o (.Slice lo hi none p) pos) loc H Q X:=fun A E env ι s w e a=>by
 refine qh4 (T := "list") slot_list_getitem.lookup (gv (h A E env ι s w e a) (fun u s1 ι1 H1 x p1 r1 g=>?_))
 refine wpAny_Slice (wpAny_mono (qd9 g A E env ι1 s1 (w.step p1) (e.step w.hr p1) (a.step p1)) (fun v s2 g=>?_) fun _ _ x=>x)
 refine qi1 (g) fun ι2 H2 ka p₂ ip g=>?_
 have p12:=p1.trans p₂
 refine wpAny_mono (qd9 g A E env ι2 s2 (w.step p12) (e.step w.hr p12) (a.step p12)) (fun v' s3 g=>?_) fun _ _ x=>x
 refine qi1 (g) fun ι3 H3 kb p3 ip' qQ5=>?_
 clear g
 obtain ⟨l,hl,hsz,oa,ob,q⟩:=qQ5
 refine wpAny_pure ?_
 have p13:=p12.trans p3
 have rx:=p3.vr p₂.hr (p₂.vr p1.hr r1)
 refine qa6 (qbj p3.hr rx hl) fun ax vs eQ2 il rl=>?_
 subst eQ2
 have hk:∀ b o,s3.heap.get? b=some o->(s3.heap.push { cls:=.type "slice",data:=.fields #[v,v',.none] }).get? b=some o:=fun b o e=>Heap.get?_push_of_some _ e
 have p4:Post P.B ι3 s3 ι3 H3 { s3 with heap:=s3.heap.push { cls:=.type "slice",data:=.fields #[v,v',.none] } }:=Post.keep (t:=s3.toks) p3.hr hk
 refine ⟨(il.push _).typeIs,wpAny_getItem_list_slice (il.push _) (Heap.IsSliceOf.new ..) ip ip' .none (by simp) ?_ (by rw [List.size_toArray,rl.length];exact hsz)⟩
 have e1:slicePick vs.toArray ka kb none=(qag vs ka kb).toArray:=by
  rw [slicePick_plain,List.size_toArray,qov oa,qov ob];rfl
 rw [e1]
 have:=qbq (P:=P) (Q:=Q) p4.hr (VRs.slice (lo:=ka) (hi:=kb) (rl.kept hk (List.prefix_refl _))) q
 exact (this.before p4).before p13
theorem qsi {e:Expr}{pos:Pos}{Q:AV->Hp->Prop}(h:EvOK P C d e loc H (fun v H'=>∃ k,v=.int k/\Q (.int (-k)) H') X):EvOK P C d (.UnaryOp .USub e pos) loc H Q X:=fun A E env ι s w ev a=>by
 refine wpAny_UnaryOp (gv (h A E env ι s w ev a) (fun u s1 ι1 H1 av p1 r1 g=>?_))
 refine qad (g) fun k eQ1 q=>?_
 clear g
 subst eQ1
 refine qar (r1) fun t eQ1=>?_
 clear r1
 subst eQ1
 exact PySem.P.neg_int ((Gives.now _ p1.hr (VR.mkInt _ _) q).before p1)
theorem qxg {o st:Expr}{p pos:Pos}{Q:AV->Hp->Prop}(ht:∀ o' r,letTemporaryGo o o' r=pure ())
  (h:EvOK P C d o loc H (fun x H1=>EvOK P C d st loc H1 (fun m H2=>m=.int (-1)/\∃ l,seqL H2 x=some l/\l.length<=sizeLine/\Q (.ref H2.length) (H2++[.list l.reverse])) X) X) :
  EvOK P C d (.Subscript o (.Slice none none (some st) p) pos) loc H Q X:=fun A E env ι s w e a=>by
 refine wpAny_Subscript_Slice_step (T := "list") slot_list_getitem.lookup (gv (h A E env ι s w e a) (fun u s1 ι1 H1 x p1 r1 g=>?_)) ht
 refine wpAny_Slice ?_
 rw [evalPart_none,evalPart_some]
 refine wpAny_pure (wpAny_pure ?_)
 refine gv (g A E env ι1 s1 (w.step p1) (e.step w.hr p1) (a.step p1)) (fun v' s3 ι3 H3 m p3 rm g=>?_)
 refine qa4 (g) fun eQ0 qQ1=>?_
 clear g
 subst eQ0
 obtain ⟨l,hl,hsz,q⟩:=qQ1
 refine qar (rm) fun t eQ1=>?_
 clear rm
 subst eQ1
 have rx:=p3.vr p1.hr r1
 refine qa6 (qbj p3.hr rx hl) fun ax vs eQ2 il rl=>?_
 subst eQ2
 have hk:∀ b o,s3.heap.get? b=some o->(s3.heap.push { cls:=.type "slice",data:=.fields #[.none,.none,.int (-1) t] }).get? b=some o:=fun b o e=>Heap.get?_push_of_some _ e
 have p4:Post P.B ι3 s3 ι3 H3 { s3 with heap:=s3.heap.push { cls:=.type "slice",data:=.fields #[.none,.none,.int (-1) t] } }:=Post.keep (t:=s3.toks) p3.hr hk
 refine ⟨(il.push _).typeIs,wpAny_getItem_list_slice (il.push _) (Heap.IsSliceOf.new ..) .none .none (.int (-1) t) (by simp) ?_ (by rw [List.size_toArray,rl.length];exact hsz)⟩
 rw [W.krv_pick]
 have:=qbq (P:=P) (Q:=Q) p4.hr (VRs.reverse (rl.kept hk (List.prefix_refl _))) q
 exact (this.before p4).before (p1.trans p3)
theorem qi7 {eo ei:Expr}{o:AV}{l:List AV}{k:Int}{x:AV}{Q:AV->Hp->Prop}(ho:seqL H o=some l) (hn:l.length<2^62) (h0:k<0) (h1:0<=k+l.length) (hx:l[(k+l.length).toNat]?=some x) (h:Q x H):ql3 P d eo ei o (.int k) H Q:=op2 fun A E ι s u v w r1 r2=>by
 refine qa6 (qbj w.hr r1 ho) fun a vs eQ2 il rl=>?_
 subst eQ2
 refine qar (r2) fun t eQ1=>?_
 clear r2
 subst eQ1
 refine qad (rl.get hx) fun z hz rz=>?_
 refine qar (qbc ei (.ref a) (.int k t)) fun ops hops=>?_
 have e:(List.toArray vs).size=l.length:=by rw [List.size_toArray,rl.length]
 exact PyProof.Rows.tail_any il.typeIs slot_list_getitem.lookup (wpAny_getItem_list_neg il h0 (by rw [e];exact Int.add_nonneg_iff_neg_le.mp h1) (by exact z18 hn h1) (by rw [e];simpa using hz) (Gives.same w.hr rz h)) hops
abbrev qrv (P:PEnv) (d:Nat) (o k x:AV) (H:Hp) (Q:Hp->Prop):Prop :=
 ∀ A E ι s uo uk ux,W P.B A d ι H s->VR P.B s.heap ι o uo->VR P.B s.heap ι k uk->VR P.B s.heap ι x ux->wpAny (model P.prog P.w) A (setItem uo uk ux) (fun _ s'=>∃ ι' H',Post P.B ι s ι' H' s'/\Q H') E s
theorem qp4 {i:Nat}{l:List AV}{k:Int}{x:AV}{Q:Hp->Prop}(hi:H[i]?=some (.list l)) (hn:l.length<2^62) (h0:0<=k) (h1:k<l.length) (h:Q (H.set i (.list (l.set k.toNat x)))):qrv P d (.ref i) (.int k) x H Q:=fun A E ι s uo uk ux w r1 r2 r3=>by
 refine qad (r1) fun a eQ1 ea=>?_
 clear r1
 subst eQ1
 refine qar (r2) fun t eQ1=>?_
 clear r2
 subst eQ1
 refine qad (w.hr.list ea hi) fun vs qQ1 rl=>?_
 obtain ⟨n,pl⟩:=qQ1
 have hl:s.heap.IsList a vs.toArray:=⟨_,pl,rfl,n,rfl⟩
 have hlen:=rl.length
 unfold setItem
 try with_reducible refine wpAny_holding ?_
 first|refine wpAny_bind (wpAny_pure ?_)|skip
 refine wpAny_bind (wpAny_sequenceKey hl.typeIs (by decide) ?_)
 refine wpAny_bind (wpAny_callSpecial?_slot (name:=Str.ofString "__setitem__") hl.typeIs slot_list_setitem
  (wpAny_call_entry slot_list_setitem hl.typeIs entry_list_setitem ?_ (args_list_setitem _ _ _)))
 show wpAny _ _ (Builtin.List.listSubscript? (.int k t) >>= _) _ _ s
 refine wpAny_bind (wpAny_listSubscript_int (fitsIndex_of h0 (by exact z19 hn h1)) ?_)
 refine qar (Int.eq_ofNat_of_zero_le h0) fun j eQ1=>?_
 subst eQ1
 have hj:j<vs.toArray.size:=by rw [List.size_toArray];exact z20 hlen h1
 have hx':vs.toArray[j]?=some vs.toArray[j]:=Array.getElem?_eq_getElem hj
 show wpAny _ _ ((seqItemAt a j >>= fun r=>pure (r.map (j,·))) >>= _) _ _ s
 refine wpAny_bind (wpAny_bind (wpAny_seqItemAt pl rfl (wpAny_pure ?_)))
 rw [hx']
 show wpAny _ _ (setSeqItemAt a j ux >>= _) _ _ s
 refine wpAny_bind (wpAny_setSeqItemAt pl rfl ?_)
 refine qa4 (qb8 pl (·.setIfInBounds j ux)) fun p1 p2=>?_
 have ma:a∈ι:=yc ea
 have e1:vs.toArray.setIfInBounds j ux=(vs.set j ux).toArray:=by simp
 rw [e1] at p1
 have fin:∃ ι' H',Post P.B ι s ι' H' { s with heap:=s.heap.update a (Obj.mapSeq (·.setIfInBounds j ux)) }/\Q H' :=
  ⟨ι,_,Post.upd (t:=s.toks) w.hr ea p2 (o:=.list (l.set j x)) ⟨_,p1,w.hr.vrs_upd ma p2 (rl.set r3)⟩,h⟩
 first
  | exact wpAny_bind (wpAny_pure (wpAny_pure ⟨.none,rfl,wpAny_pure fin⟩))
  | exact wpAny_pure ⟨.none,rfl,wpAny_pure fin⟩
theorem qi8 {B h:Heap}{ι:List Addr}{k:Int}{x:AV}{v:Value}{l:List (Int×AV)}{kvs:List (Int×Value)}(hk:kvs.map (·.1)=l.map (·.1)) (hv:VRs B h ι (l.map (·.2)) (kvs.map (·.2))) (rx:VR B h ι x v) :
  (stored kvs k v).map (·.1)=(dset l k x).map (·.1)/\VRs B h ι ((dset l k x).map (·.2)) ((stored kvs k v).map (·.2)):=by
 have he:(kvs.any fun kv=>decide (kv.1=k))=l.any fun kv=>decide (kv.1=k):=by
  have e1:∀ (m:List Int),m.any (fun z=>decide (z=k))=m.any (fun z=>decide (z=k)):=fun _=>rfl
  have a1:(kvs.any fun kv=>decide (kv.1=k))=(kvs.map (·.1)).any fun z=>decide (z=k):=by rw [List.any_map];rfl
  have a2:(l.any fun kv=>decide (kv.1=k))=(l.map (·.1)).any fun z=>decide (z=k):=by rw [List.any_map];rfl
  rw [a1,a2,hk]
 unfold stored dset
 rw [he]
 split
 ·rename_i ht
  clear he ht
  induction l generalizing kvs with
  | nil =>
   have:kvs=[]:=by simpa using hk
   subst this;exact ⟨rfl,rfl⟩
  | cons y l ih =>
   cases kvs with
   | nil=>simp at hk
   | cons z kvs =>
    obtain ⟨k1,x1⟩:=y
    obtain ⟨k2,v2⟩:=z
    simp only [List.map_cons,List.cons.injEq] at hk
    refine qa4 (hk) fun eQ0 nQ=>?_
    clear hk
    revert nQ
    intro hk
    subst eQ0
    refine qa6 (hv) fun v' r' e1 rv rr=>?_
    clear hv
    simp only [List.map_cons,List.cons.injEq] at e1
    refine qa4 (e1) fun eQ0 eQ1=>?_
    clear e1
    subst eQ0
    subst eQ1
    refine qa4 (ih hk rr) fun i1 i2=>?_
    by_cases hkk:k2=k
    ·subst hkk
     simp only [List.map_cons,if_true,i1]
     exact ⟨trivial,VRs.cons rx i2⟩
    ·simp only [List.map_cons,hkk,if_false,i1]
     exact ⟨trivial,VRs.cons rv i2⟩
 ·simp only [List.map_append,hk,List.map_cons,List.map_nil]
  exact ⟨trivial,hv.append (VRs.cons rx rfl)⟩
theorem qp7 {i:Nat}{l:List (Int×AV)}{k:Int}{x:AV}{Q:Hp->Prop}(hi:H[i]?=some (.dict l)) (hn:l.length<=sizeLine) (h:Q (H.set i (.dict (dset l k x)))):qrv P d (.ref i) (.int k) x H Q:=fun A E ι s uo uk ux w r1 r2 r3=>by
 refine qad (r1) fun a eQ1 ea=>?_
 clear r1
 subst eQ1
 refine qar (r2) fun t eQ1=>?_
 clear r2
 subst eQ1
 refine qbi (w.hr.dict ea hi) fun kvs hd hk hv=>?_
 have ma:a∈ι:=yc ea
 have hlen:kvs.length=l.length:=by have:=congrArg List.length hk;simpa using this
 refine wpAny_setItem_pairs (knd:=intKind P.prog P.w) (k:=k) (by simp [intKind,Value.isInt]) hd (fun h' hd' sb=>?_) (by exact le_of_eq_of_le hlen hn)
 have p2:∀ b o,b≠a->s.heap.get? b=some o->h'.get? b=some o:=fun b o hb eb=>sb.extBut b o hb eb
 refine qa4 (qi8 (k:=k) hk hv r3) fun q1 q2=>?_
 exact ⟨ι,_,Post.upd (t:=s.toks+1) w.hr ea p2 (o:=.dict (dset l k x)) (OR.ofDict (qb0 w.hr ea hi) hd' q1 (w.hr.vrs_upd ma p2 q2)),h⟩
theorem qq6 {o i v:Expr}{p':Pos}{Q:MFlow->Loc->Hp->Prop}
  (h:EvOK P C d v loc H (fun x H1=>EvOK P C d o loc H1 (fun y H2=>EvOK P C d i loc H2 (fun z H3=>qrv P d y z x H3 (fun H4=>Q .next loc H4)) XF) XF) XF)
  (hs:∀ env,swapsWith v (some (.Subscript o i p')) pos.line env=pure false):ExOK P C d (.Assign [.Subscript o i p'] v pos) loc H Q:=fun A E env ι s w e=>by
 refine wpAny_Assign_Subscript (gv (h A E env ι s w e Acc.no) (fun u s1 ι1 H1 x p1 r1 g=>?_)) (hs env)
 refine gv (g A E env ι1 s1 (w.step p1) (e.step w.hr p1) Acc.no) (fun u' s2 ι2 H2 y p₂ r2 g=>?_)
 have p12:=p1.trans p₂
 refine gv (g A E env ι2 s2 (w.step p12) (e.step w.hr p12) Acc.no) (fun u'' s3 ι3 H3 z p3 r3 g=>?_)
 have p13:=p12.trans p3
 refine wpAny_mono (g A E ι3 s3 u' u'' u (w.step p13) (p3.vr p₂.hr r2) r3 (p3.vr p₂.hr (p₂.vr p1.hr r1))) (fun _ s4 g=>qjy g fun ι4 H4 p4 q=>?_) fun _ _ x=>x
 exact ⟨ι4,H4,loc,.next,(p13.trans p4).toS,e.step w.hr (p13.trans p4),rfl,q⟩
end Mine
namespace Mine
open PySem
variable {P:PEnv}{C:Ctx}{d:Nat}{loc:Loc}{H:Hp}{X:XP}
theorem qgn {M:Model}{l:Addr}{o:Obj}{nm:Str}{id:String}{pl:Sem Bool}{Q:Value×List Value->Shared->Prop}(ho:s.heap.get? l=some o) (hc:o.cls=.type "list") (hd:o.dict=none)
  (hl:typeLookup (.type "list") nm=pure (some (.builtin id))) (ht:typeOf (.builtin id)=pure (.type "method_descriptor"))
  (h:Q (.builtin id,[.ref l]) s):wpAny M A (getMethod (.ref l) nm pl) Q E s:=by
 have hT:s.TypeIs (.ref l) "list" := ⟨o,ho,hc⟩
 unfold getMethod
 refine wpAny_bind (wpAny_specialOf hT list_getattribute ?_)
 show wpAny M A (if (Manifest.canonical "list.__getattribute__" != "object.__getattribute__")=true then _ else _) Q E s
 rw [canon_list_getattribute,if_neg Bool.false_ne_true]
 refine wpAny_bind (wpAny_specialOf hT list_getattr_none ?_)
 refine wpAny_bind (wpAny_specialOf hT hl ?_)
 refine wpAny_bind (wpAny_of_eq ht ?_)
 refine wpAny_bind (wpAny_load ho ?_)
 rw [hd]
 exact wpAny_bind (wpAny_rule (wpAny_pure h))
theorem qcx {i:Nat}{l:List AV}{nm:Str}{id:String}(hi:H[i]?=some (.list l)) (hl:typeLookup (.type "list") nm=pure (some (.builtin id))) (ht:typeOf (.builtin id)=pure (.type "method_descriptor")):qk3 P (.ref i) H nm id:=fun A E ι s v pl Q hr r h=>by
 refine qad (r) fun a eQ1 ea=>?_
 clear r
 subst eQ1
 refine qad (hr.list ea hi) fun vs qQ1 _=>?_
 obtain ⟨n,e⟩:=qQ1
 exact qgn e rfl rfl hl ht h
theorem quh {i:Nat}{l:List (Int×AV)}{Q:AV->Hp->Prop}(ok:P.OK2) (hi:H[i]?=some (.dict l)) (hn:l.length<2^62) (h:Q (.int l.length) H):OpOK P d (fun vs=>call (.builtin "len") vs) [.ref i] H Q:=fn1 fun A E ι s u w r=>by
 refine qad (r) fun a eQ1 ea=>?_
 clear r
 subst eQ1
 refine qbi (w.hr.dict ea hi) fun kvs hd hk hv=>?_
 have hlen:kvs.length=l.length:=by have:=congrArg List.length hk;simpa using this
 refine call_len_dict (qb0 w.hr ea hi) hd (by exact z21 hn hlen) (Gives.now _ w.hr (av:=.int l.length) ?_ h)
 rw [hlen];exact VR.mkInt _ _
theorem quw {Q:AV->Hp->Prop}(ok:P.OK2) (h:Q (.ref H.length) (H++[.dict []])):EvOK P C d (.Dict [] [] pos) loc H Q X:=fun A E env ι s w e a=>by
 refine wpAny_Dict_empty ?_
 have hk:∀ b o,s.heap.get? b=some o->(s.heap.push { cls:=.type "dict",data:=.dict #[] }).get? b=some o:=fun b o e=>Heap.get?_push_of_some _ e
 refine ⟨_,_,.ref H.length,Post.alloc (t:=s.toks) w.hr hk (qbg _) (o:=.dict []) ⟨?_,List.nodup_nil,[],0,Heap.get?_push_size _ rfl,rfl⟩,?_,h⟩
 ·refine qjy (ok.low) fun b o hb hl=>?_
  have:=Heap.lt_size (w.hr.base b o hb)
  rw [beq_eq_false_iff_ne]
  intro e
  rw [e] at this
  exact Nat.lt_irrefl _ (Nat.lt_trans hl this)
 ·unfold VR
  exact ⟨_,rfl,by rw [←w.hr.len];simp⟩
theorem qux {l m r:Expr}{o1 o2:CmpOp}{pos:Pos}{Q:AV->Hp->Prop}
  (h:EvOK P C d l loc H (fun x H1=>EvOK P C d m loc H1 (fun y H2=>qbw P d o1 x y H2 (fun c H3=>∃ b,c=.bool b/\if b then EvOK P C d r loc H3 (fun z H4=>qbw P d o2 y z H4 Q) X else Q (.bool false) H3)) X) X)
  (hm:lastMarks [o1,o2] [m,r]=false) :
  EvOK P C d (.Compare l [o1,o2] [m,r] pos) loc H Q X:=fun A E env ι s w e a=>by
 refine PyProof.Rows.Compare_chain (gv (h A E env ι s w e a) (fun u s1 ι1 H1 x p1 r1 g=>?_)) hm
 refine PyProof.Rows.chain_link (gv (g A E env ι1 s1 (w.step p1) (e.step w.hr p1) (a.step p1)) (fun u' s2 ι2 H2 y p₂ r2 g=>?_))
 refine gv (g A E ι2 s2 [u,u'] ((w.step p1).step p₂) ⟨_,_,rfl,p₂.vr p1.hr r1,_,_,rfl,r2,rfl⟩) (fun c s3 ι3 H3 cv p3 r3 g=>?_)
 refine qad (g) fun b eQ1 nQ=>?_
 clear g
 revert nQ
 intro g
 subst eQ1
 have p13:=(p1.trans p₂).trans p3
 cases r3
 refine wpAny_truthy_bool ?_
 cases b with
 | false=>exact ⟨ι3,H3,.bool false,p13,VR.mkBool _,g⟩
 | true =>
  refine PyProof.Rows.chain_last (gv (g A E env ι3 s3 (w.step p13) (e.step w.hr p13) (a.step p13)) (fun u'' s4 ι4 H4 z p4 r4 g=>?_))
  exact wpAny_mono (g A E ι4 s4 [u',u''] (w.step (p13.trans p4)) ⟨_,_,rfl,p4.vr p3.hr (p3.vr p₂.hr r2),_,_,rfl,r4,rfl⟩) (fun _ _ g=>(g.before p4).before p13) fun _ _ x=>x
theorem qs3 {l m r:Expr}{o1 o2:CmpOp}{pos:Pos}{Q:Bool->Hp->Prop}
  (h:EvOK P C d l loc H (fun x H1=>EvOK P C d m loc H1 (fun y H2=>qbw P d o1 x y H2 (fun c H3=>∃ b,c=.bool b/\if b then EvOK P C d r loc H3 (fun z H4=>qbw P d o2 y z H4 (fun v H'=>∃ b,v=.bool b/\Q b H')) X else Q false H3)) X) X)
  (hm:lastMarks [o1,o2] [m,r]=false) :
  TsOK P C d (.Compare l [o1,o2] [m,r] pos) loc H Q X:=fun A E env ι s w e a=>by
 refine PyProof.Rows.isTrue_chain (gv (h A E env ι s w e a) (fun u s1 ι1 H1 x p1 r1 g=>?_)) hm
 refine PyProof.Rows.test_link (gv (g A E env ι1 s1 (w.step p1) (e.step w.hr p1) (a.step p1)) (fun u' s2 ι2 H2 y p₂ r2 g=>?_))
 refine gv (g A E ι2 s2 [u,u'] ((w.step p1).step p₂) ⟨_,_,rfl,p₂.vr p1.hr r1,_,_,rfl,r2,rfl⟩) (fun c s3 ι3 H3 cv p3 r3 g=>?_)
 refine qad (g) fun b eQ1 nQ=>?_
 clear g
 revert nQ
 intro g
 subst eQ1
 have p13:=(p1.trans p₂).trans p3
 cases r3
 refine wpAny_truthy_bool ?_
 cases b with
 | false=>exact ⟨ι3,H3,p13,g⟩
 | true =>
  refine PyProof.Rows.test_last (gv (g A E env ι3 s3 (w.step p13) (e.step w.hr p13) (a.step p13)) (fun u'' s4 ι4 H4 z p4 r4 g=>?_))
  exact wpAny_mono (g A E ι4 s4 [u',u''] (w.step (p13.trans p4)) ⟨_,_,rfl,p4.vr p3.hr (p3.vr p₂.hr r2),_,_,rfl,r4,rfl⟩) (fun _ _ g=>qf0 ((g.before p4).before p13)) fun _ _ x=>x
theorem qlu {elts:List Expr}{k:Nat}{tpos:Pos}{v:Expr}{pos:Pos}{is:List Nat}{Q:MFlow->Loc->Hp->Prop}(n:Names C elts is)
  (h:EvOK P C d v loc H (fun x H'=>∃ ws,x=.tup ws/\ws.length=is.length/\Q .next (qby (is.zip ws) loc) H') XF)
  (hs:∀ env,swapsWithSole [.Tuple elts k tpos] v pos.line env=pure false) (hw:∀ env,swappedStores [.Tuple elts k tpos] v env=pure none):ExOK P C d (.Assign [.Tuple elts k tpos] v pos) loc H Q:=fun A E env ι s w e=>by
 refine PyProof.Rows.Assign_Tuple (gv (h A E env ι s w e Acc.no) (fun u s1 ι1 H1 x p1 r1 g=>?_)) (hs env) (hw env)
 refine qbi (g) fun ws eQ1 hl q=>?_
 clear g
 subst eQ1
 refine wpAny_mono (qmg (P:=P) (k:=k) (pos:=tpos) (K:=fun l=>Q .next l H1) n hl q A E env ι1 H1 s1 u w.room.handled p1.hr (e.step w.hr p1) r1) (fun _ s2 g=>?_) fun _ _ x=>x
 obtain ⟨loc',ps,e',q⟩:=g
 exact ⟨ι1,H1,loc',.next,PostS.trans p1.toS ps e'.offOwn,e',rfl,q⟩
mutual
noncomputable def clean:AV->Bool
 | .ref _=>false
 | .tup l=>cleans l
 | .fro l=>cleans l
 | _=>true
noncomputable def cleans:List AV->Bool
 | []=>true
 | x::l=>clean x&&cleans l
end
mutual
theorem VR.clean {B h:Heap}{ι ι':List Addr}:∀ {x:AV}{v:Value},clean x=true->VR B h ι x v->VR B h ι' x v
 | .none,_,_,r=>r
 | .bool _,_,_,r=>r
 | .int _,_,_,r=>r
 | .str _,_,_,r=>r
 | .ref _,_,c,_=>by simp [Mine.clean] at c
 | .tup l,v,c,r=>by
  unfold VR at r ⊢
  refine qa6 (r) fun a vs e t q=>?_
  clear r
  exact ⟨a,vs,e,t,VRs.clean (by simpa [Mine.clean] using c) q⟩
 | .fro l,v,c,r=>by
  unfold VR at r ⊢
  refine qa6 (r) fun a vs e t q=>?_
  clear r
  exact ⟨a,vs,e,t,VRs.clean (by simpa [Mine.clean] using c) q⟩
theorem VRs.clean {B h:Heap}{ι ι':List Addr}:∀ {l:List AV}{vs:List Value},cleans l=true->VRs B h ι l vs->VRs B h ι' l vs
 | [],_,_,r=>r
 | x::l,vs,c,r=>by
  unfold VRs at r ⊢
  refine qa6 (r) fun v t e a b=>?_
  clear r
  simp only [cleans,Bool.and_eq_true] at c
  exact ⟨v,t,e,VR.clean c.1 a,VRs.clean c.2 b⟩
end
mutual
theorem VR.shrink {B h h':Heap}{ι ι':List Addr}(p:ι<+:ι'):∀ {x:AV}{v v':Value},VR B h ι x v->VR B h' ι' x v'->VR B h' ι x v'
 | .none,_,_,_,r=>r
 | .bool _,_,_,_,r=>r
 | .int _,_,_,_,r=>r
 | .str _,_,_,_,r=>r
 | .ref i,_,_,r,r'=>by
  unfold VR at r r' ⊢
  refine qad (r) fun a e g=>?_
  clear r
  refine qad (r') fun a' e' g'=>?_
  clear r'
  have ha:a=a':=by have:=qcw p g;rw [g'] at this;exact (yj this).symm
  subst ha
  exact ⟨a,e',g⟩
 | .tup l,_,_,r,r'=>by
  unfold VR at r r' ⊢
  refine qa6 (r) fun a vs e t q=>?_
  clear r
  refine qa6 (r') fun a' vs' e' t' q'=>?_
  clear r'
  exact ⟨a',vs',e',t',VRs.shrink p q q'⟩
 | .fro l,_,_,r,r'=>by
  unfold VR at r r' ⊢
  refine qa6 (r) fun a vs e t q=>?_
  clear r
  refine qa6 (r') fun a' vs' e' t' q'=>?_
  clear r'
  exact ⟨a',vs',e',t',VRs.shrink p q q'⟩
theorem VRs.shrink {B h h':Heap}{ι ι':List Addr}(p:ι<+:ι'):∀ {l:List AV}{vs vs':List Value},VRs B h ι l vs->VRs B h' ι' l vs'->VRs B h' ι l vs'
 | [],_,_,_,r=>r
 | x::l,_,_,r,r'=>by
  unfold VRs at r r' ⊢
  refine qa6 (r) fun v t e a b=>?_
  clear r
  refine qa6 (r') fun v' t' e' a' b'=>?_
  clear r'
  exact ⟨v',t',e',VR.shrink p a a',VRs.shrink p b b'⟩
end
theorem ERs.shrink {B h h':Heap}{ι ι':List Addr}(p:ι<+:ι'):∀ {l:List (Int×AV)}{es es':List DictEntry},ERs B h ι l es->ERs B h' ι' l es'->ERs B h' ι l es'
 | [],_,_,_,r=>r
 | (k,x)::l,_,_,r,r'=>by
  unfold ERs at r r' ⊢
  refine qi1 (r) fun t v es e a b=>?_
  clear r
  refine qi1 (r') fun t' v' es' e' a' b'=>?_
  clear r'
  exact ⟨t',v',es',e',VR.shrink p a a',ERs.shrink p b b'⟩
theorem OR.shrink {B h h':Heap}{ι ι':List Addr}(p:ι<+:ι'){a a':Addr}:∀ {o:AObj},OR B h ι a o->OR B h' ι' a' o->OR B h' ι a' o
 | .list l,r,r'=>by
  refine qad (r) fun vs _ q=>?_
  clear r
  refine qad (r') fun vs' pl q'=>?_
  clear r'
  exact ⟨vs',pl,VRs.shrink p q q'⟩
 | .dict l,r,r'=>by
  refine qfk (r) fun _ _ qQ2=>?_
  clear r
  obtain ⟨es,n,_,q⟩:=qQ2
  refine qfk (r') fun hm nd qQ2=>?_
  clear r'
  obtain ⟨es',n',e,q'⟩:=qQ2
  exact ⟨hm,nd,es',n',e,ERs.shrink p q q'⟩
theorem Post.shrink {B:Heap}{ι ι':List Addr}{s s':Shared}{H H':Hp}(hr:HR B ι H s.heap) (p:Post B ι s ι' H' s') (pre:H<+:H'):Post B ι s ι H s':=by
 refine ⟨List.prefix_refl _,⟨p.hr.base,hr.fresh,hr.nodup,hr.len,fun i o e=>?_⟩,p.kept,fun a m=>.inl m,p.same⟩
 refine qad (hr.objs i o e) fun a ea r=>?_
 refine qar (pre) fun t eQ1=>?_
 clear pre
 subst eQ1
 have e':(H++t)[i]?=some o:=by
  rw [List.getElem?_append_left (yl e).1];exact e
 refine qad (p.hr.objs i o e') fun a' ea' r'=>?_
 have ha:a=a':=by have:=qcw p.pre ea;rw [ea'] at this;exact (yj this).symm
 subst ha
 exact ⟨a,ea,OR.shrink p.pre r r'⟩
theorem quf {Q:AV->Hp->Prop}(hr:HR B ι H s.heap) (g:Gives B ι s (fun x H'=>H<+:H'/\Mine.clean x=true/\Q x H) v s'):Gives B ι s Q v s':=by
 obtain ⟨ι',H',av,p,r,pre,c,q⟩:=g
 exact ⟨ι,H,av,p.shrink hr pre,VR.clean c r,q⟩
theorem qhs {x:Str}{args:List AV}{Q:AV->Hp->Prop}(h:qa2 P d x args H (fun v H'=>H<+:H'/\Mine.clean v=true/\Q v H) X):qa2 P d x args H Q X :=
 fun A ι s vs fa R e w r hR hX=>h A ι s vs fa R e w r (fun v s' g=>hR v s' (quf w.hr g)) hX
end Mine
namespace Mine
open PySem PyProof.Rows
variable {P:PEnv}{C:Ctx}{d:Nat}{loc:Loc}{H:Hp}{X:XP}
theorem qzb {a:Int}(h:0<=a):(if a<0 then max (a+n) 0 else min a n)=((min a.toNat n:Nat):Int):=by
 rw [if_neg (Int.not_lt.mpr h)]
 refine qar (Int.eq_ofNat_of_zero_le h) fun m eQ1=>?_
 subst eQ1
 rw [Int.toNat_natCast]
 rcases Nat.le_total m n with q|q
 ·rw [Nat.min_eq_left q,Int.min_eq_left (Int.ofNat_le.mpr q)]
 ·rw [Nat.min_eq_right q,Int.min_eq_right (Int.ofNat_le.mpr q)]
theorem qxy (o:Option Int) (n:Nat) (dI:Int) (dN:Nat) (e:dI=dN) (h:qbs o):(match (generalizing:=false) o with|none=>dI|some v=>if v<0 then max (v+n) 0 else min v n)=((qbx n o dN:Nat):Int):=by
 cases o with
 | none=>exact e
 | some a=>exact qzb h
theorem qo3 (lo hi:Option Int) (n:Nat) (h1:qbs lo) (h2:qbs hi):Builtin.Slice.sliceAdjust lo hi 1 (n:Int)=(((qbx n lo 0:Nat):Int),((qbx n hi n:Nat):Int)):=by
 have k1:¬ ((1:Int)<0):=by decide
 unfold Builtin.Slice.sliceAdjust
 simp only [k1,if_false]
 rw [←qxy lo n 0 0 rfl h1,←qxy hi n n n rfl h2]
 cases lo<;>cases hi<;>rfl
theorem qna (a b:Nat):Builtin.Slice.slicePlaces (a:Int) (b:Int) 1=b-a:=by
 unfold Builtin.Slice.slicePlaces
 have h1:(1:Int)>0:=by exact Int.one_pos
 simp only [h1,if_true,Int.ediv_one]
 split<;>(first|lia|omega)
section
variable {prog:Program}{w:World}{A:Around}{E:Value->Shared->Prop}{s:Shared}
theorem qe7 {k:Option Int}{Q:Option Int->Shared->Prop}(p:IsPart v k) (h:Q k s):wpAny (model prog w) A (Builtin.Slice.slicePartIndex v) Q E s:=by
 cases p with
 | none=>exact slicePart_none h
 | int=>exact slicePart_int h
theorem qfo {sl:Addr}{vl vu:Value}{lo hi:Option Int}{Q:Int×Int×Nat->Shared->Prop}(hs:s.heap.IsSliceOf sl vl vu .none) (pl:IsPart vl lo) (pu:IsPart vu hi) (h1:qbs lo) (h2:qbs hi)
  (h:Q (((qbx n lo 0:Nat):Int),1,qbx n hi n-qbx n lo 0) s) :
  wpAny (model prog w) A (Builtin.Slice.sliceApplied (.ref sl) (pure (n:Int))) Q E s:=by
 refine qbi (id hs) fun os hos hcs hds=>?_
 unfold Builtin.Slice.sliceApplied Builtin.Slice.sliceFields
 refine wpAny_bind (wpAny_bind (wpAny_field hos hds (x:=vl) rfl (wpAny_bind (wpAny_field hos hds (x:=vu) rfl (wpAny_bind (wpAny_field hos hds (x:=.none) rfl (wpAny_pure ?_)))))))
 refine wpAny_bind (slicePart_none ?_)
 show wpAny _ _ (if ((1:Int) == 0)=true then _ else _) _ _ s
 rw [if_neg (by decide)]
 refine wpAny_bind (qe7 pl (wpAny_bind (qe7 pu (wpAny_bind (wpAny_pure ?_)))))
 show wpAny _ _ (match Builtin.Slice.sliceAdjust lo hi 1 (n:Int) with|(lo,hi)=>pure (lo,(1:Int),Builtin.Slice.slicePlaces lo hi 1)) _ _ s
 rw [qo3 lo hi n h1 h2]
 show wpAny _ _ (pure (((qbx n lo 0:Nat):Int),(1:Int),Builtin.Slice.slicePlaces ((qbx n lo 0:Nat):Int) ((qbx n hi n:Nat):Int) 1)) _ _ s
 rw [qna]
 exact wpAny_pure h
theorem qto (xs:Array Value) (a m:Nat):((List.range m).filterMap fun (k:Nat)=>xs[((a:Int)+(k:Int)*1).toNat]?).toArray=((xs.toList.drop a).take m).toArray:=by
 have e:(fun (k:Nat)=>xs[((a:Int)+(k:Int)*1).toNat]?)=fun k=>xs[a+k]?:=by
  funext k
  have:((a:Int)+(k:Int)*1).toNat=a+k:=by exact z22
  rw [this]
 rw [e]
 have:=pick_run xs a m
 rw [List.filterMap_map] at this
 have e2:((fun x=>xs[x]?)∘fun x=>a+x)=fun k=>xs[a+k]?:=rfl
 rw [e2] at this
 rw [this]
theorem qfe {t sl:Addr}{vs:List Value}{o:Obj}{n:Nat}{vl vu:Value}{lo hi:Option Int}{Q:Value->Shared->Prop}(ho:s.heap.get? t=some o) (hc:o.cls=.type "tuple") (hd:o.data=.seq vs.toArray n) (hs:s.heap.IsSliceOf sl vl vu .none) (pl:IsPart vl lo) (pu:IsPart vu hi) (h1:qbs lo) (h2:qbs hi)
  (hw:qag vs lo hi=vs->Q (.ref t) s)
  (h:Q (.ref s.heap.objs.size) { s with heap:=s.heap.push { cls:=.type "tuple",data:=.seq (qag vs lo hi).toArray } })
  (hsz:vs.length<=sizeLine):wpAny (model prog w) A (getItem (.ref t) (.ref sl)) Q E s:=by
 have ht:s.TypeIs (.ref t) "tuple" := ⟨o,ho,hc⟩
 have hdrop:sizeOk (.seq (qag vs lo hi).toArray):=by
  show (qag vs lo hi).toArray.size<=sizeLine
  unfold qag
  rw [List.size_toArray,List.length_take,List.length_drop]
  exact z23 hsz
 refine qbi (id hs) fun os hos hcs hds=>?_
 have hTs:s.TypeIs (.ref sl) "slice" := ⟨os,hos,hcs⟩
 unfold getItem
 try with_reducible refine wpAny_holding ?_
 first|refine wpAny_bind (wpAny_pure ?_)|skip
 refine wpAny_bind (wpAny_sequenceKey ht (by decide) ?_)
 refine wpAny_bind (wpAny_callSpecial?_slot (name:=Str.ofString "__getitem__") ht slot_tuple_getitem
  (wpAny_call_entry slot_tuple_getitem ht entry_tuple_getitem ?_ (args_tuple_getitem _ _)))
 show wpAny _ _ (Builtin.Tuple.tupleItemsOf (.ref t) >>= _) _ _ s
 refine wpAny_bind (tupleItemsOf_ ⟨o,ho,hc,n,hd⟩ ?_)
 refine wpAny_bind (wpAny_typeOf hTs ?_)
 rw [if_pos (by decide)]
 have hn:((vs.toArray.size:Nat):Int)=(vs.length:Int):=by rw [List.size_toArray]
 refine wpAny_bind (qfo (n:=vs.toArray.size) hs pl pu h1 h2 ?_)
 rw [List.size_toArray]
 show wpAny _ _ (if (((qbx vs.length lo 0:Nat):Int) == 0&&(1:Int) == 1&&(qbx vs.length hi vs.length-qbx vs.length lo 0) == vs.length)=true then _ else _) _ _ s
 by_cases hcw:(((qbx vs.length lo 0:Nat):Int) == 0&&(1:Int) == 1&&(qbx vs.length hi vs.length-qbx vs.length lo 0) == vs.length)=true
 ·rw [if_pos hcw]
  refine wpAny_bind (m:=Builtin.Tuple.tupleIsExact _) (wpAny_bind (wpAny_typeOf ht (wpAny_pure ?_)))
  rw [if_pos (by decide)]
  refine wpAny_bind (wpAny_rule ?_)
  refine wpAny_pure ⟨_,rfl,wpAny_pure (hw ?_)⟩
  simp only [Bool.and_eq_true,beq_iff_eq] at hcw
  refine qa4 (hcw) fun qQ0 e2=>?_
  clear hcw
  obtain ⟨e1,_⟩:=qQ0
  unfold qag
  rw [e2,show qbx vs.length lo 0=0 by exact Int.ofNat_eq_zero.mp e1];simp
 ·rw [if_neg hcw,qto]
  exact wpAny_bind (m:=Builtin.Tuple.tupleExact _) (wpAny_newObj_type (wpAny_pure ⟨_,rfl,wpAny_pure h⟩) hdrop)
end
theorem qog {o:Expr}{lo hi:Option Expr}{p pos:Pos}{Q:AV->Hp->Prop}
  (h:EvOK P C d o loc H (fun x H1=>qg2 P C d lo loc H1 (fun a H2=>qg2 P C d hi loc H2 (fun b H3=>∃ l,x=.tup l/\l.length<=sizeLine/\qbs a/\qbs b/\Q (.tup (qag l a b)) H3) X) X) X) :
  EvOK P C d (.Subscript o (.Slice lo hi none p) pos) loc H Q X:=fun A E env ι s w e a=>by
 refine qh4 (T := "tuple") slot_tuple_getitem.lookup (gv (h A E env ι s w e a) (fun u s1 ι1 H1 x p1 r1 g=>?_))
 refine wpAny_Slice (wpAny_mono (qd9 g A E env ι1 s1 (w.step p1) (e.step w.hr p1) (a.step p1)) (fun v s2 g=>?_) fun _ _ x=>x)
 refine qi1 (g) fun ι2 H2 ka p₂ ip g=>?_
 have p12:=p1.trans p₂
 refine wpAny_mono (qd9 g A E env ι2 s2 (w.step p12) (e.step w.hr p12) (a.step p12)) (fun v' s3 g=>?_) fun _ _ x=>x
 refine qi1 (g) fun ι3 H3 kb p3 ip' qQ5=>?_
 clear g
 obtain ⟨l,rfl,hsz,oa,ob,q⟩:=qQ5
 refine wpAny_pure ?_
 have p13:=p12.trans p3
 have rx:=p3.vr p₂.hr (p₂.vr p1.hr r1)
 have hk:∀ b o,s3.heap.get? b=some o->(s3.heap.push { cls:=.type "slice",data:=.fields #[v,v',.none] }).get? b=some o:=fun b o e=>Heap.get?_push_of_some _ e
 have p4:Post P.B ι3 s3 ι3 H3 { s3 with heap:=s3.heap.push { cls:=.type "slice",data:=.fields #[v,v',.none] } }:=Post.keep (t:=s3.toks) p3.hr hk
 have rx':=rx
 unfold VR at rx
 refine qa6 (rx) fun ta vs eQ2 qQ3 rl=>?_
 clear rx
 subst eQ2
 obtain ⟨n,dc,sl,e⟩:=qQ3
 have e':=hk _ _ e
 refine ⟨⟨_,e',rfl⟩,qfe e' rfl rfl (Heap.IsSliceOf.new ..) ip ip' oa ob (fun hw=>?_) ?_ (by rw [rl.length];exact hsz)⟩
 ·have hw':qag l ka kb=l:=by
   have hlen:vs.length=l.length:=rl.length
   have e1:(qag l ka kb).length=l.length:=by
    have e2:=congrArg List.length hw
    unfold qag at e2 ⊢
    simp only [List.length_take,List.length_drop,hlen] at e2 ⊢
    exact e2
   exact (List.take_sublist _ _ |>.trans (List.drop_sublist _ _)).eq_of_length e1
  rw [hw'] at q
  exact ((Gives.now _ p4.hr (p4.vr p3.hr rx') q).before p4).before p13
 ·have:=qb6 (P:=P) (Q:=Q) p4.hr (VRs.slice (lo:=ka) (hi:=kb) (rl.kept hk (List.prefix_refl _))) q
  exact (this.before p4).before p13
end Mine
namespace Mine
open PySem PyProof.Rows PySem.W
variable {P:PEnv}{C:Ctx}{d:Nat}{loc:Loc}{H:Hp}{X:XP}
theorem VRs.toInts {B h:Heap}{ι:List Addr}:∀ {ns:List Int}{vs:List Value},VRs B h ι (ns.map .int) vs->IntsAre vs ns
 | [],_,r=>by cases (show _=[] from r);exact .nil
 | n::ns,_,r=>by
  refine qa6 (r) fun v r' eQ2 hv ht=>?_
  clear r
  subst eQ2
  refine qar (hv) fun t eQ1=>?_
  clear hv
  subst eQ1
  exact .cons n t (VRs.toInts ht)
theorem VRs.ofInts {B h:Heap}{ι:List Addr}:∀ {vs:List Value}{ns:List Int},IntsAre vs ns->VRs B h ι (ns.map .int) vs
 | _,_,.nil=>rfl
 | _,_,.cons n t r=>⟨_,_,rfl,VR.mkInt _ _,VRs.ofInts r⟩
theorem qls {x:AV}{ns:List Int}{Q:AV->Hp->Prop}(hx:seqL H x=some (ns.map .int)) (h64:ns.length<64)
  (q:∀ ms:List Int,ms.Perm ns->ms.Pairwise (·<=·)->Q (.ref H.length) (H++[.list (ms.map .int)])):OpOK P d (fun vs=>call (.builtin "sorted") vs) [x] H Q:=fn1 fun A E ι s u w r=>by
 refine qa6 (qbj w.hr r hx) fun a vs eQ2 il rl=>?_
 subst eQ2
 refine sorted_ints il rl.toInts (by rw [rl.length,ya];exact h64) fun out ms h1 h2 h3=>?_
 have hk:∀ b o,s.heap.get? b=some o->(sortedAll s.heap vs out).get? b=some o:=fun b o e=>sortedAll_old e
 refine qar (sortedAll_at s.heap vs out) fun e he=>?_
 have hn:s.heap.get? (s.heap.objs.size+1)=none:=by
  cases e:s.heap.get? (s.heap.objs.size+1) with
  | none=>rfl
  | some o=>have h1:s.heap.objs.size+1<s.heap.objs.size:=Heap.lt_size e;(first|lia|omega)
 refine ⟨_,_,.ref H.length,Post.alloc (t:=s.toks) w.hr hk hn (o:=.list (ms.map .int)) ⟨out.toList,⟨e,by simpa using he⟩,VRs.ofInts h1⟩,?_,q ms h2 h3⟩
 unfold VR
 exact ⟨_,rfl,by rw [←w.hr.len];simp⟩
theorem qkj {prog:Program}{w:World}:∀ (as:List Value) (ks:List (Int×Value)),as.length=ks.length->(∀ (j:Nat) (v:Value),as[j]?=some v->∃ k x,ks[j]?=some (k,x)/\(intKind prog w).is k v=true)->IntsAre as (ks.map (·.1)):=by
 intro as
 induction as with
 | nil=>intro ks h1 _;have:ks=[]:=List.length_eq_zero_iff.mp h1.symm;subst this;exact .nil
 | cons v as ih =>
  intro ks h1 h2
  cases ks with
  | nil=>simp at h1
  | cons p ks =>
   refine qjy (h2 0 v rfl) fun k x e hk=>?_
   simp only [List.getElem?_cons_zero,Option.some.injEq] at e
   refine qar (Value.isInt_shape hk) fun t eQ1=>?_
   subst eQ1
   subst e
   exact .cons k t (ih ks (by simpa using h1) fun j v hv=>h2 (j+1) v (by simpa using hv))
theorem qlt {i:Nat}{l:List (Int×AV)}{Q:AV->Hp->Prop}(hi:H[i]?=some (.dict l)) (h64:l.length<64)
  (q:∀ ms:List Int,ms.Perm (l.map (·.1))->ms.Pairwise (·<=·)->Q (.ref H.length) (H++[.list (ms.map .int)])):OpOK P d (fun vs=>call (.builtin "sorted") vs) [.ref i] H Q:=fn1 fun A E ι s u w r=>by
 unfold VR at r
 refine qad (r) fun a eQ1 ha=>?_
 clear r
 subst eQ1
 refine qbi (w.hr.dict ha hi) fun kvs hD hk1 hv1=>?_
 have lo:(a == sysModules)=false:=by
  refine qbi (w.hr.objs i _ hi) fun a' e' h1 _=>?_
  rw [ha] at e';cases e';exact h1
 refine qar (hD.dictAt) fun ep hat=>?_
 have hlen:kvs.length=l.length:=by have:=congrArg List.length hk1;simpa using this
 refine Calls.call_function_entry kind_sorted plain_sorted entry_sorted (args_sorted1 _) ?_
 unfold Builtin.«sorted»
 refine wpAny_bind (m:=checkCount "sorted" 1 1 _) (wpAny_pure ?_)
 refine wpAny_bind (kdu_collect (A:=A.in1) (kdl_dict (knd:=intKind P.prog P.w) (kvs:=kvs) (ep:=ep) lo) w.room.handled hat (by unfold sizeLine;exact z24 h64 hlen) fun h' tk acc hk hacc=>?_)
 have hl:acc.toList.length=l.length:=by rw [Array.length_toList];exact hacc.1.trans hlen
 have hI:IntsAre acc.toList (l.map (·.1)):=by
  rw [←hk1]
  exact qkj _ _ (by rw [hl,hlen]) fun j v e=>hacc.2 j v (by rw [←Array.getElem?_toList];exact e)
 refine wpAny_bind (wpAny_newList ?_ (by rw [hl];unfold sizeLine;exact z25 h64))
 have hoL:(h'.push { cls:=.type "list",data:=.seq acc.toList.toArray }).get? h'.objs.size=some (seqObj "list" acc.toList.toArray 0):=Heap.get?_push_size _ rfl
 refine wpAny_bind (wpAny_holding (wpAny_call_entry slot_list_sort ⟨_,hoL,rfl⟩ entry_list_sort (list_sort_tree hoL hI (by rw [hl];exact h64) fun out ms h1 h2 h3=>⟨_,rfl,?_⟩) (args_list_sort _)))
 refine wpAny_pure ⟨_,rfl,?_⟩
 have hlt:∀ b o,s.heap.get? b=some o->b<h'.objs.size:=fun b o e=>Heap.lt_size (hk b o e)
 have hk2:∀ b o,s.heap.get? b=some o->(sortedHeap (h'.push { cls:=.type "list",data:=.seq acc.toList.toArray }) h'.objs.size acc.toList out).get? b=some o:=fun b o e=>by
  rw [sortedHeap_old (Nat.ne_of_lt (hlt b o e)) (by rw [Heap.size_push];exact Nat.lt_succ_of_lt (hlt b o e))]
  exact Heap.get?_push_of_some _ (hk b o e)
 refine qar (sortedHeap_at (out:=out) hoL) fun e he=>?_
 have hn:s.heap.get? h'.objs.size=none:=by
  cases e:s.heap.get? h'.objs.size with
  | none=>rfl
  | some o=>exact absurd (hlt _ _ e) (Nat.lt_irrefl _)
 refine ⟨_,_,.ref H.length,Post.alloc (t:=tk) w.hr hk2 hn (o:=.list (ms.map .int)) ⟨out.toList,⟨e,by simpa using he⟩,VRs.ofInts h1⟩,?_,q ms h2 h3⟩
 unfold VR
 exact ⟨_,rfl,by rw [←w.hr.len];simp⟩
theorem qq0 {i:Nat}{l:List (Int×AV)}{Q:AV->Hp->Prop}(hi:H[i]?=some (.dict l)) (hn:l.length<=sizeLine)
  (q:Q (.ref H.length) (H++[.list ((l.map (·.1)).map .int)])):OpOK P d (fun vs=>call (.type "list") vs) [.ref i] H Q:=fn1 fun A E ι s u w r=>by
 unfold VR at r
 refine qad (r) fun a eQ1 ha=>?_
 clear r
 subst eQ1
 refine qbi (w.hr.dict ha hi) fun kvs hD hk1 hv1=>?_
 have lo:(a == sysModules)=false:=by
  refine qbi (w.hr.objs i _ hi) fun a' e' h1 _=>?_
  rw [ha] at e';cases e';exact h1
 refine qar (hD.dictAt) fun ep hat=>?_
 have hlen:kvs.length=l.length:=by have:=congrArg List.length hk1;simpa using this
 refine kdl_call (kdl_dict (knd:=intKind P.prog P.w) (kvs:=kvs) (ep:=ep) lo) w.room.handled hat (by rw [hlen];exact hn) fun h' tk acc c hk hS hacc=>?_
 have hI:=qkj (prog:=P.prog) (w:=P.w) acc.toList kvs (by rw [Array.length_toList];exact hacc.1) fun j v e=>hacc.2 j v (by rw [←Array.getElem?_toList];exact e)
 rw [hk1] at hI
 refine ⟨_,_,.ref H.length,Post.alloc (t:=tk) w.hr hk (qbg _) (o:=.list ((l.map (·.1)).map .int)) ⟨acc.toList,⟨c,by simpa using hS⟩,VRs.ofInts hI⟩,?_,q⟩
 unfold VR
 exact ⟨_,rfl,by rw [←w.hr.len];simp⟩
end Mine
namespace Mine
open PySem
open AutoSeq1 (wpAny_loadPart')
section
variable {prog:Program}{w:World}{A:Around}{E:Value->Shared->Prop}{s:Shared}
theorem qll {it t:Addr}{i:Nat}{items:Array Value}{x:Value}{Q:Value->Shared->Prop}(hit:s.heap.IsTupleIter it t i) (ht:s.heap.IsTuple t items) (hx:items[i]?=some x)
  (hQ:∀ h',h'.IsTupleIter it t (i+1)->Heap.SameBut it s.heap h'->Q x { s with heap:=h' }):wpAny (model prog w) A (Builtin.SmallTypes.nextOf (.ref it)) Q E s:=by
 refine qbi (id hit) fun o ho hc hd=>?_
 refine qbi (ht) fun ot hot _ qQ3=>?_
 clear ht
 obtain ⟨n,hdt⟩:=qQ3
 unfold Builtin.SmallTypes.nextOf
 refine wpAny_bind (wpAny_callSpecial?_slot (name:=Str.ofString "__next__") hit.typeIs F.slot_tuple_iterator_next (wpAny_call_entry F.slot_tuple_iterator_next hit.typeIs F.entry_tuple_iterator_next ?_ (F.args_tuple_iterator_next_1 _)))
 show wpAny _ _ (field (.ref it) 0 >>= _) _ _ s
 refine wpAny_bind (wpAny_field ho hd (x:=.ref t) rfl ?_)
 show wpAny _ _ (if (Value.ref t == Value.none)=true then _ else _) _ _ s
 rw [if_neg (show ¬ ((Value.ref t == Value.none)=true) from Bool.false_ne_true)]
 show wpAny _ _ (field (.ref it) 1 >>= _) _ _ s
 refine wpAny_bind (wpAny_field ho hd (x:=.int i 0) rfl ?_)
 show wpAny _ _ (seqItems? (.ref t) >>= _) _ _ s
 refine wpAny_bind (wpAny_seqItems hot hdt ?_)
 simp only [Int.toNat_natCast,hx]
 refine wpAny_bind (wpAny_setField ho hd (by simp) (wpAny_pure ⟨x,rfl,wpAny_pure (hQ _ ?_ (Heap.SameBut.update ..))⟩))
 refine ⟨_,Heap.get?_update_self _ ho (Obj.isFreed_of_fields (Obj.data_mapFields hd _)),(Obj.cls_mapFields ..).trans hc,?_⟩
 rw [Obj.data_mapFields hd];simp [rawInt]
theorem qgk {it t:Addr}{i:Nat}{items:Array Value}{Q:Value->Shared->Prop}(hh:A.handled=none) (hit:s.heap.IsTupleIter it t i) (ht:s.heap.IsTuple t items) (hx:items[i]?=none)
  (hE:∀ h' e,Heap.ExtBut it s.heap h'->(∃ o,h'.get? e=some o/\o.cls=.type "StopIteration")->E (.ref e) { s with heap:=h' }):wpAny (model prog w) A (Builtin.SmallTypes.nextOf (.ref it)) Q E s:=by
 refine qbi (id hit) fun o ho hc hd=>?_
 refine qbi (ht) fun ot hot _ qQ3=>?_
 clear ht
 obtain ⟨n,hdt⟩:=qQ3
 unfold Builtin.SmallTypes.nextOf
 refine wpAny_bind (wpAny_callSpecial?_slot (name:=Str.ofString "__next__") hit.typeIs F.slot_tuple_iterator_next (wpAny_call_entry F.slot_tuple_iterator_next hit.typeIs F.entry_tuple_iterator_next ?_ (F.args_tuple_iterator_next_1 _)))
 show wpAny _ _ (field (.ref it) 0 >>= _) _ _ s
 refine wpAny_bind (wpAny_field ho hd (x:=.ref t) rfl ?_)
 show wpAny _ _ (if (Value.ref t == Value.none)=true then _ else _) _ _ s
 rw [if_neg (show ¬ ((Value.ref t == Value.none)=true) from Bool.false_ne_true)]
 show wpAny _ _ (field (.ref it) 1 >>= _) _ _ s
 refine wpAny_bind (wpAny_field ho hd (x:=.int i 0) rfl ?_)
 show wpAny _ _ (seqItems? (.ref t) >>= _) _ _ s
 refine wpAny_bind (wpAny_seqItems hot hdt ?_)
 simp only [Int.toNat_natCast,hx]
 refine wpAny_bind (wpAny_rule (wpAny_bind (wpAny_setField ho hd (by simp) ?_)))
 show wpAny _ _ (newExc (.type "StopIteration") [] >>= _) _ _ _
 refine wpAny_bind ?_
 simp only [newExc,newTuple]
 refine wpAny_bind (wpAny_newObj_type ?_ (by size_fits))
 refine wpAny_bind (m:=firstArgMember _ _) (wpAny_of_eq (a:=Value.none) (by first|rfl|(simp only [firstArgMember];rfl)) ?_)
 refine wpAny_newObj_type ?_ (by size_fits)
 simp only [raiseNew]
 refine wpAny_bind (wpAny_handled ?_)
 first|rw [show A.in1.handled=none from hh]|rw [hh]
 refine wpAny_bind (wpAny_pure (wpAny_throw ?_))
 exact hE _ _ (((Heap.SameBut.update ..).extBut.push _).push _) ⟨_,Heap.get?_push_size _ rfl,rfl⟩
theorem qoj {e it:Addr}{x old:Value}{R:Heap->Prop}{Q:Option Value->Shared->Prop}(he:IsEnum s.heap e it i old) (hne:e≠it)
  (hR:∀ h h',R h->(∀ o,h.get? it=some o->h'.get? it=some o)->R h')
  (hn:∀ A' E' (Q':Value->Shared->Prop),(∀ h₁,R h₁->Heap.SameBut it s.heap h₁->Q' x { s with heap:=h₁ })->wpAny (model prog w) A' (Builtin.SmallTypes.nextOf (.ref it)) Q' E' s)
  (hQ:∀ h',IsEnumOut h' e it ((i:Int)+1) x s.heap.objs.size->R h'->h'.get? s.heap.objs.size=some { cls:=.type "tuple",data:=.seq #[.int i s.toks,x] } ->
   (∀ b o,b≠e->b≠it->s.heap.get? b=some o->h'.get? b=some o)->Q (some (.ref s.heap.objs.size)) { s with heap:=h',toks:=s.toks+1 }):wpAny (model prog w) A (pyNext (.ref e)) Q E s:=by
 have hT:s.TypeIs (.ref e) "enumerate" := ⟨_,he,rfl⟩
 unfold pyNext
 refine wpAny_bind (wpAny_attempt (wpAny_callSpecial?_slot (name:=Str.ofString "__next__") hT F.slot_enumerate_next (wpAny_call_entry F.slot_enumerate_next hT F.entry_enumerate_next ?_ (F.args_enumerate_next_1 _))))
 obtain ⟨hp,g,d,tk,os⟩:=s
 have hel:e<hp.objs.size:=Heap.lt_size he
 show wpAny _ _ (field (.ref e) 2 >>= _) _ _ _
 refine wpAny_bind (wpAny_field he rfl (x:=.ref it) rfl ?_)
 refine wpAny_bind (hn _ _ _ fun h₁ r1 b1=>?_)
 have e1:IsEnum h₁ e it i old:=(b1.2 e hne).trans he
 show wpAny _ _ (field (.ref e) 3 >>= _) _ _ ⟨h₁,g,d,tk,os⟩
 refine wpAny_bind (wpAny_field e1 rfl (x:=rawInt i) rfl ?_)
 show wpAny _ _ (field (.ref e) 4 >>= _) _ _ ⟨h₁,g,d,tk,os⟩
 refine wpAny_bind (wpAny_field e1 rfl (x:=.none) rfl ?_)
 show wpAny _ _ (mkInt i >>= _) _ _ ⟨h₁,g,d,tk,os⟩
 refine wpAny_bind (wpAny_mkInt ?_)
 show wpAny _ _ (setField (.ref e) 3 (rawInt ((i:Int)+1)) >>= _) _ _ ⟨h₁,g,d,tk+1,os⟩
 refine wpAny_bind (wpAny_setField_rec e1 (by simp) fun h₂ e2 b2=>?_)
 replace b2:Heap.SameBut e h₁ h₂:=b2
 replace e2:IsEnum h₂ e it ((i:Int)+1) old:=e2
 show wpAny _ _ (setField (.ref e) 4 .none >>= _) _ _ ⟨h₂,g,d,tk+1,os⟩
 refine wpAny_bind (wpAny_setField_rec e2 (by simp) fun h3 e3 b3=>?_)
 replace b3:Heap.SameBut e h₂ h3:=b3
 replace e3:IsEnum h3 e it ((i:Int)+1) old:=e3
 show wpAny _ _ (newTuple [.int i tk,x] >>= _) _ _ ⟨h3,g,d,tk+1,os⟩
 refine wpAny_bind (wpAny_newTuple ?_)
 have sz:h3.objs.size=hp.objs.size:=b3.1.trans (b2.1.trans b1.1)
 generalize hh:h3.push { cls:=.type "tuple",data:=.seq #[.int i tk,x] }=h4
 have e4:IsEnum h4 e it ((i:Int)+1) old:=hh▸Heap.get?_push_of_some _ e3
 have t4:h4.get? hp.objs.size=some { cls:=.type "tuple",data:=.seq #[.int i tk,x] }:=by rw [←hh,←sz];exact Heap.get?_push_size _ rfl
 have k4:∀ b o,b≠e->b≠it->hp.get? b=some o->h4.get? b=some o:=fun b o n1 n2 hb=>by
  rw [←hh];exact Heap.get?_push_of_some _ (b3.extBut b o n1 (b2.extBut b o n1 (b1.extBut b o n2 hb)))
 have i4:∀ o,h₁.get? it=some o->h4.get? it=some o:=fun o ho=>by
  rw [←hh];exact Heap.get?_push_of_some _ (b3.extBut it o (Ne.symm hne) (b2.extBut it o (Ne.symm hne) ho))
 show wpAny _ _ (Builtin.SmallTypes.ownedTupleIsFree (.ref e) >>= _) _ _ ⟨h4,g,d,tk+1,os⟩
 rw [sz]
 refine wpAny_bind ?_
 unfold Builtin.SmallTypes.ownedTupleIsFree
 refine wpAny_bind (wpAny_field e4 rfl (x:=.none) rfl (wpAny_pure ?_))
 simp only [if_true]
 refine wpAny_bind (wpAny_rule ?_)
 refine wpAny_bind (wpAny_field e4 rfl (x:=old) rfl ?_)
 refine wpAny_bind (wpAny_setField_rec e4 (by simp) fun h5 e5 b5=>?_)
 replace b5:Heap.SameBut e h4 h5:=b5
 replace e5:IsEnum h5 e it ((i:Int)+1) x:=e5
 show wpAny _ _ (Builtin.SmallTypes.ownedTupleHandOut (.ref e) (.ref hp.objs.size) >>= _) _ _ ⟨h5,g,d,tk+1,os⟩
 refine wpAny_bind ?_
 unfold Builtin.SmallTypes.ownedTupleHandOut
 refine wpAny_bind (wpAny_setField_rec e5 (by simp) fun h6 e6 b6=>?_)
 replace b6:Heap.SameBut e h5 h6:=b6
 replace e6:IsEnumOut h6 e it ((i:Int)+1) x hp.objs.size:=e6
 refine wpAny_setField_rec e6 (by simp) fun h7 e7 b7=>?_
 replace b7:Heap.SameBut e h6 h7:=b7
 replace e7:IsEnumOut h7 e it ((i:Int)+1) x hp.objs.size:=e7
 have up:∀ b o,b≠e->h4.get? b=some o->h7.get? b=some o:=fun b o n hb=>b7.extBut b o n (b6.extBut b o n (b5.extBut b o n hb))
 refine wpAny_bind (wpAny_letGo (wpAny_pure ⟨_,rfl,?_⟩))
 refine wpAny_pure (hQ h7 e7 ?_ ?_ ?_)
 ·exact hR h₁ h7 r1 fun o ho=>up it o (Ne.symm hne) (i4 o ho)
 ·exact up _ _ (Nat.ne_of_gt hel) t4
 ·exact fun b o n1 n2 hb=>up b o n1 (k4 b o n1 n2 hb)
theorem qrb {e it:Addr}{i:Int}{old:Value}{Q:Option Value->Shared->Prop}(hh:A.handled=none) (he:IsEnum s.heap e it i old)
  (hn:∀ (A':Around) (E':Value->Shared->Prop) (Q':Value->Shared->Prop),A'.handled=none->(∀ h' x,Heap.ExtBut it s.heap h'->(∃ o,h'.get? x=some o/\o.cls=.type "StopIteration")->E' (.ref x) { s with heap:=h' })->wpAny (model prog w) A' (Builtin.SmallTypes.nextOf (.ref it)) Q' E' s)
  (hQ:∀ h',Heap.ExtBut it s.heap h'->Q none { s with heap:=h' }):wpAny (model prog w) A (pyNext (.ref e)) Q E s:=by
 have hT:s.TypeIs (.ref e) "enumerate" := ⟨_,he,rfl⟩
 unfold pyNext
 refine wpAny_bind (wpAny_attempt (wpAny_callSpecial?_slot (name:=Str.ofString "__next__") hT F.slot_enumerate_next (wpAny_call_entry F.slot_enumerate_next hT F.entry_enumerate_next ?_ (F.args_enumerate_next_1 _))))
 show wpAny _ _ (field (.ref e) 2 >>= _) _ _ _
 refine wpAny_bind (wpAny_field he rfl (x:=.ref it) rfl ?_)
 refine wpAny_bind (hn _ _ _ hh fun h' x k ⟨o,ho,hc⟩=>?_)
 refine wpAny_bind (wpAny_isInstance (T := "StopIteration") (b:=true) ⟨o,ho,hc⟩ isSubtype_stop ?_)
 exact wpAny_pure (hQ _ k)
theorem qs5 {prog:Program}{w:World}{cls:Value}{Q:Bool->Shared->Prop}(h:∀ b,Q b s):wpAny (model prog w) A (Builtin.SmallTypes.calledThroughType cls) Q E s:=by
 unfold Builtin.SmallTypes.calledThroughType
 exact wpAny_bind (wpAny_stack_any fun st=>wpAny_pure (h _))
set_option maxHeartbeats 1000000 in
theorem qok (t:Addr) (items:Array Value) (n:Nat) (dct:Option Addr) (sl:Array (Option Value)) :
  Meets (Builtin.«enumerate.__new__» ⟨[.type "enumerate",.ref t],[]⟩) (fun _ R s=>s.heap.get? t=some { cls:=.type "tuple",dict:=dct,data:=.seq items n,slots:=sl } /\
   R (.ok (.ret (.ref (s.heap.push { cls:=.type "tuple_iterator",data:=.fields #[.ref t,.int 0 0] }).objs.size)))
    { s with heap:=(s.heap.push { cls:=.type "tuple_iterator",data:=.fields #[.ref t,.int 0 0] }).push { cls:=.type "enumerate",data:=.fields #[.none,.bool false,.ref s.heap.objs.size,rawInt 0,.none,.none] } }) :=
 .of_wp fun prog w A R s h=>by
  obtain ⟨hp,g,d,tk,os⟩:=s;obtain ⟨hl,h⟩:=h
  have hsub:=sub_enumerate
  have hL:Heap.IsTuple (Shared.heap ⟨hp,g,d,tk,os⟩) t items:=⟨_,hl,rfl,n,rfl⟩
  wp_walk using wpAny_loadPart' hl,qs5
  intro b
  cases b
  ·wp_walk using wpAny_loadPart' hl,wpAny_pyIter_tuple hL
   exact ⟨_,rfl,h⟩
  ·wp_walk using wpAny_loadPart' hl,wpAny_pyIter_tuple hL
   exact ⟨_,rfl,h⟩
end
variable {P:PEnv}{d:Nat}{H:Hp}
theorem qs1 {t:Expr}(h:qd5 t=true):∃ es k p,t=.Tuple es k p:=by
 cases t<;>first|exact ⟨_,_,_,rfl⟩|exact absurd h Bool.false_ne_true
noncomputable def qds (l:List AV):List AV:=l.mapIdx fun i x=>.tup [.int i,x]
theorem qhp (l:List AV) (k:Nat):(qds l)[k]?=(l[k]?).map fun x=>AV.tup [.int k,x]:=by
 unfold qds;rw [List.getElem?_mapIdx]
theorem qea (l:List AV):(qds l).length=l.length:=by unfold qds;rw [List.length_mapIdx]
structure Nxt (P:PEnv) (T:Addr) (items:List AV) (Cnd:Hp->Prop) (At:Nat->Obj->Prop) (Pre:List Addr->Heap->Prop):Prop where
 dat:∀ k o,At k o->(∀ vs n,o.data≠.seq vs n)/\∀ es n,o.data≠.dict es n
 pre:∀ ι ι' S h h',Pre ι h->Kept S h h'->qbp S h->ι<+:ι'->Pre ι' h'
 next:∀ ι H s k x,HR P.B ι H s.heap->Cnd H->Pre ι s.heap->(∃ o,s.heap.get? T=some o/\At k o)->items[k]?=some x->∃ u,VR P.B s.heap ι x u /\
  ∀ A E (Q:Value->Shared->Prop),(∀ h₁,(∃ o,h₁.get? T=some o/\At (k+1) o)->Heap.SameBut T s.heap h₁->Q u { s with heap:=h₁ })->wpAny (model P.prog P.w) A (Builtin.SmallTypes.nextOf (.ref T)) Q E s
 stop:∀ ι H s,HR P.B ι H s.heap->Cnd H->Pre ι s.heap->(∃ o,s.heap.get? T=some o/\At items.length o)->∀ A (E:Value->Shared->Prop) (Q:Value->Shared->Prop),A.handled=none ->
  (∀ h' x,Heap.ExtBut T s.heap h'->(∃ o,h'.get? x=some o/\o.cls=.type "StopIteration")->E (.ref x) { s with heap:=h' })->wpAny (model P.prog P.w) A (Builtin.SmallTypes.nextOf (.ref T)) Q E s
theorem qmb {a b:Addr}{Z:Addr->Prop}(z:Z a) (y:Z b):∀ c∈[a,b],Z c:=fun c hc=>(yg hc).elim (fun e=>e▸z) fun m=>yb m▸y
theorem qra {I T:Addr}{items:List AV}{Cnd:Hp->Prop}{At:Nat->Obj->Prop}{Pre:List Addr->Heap->Prop}(n:Nxt P T items Cnd At Pre) (ne:I≠T) :
  Itr P true I [I,T] (qds items) Cnd (fun k ι h=>Pre ι h/\(∃ old,IsEnum h I T k old)/\∃ o,h.get? T=some o/\At k o) (fun k v ι h=>Pre ι h/\(∃ x A,v=.ref A/\IsEnumOut h I T ((k:Int)+1) x A)/\∃ o,h.get? T=some o/\At (k+1) o):=by
 have th:∀ {h:Heap}{k:Nat}{oI:Obj},h.get? I=some oI->(∀ vs n,oI.data≠.seq vs n)->(∃ o,h.get? T=some o/\At k o)->∀ a∈[I,T],∃ o,h.get? a=some o/\∀ vs n,o.data≠.seq vs n:=fun e d q =>
  qmb (Z:=fun a=>∃ o,_/\_) ⟨_,e,d⟩ (qad q fun o e z=>⟨o,e,(n.dat _ _ z).1⟩)
 have nos:∀ {vs:Array Value},(∀ us m,Data.fields vs≠.seq us m)/\∀ es m,Data.fields vs≠.dict es m:=⟨(fun _ _ z=>nomatch z),fun _ _ z=>nomatch z⟩
 have ex:∀ {h₁ h₂:Heap},(∀ b o,b≠I->b≠T->h₁.get? b=some o->h₂.get? b=some o)->∀ b o,b∉[I,T]->h₁.get? b=some o->h₂.get? b=some o:=fun x b o hb eb=>x b o (fun z=>hb (z▸List.mem_cons_self ..)) (fun z=>hb (z▸yi _ (ym rfl))) eb
 refine ⟨fun k ι ι' S h₁ h₂ q kp ns pr hw=>⟨n.pre _ _ _ _ _ q.1 kp ns pr,q.2.1.elim fun old e=>⟨old,kp.exact e (hw _ (List.mem_cons_self ..)) nos.2⟩,qad q.2.2 fun o e z=>⟨o,kp.exact e (hw _ (yi _ (ym rfl))) (n.dat _ _ z).2,z⟩⟩,
  fun k ι h₁ q=>q.2.1.elim fun old e=>th e nos.1 q.2.2,fun k v ι h₁ q=>qjy q.2.1 fun x A _ e=>th e nos.1 q.2.2,?_,?_,?_,fun A E ι1 s1 k Q q hQ=>q.2.1.elim fun old e=>wpAny_pyIter_enum e hQ⟩
 ·intro A E ι1 H1 s1 k x Q hh hr1 hc q hx hQ
  refine q.2.1.elim fun old e=>?_
  rw [qhp] at hx
  refine qad (yf hx) fun y hy eQ2=>qad (n.next ι1 H1 s1 k y hr1 hc q.1 q.2.2 hy) fun u ru nx=>?_
  subst eQ2
  refine qoj (R:=fun h'=>∃ o,h'.get? T=some o/\At (k+1) o) e ne (fun h h' z kk=>qad z fun o e' a=>⟨o,kk o e',a⟩) nx fun h' eo it' tu kp=>?_
  have kp:=Kept.of_keeps (ex kp)
  have nts:=ntw (th e nos.1 q.2.2)
  refine hQ _ h' (s1.toks+1) ?_ ⟨n.pre _ _ _ _ _ q.1 kp nts (List.prefix_refl _),⟨u,_,rfl,eo⟩,it'⟩ (ex (by assumption))
  unfold VR
  exact ⟨_,[.int k s1.toks,u],rfl,⟨0,_,_,tu⟩,VRs.cons (VR.mkInt _ _) (VRs.cons (VR.mono kp nts (List.prefix_refl _) _ _ ru) rfl)⟩
 ·intro tgt A E ι1 s1 k v Q ht q hQ
  refine qjy q.2.1 fun x A' hv e=>qpg (qs1 (ht rfl)) fun es tk pos eQ3=>?_
  subst eQ3
  subst hv
  refine wpAny_letOwnedTupleGo_enum e fun h' e' sb=>?_
  have ext:=ex (h₁:=s1.heap) (h₂:=h') fun b o hb _ eb=>sb.extBut b o hb eb
  refine hQ h' ⟨n.pre _ _ _ _ _ q.1 (Kept.of_keeps ext) (ntw (th e nos.1 q.2.2)) (List.prefix_refl _),⟨x,?_⟩,qad q.2.2 fun o e a=>⟨o,sb.extBut T o (Ne.symm ne) e,a⟩⟩ ext
  rw [Int.natCast_add];exact e'
 ·intro A E ι1 H1 s1 Q hh hr1 hc q hQ
  rw [qea] at q
  exact q.2.1.elim fun old e=>qrb hh e (n.stop ι1 H1 s1 hr1 hc q.1 q.2.2) fun h' x=>hQ h' s1.toks (ex fun b o _ hb eb=>x b o hb eb)
theorem qkt {items:List AV}{Cnd:Hp->Prop}{At:Nat->Obj->Prop}{Pre:List Addr->Heap->Prop}{o:Obj}{h0:Heap}(hh:h0=(s.heap.push o).push { cls:=.type "enumerate",data:=.fields #[.none,.bool false,.ref s.heap.objs.size,rawInt 0,.none,.none] })
  (n:Nxt P s.heap.objs.size items Cnd At Pre) (at0:At 0 o) (fr:o.isFreed=false) (pre:Pre ι s.heap) :
  (∃ o,h0.get? (s.heap.objs.size+1)=some o/\o.cls=.type "enumerate")/\qk4 P true A ι (qds items) Cnd (.ref (s.heap.objs.size+1)) s { s with heap:=h0 }:=by
 have hz:(s.heap.push o).objs.size=s.heap.objs.size+1:=Heap.size_push ..
 have he:IsEnum h0 (s.heap.objs.size+1) s.heap.objs.size 0 .none:=by rw [hh,←hz];exact Heap.get?_push_size _ rfl
 have k0:∀ b o,s.heap.get? b=some o->h0.get? b=some o:=fun b o e=>by rw [hh];exact Heap.get?_push_of_some _ (Heap.get?_push_of_some _ e)
 have hi:h0.get? s.heap.objs.size=some o:=by rw [hh];exact Heap.get?_push_of_some _ (Heap.get?_push_size _ fr)
 refine ⟨⟨_,he,rfl⟩,fun E' Q hq=>wpAny_pyIter_enum he ?_⟩
 refine hq _ _ _ _ _ s.toks (qra n (Nat.succ_ne_self _)) ⟨n.pre _ _ _ _ _ pre (qax k0) qa3 (List.prefix_refl _),⟨_,he⟩,o,hi,at0⟩ (qmb (Z:=fun b=>s.heap.get? b=none) ?_ (qbg _)) k0
 cases z:s.heap.get? (s.heap.objs.size+1) with
 | none=>rfl
 | some o=>exact absurd (Heap.lt_size z) (Nat.not_lt.mpr (Nat.le_succ _))
theorem qqq {l:List AV}{K:List AV->(Hp->Prop)->Hp->Prop}(h:K (qds l) (fun _=>True) H):qf9 P true d (fun vs=>call (.type "enumerate") vs) [.tup l] H K:=fun A E ι s vs w rs=>by
 refine qad (vrs1 rs) fun u eQ1 r=>?_
 subst eQ1
 clear rs
 unfold VR at r
 refine qa6 r fun a vs eQ2 tl rv=>qpg tl fun n dct sl ea=>?_
 clear r
 subst eQ2
 refine callType_new F.called_enumerate (by decide) (F.typeCall_enumerate_1 _) (F.newCall_enumerate_1 _) (fun obj=>F.args_object_init_2 obj _) F.entry_enumerate_new (qok a vs.toArray n dct sl) ⟨ea,?_⟩
 have en:=qkt (P:=P) (A:=A) (ι:=ι) (s:=s) (o:={ cls:=.type "tuple_iterator",data:=.fields #[.ref a,.int 0 0] }) rfl (items:=l) (Cnd:=fun _=>True) (At:=fun k o=>o.cls=.type "tuple_iterator" /\ o.data=.fields #[.ref a,.int k 0]) (Pre:=fun ι h=>PTup h a vs.toArray/\VRs P.B h ι l vs)
  ⟨fun k o z=>qbu z.2,fun ι ι' S h h' q kp nt pr=>⟨qey kp nt q.1,VRs.mono kp nt pr _ _ q.2⟩,fun ι H s k x hr hc q1 q2 hx=>qad (q1.2.get hx) fun u hu ru=>⟨u,ru,fun A E Q hq=>qll q2 q1.1.isTup (by simpa using hu) hq⟩,
   fun ι H s hr hc q1 q2 A E Q hh hE=>qgk hh q2 q1.1.isTup (qf6 q1.2.length) hE⟩ ⟨rfl,rfl⟩ rfl ⟨tl,rv⟩
 show _/\_
 rw [Heap.size_push]
 exact ⟨en.1,ι,H,qds l,fun _=>True,s,Post.id w.hr,en.2,h⟩
theorem qqr {i:Nat}{l:List AV}{K:List AV->(Hp->Prop)->Hp->Prop}(hi:H[i]?=some (.list l)) (h:K (qds l) (fun H'=>H'[i]?=some (.list l)) H):qf9 P true d (fun vs=>call (.type "enumerate") vs) [.ref i] H K:=fun A E ι s vs w rs=>by
 refine qad (vrs1 rs) fun u eQ1 r=>qad r fun a eQ ea=>?_
 subst eQ1
 subst eQ
 clear rs r
 have at_:∀ {ι H h},HR P.B ι H h->H[i]?=some (.list l)->ι[i]?=some a->∃ vs,h.PlainList a (List.toArray vs)/\VRs P.B h ι l vs:=fun hr hi ea=>qad (hr.objs i _ hi) fun a' ea' o=>yj (ea'.symm.trans ea)▸o
 refine qad (at_ w.hr hi ea) fun vs pl rv=>pl.elim fun n el=>?_
 refine callType_new F.called_enumerate (by decide) (F.typeCall_enumerate_1 _) (F.newCall_enumerate_1 _) (fun obj=>F.args_object_init_2 obj _) F.entry_enumerate_new (meets_enumerate_new a vs.toArray n) ⟨el,?_⟩
 have en:=qkt (P:=P) (A:=A) (ι:=ι) (s:=s) (o:={ cls:=.type "list_iterator",data:=.fields #[.ref a,.int 0 0] }) rfl (items:=l) (Cnd:=fun H'=>H'[i]?=some (.list l)) (At:=fun k o=>o.cls=.type "list_iterator" /\ o.data=.fields #[.ref a,.int k 0]) (Pre:=fun ι _=>ι[i]?=some a)
  ⟨fun k o z=>qbu z.2,fun ι ι' S h h' q _ _ pr=>qcw pr q,fun ι H s k x hr hc q1 q2 hx=>qad (at_ hr hc q1) fun vs2 pl2 rv2=>qad (rv2.get hx) fun u hu ru=>⟨u,ru,fun A E Q hq=>wpAny_nextOf_list_item q2 pl2.isList (by simpa using hu) hq⟩,
   fun ι H s hr hc q1 q2 A E Q hh hE=>qad (at_ hr hc q1) fun vs2 pl2 rv2=>wpAny_nextOf_list_end hh q2 pl2.isList (qf6 rv2.length) hE⟩ ⟨rfl,rfl⟩ rfl ea
 show _/\_
 rw [Heap.size_push]
 exact ⟨en.1,ι,H,qds l,_,s,Post.id w.hr,en.2,h⟩
end Mine
namespace Mine
open PySem
variable {P:PEnv}{C:Ctx}{d:Nat}{loc:Loc}{H:Hp}{X:XP}
end Mine
namespace Mine
open PySem
inductive Bi where|len|all|any|sorted|list|tuple|int|min|max
inductive Mt where|append|pop|insert|extend|clear
inductive IK where|plain|range|revd|enum
abbrev KI:=List AV->(Hp->Prop)->Hp->Prop
abbrev PF:=MFlow->Loc->Hp->Prop
abbrev PL:=List AV->Hp->Prop
def asT (v:AV) (n:Nat) (K:List AV->Prop):Prop:=match v with|.tup l=>l.length=n/\K l|_=>False
def as1 (vs:List AV) (K:AV->Prop):Prop:=match vs with|[x]=>K x|_=>False
def qba (o:Option (List AV)) (K:List AV->Prop):Prop:=match o with|some l=>K l|none=>False
theorem asT.ex {v:AV}{K:List AV->Prop}(h:asT v n K):∃ l,v=.tup l/\l.length=n/\K l:=by
 cases v<;>first|exact h.elim|exact ⟨_,rfl,h⟩
theorem as1.ex {vs:List AV}{K:AV->Prop}(h:as1 vs K):∃ x,vs=[x]/\K x:=by
 match vs,h with
 | [x],h=>exact ⟨x,rfl,h⟩
theorem qba.ex {o:Option (List AV)}{K:List AV->Prop}(h:qba o K):∃ l,o=some l/\K l:=by
 match o,h with
 | some l,h=>exact ⟨l,rfl,h⟩
noncomputable def anyL (H:Hp):AV->Option (List AV)
 | .tup l=>some l
 | x=>seqL H x
noncomputable def lstL (H:Hp):AV->Option (List AV)
 | .ref i=>match H[i]? with
  | some (.list l)=>some l
  | some (.dict l)=>some ((l.map (·.1)).map .int)
  | none=>none
 | x=>anyL H x
noncomputable def tupL:AV->Option (List AV)|.tup l=>some l|_=>none
def ql8 (x:AV) (H:Hp) (Q:PQ):Prop :=
 match x with
 | .tup l=>l.length<2^62/\Q (.int l.length) H
 | .fro l=>l.length<2^62/\Q (.int l.length) H
 | .ref i=>match H[i]? with
  | some (.list l)=>l.length<2^62/\Q (.int l.length) H
  | some (.dict l)=>l.length<2^62/\Q (.int l.length) H
  | none=>False
 | _=>False
def qyd (x:AV) (H:Hp) (Q:PQ):Prop:=∃ ns:List Int,(seqL H x=some (ns.map .int)\/∃ i l,x=.ref i/\H[i]?=some (.dict l)/\ns=l.map (·.1))/\ns.length<64/\∀ ms:List Int,ms.Perm ns->ms.Pairwise (·<=·)->Q (.ref H.length) (H++[.list (ms.map .int)])
def wpMm (vs:List AV) (K:Int->Int->Prop):Prop:=match vs with|[.int a,.int b]=>K a b|_=>False
def wpBi (f:Bi) (vs:List AV) (H:Hp) (Q:PQ):Prop :=
 match f with
 | .len=>as1 vs fun x=>ql8 x H Q
 | .all=>as1 vs fun x=>∃ bs:List Bool,seqL H x=some (bs.map .bool)/\Q (.bool (bs.all fun b=>b)) H
 | .any=>as1 vs fun x=>∃ bs:List Bool,seqL H x=some (bs.map .bool)/\Q (.bool (bs.any fun b=>b)) H
 | .list=>as1 vs fun x=>qba (lstL H x) fun l=>l.length<=sizeLine/\Q (.ref H.length) (H++[.list l])
 | .tuple=>as1 vs fun x=>qba (seqL H x) fun l=>l.length<=sizeLine/\Q (.tup l) H
 | .int=>as1 vs fun x=>asB x fun b=>Q (.int (if b then 1 else 0)) H
 | .min=>wpMm vs fun a b=>Q (.int (if b<a then b else a)) H
 | .max=>wpMm vs fun a b=>Q (.int (if b>a then b else a)) H
 | .sorted=>as1 vs fun x=>qyd x H Q
def isL (H:Hp) (x:AV):Prop:=∃ i l,x=.ref i/\H[i]?=some (.list l)
noncomputable def qgm (H:Hp) (i:Nat):Option (List AV):=match H[i]? with|some (.list l)=>some l|_=>none
theorem qew (h:qgm H i=some l):H[i]?=some (.list l):=by
 unfold qgm at h;split at h
 ·cases h;assumption
 ·cases h
theorem qhh (h:H[i]?=some (.list l)):qgm H i=some l:=by
 unfold qgm;rw [h]
def onL (o:AV) (H:Hp) (K:Nat->List AV->Prop):Prop:=match o with|.ref i=>qba (qgm H i) (K i)|_=>False
theorem onL.ex {o:AV}{K:Nat->List AV->Prop}(h:onL o H K):∃ i l,o=.ref i/\H[i]?=some (.list l)/\K i l:=by
 cases o with
 | ref i=>obtain ⟨l,h1,h2⟩:=qba.ex h;exact ⟨i,l,rfl,qew h1,h2⟩
 | _=>exact h.elim
theorem qdg {i:Nat}{l:List AV}{H:Hp}{K:Nat->List AV->Prop}(h:H[i]?=some (.list l)):onL (.ref i) H K=K i l:=by
 show qba (qgm H i) _=_
 rw [qhh h];rfl
def qpn (vs:List AV) (K:Int->AV->Prop):Prop:=match vs with|[.int k,x]=>K k x|_=>False
def qpl (vs:List AV) (K0:Prop) (K1:Int->Prop):Prop:=match vs with|[]=>K0|[.int k]=>K1 k|_=>False
def wpMt (m:Mt) (o:AV) (vs:List AV) (H:Hp) (Q:PQ):Prop:=onL o H fun i l =>
 match m with
 | .append=>as1 vs fun x=>l.length<=sizeLine/\Q .none (H.set i (.list (l++[x])))
 | .pop=>qpl vs (l.length<=sizeLine/\∃ l' x,l=l'++[x]/\Q x (H.set i (.list l'))) fun k=>l.length<=sizeLine/\0<=k/\k<2^62/\∃ x,l[k.toNat]?=some x/\Q x (H.set i (.list (l.eraseIdx k.toNat)))
 | .insert=>qpn vs fun k x=>l.length<=sizeLine/\0<=k/\k<=l.length/\Q .none (H.set i (.list (l.take k.toNat++x::l.drop k.toNat)))
 | .extend=>as1 vs fun y=>onL y H fun _ m=>l.length+m.length<=1000000/\Q .none (H.set i (.list (l++m)))
 | .clear=>vs=[]/\l.length<=sizeLine/\Q .none (H.set i (.list []))
def ql6 (x:AV) (H:Hp) (K:KI):Prop :=
 match x with
 | .ref i=>qba (qgm H i) fun l=>K l (fun H'=>H'[i]?=some (.list l)) H
 | .fro l=>K l (fun _=>True) H
 | .tup l=>K l (fun _=>True) H
 | .str x=>x.cps.all (·<128)=true/\K (chrs x) (fun _=>True) H
 | _=>False
def qsu (vs:List AV) (H:Hp) (K:KI):Prop :=
 match vs with
 | [.int n] => -(2^62)<=n/\n<2^62/\K ((List.range n.toNat).map fun (k:Nat)=>AV.int k) (fun _=>True) H
 | [.int a,.int b] => -(2^62)<=a/\a<2^62 /\ -(2^62)<=b/\b<2^62/\K ((List.range (b-a).toNat).map fun (k:Nat)=>AV.int (a+k)) (fun _=>True) H
 | _=>False
def qvw (x:AV) (H:Hp) (K:KI):Prop :=
 match x with
 | .ref i=>qba (qgm H i) fun l=>K (qds l) (fun H'=>H'[i]?=some (.list l)) H
 | .tup l=>K (qds l) (fun _=>True) H
 | _=>False
def wpIt (k:IK) (vs:List AV) (H:Hp) (K:KI):Prop :=
 match k with
 | .plain=>as1 vs fun x=>ql6 x H K
 | .range=>qsu vs H K
 | .revd=>as1 vs fun x=>onL x H fun i l=>K l.reverse (fun H'=>H'[i]?=some (.list l)) H
 | .enum=>as1 vs fun x=>qvw x H K
noncomputable def qcr (t:Bool) (n:Nat) (y:AV):Option (List AV) :=
 match t with
 | true=>match y with|.tup l=>if l.length=n then some l else none|_=>none
 | false=>if n=1 then some [y] else none
def qi2 (o k x:AV) (H:Hp) (K:Hp->Prop):Prop :=
 match o with
 | .ref i=>asI k fun k=>match H[i]? with
  | some (.list l)=>l.length<2^62/\0<=k/\k<l.length/\K (H.set i (.list (l.set k.toNat x)))
  | some (.dict l)=>l.length<=sizeLine/\K (H.set i (.dict (dset l k x)))
  | none=>False
 | _=>False
def idxL (l:List AV) (k:Int) (H:Hp) (Q:PQ):Prop:=l.length<2^62/\∃ j z,place k l.length=some j/\l[j]?=some z/\Q z H
def qbm (x y:AV) (H:Hp) (Q:PQ):Prop :=
 match x with
 | .ref i=>asI y fun k=>match H[i]? with
  | some (.list l)=>idxL l k H Q
  | some (.dict l)=>∃ z,dget l k=some z/\Q z H
  | none=>False
 | .tup l=>asI y fun k=>idxL l k H Q
 | .fro l=>asI y fun k=>idxL l k H Q
 | _=>False
noncomputable def qr8:List AV->Option (Option Int)
 | []=>some none
 | [.int k]=>some (some k)
 | _=>none
def qgd (vs:List AV) (K:Option Int->Prop):Prop:=match vs with|[]=>K none|[.int k]=>0<=k/\K (some k)|_=>False
theorem qgd.ex {vs:List AV}{K:Option Int->Prop}(h:qgd vs K):∃ k,qr8 vs=some k/\qbs k/\K k:=by
 match vs,h with
 | [],h=>exact ⟨_,rfl,by simp [qbs],h⟩
 | [.int k],h=>exact ⟨_,rfl,by simpa [qbs] using h.1,h.2⟩
def ME:Type:=Fun->Loc->Hp->PQ->Prop
def wpE (Φ:Fun) (m:ME) (loc:Loc) (H:Hp) (Q:PQ):Prop:=m Φ loc H Q
def wpEs (Φ:Fun):List ME->Loc->Hp->PL->Prop
 | [],_,H,Q=>Q [] H
 | e::es,loc,H,Q=>wpE Φ e loc H fun v H'=>wpEs Φ es loc H' fun vs H''=>Q (v::vs) H''
def wpCs (Φ:Fun):List ME->Loc->Hp->(Bool->Hp->Prop)->Prop
 | [],_,H,K=>K true H
 | e::es,loc,H,K=>wpE Φ e loc H fun v H'=>asB v fun b=>if b then wpCs Φ es loc H' K else K false H'
noncomputable def qt2 (op:BOp) (x:AV) (Q:PQ):PQ:=fun y H=>qeh op x y H Q
noncomputable def qt3 (Φ:Fun) (op:BOp) (b:ME) (loc:Loc) (Q:PQ):PQ:=fun x H=>wpE Φ b loc H (qt2 op x Q)
noncomputable def qnq (op:COp) (x:AV) (Q:PQ):PQ:=fun y H=>qbk op x y H Q
noncomputable def qt0 (Φ:Fun) (op:COp) (b:ME) (loc:Loc) (Q:PQ):PQ:=fun x H=>wpE Φ b loc H (qnq op x Q)
def kC4 (Φ:Fun) (o2:COp) (c:ME) (loc:Loc) (y:AV) (Q:PQ) (H:Hp):Bool->Prop:=fun t=>if t then wpE Φ c loc H (qnq o2 y Q) else Q (.bool false) H
noncomputable def kC3 (Φ:Fun) (o2:COp) (c:ME) (loc:Loc) (y:AV) (Q:PQ):PQ:=fun v H=>asB v (kC4 Φ o2 c loc y Q H)
noncomputable def kC2 (Φ:Fun) (o1 o2:COp) (c:ME) (loc:Loc) (x:AV) (Q:PQ):PQ:=fun y H=>qbk o1 x y H (kC3 Φ o2 c loc y Q)
noncomputable def kC1 (Φ:Fun) (o1 o2:COp) (b c:ME) (loc:Loc) (Q:PQ):PQ:=fun x H=>wpE Φ b loc H (kC2 Φ o1 o2 c loc x Q)
def qy1 (Q:PQ) (H:Hp):Bool->Prop:=fun b=>Q (.bool !b) H
noncomputable def kNot (Q:PQ):PQ:=fun v H=>asB v (qy1 Q H)
def qy2 (Q:PQ) (H:Hp):Int->Prop:=fun b=>Q (.int (-b)) H
noncomputable def kNeg (Q:PQ):PQ:=fun v H=>asI v (qy2 Q H)
def qjq (Φ:Fun) (b:ME) (loc:Loc) (Q:PQ) (H:Hp):Bool->Prop:=fun t=>if t then wpE Φ b loc H Q else Q (.bool false) H
noncomputable def kAnd (Φ:Fun) (b:ME) (loc:Loc) (Q:PQ):PQ:=fun v H=>asB v (qjq Φ b loc Q H)
def kOrB (Φ:Fun) (b:ME) (loc:Loc) (Q:PQ) (H:Hp):Bool->Prop:=fun t=>if t then Q (.bool true) H else wpE Φ b loc H Q
noncomputable def kOr (Φ:Fun) (b:ME) (loc:Loc) (Q:PQ):PQ:=fun v H=>asB v (kOrB Φ b loc Q H)
noncomputable def qt1 (Φ:Fun) (f:Str) (Q:PQ):PL:=fun vs H=>Φ f vs H Q
noncomputable def kBi (f:Bi) (Q:PQ):PL:=fun vs H=>wpBi f vs H Q
noncomputable def kIsi (t:Ty) (Q:PQ):PQ:=fun v H=>Q (.bool (isi H v t)) H
noncomputable def qty (x:AV) (Q:PQ):PQ:=fun y H=>qbm x y H Q
noncomputable def qtz (Φ:Fun) (b:ME) (loc:Loc) (Q:PQ):PQ:=fun x H=>wpE Φ b loc H (qty x Q)
def kS6 (ka kb:Option Int) (Q:PQ) (H:Hp):List AV->Prop:=fun l=>l.length<=sizeLine/\Q (.ref H.length) (H++[.list (qag l ka kb)])
def kS5 (x:AV) (ka:Option Int) (Q:PQ) (H:Hp):Option Int->Prop:=fun kb=>qba (seqL H x) (kS6 ka kb Q H)
noncomputable def kS4 (x:AV) (ka:Option Int) (Q:PQ):PL:=fun vs H=>qgd vs (kS5 x ka Q H)
def kS3 (Φ:Fun) (hi:List ME) (loc:Loc) (x:AV) (Q:PQ) (H:Hp):Option Int->Prop:=fun ka=>wpEs Φ hi loc H (kS4 x ka Q)
noncomputable def kS2 (Φ:Fun) (hi:List ME) (loc:Loc) (x:AV) (Q:PQ):PL:=fun us H=>qgd us (kS3 Φ hi loc x Q H)
noncomputable def kS1 (Φ:Fun) (lo hi:List ME) (loc:Loc) (Q:PQ):PQ:=fun x H=>wpEs Φ lo loc H (kS2 Φ hi loc x Q)
def kT6 (ka kb:Option Int) (Q:PQ) (H:Hp):List AV->Prop:=fun l=>l.length<=sizeLine/\Q (.tup (qag l ka kb)) H
def kT5 (x:AV) (ka:Option Int) (Q:PQ) (H:Hp):Option Int->Prop:=fun kb=>qba (tupL x) (kT6 ka kb Q H)
noncomputable def kT4 (x:AV) (ka:Option Int) (Q:PQ):PL:=fun vs H=>qgd vs (kT5 x ka Q H)
def kT3 (Φ:Fun) (hi:List ME) (loc:Loc) (x:AV) (Q:PQ) (H:Hp):Option Int->Prop:=fun ka=>wpEs Φ hi loc H (kT4 x ka Q)
noncomputable def kT2 (Φ:Fun) (hi:List ME) (loc:Loc) (x:AV) (Q:PQ):PL:=fun us H=>qgd us (kT3 Φ hi loc x Q H)
noncomputable def kT1 (Φ:Fun) (lo hi:List ME) (loc:Loc) (Q:PQ):PQ:=fun x H=>wpEs Φ lo loc H (kT2 Φ hi loc x Q)
def qy0 (Q:PQ) (H:Hp):List AV->Prop:=fun l=>l.length<=sizeLine/\Q (.ref H.length) (H++[.list l.reverse])
noncomputable def kRev (Q:PQ):PQ:=fun x H=>qba (seqL H x) (qy0 Q H)
noncomputable def kTup (Q:PQ):PL:=fun vs H=>vs.length<=sizeLine/\Q (.tup vs) H
noncomputable def kLst (Q:PQ):PL:=fun vs H=>vs.length<=sizeLine/\Q (.ref H.length) (H++[.list vs])
noncomputable def kD3 (n:Nat) (i:Int) (Q:PQ):PQ:=fun y H=>H[n]?=some (.dict [])/\Q (.ref n) (H.set n (.dict [(i,y)]))
def kD2 (Φ:Fun) (v:ME) (loc:Loc) (n:Nat) (Q:PQ) (H:Hp):Int->Prop:=fun i=>wpE Φ v loc H (kD3 n i Q)
noncomputable def kD1 (Φ:Fun) (v:ME) (loc:Loc) (n:Nat) (Q:PQ):PQ:=fun x H=>asI x (kD2 Φ v loc n Q H)
noncomputable def kM2 (m:Mt) (x:AV) (Q:PQ):PL:=fun vs H=>wpMt m x vs H Q
noncomputable def kM1 (Φ:Fun) (m:Mt) (as:List ME) (loc:Loc) (Q:PQ):PQ:=fun x H=>isL H x/\wpEs Φ as loc H (kM2 m x Q)
noncomputable def kE2 (v:AV) (Q:PL):PL:=fun vs H=>Q (v::vs) H
noncomputable def kE1 (Φ:Fun) (es:List ME) (loc:Loc) (Q:PL):PQ:=fun v H=>wpEs Φ es loc H (kE2 v Q)
def kCsB (Φ:Fun) (es:List ME) (loc:Loc) (K:Bool->Hp->Prop) (H:Hp):Bool->Prop:=fun b=>if b then wpCs Φ es loc H K else K false H
noncomputable def kCs (Φ:Fun) (es:List ME) (loc:Loc) (K:Bool->Hp->Prop):PQ:=fun v H=>asB v (kCsB Φ es loc K H)
noncomputable def kIt (k:IK) (K:KI):PL:=fun vs H=>wpIt k vs H K
def atL (o:Option (Option AV)) (Q:PQ) (H:Hp):Prop:=match o with|some (some v)=>Q v H|_=>False
theorem atL.ex {o:Option (Option AV)}{Q:PQ}(h:atL o Q H):∃ v,o=some (some v)/\Q v H:=by
 match o,h with
 | some (some v),h=>exact ⟨v,rfl,h⟩
noncomputable def qgp (Φ:Fun) (t:Bool) (n:Nat) (elt:ME) (cond:List ME) (loc:Loc) (Q:PQ):KI:=fun items Cnd H₁=>items.length<=sizeLine/\∃ J:Nat->List AV->Hp->Prop,J 0 [] H₁/\∀ i l H',J i l H'->Cnd H' /\
   (∀ y,items[i]?=some y->∃ ws,qcr t n y=some ws/\wpCs Φ cond (loc++ws.map some) H' fun b H''=>if b then wpE Φ elt (loc++ws.map some) H'' fun v H3=>J (i+1) (l++[v]) H3 else J (i+1) l H'') /\
   (i=items.length->Q (.ref H'.length) (H'++[.list l]))
namespace ME
noncomputable def cst (v:AV):ME:=fun _ _ H Q=>Q v H
noncomputable def loc (i:Nat):ME:=fun _ loc H Q=>atL loc[i]? Q H
noncomputable def bin (op:BOp) (a b:ME):ME:=fun Φ loc H Q=>wpE Φ a loc H (qt3 Φ op b loc Q)
noncomputable def cmp (op:COp) (a b:ME):ME:=fun Φ loc H Q=>wpE Φ a loc H (qt0 Φ op b loc Q)
noncomputable def cmp2 (o1 o2:COp) (a b c:ME):ME:=fun Φ loc H Q=>wpE Φ a loc H (kC1 Φ o1 o2 b c loc Q)
noncomputable def not (a:ME):ME:=fun Φ loc H Q=>wpE Φ a loc H (kNot Q)
noncomputable def neg (a:ME):ME:=fun Φ loc H Q=>wpE Φ a loc H (kNeg Q)
noncomputable def and2 (a b:ME):ME:=fun Φ loc H Q=>wpE Φ a loc H (kAnd Φ b loc Q)
noncomputable def or2 (a b:ME):ME:=fun Φ loc H Q=>wpE Φ a loc H (kOr Φ b loc Q)
noncomputable def call (f:Str) (as:List ME):ME:=fun Φ loc H Q=>wpEs Φ as loc H (qt1 Φ f Q)
noncomputable def bi (f:Bi) (as:List ME):ME:=fun Φ loc H Q=>wpEs Φ as loc H (kBi f Q)
noncomputable def isi (a:ME) (t:Ty):ME:=fun Φ loc H Q=>wpE Φ a loc H (kIsi t Q)
noncomputable def idx (a b:ME):ME:=fun Φ loc H Q=>wpE Φ a loc H (qtz Φ b loc Q)
noncomputable def slc (a:ME) (lo hi:List ME):ME:=fun Φ loc H Q=>wpE Φ a loc H (kS1 Φ lo hi loc Q)
noncomputable def slcT (a:ME) (lo hi:List ME):ME:=fun Φ loc H Q=>wpE Φ a loc H (kT1 Φ lo hi loc Q)
noncomputable def rev (a:ME):ME:=fun Φ loc H Q=>wpE Φ a loc H (kRev Q)
noncomputable def tup (es:List ME):ME:=fun Φ loc H Q=>wpEs Φ es loc H (kTup Q)
noncomputable def lst (es:List ME):ME:=fun Φ loc H Q=>wpEs Φ es loc H (kLst Q)
noncomputable def dic1 (k v:ME):ME:=fun Φ loc H Q=>wpE Φ k loc (H++[.dict []]) (kD1 Φ v loc H.length Q)
noncomputable def dic0:ME:=fun Φ loc H Q=>Q (.ref H.length) (H++[.dict []])
noncomputable def comp (t:Bool) (n:Nat) (elt:ME) (k:IK) (its cond:List ME):ME:=fun Φ loc H Q=>wpEs Φ its loc H (kIt k (qgp Φ t n elt cond loc Q))
noncomputable def meth (m:Mt) (o:ME) (as:List ME):ME:=fun Φ loc H Q=>wpE Φ o loc H (kM1 Φ m as loc Q)
end ME
def MS:Type:=Fun->Loc->Hp->PF->Prop
def wpS (Φ:Fun) (m:MS) (loc:Loc) (H:Hp) (Q:PF):Prop:=m Φ loc H Q
noncomputable def seqF (Q:PF) (K:Loc->Hp->Prop):PF:=fun fl loc H=>match fl with|.next=>K loc H|.cont=>Q .cont loc H|.brk=>Q .brk loc H|.ret v=>Q (.ret v) loc H|.exc c=>Q (.exc c) loc H
def wpSs (Φ:Fun):List MS->Loc->Hp->PF->Prop
 | [],loc,H,Q=>Q .next loc H
 | s::ss,loc,H,Q=>wpS Φ s loc H (seqF Q fun loc' H'=>wpSs Φ ss loc' H' Q)
noncomputable def qh2 (Φ:Fun) (ss:List MS) (Q:PF):PF:=seqF Q fun loc' H'=>wpSs Φ ss loc' H' Q
noncomputable def kAsg (i:Nat) (loc:Loc) (Q:PF):PQ:=fun v H=>Q .next (loc.set i (some v)) H
def qwu (is:List Nat) (loc:Loc) (Q:PF) (H:Hp):List AV->Prop:=fun ws=>Q .next (qby (is.zip ws) loc) H
noncomputable def qt4 (is:List Nat) (loc:Loc) (Q:PF):PQ:=fun v H=>asT v is.length (qwu is loc Q H)
def qtu (loc:Loc) (Q:PF):Hp->Prop:=fun H=>Q .next loc H
noncomputable def qtv (x y:AV) (loc:Loc) (Q:PF):PQ:=fun z H=>qi2 y z x H (qtu loc Q)
noncomputable def qtw (Φ:Fun) (k:ME) (x:AV) (loc:Loc) (Q:PF):PQ:=fun y H=>wpE Φ k loc H (qtv x y loc Q)
noncomputable def qtx (Φ:Fun) (o k:ME) (loc:Loc) (Q:PF):PQ:=fun x H=>wpE Φ o loc H (qtw Φ k x loc Q)
def qb5 (Φ:Fun) (a b:List MS) (loc:Loc) (Q:PF) (H:Hp):Bool->Prop:=fun c=>if c then wpSs Φ a loc H Q else wpSs Φ b loc H Q
noncomputable def kIte (Φ:Fun) (a b:List MS) (loc:Loc) (Q:PF):PQ:=fun v H=>asB v (qb5 Φ a b loc Q H)
noncomputable def kRet (loc:Loc) (Q:PF):PQ:=fun v H=>Q (.ret v) loc H
noncomputable def kExp (loc:Loc) (Q:PF):PQ:=fun _ H=>Q .next loc H
noncomputable def whlK (J:Nat->Loc->Hp->Prop) (n:Nat) (Q:PF):PF:=fun fl l H=>match fl with
 | .next=>∃ m,m<n/\J m l H
 | .cont=>∃ m,m<n/\J m l H
 | .brk=>Q .next l H
 | .ret v=>Q (.ret v) l H
 | .exc _=>False
def qqo (Φ:Fun) (b:List MS) (J:Nat->Loc->Hp->Prop) (n:Nat) (loc:Loc) (Q:PF) (H:Hp):Bool->Prop:=fun c=>if c then wpSs Φ b loc H (whlK J n Q) else Q .next loc H
noncomputable def kWhl (Φ:Fun) (b:List MS) (J:Nat->Loc->Hp->Prop) (n:Nat) (loc:Loc) (Q:PF):PQ:=fun v H=>asB v (qqo Φ b J n loc Q H)
noncomputable def forK (J:Nat->Loc->Hp->Prop) (i:Nat) (Q:PF):PF:=fun fl l H=>match fl with
 | .next=>J (i+1) l H
 | .cont=>J (i+1) l H
 | .brk=>Q .next l H
 | .ret v=>Q (.ret v) l H
 | .exc _=>False
noncomputable def forI (Φ:Fun) (t:Bool) (is:List Nat) (b:List MS) (loc:Loc) (Q:PF):KI:=fun items Cnd H₁=>∃ J:Nat->Loc->Hp->Prop,J 0 loc H₁/\∀ i loc H,J i loc H->Cnd H /\
   (∀ y,items[i]?=some y->∃ ws,qcr t is.length y=some ws/\wpSs Φ b (qby (is.zip ws) loc) H (forK J i Q)) /\
   (i=items.length->Q .next loc H)
namespace MS
noncomputable def asg (i:Nat) (e:ME):MS:=fun Φ loc H Q=>wpE Φ e loc H (kAsg i loc Q)
noncomputable def asgT (is:List Nat) (e:ME):MS:=fun Φ loc H Q=>wpE Φ e loc H (qt4 is loc Q)
noncomputable def sto (o k e:ME):MS:=fun Φ loc H Q=>wpE Φ e loc H (qtx Φ o k loc Q)
noncomputable def ite (t:ME) (a b:List MS):MS:=fun Φ loc H Q=>wpE Φ t loc H (kIte Φ a b loc Q)
noncomputable def whl (t:ME) (b:List MS):MS:=fun Φ loc H Q=>∃ (J:Nat->Loc->Hp->Prop) (n:Nat),J n loc H/\∀ n loc H,J n loc H->wpE Φ t loc H (kWhl Φ b J n loc Q)
noncomputable def forr (t:Bool) (is:List Nat) (k:IK) (its:List ME) (b:List MS):MS:=fun Φ loc H Q=>wpEs Φ its loc H (kIt k (forI Φ t is b loc Q))
noncomputable def ret (e:ME):MS:=fun Φ loc H Q=>wpE Φ e loc H (kRet loc Q)
noncomputable def ret0:MS:=fun _ loc H Q=>Q (.ret .none) loc H
noncomputable def expr (e:ME):MS:=fun Φ loc H Q=>wpE Φ e loc H (kExp loc Q)
end MS
structure MF where
 params:Nat
 vars:Nat
 body:List MS
def wpF (Φ:Fun) (f:MF) (args:List AV) (H:Hp) (Q:PQ):Prop :=
 args.length=f.params/\wpSs Φ f.body (args.map some++List.replicate (f.vars-f.params) none) H (qa8 Q)
end Mine
namespace Mine
open PySem
noncomputable def qv6 (C:Ctx) (i:Nat) (x:Str):Bool :=
 decide (C.ro<=i)&&(C.vars[i]? == some (some x))&&(C.vars.zipIdx.all fun p=>p.1 != some x||p.2 == i)&&(C.names.lookup x == some .local||C.names.lookup x == some .cell)
theorem Slot.of {C:Ctx}{i:Nat}{x:Str}(h:qv6 C i x=true):Slot C i x:=by
 simp only [qv6,Bool.and_eq_true,decide_eq_true_eq,beq_iff_eq,List.all_eq_true,Bool.or_eq_true,bne_iff_ne,ne_eq] at h
 refine qa4 (h) fun qQ0 h4=>?_
 clear h
 obtain ⟨⟨h1,h2⟩,h3⟩:=qQ0
 refine ⟨h1,h2,fun j hj=>?_,h4⟩
 have:=h3 (some x,j) (by rw [List.mk_mem_zipIdx_iff_getElem?];exact hj)
 simpa using this
structure GT where
 fns:List Str
 csts:List (Str×AV)
noncomputable def Bi.nm:Bi->Str|.len => "len" | .all => "all" | .any => "any" | .sorted => "sorted" | .list => "list" | .tuple => "tuple" | .int => "int" | .min => "min" | .max => "max"
noncomputable def Bi.val:Bi->Value|.len=>.builtin "len" | .all=>.builtin "all" | .any=>.builtin "any" | .sorted=>.builtin "sorted" | .list=>.type "list" | .tuple=>.type "tuple" | .int=>.type "int" | .min=>.builtin "min" | .max=>.builtin "max"
noncomputable def Ty.ps:Ty->Str|.int => "int" | .bool => "bool" | .str => "str" | .tuple => "tuple" | .list => "list"
noncomputable def Mt.nm:Mt->Str|.append => "append" | .pop => "pop" | .insert => "insert" | .extend => "extend" | .clear => "clear"
noncomputable def Mt.id:Mt->String|.append => "list.append" | .pop => "list.pop" | .insert => "list.insert" | .extend => "list.extend" | .clear => "list.clear"
inductive ITy where|range|revd|enum
noncomputable def ITy.ik:ITy->IK|.range=>.range|.revd=>.revd|.enum=>.enum
noncomputable def ITy.str:ITy->Str|.range => "range" | .revd => "reversed" | .enum => "enumerate"
noncomputable def ITy.nm:ITy->String|.range => "range" | .revd => "reversed" | .enum => "enumerate"
structure GOK (P:PEnv) (G:GT):Prop extends P.OK2 where
 fns:∀ x,G.fns.contains x=true->∃ fa o fd,P.mg x=some (.ref fa)/\P.B.get? fa=some o/\o.data=.func fd
 csts:∀ x v,G.csts.lookup x=some v->∃ u,P.mg x=some u/\∀ h ι,P.B.StaysIn h->VR P.B h ι v u
 blt:∀ b:Bi,P.mg b.nm=none/\P.mb b.nm=some b.val
 ty:∀ t:Ty,P.mg t.ps=none/\P.mb t.ps=some (.type t.nm)
 isi:P.mg "isinstance" = none/\P.mb "isinstance" = some (.builtin "isinstance")
 its:∀ t:ITy,P.mg t.str=none/\P.mb t.str=some (.type t.nm)
structure GN (C:Ctx) (x:Str):Prop where
 look:C.names.lookup x=some .globalImplicit
 dbg:(x == ("__debug__" : Str))=false
structure MethForm (o:Expr) (name:Str) (apos pos:Pos) (es:List Expr):Prop where
 he:∀ env,eval (.Call (.Attribute o name apos) es [] pos) env=(do
   let ov ←eval o env
   standAt apos.atName
   let (f,first) ←holding [ov] (getMethod ov name (do return (←importBound o env).getD true))
   callWith pos f first (backTo pos (starEach es env)) [])
def qga (P:PEnv) (d:Nat) (Φ:Fun):Prop:=∀ f args H Q,Φ f args H Q->qa2 P d f args H Q XF
def SndP (P:PEnv) (C:Ctx) (d:Nat) (e:Expr) (loc:Loc) (H:Hp) (Q:PQ):Prop :=
 EvOK P C d e loc H Q XF/\∀ K:Bool->Hp->Prop,(∀ v H',Q v H'->asB v fun b=>K b H')->TsOK P C d e loc H K XF
theorem SndP.plain {P:PEnv}{C:Ctx}{d:Nat}{e:Expr}{loc:Loc}{H:Hp}{Q:PQ}(ev:EvOK P C d e loc H Q XF) (ht:∀ env whole,isTrue e env whole=(do let v ←whole;standAt e.pos;holding [v] (truthy v))):SndP P C d e loc H Q :=
 ⟨ev,fun K hk=>qpu (ev.mono fun v H' q=>(hk v H' q).ex) ht⟩
structure CE (G:GT) (C:Ctx) (m:ME) (e:Expr):Prop where
 star:∀ rest env,starEach (e::rest) env=(false,eval e env)::starEach rest env
 marks:∀ op,behindInMarks op e=false
 folded:∀ env x,foldedSetIterable e env x=pure x
 snd:∀ {P d Φ},GOK P G->qga P d Φ->∀ {loc H Q},wpE Φ m loc H Q->SndP P C d e loc H Q
structure CEs (G:GT) (C:Ctx) (ms:List ME) (es:List Expr):Prop where
 plain:qcb es
 snd:∀ {P d Φ},GOK P G->qga P d Φ->∀ {loc H}{Q:PL},wpEs Φ ms loc H Q->qct P C d es loc H Q XF
structure CO (G:GT) (C:Ctx) (ms:List ME) (o:Option Expr):Prop where
 snd:∀ {P d Φ},GOK P G->qga P d Φ->∀ {loc H}{Q:PL}{K:Option Int->Hp->Prop},wpEs Φ ms loc H Q->(∀ vs H',Q vs H'->∃ k,qr8 vs=some k/\K k H')->qg2 P C d o loc H K XF
noncomputable def IK.tt:IK->Bool
 | .enum=>true
 | _=>false
structure CI (G:GT) (C:Ctx) (k:IK) (ms:List ME) (e:Expr):Prop where
 folded:∀ env x,foldedSetIterable e env x=pure x
 snd:∀ {P d Φ},GOK P G->qga P d Φ->∀ {loc H}{K:KI},wpEs Φ ms loc H (kIt k K)->ItEv P k.tt C d e loc H K XF
structure CC (G:GT) (C:Ctx) (ms:List ME) (es:List Expr):Prop where
 snd:∀ {P d Φ},GOK P G->qga P d Φ->∀ {loc H}{K K':Bool->Hp->Prop},(∀ b H,K b H->K' b H)->wpCs Φ ms loc H K->qi0 P C d es loc H K'
structure CS (G:GT) (C:Ctx) (m:MS) (st:Stmt):Prop where
 snd:∀ {P d Φ},GOK P G->qga P d Φ->∀ {loc H}{Q:PF},wpS Φ m loc H Q->ExOK P C d st loc H Q
structure CSs (G:GT) (C:Ctx) (ms:List MS) (sts:List Stmt):Prop where
 snd:∀ {P d Φ},GOK P G->qga P d Φ->∀ {loc H}{Q:PF},wpSs Φ ms loc H Q->qgb P C d sts loc H Q
end Mine
namespace Mine
open PySem
variable {P:PEnv}{C:Ctx}{d:Nat}{loc:Loc}{H:Hp}{X:XP}
theorem EvOK.len {e:Expr}{Q:PQ}(h:loc.length=C.vars.length->EvOK P C d e loc H Q X):EvOK P C d e loc H Q X:=fun A E env ι s w r a=>h r.len A E env ι s w r a
theorem ExOK.len {e:Stmt}{Q:PF}(h:loc.length=C.vars.length->ExOK P C d e loc H Q):ExOK P C d e loc H Q:=fun A E env ι s w r=>h r.len A E env ι s w r
theorem qnv {eo ei:Expr}{o:AV}{l:List AV}{k:Int}{Q:PQ}(ho:seqL H o=some l) (hh:idxL l k H Q):ql3 P d eo ei o (.int k) H Q:=by
 refine qa4 (hh) fun h1 qQ1=>?_
 clear hh
 obtain ⟨j,z,hp,hz,q⟩:=qQ1
 unfold place at hp
 split at hp
 ·split at hp
  ·cases hp
   exact qpw ho h1 (by assumption) hz q
  ·cases hp
 ·split at hp
  ·cases hp
   exact qi7 ho h1 (by (first|lia|omega)) (by assumption) hz q
  ·cases hp
theorem qpo {eo ei:Expr}{x y:AV}{Q:PQ}(h:qbm x y H Q):ql3 P d eo ei x y H Q:=by
 cases x with
 | ref i =>
  refine qad (asI.ex h) fun k eQ1 g=>?_
  subst eQ1
  split at g
  ·rename_i hl;exact qnv (by simp [seqL,hl]) g
  ·rename_i hl;obtain ⟨z,h1,h2⟩:=g;exact qpx hl h1 h2
  ·exact g.elim
 | tup l =>
  refine qbi (asI.ex h) fun k eQ1 h1 qQ3=>?_
  subst eQ1
  obtain ⟨j,z,hp,hz,q⟩:=qQ3
  exact qs6 h1 hp hz q
 | fro l =>
  refine qad (asI.ex h) fun k eQ1 nQ2=>?_
  subst eQ1
  revert nQ2
  intro h
  exact qnv rfl h
 | _=>exact h.elim
theorem OpOK.mono {t:List Value->Sem Value}{args:List AV}{Q Q':PQ}(h:OpOK P d t args H Q) (q:∀ a H',Q a H'->Q' a H'):OpOK P d t args H Q' :=
 fun A E ι s vs w r=>wpAny_mono (h A E ι s vs w r) (fun _ _ g=>g.mono q) fun _ _ x=>x
noncomputable def Bi.call (f:Bi) (vs:List Value):Sem Value:=PySem.call f.val vs
theorem qpm (ok:P.OK2){x:AV}{Q:PQ}(h:ql8 x H Q):OpOK P d (fun us=>Bi.len.call us) [x] H Q:=by
 cases x with
 | ref i =>
  simp only [ql8] at h
  split at h
  ·rename_i hl;exact qn5 (by simp [seqL,hl]) h.1 h.2
  ·rename_i hl;exact quh ok hl h.1 h.2
  ·exact h.elim
 | tup l=>exact qug h.1 h.2
 | fro l=>exact qn5 rfl h.1 h.2
 | _=>exact h.elim
theorem wpMm.ex {vs:List AV}{K:Int->Int->Prop}(h:wpMm vs K):∃ a b,vs=[.int a,.int b]/\K a b:=by
 match vs,h with
 | [.int a,.int b],h=>exact ⟨a,b,rfl,h⟩
theorem qsy (ok:P.OK2){f:Bi}{vs:List AV}{Q:PQ}(h:wpBi f vs H Q):OpOK P d (fun us=>f.call us) vs H Q:=by
 cases f with
 | len=>obtain ⟨x,rfl,h⟩:=as1.ex h;exact qpm ok h
 | all=>obtain ⟨x,rfl,bs,h1,h2⟩:=as1.ex h;exact qxa h1 h2
 | any=>obtain ⟨x,rfl,bs,h1,h2⟩:=as1.ex h;exact qw9 h1 h2
 | list =>
  refine qad (as1.ex h) fun x eQ1 nQ2=>?_
  subst eQ1
  revert nQ2
  intro h
  refine qbi (qba.ex h) fun l h1 h2 h3=>?_
  cases x with
  | ref i =>
   cases hi:H[i]? with
   | none=>simp [lstL,hi] at h1
   | some o =>
    cases o with
    | list m=>exact qd8 (.inl (by simp [lstL,hi] at h1;simp [seqL,hi,h1])) h2 h3
    | dict m =>
     have:(m.map (·.1)).map AV.int=l:=by simpa [lstL,hi] using h1
     subst this
     exact qq0 hi (by simpa using h2) h3
  | tup m=>exact qd8 (.inr (by rw [yj (show some m=some l from h1)])) h2 h3
  | fro m=>exact qd8 (.inl h1) h2 h3
  | _=>exact qd8 (.inl h1) h2 h3
 | tuple =>
  refine qad (as1.ex h) fun x eQ1 nQ2=>?_
  subst eQ1
  revert nQ2
  intro h
  refine qbi (qba.ex h) fun l h1 h2 h3=>?_
  exact qlr h1 h2 h3
 | int =>
  refine qad (as1.ex h) fun x eQ1 nQ2=>?_
  subst eQ1
  revert nQ2
  intro h
  refine qad (asB.ex h) fun b eQ1 nQ2=>?_
  subst eQ1
  revert nQ2
  intro h
  exact qui h
 | min=>obtain ⟨a,b,rfl,h⟩:=wpMm.ex h;exact qw7 h
 | max=>obtain ⟨a,b,rfl,h⟩:=wpMm.ex h;exact qw8 h
 | sorted =>
  refine qad (as1.ex h) fun x eQ1 qQ2=>?_
  subst eQ1
  obtain ⟨ns,h1,h2,h3⟩:=qQ2
  rcases h1 with h1|⟨i,l,rfl,h1,rfl⟩
  ·exact qls h1 h2 h3
  ·exact qlt h1 (by simpa using h2) h3
theorem qpl.ex {vs:List AV}{K0:Prop}{K1:Int->Prop}(h:qpl vs K0 K1):(vs=[]/\K0)\/∃ k,vs=[.int k]/\K1 k:=by
 cases vs with
 | nil=>exact .inl ⟨rfl,h⟩
 | cons x r =>
  cases r with
  | nil=>cases x<;>first|exact (show False from h).elim|exact .inr ⟨_,rfl,h⟩
  | cons y r=>cases x<;>exact (show False from h).elim
theorem qpn.ex {vs:List AV}{K:Int->AV->Prop}(h:qpn vs K):∃ k x,vs=[.int k,x]/\K k x:=by
 cases vs with
 | nil=>exact (show False from h).elim
 | cons x r =>
  cases r with
  | nil=>cases x<;>exact (show False from h).elim
  | cons y r =>
   cases r with
   | nil=>cases x<;>first|exact (show False from h).elim|exact ⟨_,_,rfl,h⟩
   | cons z r=>cases x<;>exact (show False from h).elim
theorem ql7 {m:Mt}{x:AV}{vs:List AV}{Q:PQ}(h:wpMt m x vs H Q):OpOK P d (fun us=>PySem.call (.builtin m.id) us) (x::vs) H Q:=by
 refine qa6 (onL.ex h) fun i l eQ2 hl nQ4=>?_
 subst eQ2
 revert nQ4
 intro h
 cases m with
 | append=>obtain ⟨x,rfl,h⟩:=as1.ex h;exact qn8 hl h.1 h.2
 | pop =>
  rcases qpl.ex h with ⟨rfl,h1,l',x,rfl,q⟩|⟨k,rfl,h1,h2,h3,x,h4,q⟩
  ·exact qw6 hl (by simpa using h1) q
  ·exact qqz hl h1 h2 h3 h4 q
 | insert =>
  refine qzh (qpn.ex h) fun k x eQ2 h1 h2 h3 q=>?_
  subst eQ2
  exact qn6 hl h1 h2 h3 q
 | extend =>
  refine qad (as1.ex h) fun y eQ1 nQ2=>?_
  subst eQ1
  revert nQ2
  intro h
  refine qry (onL.ex h) fun j m eQ2 h1 h2 q=>?_
  subst eQ2
  exact qn7 hl h1 h2 q
 | clear=>obtain ⟨rfl,h1,q⟩:=h;exact qq1 hl h1 q
theorem qnj (m:Mt) (hi:H[i]?=some (.list l)):qk3 P (.ref i) H m.nm m.id:=by
 cases m
 ·exact qcx hi PySem.F.slot_list_append.lookup PySem.F.type_list_append
 ·exact qcx hi PySem.F.slot_list_pop.lookup PySem.F.type_list_pop
 ·exact qcx hi PySem.F.slot_list_insert.lookup PySem.F.type_list_insert
 ·exact qcx hi PySem.F.slot_list_extend.lookup PySem.F.type_list_extend
 ·exact qcx hi PySem.F.slot_list_clear.lookup PySem.F.type_list_clear
theorem qpk {o k x:AV}{K:Hp->Prop}(h:qi2 o k x H K):qrv P d o k x H K:=by
 cases o with
 | ref i =>
  refine qad (asI.ex h) fun k eQ1 g=>?_
  subst eQ1
  split at g
  ·rename_i hl;exact qp4 hl g.1 g.2.1 g.2.2.1 g.2.2.2
  ·rename_i hl;exact qp7 hl g.1 g.2
  ·exact g.elim
 | _=>exact h.elim
theorem qmq {L:Loc}:∀ {ws:List AV}{cv:Loc},cv.length=ws.length->qby (((List.range ws.length).map (L.length+·)).zip ws) (L++cv)=L++ws.map some:=by
 have key:∀ (ws:List AV) (pre:Loc) (cv:Loc),cv.length=ws.length->qby (((List.range ws.length).map (pre.length+·)).zip ws) (pre++cv)=pre++ws.map some:=by
  intro ws
  induction ws with
  | nil=>intro pre cv h;have:cv=[]:=List.length_eq_zero_iff.mp h;subst this;rfl
  | cons w ws ih =>
   intro pre cv h
   cases cv with
   | nil=>simp at h
   | cons c cv =>
    have e1:(List.range (w::ws).length).map (pre.length+·)=pre.length::(List.range ws.length).map ((pre++[some w]).length+·):=by
     rw [List.length_cons,List.range_succ_eq_map]
     simp only [List.map_cons,Nat.add_zero,List.map_map,List.cons.injEq,true_and]
     apply List.map_congr_left
     intro a _
     simp only [Function.comp,List.length_append,List.length_cons,List.length_nil]
     exact z26
    rw [e1]
    show qby (((List.range ws.length).map ((pre++[some w]).length+·)).zip ws) ((pre++c::cv).set pre.length (some w))=_
    have e2:(pre++c::cv).set pre.length (some w)=(pre++[some w])++cv:=by
     rw [List.set_append_right _ _ (Nat.le_refl _)];simp
    rw [e2,ih (pre++[some w]) cv (by simpa using h)]
    simp
 intro ws cv h
 exact key ws L cv h
end Mine
namespace Mine
open PySem
variable {P:PEnv}{d:Nat}{G:GT}{Φ:Fun}{C:Ctx}
theorem qs4 {e:Expr}{loc:Loc}{K:Bool->Hp->Prop}(h:TsOK P C d e loc H K XF):TsOK P C d (.BoolOp .And [e] pos) loc H K XF :=
 qmd (h.mono fun b H' k=>by cases b with|false=>exact k|true=>exact qk8 k)
theorem qvz {e:Expr}{loc:Loc}{K:Bool->Hp->Prop}(h:TsOK P C d e loc H K XF):TsOK P C d (.BoolOp .Or [e] pos) loc H K XF :=
 qs2 (h.mono fun b H' k=>by cases b with|true=>exact k|false=>exact qmc k)
theorem qqp {x:AV}{K:KI}(h:ql6 x H K):∃ items Cnd,ItOK P x H items Cnd/\K items Cnd H:=by
 cases x with
 | ref i=>obtain ⟨l,h1,h2⟩:=qba.ex h;exact ⟨_,_,qt5 (qew h1),h2⟩
 | fro l=>exact ⟨_,_,qwy,h⟩
 | tup l=>exact ⟨_,_,qwv,h⟩
 | str x=>exact ⟨_,_,qww h.1,h.2⟩
 | _=>exact h.elim
theorem qy3 {t:ITy}{vs:List AV}{K:KI}(h:wpIt t.ik vs H K):qf9 P t.ik.tt d (fun us=>PySem.call (.type t.nm) us) vs H K:=by
 cases t with
 | range =>
  match vs,h with
  | [.int n],h=>exact qns h.1 h.2.1 h.2.2
  | [.int a,.int b],h=>exact qnr h.1 h.2.1 h.2.2.1 h.2.2.2.1 h.2.2.2.2
 | revd =>
  refine qad (as1.ex h) fun x eQ1 nQ2=>?_
  subst eQ1
  revert nQ2
  intro h
  refine qa6 (onL.ex h) fun i l eQ2 h1 h2=>?_
  subst eQ2
  exact qwx h1 h2
 | enum =>
  refine qad (as1.ex h) fun x eQ1 nQ2=>?_
  subst eQ1
  revert nQ2
  intro h
  cases x with
  | ref i=>exact (qba.ex h).elim fun l z=>qqr (qew z.1) z.2
  | tup l=>exact qqq h
  | _=>exact h.elim
theorem CEs.nil:CEs G C [] []:=⟨fun _ _=>rfl,fun ok hΦ _ _ _ w=>qof w⟩
theorem CEs.cons {a:ME}{as:List ME}{x:Expr}(hx:CE G C a x) (hs:CEs G C as xs):CEs G C (a::as) (x::xs) :=
 ⟨fun env pos=>by rw [hx.star];have:=hs.plain env pos;simpa [backTo] using this,
  fun ok hΦ _ _ _ w=>qkr ((hx.snd ok hΦ (Q:=fun v H'=>wpEs _ as _ H' fun vs H''=>_) w).1.mono fun v H' w=>hs.snd ok hΦ w) fun env=>hx.star _ env⟩
theorem CO.none:CO G C [] none:=⟨fun ok hΦ _ _ _ _ w hk=>by
 refine qad (hk [] _ w) fun k h1 h2=>?_
 cases h1
 exact h2⟩
theorem CO.some {a:ME}{x:Expr}(hx:CE G C a x):CO G C [a] (some x):=⟨fun ok hΦ _ _ _ _ w hk=>by
 refine (hx.snd ok hΦ w).1.mono fun v H' q=>?_
 refine qad (hk _ _ q) fun k h1 h2=>?_
 cases v with
 | int i=>cases h1;exact ⟨i,rfl,h2⟩
 | _=>cases h1⟩
theorem CI.plain {a:ME}{x:Expr}(hx:CE G C a x):CI G C .plain [a] x :=
 ⟨hx.folded,fun ok hΦ _ _ _ w=>qt7 ((hx.snd ok hΦ w).1.mono fun x H1 w=>qqp w)⟩
theorem CI.ty {a:ME}{as:List ME}{x:Expr}{pn:Pos}{t:ITy}(gn:GN C t.str) (hx:CE G C a x) (hs:CEs G C as xs):CI G C t.ik (a::as) (.Call (.Name t.str pn) (x::xs) [] pos) :=
 ⟨fun _ _=>rfl,fun ok hΦ _ _ _ w=>qt6 ok.toOK gn.look gn.dbg (ok.its t).1 (ok.its t).2 (((CEs.cons hx hs).snd ok hΦ w).mono fun vs H'' w=>qy3 w) (fun env=>hx.star _ env) hs.plain⟩
theorem CC.nil:CC G C [] []:=⟨fun ok hΦ _ _ _ _ hk w=>hk _ _ w⟩
theorem CC.one {a:ME}{x:Expr}(hx:CE G C a x):CC G C [a] [x]:=⟨fun ok hΦ _ _ _ _ hk w=>by
 refine (hx.snd ok hΦ w).2 _ fun v H' q=>?_
 refine qad (asB.ex q) fun b eQ1 nQ2=>?_
 subst eQ1
 revert nQ2
 intro q
 cases b with
 | false=>exact hk _ _ q
 | true=>exact hk _ _ q⟩
namespace CE
theorem int {i:Int}:CE G C (.cst (.int i)) (.Constant (.int i) k pos):=⟨fun _ _=>rfl,fun _=>rfl,fun _ _=>rfl,fun ok hΦ _ _ _ w=>.plain (qsj w) fun _ _=>rfl⟩
theorem str {x:Str}(hx:PyData.strOk x=true):CE G C (.cst (.str x)) (.Constant (.str x) k pos):=⟨fun _ _=>rfl,fun _=>rfl,fun _ _=>rfl,fun ok hΦ _ _ _ w=>.plain (qxe hx w) fun _ _=>rfl⟩
theorem bool {x:Bool}:CE G C (.cst (.bool x)) (.Constant (.bool x) k pos):=⟨fun _ _=>rfl,fun _=>rfl,fun _ _=>rfl,fun ok hΦ _ _ _ w=>.plain (quy w) fun _ _=>rfl⟩
theorem none :CE G C (.cst .none) (.Constant .none k pos):=⟨fun _ _=>rfl,fun _=>rfl,fun _ _=>rfl,fun ok hΦ _ _ _ w=>.plain (qut w) fun _ _=>rfl⟩
theorem glob {x:Str}{v:AV}(hg:G.csts.lookup x=some v) (gn:GN C x):CE G C (.cst v) (.Name x pos):=⟨fun _ _=>rfl,fun _=>rfl,fun _ _=>rfl,fun ok hΦ _ _ _ w=>by
 refine qad (ok.csts _ _ hg) fun u h1 h2=>?_
 exact .plain (quv ok.toOK gn.dbg h1 h2 w gn.look) fun _ _=>rfl⟩
theorem loc {x:Str}(h1:C.vars[i]?=some (some x)) (h2:(x == ("__debug__" : Str))=false) (h3:(x == ("__classdict__" : Str))=false):CE G C (.loc i) (.Name x pos):=⟨fun _ _=>rfl,fun _=>rfl,fun _ _=>rfl,fun ok hΦ _ _ _ w=>by
 refine qad (atL.ex w) fun v hv q=>?_
 exact .plain (qxk h1 h2 h3 hv q) fun _ _=>rfl⟩
section
variable {a b c:ME}{x y z:Expr}{pos:Pos}
theorem bin {op:BOp}(ha:CE G C a x) (hb:CE G C b y):CE G C (.bin op a b) (.BinOp x op.op y pos):=⟨fun _ _=>rfl,fun _=>rfl,fun _ _=>rfl,fun ok hΦ _ _ _ w =>
 .plain (qxn ((ha.snd ok hΦ w).1.mono fun x H1 w=>(hb.snd ok hΦ w).1.mono fun y H2 w=>qpp w)) fun _ _=>rfl⟩
theorem cmp {op:COp}(ha:CE G C a x) (hb:CE G C b y):CE G C (.cmp op a b) (.Compare x [op.op] [y] pos):=⟨fun _ _=>rfl,fun _=>rfl,fun _ _=>rfl,fun ok hΦ _ _ _ w =>
 ⟨qxm ((ha.snd ok hΦ w).1.mono fun x H1 w=>(hb.snd ok hΦ w).1.mono fun y H2 w=>qc4 ok.toOK2 w) (hb.marks _),
  fun K hk=>qv1 ((ha.snd ok hΦ w).1.mono fun x H1 w=>(hb.snd ok hΦ w).1.mono fun y H2 w=>OpOK.mono (qc4 ok.toOK2 w) fun v H' q=>(hk v H' q).ex) (hb.marks _)⟩⟩
theorem cmp2 {o1 o2:COp}(ha:CE G C a x) (hb:CE G C b y) (hc:CE G C c z):CE G C (.cmp2 o1 o2 a b c) (.Compare x [o1.op,o2.op] [y,z] pos):=⟨fun _ _=>rfl,fun _=>rfl,fun _ _=>rfl,fun ok hΦ _ _ _ w=>by
 refine ⟨?_,fun K hk=>?_⟩
 ·refine qux ((ha.snd ok hΦ w).1.mono fun x H1 w=>(hb.snd ok hΦ w).1.mono fun y H2 w=>OpOK.mono (qc4 ok.toOK2 w) fun v H' q=>?_) (hc.marks _)
  refine qad (asB.ex q) fun t eQ1 nQ2=>?_
  subst eQ1
  revert nQ2
  intro q
  refine ⟨t,rfl,?_⟩
  cases t with
  | false=>exact q
  | true=>exact (hc.snd ok hΦ q).1.mono fun z H4 w=>qc4 ok.toOK2 w
 ·refine qs3 ((ha.snd ok hΦ w).1.mono fun x H1 w=>(hb.snd ok hΦ w).1.mono fun y H2 w=>OpOK.mono (qc4 ok.toOK2 w) fun v H' q=>?_) (hc.marks _)
  refine qad (asB.ex q) fun t eQ1 nQ2=>?_
  subst eQ1
  revert nQ2
  intro q
  refine ⟨t,rfl,?_⟩
  cases t with
  | false=>exact hk _ _ q
  | true=>exact (hc.snd ok hΦ q).1.mono fun z H4 w=>OpOK.mono (qc4 ok.toOK2 w) fun v H' q=>(hk v H' q).ex⟩
theorem not (ha:CE G C a x):CE G C (.not a) (.UnaryOp .Not x pos):=⟨fun _ _=>rfl,fun _=>rfl,fun _ _=>rfl,fun ok hΦ _ _ _ w =>
 ⟨qxi ((ha.snd ok hΦ w).1.mono fun v H' q=>asB.ex q),fun K hk=>qv0 ((ha.snd ok hΦ w).2 _ fun v H' q=>by
  refine qad (asB.ex q) fun b eQ1 nQ2=>?_
  subst eQ1
  revert nQ2
  intro q
  exact hk _ _ q)⟩⟩
theorem neg (ha:CE G C a x):CE G C (.neg a) (.UnaryOp .USub x pos):=⟨fun _ _=>rfl,fun _=>rfl,fun _ _=>rfl,fun ok hΦ _ _ _ w =>
 .plain (qsi ((ha.snd ok hΦ w).1.mono fun v H' q=>asI.ex q)) fun _ _=>rfl⟩
theorem and2 (ha:CE G C a x) (hb:CE G C b y):CE G C (.and2 a b) (.BoolOp .And [x,y] pos):=⟨fun _ _=>rfl,fun _=>rfl,fun _ _=>rfl,fun ok hΦ _ _ _ w=>by
 refine ⟨qsk ((ha.snd ok hΦ w).1.mono fun v H' w=>?_),fun K hk=>qmd ((ha.snd ok hΦ w).2 _ fun v H' w=>?_)⟩
 ·refine qad (asB.ex w) fun t eQ1 nQ2=>?_
  subst eQ1
  revert nQ2
  intro w
  refine ⟨t,rfl,?_⟩
  cases t with
  | false=>exact w
  | true=>exact qks (hb.snd ok hΦ w).1
 ·refine qad (asB.ex w) fun t eQ1 nQ2=>?_
  subst eQ1
  revert nQ2
  intro w
  show (if t then _ else _)
  cases t with
  | false=>exact hk _ _ w
  | true=>exact qs4 ((hb.snd ok hΦ w).2 K hk)⟩
theorem or2 (ha:CE G C a x) (hb:CE G C b y):CE G C (.or2 a b) (.BoolOp .Or [x,y] pos):=⟨fun _ _=>rfl,fun _=>rfl,fun _ _=>rfl,fun ok hΦ _ _ _ w=>by
 refine ⟨qxh ((ha.snd ok hΦ w).1.mono fun v H' w=>?_),fun K hk=>qs2 ((ha.snd ok hΦ w).2 _ fun v H' w=>?_)⟩
 ·refine qad (asB.ex w) fun t eQ1 nQ2=>?_
  subst eQ1
  revert nQ2
  intro w
  refine ⟨t,rfl,?_⟩
  cases t with
  | true=>exact w
  | false=>exact qks (hb.snd ok hΦ w).1
 ·refine qad (asB.ex w) fun t eQ1 nQ2=>?_
  subst eQ1
  revert nQ2
  intro w
  show (if t then _ else _)
  cases t with
  | true=>exact hk _ _ w
  | false=>exact qvz ((hb.snd ok hΦ w).2 K hk)⟩
theorem and3 {r:List Expr}(ha:CE G C a x) (hb:CE G C b (.BoolOp .And (y::z::r) pos)):CE G C (.and2 a b) (.BoolOp .And (x::y::z::r) pos):=⟨fun _ _=>rfl,fun _=>rfl,fun _ _=>rfl,fun ok hΦ _ _ _ w=>by
 refine ⟨qsk ((ha.snd ok hΦ w).1.mono fun v H' w=>?_),fun K hk=>qmd ((ha.snd ok hΦ w).2 _ fun v H' w=>?_)⟩
 ·refine qad (asB.ex w) fun t eQ1 nQ2=>?_
  subst eQ1
  revert nQ2
  intro w
  refine ⟨t,rfl,?_⟩
  cases t with
  | false=>exact w
  | true=>exact (hb.snd ok hΦ w).1
 ·refine qad (asB.ex w) fun t eQ1 nQ2=>?_
  subst eQ1
  revert nQ2
  intro w
  show (if t then _ else _)
  cases t with
  | false=>exact hk _ _ w
  | true=>exact (hb.snd ok hΦ w).2 K hk⟩
theorem or3 {r:List Expr}(ha:CE G C a x) (hb:CE G C b (.BoolOp .Or (y::z::r) pos)):CE G C (.or2 a b) (.BoolOp .Or (x::y::z::r) pos):=⟨fun _ _=>rfl,fun _=>rfl,fun _ _=>rfl,fun ok hΦ _ _ _ w=>by
 refine ⟨qxh ((ha.snd ok hΦ w).1.mono fun v H' w=>?_),fun K hk=>qs2 ((ha.snd ok hΦ w).2 _ fun v H' w=>?_)⟩
 ·refine qad (asB.ex w) fun t eQ1 nQ2=>?_
  subst eQ1
  revert nQ2
  intro w
  refine ⟨t,rfl,?_⟩
  cases t with
  | true=>exact w
  | false=>exact (hb.snd ok hΦ w).1
 ·refine qad (asB.ex w) fun t eQ1 nQ2=>?_
  subst eQ1
  revert nQ2
  intro w
  show (if t then _ else _)
  cases t with
  | true=>exact hk _ _ w
  | false=>exact (hb.snd ok hΦ w).2 K hk⟩
theorem call {f:Str}{as:List ME}{pn:Pos}(hf:G.fns.contains f=true) (gn:GN C f) (hx:CE G C a x) (hs:CEs G C as xs):CE G C (.call f (a::as)) (.Call (.Name f pn) (x::xs) [] pos):=⟨fun _ _=>rfl,fun _=>rfl,fun _ _=>rfl,fun ok hΦ _ _ _ w=>by
 refine qi1 (ok.fns _ hf) fun fa o fd h1 h2 h3=>?_
 exact .plain (qoi ok.toOK gn.look gn.dbg h1 h2 h3 (((CEs.cons hx hs).snd ok hΦ w).mono fun vs H' w=>hΦ _ _ _ _ w) fun env=>hx.star _ env) fun _ _=>rfl⟩
theorem bi {as:List ME}{pn:Pos}{f:Bi}(gn:GN C f.nm) (hx:CE G C a x) (hs:CEs G C as xs):CE G C (.bi f (a::as)) (.Call (.Name f.nm pn) (x::xs) [] pos):=⟨fun _ _=>rfl,fun _=>rfl,fun _ _=>rfl,fun {P d Φ} ok hΦ _ _ _ w=>by
 refine qa4 (ok.blt f) fun h1 h2=>?_
 have hev:=((CEs.cons hx hs).snd ok hΦ w).mono fun vs H' w=>qsy (P:=P) (d:=d) ok.toOK2 w
 refine .plain ?_ fun _ _=>rfl
 cases f
 ·exact qlv ok.toOK gn.look gn.dbg h1 h2 hev (fun env=>hx.star _ env) hs.plain
 ·exact qlv ok.toOK gn.look gn.dbg h1 h2 hev (fun env=>hx.star _ env) hs.plain
 ·exact qlv ok.toOK gn.look gn.dbg h1 h2 hev (fun env=>hx.star _ env) hs.plain
 ·exact qlv ok.toOK gn.look gn.dbg h1 h2 hev (fun env=>hx.star _ env) hs.plain
 ·exact qus ok.toOK gn.look gn.dbg h1 h2 hev (fun env=>hx.star _ env) hs.plain
 ·exact qus ok.toOK gn.look gn.dbg h1 h2 hev (fun env=>hx.star _ env) hs.plain
 ·exact qus ok.toOK gn.look gn.dbg h1 h2 hev (fun env=>hx.star _ env) hs.plain
 ·exact qlv ok.toOK gn.look gn.dbg h1 h2 hev (fun env=>hx.star _ env) hs.plain
 ·exact qlv ok.toOK gn.look gn.dbg h1 h2 hev (fun env=>hx.star _ env) hs.plain⟩
theorem isi {pn pt:Pos}{t:Ty}(gn:GN C "isinstance") (gt:GN C t.ps) (hx:CE G C a x):CE G C (.isi a t) (.Call (.Name "isinstance" pn) [x,.Name t.ps pt] [] pos):=⟨fun _ _=>rfl,fun _=>rfl,fun _ _=>rfl,fun ok hΦ _ _ _ w =>
 .plain (qxl ok.toOK gn.look gn.dbg ok.isi.1 ok.isi.2 gt.look gt.dbg (.inr (ok.ty t)) ((hx.snd ok hΦ w).1.mono fun v H' w=>qw0 w) fun env=>hx.star _ env) fun _ _=>rfl⟩
theorem idx (ha:CE G C a x) (hb:CE G C b y):CE G C (.idx a b) (.Subscript x y pos):=⟨fun _ _=>rfl,fun _=>rfl,fun _ _=>rfl,fun ok hΦ _ _ _ w =>
 .plain (qxd ((ha.snd ok hΦ w).1.mono fun x H1 w=>(hb.snd ok hΦ w).1.mono fun y H2 w=>qpo w)) fun _ _=>rfl⟩
theorem slc {p:Pos}{lo hi:List ME}{l h:Option Expr}(ha:CE G C a x) (hl:CO G C lo l) (hh:CO G C hi h):CE G C (.slc a lo hi) (.Subscript x (.Slice l h .none p) pos):=⟨fun _ _=>rfl,fun _=>rfl,fun _ _=>rfl,fun ok hΦ _ _ _ w=>by
 refine .plain (qq7 ((ha.snd ok hΦ w).1.mono fun x H1 w=>?_)) fun _ _=>rfl
 refine hl.snd ok hΦ w fun us H2 w=>?_
 refine qbi (qgd.ex w) fun ka h1 h2 w=>?_
 refine ⟨ka,h1,hh.snd ok hΦ w fun vs H3 w=>?_⟩
 refine qbi (qgd.ex w) fun kb h3 h4 w=>?_
 refine qbi (qba.ex w) fun l h5 h6 q=>?_
 exact ⟨kb,h3,l,h5,h6,h2,h4,q⟩⟩
theorem slcT {p:Pos}{lo hi:List ME}{l h:Option Expr}(ha:CE G C a x) (hl:CO G C lo l) (hh:CO G C hi h):CE G C (.slcT a lo hi) (.Subscript x (.Slice l h .none p) pos):=⟨fun _ _=>rfl,fun _=>rfl,fun _ _=>rfl,fun ok hΦ _ _ _ w=>by
 refine .plain (qog ((ha.snd ok hΦ w).1.mono fun x H1 w=>?_)) fun _ _=>rfl
 refine hl.snd ok hΦ w fun us H2 w=>?_
 refine qbi (qgd.ex w) fun ka h1 h2 w=>?_
 refine ⟨ka,h1,hh.snd ok hΦ w fun vs H3 w=>?_⟩
 refine qbi (qgd.ex w) fun kb h3 h4 w=>?_
 refine qbi (qba.ex w) fun l h5 h6 q=>?_
 cases x with
 | tup m=>cases h5;exact ⟨kb,h3,_,rfl,h6,h2,h4,q⟩
 | _=>cases h5⟩
theorem rev {n:Str}{px p p1 p2:Pos}(ha:CE G C a (.Name n px)):CE G C (.rev a) (.Subscript (.Name n px) (.Slice .none .none (some (.UnaryOp .USub (.Constant (.int 1) k p1) p2)) p) pos):=⟨fun _ _=>rfl,fun _=>rfl,fun _ _=>rfl,fun ok hΦ _ _ _ w=>by
 refine .plain (qxg (fun _ _=>rfl) ((ha.snd ok hΦ w).1.mono fun x H1 w=>?_)) fun _ _=>rfl
 exact qsi (qsj ⟨1,rfl,rfl,qba.ex w⟩)⟩
theorem tup {as:List ME}(hs:CEs G C as xs):CE G C (.tup as) (.Tuple xs k pos):=⟨fun _ _=>rfl,fun _=>rfl,fun _ _=>rfl,fun ok hΦ _ _ _ w=>.plain (qsh (hs.snd ok hΦ w)) fun _ _=>rfl⟩
theorem lst {as:List ME}(hs:CEs G C as xs):CE G C (.lst as) (.List xs pos):=⟨fun _ _=>rfl,fun _=>rfl,fun _ _=>rfl,fun ok hΦ _ _ _ w=>.plain (qxj (hs.snd ok hΦ w)) fun _ _=>rfl⟩
theorem dic0:CE G C .dic0 (.Dict [] [] pos):=⟨fun _ _=>rfl,fun _=>rfl,fun _ _=>rfl,fun ok hΦ _ _ _ w=>.plain (quw ok.toOK2 w) fun _ _=>rfl⟩
theorem meth0 {m:Mt}{apos:Pos}(ho:CE G C a x) (hf:MethForm x m.nm apos pos []):CE G C (.meth m a []) (.Call (.Attribute x m.nm apos) [] [] pos):=⟨fun _ _=>rfl,fun _=>rfl,fun _ _=>rfl,fun ok hΦ _ _ _ w=>by
 refine .plain (qq8 (pl:=fun env=>do return (←importBound _ env).getD true) ((ho.snd ok hΦ w).1.mono fun x H1 w=>?_) hf.he) fun _ _=>rfl
 refine qa4 (w) fun qQ0 nQ1=>?_
 clear w
 obtain ⟨i,l,rfl,hl⟩:=qQ0
 revert nQ1
 intro w
 exact ⟨m.id,qnj m hl,ql7 w⟩⟩
theorem meth {m:Mt}{apos:Pos}{as:List ME}{xs:List Expr}(ho:CE G C a x) (hx:CE G C b y) (hs:CEs G C as xs) (hf:MethForm x m.nm apos pos (y::xs)):CE G C (.meth m a (b::as)) (.Call (.Attribute x m.nm apos) (y::xs) [] pos):=⟨fun _ _=>rfl,fun _=>rfl,fun _ _=>rfl,fun ok hΦ _ _ _ w=>by
 refine .plain (quu (pl:=fun env=>do return (←importBound _ env).getD true) ((ho.snd ok hΦ w).1.mono fun x H1 w=>?_) hf.he (fun env=>hx.star _ env) hs.plain) fun _ _=>rfl
 refine qa4 (w) fun qQ0 nQ1=>?_
 clear w
 obtain ⟨i,l,rfl,hl⟩:=qQ0
 revert nQ1
 intro w
 exact ⟨m.id,qnj m hl,((CEs.cons hx hs).snd ok hΦ w).mono fun vs H2 w=>ql7 w⟩⟩
end
end CE
def ql2 (C:Ctx) (t:Bool) (n:Nat) (scope:Scope) (locals:List Str) (xt:Expr):Prop :=
 locals.length=n/\∀ {P:PEnv}{y:AV}{ws:List AV}{loc cv:Loc}{K:Loc->Prop},qcr t n y=some ws->loc.length=C.vars.length->cv.length=locals.length->K (loc++ws.map some)->ws.length=locals.length/\TgOK P (qas C scope locals) xt y (loc++cv) K
theorem qe5 {y:AV}{ws:List AV}(h:qcr false n y=some ws):n=1/\ws=[y]:=by
 unfold qcr at h
 simp only at h
 split at h
 ·cases h;exact ⟨by assumption,rfl⟩
 ·cases h
theorem qfl {y:AV}{ws:List AV}(h:qcr true n y=some ws):y=.tup ws/\ws.length=n:=by
 unfold qcr at h
 simp only at h
 split at h
 ·split at h
  ·cases h;exact ⟨rfl,by assumption⟩
  ·cases h
 ·cases h
theorem ql2.one {scope:Scope}{x:Str}{px:Pos}(sl:Slot (qas C scope [x]) C.vars.length x):ql2 C false 1 scope [x] (.Name x px):=⟨rfl,fun {P y ws loc cv K} hu hlen hcv hk=>by
 refine qa4 (qe5 hu) fun _ eQ1=>?_
 subst eQ1
 refine ⟨rfl,qmh sl ?_⟩
 obtain ⟨c,rfl⟩:∃ c,cv=[c]:=by
  match cv,hcv with
  | [c],_=>exact ⟨c,rfl⟩
 rw [←hlen,List.set_append_right _ _ (Nat.le_refl _)]
 simpa using hk⟩
theorem ql2.tup {scope:Scope}{locals:List Str}{ts:List Expr}{tk:Nat}{tp:Pos}(hl:locals.length=n) (nm:Names (qas C scope locals) ts ((List.range n).map (C.vars.length+·))):ql2 C true n scope locals (.Tuple ts tk tp):=⟨hl,fun {P y ws loc cv K} hu hlen hcv hk=>by
 refine qa4 (qfl hu) fun eQ0 hw=>?_
 subst eQ0
 refine ⟨by rw [hw,hl],qmg nm (by simp [hw]) ?_⟩
 have:=qmq (L:=loc) (ws:=ws) (cv:=cv) (by rw [hcv,hl,hw])
 rw [hw,hlen] at this
 rw [this];exact hk⟩
theorem qor {t:Bool}{n:Nat}{elt:ME}{k:IK}{its cond:List ME}{xe xt xi:Expr}{ifs:List Expr}{scope:Scope}{locals:List Str}{loc:Loc}{H:Hp}{Q:PQ}
  (ok:GOK P G) (hΦ:qga P d Φ) (hi:CI G C k its xi) (he:CE G (qas C scope locals) elt xe) (hc:CC G (qas C scope locals) cond ifs) (tg:ql2 C t n scope locals xt) (hlen:loc.length=C.vars.length)
  (w:wpE Φ (.comp t n elt k its cond) loc H Q):qpf P k.tt C d xe xt xi ifs scope locals loc H (fun l H'=>Q (.ref H'.length) (H'++[.list l])) XF:=by
 refine (hi.snd ok hΦ w).mono fun items Cnd H1 hw=>?_
 refine qa4 (hw) fun hs qQ1=>?_
 clear hw
 obtain ⟨J,j0,turn⟩:=qQ1
 refine ⟨hs,J,j0,fun i l H' hj=>?_⟩
 refine qfk (turn i l H' hj) fun h1 h2 h3=>?_
 refine ⟨h1,fun y hy cv hcv=>?_,h3⟩
 refine qad (h2 y hy) fun ws hu hw=>?_
 have hwl:=(tg.2 (P:=P) (K:=fun _=>True) hu hlen hcv trivial).1
 refine (tg.2 hu hlen hcv ⟨⟨_,by rw [ya];exact hwl,rfl⟩,hc.snd ok hΦ (fun b H'' hb=>?_) hw⟩).2
 cases b with
 | false=>exact hb
 | true=>exact (he.snd ok hΦ hb).1
structure CL (G:GT) (C:Ctx) (t:Bool) (n:Nat) (elt:ME) (k:IK) (its cond:List ME) (xe xt xi:Expr) (ifs:List Expr) (scope:Scope) (locals:List Str):Prop where
 cg:CompOK C scope locals
 hi:CI G C k its xi
 he:CE G (qas C scope locals) elt xe
 hc:CC G (qas C scope locals) cond ifs
 tg:ql2 C t n scope locals xt
theorem CE.comp {t:Bool}{elt:ME}{k:IK}{its cond:List ME}{xe xt xi:Expr}{ifs:List Expr}{scope:Scope}{locals:List Str}(h:CL G C t n elt k its cond xe xt xi ifs scope locals) (hk:k.tt=true->qd5 xt=true) :
  CE G C (.comp t n elt k its cond) (.ListComp xe [⟨xt,xi,ifs,0⟩] scope pos):=⟨fun _ _=>rfl,fun _=>rfl,fun _ _=>rfl,fun ok hΦ _ _ _ w =>
 .plain (EvOK.len fun hlen=>qoh h.cg hk (qor ok hΦ h.hi h.he h.hc h.tg hlen w) h.hi.folded) fun _ _=>rfl⟩
end Mine
namespace Mine
open PySem
variable {P:PEnv}{d:Nat}{G:GT}{Φ:Fun}{C:Ctx}
theorem ExOK.mono {st:Stmt}{loc:Loc}{Q Q':PF}(h:ExOK P C d st loc H Q) (q:∀ f l H,Q f l H->Q' f l H):ExOK P C d st loc H Q' :=
 fun A E env ι s w e=>wpAny_mono (h A E env ι s w e) (fun f s' g=>by
  obtain ⟨ι',H',loc',fl,p,e',r,z⟩:=g
  exact ⟨ι',H',loc',fl,p,e',r,q _ _ _ z⟩) fun _ _ x=>x
namespace CS
section
variable {a b c:ME}{x y z:Expr}{pos p:Pos}{n:Str}{i:Nat}
theorem asg (sl:Slot C i n) (ha:CE G C a x) (hs:∀ env,swapsWith x (some (.Name n p)) pos.line env=pure false):CS G C (.asg i a) (.Assign [.Name n p] x pos):=⟨fun ok hΦ _ _ _ w=>qir sl (ha.snd ok hΦ w).1 hs⟩
theorem asgC {t:Bool}{m:Nat}{elt:ME}{k:IK}{its cond:List ME}{xe xt xi:Expr}{ifs:List Expr}{scope:Scope}{locals:List Str}{cpos:Pos}(sl:Slot C i n) (h:CL G C t m elt k its cond xe xt xi ifs scope locals) (hk:k.tt=true->qd5 xt=true) :
  CS G C (.asg i (.comp t m elt k its cond)) (.Assign [.Name n p] (.ListComp xe [⟨xt,xi,ifs,0⟩] scope cpos) pos):=⟨fun ok hΦ loc _ Q w =>
 ExOK.len fun hlen=>qgo sl h.cg hk (qor (Q:=fun v H'=>Q .next (loc.set i (some v)) H') ok hΦ h.hi h.he h.hc h.tg hlen w) h.hi.folded⟩
theorem asgT {is:List Nat}{ts:List Expr}{tp:Pos}(nm:Names C ts is) (ha:CE G C a x) (hs:∀ env,swapsWithSole [.Tuple ts k tp] x pos.line env=pure false) (hw:∀ env,swappedStores [.Tuple ts k tp] x env=pure none):CS G C (.asgT is a) (.Assign [.Tuple ts k tp] x pos) :=
 ⟨fun ok hΦ _ _ _ w=>qlu nm ((ha.snd ok hΦ w).1.mono fun v H' q=>asT.ex q) hs hw⟩
theorem sto (hc:CE G C c z) (ha:CE G C a x) (hb:CE G C b y) (hs:∀ env,swapsWith z (some (.Subscript x y p)) pos.line env=pure false):CS G C (.sto a b c) (.Assign [.Subscript x y p] z pos):=⟨fun ok hΦ _ _ _ w =>
 qq6 ((hc.snd ok hΦ w).1.mono fun x H1 w=>(ha.snd ok hΦ w).1.mono fun y H2 w=>(hb.snd ok hΦ w).1.mono fun z H3 w=>qpk w) hs⟩
theorem ite {ma mb:List MS}{xa xb:List Stmt}(ht:CE G C a x) (ha:CSs G C ma xa) (hb:CSs G C mb xb):CS G C (.ite a ma mb) (.If x xa xb pos):=⟨fun ok hΦ _ _ _ w =>
 qy5 ((ht.snd ok hΦ w).2 _ fun v H' q=>by
  refine qad (asB.ex q) fun c eQ1 nQ2=>?_
  subst eQ1
  revert nQ2
  intro q
  show (if c then _ else _)
  cases c with
  | false=>exact hb.snd ok hΦ q
  | true=>exact ha.snd ok hΦ q)⟩
theorem whl {mb:List MS}{xb:List Stmt}(ht:CE G C a x) (hb:CSs G C mb xb):CS G C (.whl a mb) (.While x xb [] pos):=⟨fun ok hΦ _ _ _ w=>by
 refine qjy (w) fun J n j0 turn=>?_
 clear w
 refine qq5 J n j0 fun n loc H hj=>(ht.snd ok hΦ (turn n loc H hj)).2 _ fun v H' q=>?_
 refine qad (asB.ex q) fun c eQ1 nQ2=>?_
 subst eQ1
 revert nQ2
 intro q
 show (if c then _ else _)
 cases c with
 | false=>exact q
 | true=>exact hb.snd ok hΦ q⟩
theorem for1 {k:IK}{its:List ME}{mb:List MS}{xb:List Stmt}(sl:Slot C i n) (hi:CI G C k its x) (hb:CSs G C mb xb) (hk:k.tt=false):CS G C (.forr false [i] k its mb) (.For (.Name n p) x xb [] pos):=⟨fun ok hΦ _ _ _ w=>by
 refine qg1 (fun z=>by rw [hk] at z;cases z) ((hi.snd ok hΦ w).mono fun items Cnd H1 q=>?_) hi.folded
 refine qad (q) fun J j0 turn=>?_
 clear q
 refine ⟨J,j0,fun i loc H hj=>?_⟩
 refine qfk (turn i loc H hj) fun h1 h2 h3=>?_
 refine ⟨h1,fun y hy=>?_,h3⟩
 refine qad (h2 y hy) fun ws hu hw=>?_
 refine qa4 (qe5 hu) fun _ eQ1=>?_
 subst eQ1
 exact qmh sl (hb.snd ok hΦ hw)⟩
theorem forT {is:List Nat}{k:IK}{its:List ME}{mb:List MS}{xb:List Stmt}{ts:List Expr}{tk:Nat}{tp:Pos}(nm:Names C ts is) (hi:CI G C k its x) (hb:CSs G C mb xb):CS G C (.forr true is k its mb) (.For (.Tuple ts tk tp) x xb [] pos):=⟨fun ok hΦ _ _ _ w=>by
 refine qg1 (fun _=>rfl) ((hi.snd ok hΦ w).mono fun items Cnd H1 q=>?_) hi.folded
 refine qad (q) fun J j0 turn=>?_
 clear q
 refine ⟨J,j0,fun i loc H hj=>?_⟩
 refine qfk (turn i loc H hj) fun h1 h2 h3=>?_
 refine ⟨h1,fun y hy=>?_,h3⟩
 refine qad (h2 y hy) fun ws hu hw=>?_
 refine qa4 (qfl hu) fun eQ0 hl=>?_
 subst eQ0
 exact qmg nm hl (hb.snd ok hΦ hw)⟩
theorem ret (ha:CE G C a x):CS G C (.ret a) (.Return (some x) pos):=⟨fun ok hΦ _ _ _ w=>qxb (ha.snd ok hΦ w).1⟩
theorem expr (ha:CE G C a x) (hs:∀ env,swapsWith x none pos.line env=pure false):CS G C (.expr a) (.Expr x pos):=⟨fun ok hΦ _ _ _ w=>qup (ha.snd ok hΦ w).1 hs⟩
end
end CS
theorem CSs.nil:CSs G C [] []:=⟨fun ok hΦ _ _ _ w=>qoc w⟩
theorem CSs.cons {m:MS}{ms:List MS}{x:Stmt}{xs:List Stmt}(hx:CS G C m x) (hs:CSs G C ms xs):CSs G C (m::ms) (x::xs):=⟨fun ok hΦ _ _ _ w =>
 qq2 ((hx.snd ok hΦ w).mono fun fl l H' q=>by
  cases fl with
  | next=>exact hs.snd ok hΦ q
  | _=>exact q)⟩
theorem qv5 (ok:GOK P G) (hΦ:qga P d Φ){x:Str}{params:List Str}{body:List Stmt}{f:MF}{args:List AV}{Q:PQ}(fn:FnAt P x C params body) (good:C.good params=true) (cs:CSs G C f.body body) (hp:params.length=f.params) (hv:C.vars.length=f.vars)
  (w:wpF Φ f args H Q):qa2 P (d+1) x args H Q XF:=by
 refine qa4 (w) fun hl w=>?_
 refine qoz ok.toOK fn good (by rw [hl,hp]) (cs.snd ok hΦ ?_)
 unfold start
 rw [hv,hl];exact w
end Mine
namespace Mine
open PySem
variable {Φ:Fun}{loc:Loc}{H:Hp}{Q:PQ}
theorem qa5 {K:Bool->Prop}{b:Bool}(h1:b=true->K true) (h2:b=false->K false):K b:=by
 cases b with
 | true=>exact h1 rfl
 | false=>exact h2 rfl
theorem qa7 {K:Bool->Prop}{p:Prop}{i:Decidable p}(h1:p->K true) (h2:¬ p->K false):K (@decide p i) :=
 qa5 (fun h=>h1 (of_decide_eq_true h)) fun h=>h2 (of_decide_eq_false h)
theorem qpy {K:Bool->Prop}{p:Prop}{i:Decidable p}(h1:¬ p->K true) (h2:p->K false):K (!(@decide p i)) :=
 qa5 (fun h=>h1 (by simpa using h)) fun h=>h2 (by simpa using h)
theorem withL_some {l:List AV}{K:List AV->Prop}:qba (some l) K=K l:=rfl
theorem e_cst {v:AV}:wpE Φ (.cst v) loc H Q=Q v H:=rfl
theorem e_loc0 {v:AV}:wpE Φ (.loc 0) (some v::loc) H Q=Q v H:=rfl
theorem e_locS {i:Nat}{o:Option AV}:wpE Φ (.loc (i+1)) (o::loc) H Q=wpE Φ (.loc i) loc H Q:=rfl
theorem e_bin {op:BOp}{a b:ME}:wpE Φ (.bin op a b) loc H Q=wpE Φ a loc H (qt3 Φ op b loc Q):=rfl
theorem k_bin1 {op:BOp}{b:ME}{x:AV}:qt3 Φ op b loc Q x H=wpE Φ b loc H (qt2 op x Q):=rfl
theorem k_bin2 {op:BOp}{x y:AV}:qt2 op x Q y H=qeh op x y H Q:=rfl
theorem e_cmp {op:COp}{a b:ME}:wpE Φ (.cmp op a b) loc H Q=wpE Φ a loc H (qt0 Φ op b loc Q):=rfl
theorem k_cmp1 {op:COp}{b:ME}{x:AV}:qt0 Φ op b loc Q x H=wpE Φ b loc H (qnq op x Q):=rfl
theorem k_cmp2 {op:COp}{x y:AV}:qnq op x Q y H=qbk op x y H Q:=rfl
theorem e_cmp2 {o1 o2:COp}{a b c:ME}:wpE Φ (.cmp2 o1 o2 a b c) loc H Q=wpE Φ a loc H (kC1 Φ o1 o2 b c loc Q):=rfl
theorem k_c1 {o1 o2:COp}{b c:ME}{x:AV}:kC1 Φ o1 o2 b c loc Q x H=wpE Φ b loc H (kC2 Φ o1 o2 c loc x Q):=rfl
theorem k_c2 {o1 o2:COp}{c:ME}{x y:AV}:kC2 Φ o1 o2 c loc x Q y H=qbk o1 x y H (kC3 Φ o2 c loc y Q):=rfl
theorem k_c3 {o2:COp}{c:ME}{y:AV}{b:Bool}:kC3 Φ o2 c loc y Q (.bool b) H=kC4 Φ o2 c loc y Q H b:=rfl
theorem k_c4t {o2:COp}{c:ME}{y:AV}:kC4 Φ o2 c loc y Q H true=wpE Φ c loc H (qnq o2 y Q):=rfl
theorem k_c4f {o2:COp}{c:ME}{y:AV}:kC4 Φ o2 c loc y Q H false=Q (.bool false) H:=rfl
theorem e_not {a:ME}:wpE Φ (.not a) loc H Q=wpE Φ a loc H (kNot Q):=rfl
theorem k_not {b:Bool}:kNot Q (.bool b) H=Q (.bool !b) H:=rfl
theorem e_neg {a:ME}:wpE Φ (.neg a) loc H Q=wpE Φ a loc H (kNeg Q):=rfl
theorem k_neg {b:Int}:kNeg Q (.int b) H=Q (.int (-b)) H:=rfl
theorem e_and2 {a b:ME}:wpE Φ (.and2 a b) loc H Q=wpE Φ a loc H (kAnd Φ b loc Q):=rfl
theorem k_and {b:ME}{t:Bool}:kAnd Φ b loc Q (.bool t) H=qjq Φ b loc Q H t:=rfl
theorem k_andt {b:ME}:qjq Φ b loc Q H true=wpE Φ b loc H Q:=rfl
theorem k_andf {b:ME}:qjq Φ b loc Q H false=Q (.bool false) H:=rfl
theorem e_or2 {a b:ME}:wpE Φ (.or2 a b) loc H Q=wpE Φ a loc H (kOr Φ b loc Q):=rfl
theorem k_or {b:ME}{t:Bool}:kOr Φ b loc Q (.bool t) H=kOrB Φ b loc Q H t:=rfl
theorem k_ort {b:ME}:kOrB Φ b loc Q H true=Q (.bool true) H:=rfl
theorem k_orf {b:ME}:kOrB Φ b loc Q H false=wpE Φ b loc H Q:=rfl
theorem e_call {f:Str}{as:List ME}:wpE Φ (.call f as) loc H Q=wpEs Φ as loc H (qt1 Φ f Q):=rfl
theorem k_call {f:Str}{vs:List AV}:qt1 Φ f Q vs H=Φ f vs H Q:=rfl
theorem e_bi {f:Bi}{as:List ME}:wpE Φ (.bi f as) loc H Q=wpEs Φ as loc H (kBi f Q):=rfl
theorem k_bi {f:Bi}{vs:List AV}:kBi f Q vs H=wpBi f vs H Q:=rfl
theorem e_isi {a:ME}{t:Ty}:wpE Φ (.isi a t) loc H Q=wpE Φ a loc H (kIsi t Q):=rfl
theorem k_isi {v:AV}{t:Ty}:kIsi t Q v H=Q (.bool (isi H v t)) H:=rfl
theorem e_idx {a b:ME}:wpE Φ (.idx a b) loc H Q=wpE Φ a loc H (qtz Φ b loc Q):=rfl
theorem k_idx1 {b:ME}{x:AV}:qtz Φ b loc Q x H=wpE Φ b loc H (qty x Q):=rfl
theorem k_idx2 {x y:AV}:qty x Q y H=qbm x y H Q:=rfl
theorem e_slc {a:ME}{lo hi:List ME}:wpE Φ (.slc a lo hi) loc H Q=wpE Φ a loc H (kS1 Φ lo hi loc Q):=rfl
theorem k_s1 {lo hi:List ME}{x:AV}:kS1 Φ lo hi loc Q x H=wpEs Φ lo loc H (kS2 Φ hi loc x Q):=rfl
theorem k_s2n {hi:List ME}{x:AV}:kS2 Φ hi loc x Q [] H=wpEs Φ hi loc H (kS4 x none Q):=rfl
theorem k_s2o {hi:List ME}{x:AV}{k:Int}:kS2 Φ hi loc x Q [.int k] H=(0<=k/\wpEs Φ hi loc H (kS4 x (some k) Q)):=rfl
theorem k_s4n {x:AV}{ka:Option Int}:kS4 x ka Q [] H=qba (seqL H x) (kS6 ka none Q H):=rfl
theorem k_s4o {x:AV}{ka:Option Int}{k:Int}:kS4 x ka Q [.int k] H=(0<=k/\qba (seqL H x) (kS6 ka (some k) Q H)):=rfl
theorem k_s6 {ka kb:Option Int}{l:List AV}:kS6 ka kb Q H l=(l.length<=sizeLine/\Q (.ref H.length) (H++[.list (qag l ka kb)])):=rfl
theorem e_slcT {a:ME}{lo hi:List ME}:wpE Φ (.slcT a lo hi) loc H Q=wpE Φ a loc H (kT1 Φ lo hi loc Q):=rfl
theorem k_t1 {lo hi:List ME}{x:AV}:kT1 Φ lo hi loc Q x H=wpEs Φ lo loc H (kT2 Φ hi loc x Q):=rfl
theorem k_t2n {hi:List ME}{x:AV}:kT2 Φ hi loc x Q [] H=wpEs Φ hi loc H (kT4 x none Q):=rfl
theorem k_t2o {hi:List ME}{x:AV}{k:Int}:kT2 Φ hi loc x Q [.int k] H=(0<=k/\wpEs Φ hi loc H (kT4 x (some k) Q)):=rfl
theorem k_t4n {l:List AV}{ka:Option Int}:kT4 (.tup l) ka Q [] H=(l.length<=sizeLine/\Q (.tup (qag l ka none)) H):=rfl
theorem k_t4o {l:List AV}{ka:Option Int}{k:Int}:kT4 (.tup l) ka Q [.int k] H=(0<=k/\l.length<=sizeLine/\Q (.tup (qag l ka (some k))) H):=rfl
theorem e_rev {a:ME}:wpE Φ (.rev a) loc H Q=wpE Φ a loc H (kRev Q):=rfl
theorem qwt (h:H[i]?=some (.list l)):kRev Q (.ref i) H=(l.length<=sizeLine/\Q (.ref H.length) (H++[.list l.reverse])):=by
 show qba (seqL H (.ref i)) _=_
 rw [show seqL H (.ref i)=some l by simp [seqL,h]];rfl
theorem e_tup {es:List ME}:wpE Φ (.tup es) loc H Q=wpEs Φ es loc H (kTup Q):=rfl
theorem k_tup {vs:List AV}:kTup Q vs H=(vs.length<=sizeLine/\Q (.tup vs) H):=rfl
theorem e_lst {es:List ME}:wpE Φ (.lst es) loc H Q=wpEs Φ es loc H (kLst Q):=rfl
theorem k_lst {vs:List AV}:kLst Q vs H=(vs.length<=sizeLine/\Q (.ref H.length) (H++[.list vs])):=rfl
theorem e_dic0:wpE Φ .dic0 loc H Q=Q (.ref H.length) (H++[.dict []]):=rfl
theorem e_dic1 {k v:ME}:wpE Φ (.dic1 k v) loc H Q=wpE Φ k loc (H++[.dict []]) (kD1 Φ v loc H.length Q):=rfl
theorem k_d1 {v:ME}{n:Nat}{i:Int}:kD1 Φ v loc n Q (.int i) H=wpE Φ v loc H (kD3 n i Q):=rfl
theorem k_d3 {n:Nat}{i:Int}{y:AV}:kD3 n i Q y H=(H[n]?=some (.dict [])/\Q (.ref n) (H.set n (.dict [(i,y)]))):=rfl
theorem e_meth {m:Mt}{o:ME}{as:List ME}:wpE Φ (.meth m o as) loc H Q=wpE Φ o loc H (kM1 Φ m as loc Q):=rfl
theorem k_m1 {m:Mt}{as:List ME}{x:AV}:kM1 Φ m as loc Q x H=(isL H x/\wpEs Φ as loc H (kM2 m x Q)):=rfl
theorem k_m2 {m:Mt}{x:AV}{vs:List AV}:kM2 m x Q vs H=wpMt m x vs H Q:=rfl
theorem es_nil {Q:List AV->Hp->Prop}:wpEs Φ [] loc H Q=Q [] H:=rfl
theorem es_cons {e:ME}{es:List ME}{Q:List AV->Hp->Prop}:wpEs Φ (e::es) loc H Q=wpE Φ e loc H (kE1 Φ es loc Q):=rfl
theorem k_e1 {es:List ME}{Q:List AV->Hp->Prop}{v:AV}:kE1 Φ es loc Q v H=wpEs Φ es loc H (kE2 v Q):=rfl
theorem k_e2 {Q:List AV->Hp->Prop}{v:AV}{vs:List AV}:kE2 v Q vs H=Q (v::vs) H:=rfl
theorem cs_nil {K:Bool->Hp->Prop}:wpCs Φ [] loc H K=K true H:=rfl
theorem cs_cons {e:ME}{es:List ME}{K:Bool->Hp->Prop}:wpCs Φ (e::es) loc H K=wpE Φ e loc H (kCs Φ es loc K):=rfl
theorem k_cs {es:List ME}{K:Bool->Hp->Prop}{b:Bool}:kCs Φ es loc K (.bool b) H=kCsB Φ es loc K H b:=rfl
theorem k_cst {es:List ME}{K:Bool->Hp->Prop}:kCsB Φ es loc K H true=wpCs Φ es loc H K:=rfl
theorem k_csf {es:List ME}{K:Bool->Hp->Prop}:kCsB Φ es loc K H false=K false H:=rfl
theorem k_it {k:IK}{K:KI}{vs:List AV}:kIt k K vs H=wpIt k vs H K:=rfl
theorem b_add {a b:Int}:qeh .add (.int a) (.int b) H Q=Q (.int (a+b)) H:=rfl
theorem b_sub {a b:Int}:qeh .sub (.int a) (.int b) H Q=Q (.int (a-b)) H:=rfl
theorem b_mul {a b:Int}:qeh .mul (.int a) (.int b) H Q=(IntMulOk a b/\Q (.int (a*b)) H):=rfl
theorem b_mod {a b:Int}:qeh .mod (.int a) (.int b) H Q=(b≠0/\Q (.int (a.fmod b)) H):=rfl
theorem b_fdiv {a b:Int}:qeh .fdiv (.int a) (.int b) H Q=(b≠0/\NoPy a b/\Q (.int (a.fdiv b)) H):=rfl
theorem b_pow {a b:Int}:qeh .pow (.int a) (.int b) H Q=(0<=b/\b<=1000000/\a.natAbs<2^64/\Q (.int (a^b.toNat)) H):=rfl
theorem b_addT {l m:List AV}:qeh .add (.tup l) (.tup m) H Q=(l.length+m.length<=sizeLine/\Q (.tup (l++m)) H):=rfl
theorem qsm {m:List AV}(h1:H[i]?=some (.list l)) (h2:H[j]?=some (.list m)):qeh .add (.ref i) (.ref j) H Q=(l.length+m.length<=sizeLine/\Q (.ref H.length) (H++[.list (l++m)])):=by
 simp [qeh,qsz,asR,h1,h2]
theorem c_lt {a b:Int}:qbk .lt (.int a) (.int b) H Q=Q (.bool (decide (a<b))) H:=rfl
theorem c_le {a b:Int}:qbk .le (.int a) (.int b) H Q=Q (.bool (decide (a<=b))) H:=rfl
theorem c_gt {a b:Int}:qbk .gt (.int a) (.int b) H Q=Q (.bool (decide (b<a))) H:=rfl
theorem c_ge {a b:Int}:qbk .ge (.int a) (.int b) H Q=Q (.bool (decide (b<=a))) H:=rfl
theorem c_eqI {a b:Int}:qbk .eq (.int a) (.int b) H Q=Q (.bool (decide (a=b))) H:=by
 show Q (.bool (a == b)) H=_
 rw [show (a == b)=decide (a=b) from rfl]
theorem c_neI {a b:Int}:qbk .ne (.int a) (.int b) H Q=Q (.bool (!decide (a=b))) H:=by
 show Q (.bool !(a == b)) H=_
 rw [show (a == b)=decide (a=b) from rfl]
theorem c_eqS {a b:Str}:qbk .eq (.str a) (.str b) H Q=Q (.bool (a == b)) H:=rfl
theorem c_neS {a b:Str}:qbk .ne (.str a) (.str b) H Q=Q (.bool (!(a == b))) H:=rfl
theorem c_eqB {a b:Bool}:qbk .eq (.bool a) (.bool b) H Q=Q (.bool (a == b)) H:=rfl
theorem c_neB {a b:Bool}:qbk .ne (.bool a) (.bool b) H Q=Q (.bool (!(a == b))) H:=rfl
theorem qkm {k:Int}(h:H[i]?=some (.list l)):qbm (.ref i) (.int k) H Q=idxL l k H Q:=by simp [qbm,asI,h]
theorem qgy {l:List (Int×AV)}{k:Int}(h:H[i]?=some (.dict l)):qbm (.ref i) (.int k) H Q=(∃ z,dget l k=some z/\Q z H):=by simp [qbm,asI,h]
theorem qqx {k:Int}:qbm (.tup l) (.int k) H Q=(l.length<2^62/\∃ j z,place k l.length=some j/\l[j]?=some z/\Q z H):=rfl
theorem i_tup0 {v:AV}{l:List AV}:qbm (.tup (v::l)) (.int 0) H Q=((v::l).length<2^62/\Q v H):=by
 rw [qqx];simp [place]
theorem i_tup1 {v u:AV}{l:List AV}:qbm (.tup (u::v::l)) (.int 1) H Q=((u::v::l).length<2^62/\Q v H):=by
 rw [qqx]
 have:place 1 (u::v::l).length=some 1:=by unfold place;simp;exact Int.compare_eq_gt.mp rfl
 rw [this];simp
theorem i_tup2 {v u t:AV}{l:List AV}:qbm (.tup (t::u::v::l)) (.int 2) H Q=((t::u::v::l).length<2^62/\Q v H):=by
 rw [qqx]
 have:place 2 (t::u::v::l).length=some 2:=by unfold place;simp;exact Int.compare_eq_gt.mp rfl
 rw [this];simp
theorem qgx {x:AV}{k:Int}{z:AV}(hx:anyL H x=some l) (hn:l.length<2^62) (h0:0<=k) (hz:l[k.toNat]?=some z) (q:Q z H):qbm x (.int k) H Q:=by
 have hlt:k.toNat<l.length:=(yl hz).1
 have hp:place k l.length=some k.toNat:=by unfold place;rw [if_pos h0,if_pos (by exact Int.lt_of_toNat_lt hlt)]
 cases x with
 | tup m=>cases hx;exact ⟨hn,_,_,hp,hz,q⟩
 | fro m=>cases hx;exact ⟨hn,_,_,hp,hz,q⟩
 | ref i =>
  simp only [anyL,seqL] at hx
  split at hx
  ·rename_i h;cases hx;rw [qkm h];exact ⟨hn,_,_,hp,hz,q⟩
  ·cases hx
 | _=>simp [anyL,seqL] at hx
theorem l_tup {l:List AV}:wpBi .len [.tup l] H Q=(l.length<2^62/\Q (.int l.length) H):=rfl
theorem l_fro {l:List AV}:wpBi .len [.fro l] H Q=(l.length<2^62/\Q (.int l.length) H):=rfl
theorem qsb (h:H[i]?=some (.list l)):wpBi .len [.ref i] H Q=(l.length<2^62/\Q (.int l.length) H):=by simp [wpBi,as1,ql8,h]
theorem qwr {l:List (Int×AV)}(h:H[i]?=some (.dict l)):wpBi .len [.ref i] H Q=(l.length<2^62/\Q (.int l.length) H):=by simp [wpBi,as1,ql8,h]
theorem qr1 (h:H[i]?=some (.list l)):wpBi .tuple [.ref i] H Q=(l.length<=sizeLine/\Q (.tup l) H):=by simp [wpBi,as1,qba,seqL,h]
theorem qw3 (h:H[i]?=some (.list l)):wpBi .list [.ref i] H Q=(l.length<=sizeLine/\Q (.ref H.length) (H++[.list l])):=by simp [wpBi,as1,qba,lstL,h]
theorem g_tup {l:List AV}:wpBi .list [.tup l] H Q=(l.length<=sizeLine/\Q (.ref H.length) (H++[.list l])):=rfl
theorem n_bool {b:Bool}:wpBi .int [.bool b] H Q=Q (.int (if b then 1 else 0)) H:=rfl
theorem n_min {a b:Int}:wpBi .min [.int a,.int b] H Q=Q (.int (if b<a then b else a)) H:=rfl
theorem n_max {a b:Int}:wpBi .max [.int a,.int b] H Q=Q (.int (if b>a then b else a)) H:=rfl
theorem qo5 {bs:List Bool}(h:H[i]?=some (.list (bs.map .bool))):wpBi .all [.ref i] H Q↔Q (.bool (bs.all fun b=>b)) H:=by
 have inj:∀ {a b:List Bool},a.map AV.bool=b.map AV.bool->a=b:=fun {a b} e=>List.map_inj_right (fun _ _ h=>AV.bool.inj h) |>.mp e
 simp only [wpBi,as1,seqL,h,Option.some.injEq]
 constructor
 ·rintro ⟨cs,e,q⟩;rw [inj e];exact q
 ·exact fun q=>⟨bs,rfl,q⟩
theorem qfg {x:AV}(h:H[i]?=some (.list l)):wpMt .append (.ref i) [x] H Q=(l.length<=sizeLine/\Q .none (H.set i (.list (l++[x])))):=qdg h
theorem qa0 (h:H[i]?=some (.list l)):isL H (.ref i):=⟨i,l,rfl,h⟩
section
variable {Q:PF}
theorem ss_nil:wpSs Φ [] loc H Q=Q .next loc H:=rfl
theorem thenS_next {ss:List MS}:qh2 Φ ss Q .next loc H=wpSs Φ ss loc H Q:=rfl
theorem thenS_ret {ss:List MS}{v:AV}:qh2 Φ ss Q (.ret v) loc H=Q (.ret v) loc H:=rfl
theorem ss_cons {s:MS}{ss:List MS}:wpSs Φ (s::ss) loc H Q=wpS Φ s loc H (qh2 Φ ss Q):=rfl
theorem s_asg {i:Nat}{e:ME}:wpS Φ (.asg i e) loc H Q=wpE Φ e loc H (kAsg i loc Q):=rfl
theorem k_asg {i:Nat}{v:AV}:kAsg i loc Q v H=Q .next (loc.set i (some v)) H:=rfl
theorem s_asgT {is:List Nat}{e:ME}:wpS Φ (.asgT is e) loc H Q=wpE Φ e loc H (qt4 is loc Q):=rfl
theorem k_asgT {is:List Nat}{l:List AV}:qt4 is loc Q (.tup l) H=(l.length=is.length/\Q .next (qby (is.zip l) loc) H):=rfl
theorem s_sto {o k e:ME}:wpS Φ (.sto o k e) loc H Q=wpE Φ e loc H (qtx Φ o k loc Q):=rfl
theorem k_sto1 {o k:ME}{x:AV}:qtx Φ o k loc Q x H=wpE Φ o loc H (qtw Φ k x loc Q):=rfl
theorem k_sto2 {k:ME}{x y:AV}:qtw Φ k x loc Q y H=wpE Φ k loc H (qtv x y loc Q):=rfl
theorem k_sto3 {x y z:AV}:qtv x y loc Q z H=qi2 y z x H (qtu loc Q):=rfl
theorem k_sto4:qtu loc Q H=Q .next loc H:=rfl
theorem s_ite {t:ME}{a b:List MS}:wpS Φ (.ite t a b) loc H Q=wpE Φ t loc H (kIte Φ a b loc Q):=rfl
theorem k_ite {a b:List MS}{c:Bool}:kIte Φ a b loc Q (.bool c) H=qb5 Φ a b loc Q H c:=rfl
theorem k_itet {a b:List MS}:qb5 Φ a b loc Q H true=wpSs Φ a loc H Q:=rfl
theorem k_itef {a b:List MS}:qb5 Φ a b loc Q H false=wpSs Φ b loc H Q:=rfl
theorem s_ret {e:ME}:wpS Φ (.ret e) loc H Q=wpE Φ e loc H (kRet loc Q):=rfl
theorem k_ret {v:AV}:kRet loc Q v H=Q (.ret v) loc H:=rfl
theorem s_ret0:wpS Φ .ret0 loc H Q=Q (.ret .none) loc H:=rfl
theorem s_expr {e:ME}:wpS Φ (.expr e) loc H Q=wpE Φ e loc H (kExp loc Q):=rfl
theorem k_exp {v:AV}:kExp loc Q v H=Q .next loc H:=rfl
theorem end_ret {R:PQ}{v:AV}:qa8 R (.ret v) loc H=R v H:=rfl
theorem end_next {R:PQ}:qa8 R .next loc H=R .none H:=rfl
theorem qaq {J:Nat->Loc->Hp->Prop}(m:Nat) (hm:m<n) (h:J m loc H):whlK J n Q .next loc H:=⟨m,hm,h⟩
theorem whlK_ret {J:Nat->Loc->Hp->Prop}{n:Nat}{v:AV}:whlK J n Q (.ret v) loc H=Q (.ret v) loc H:=rfl
theorem k_whl {b:List MS}{J:Nat->Loc->Hp->Prop}{n:Nat}{c:Bool}:kWhl Φ b J n loc Q (.bool c) H=qqo Φ b J n loc Q H c:=rfl
theorem k_whlt {b:List MS}{J:Nat->Loc->Hp->Prop}{n:Nat}:qqo Φ b J n loc Q H true=wpSs Φ b loc H (whlK J n Q):=rfl
theorem k_whlf {b:List MS}{J:Nat->Loc->Hp->Prop}{n:Nat}:qqo Φ b J n loc Q H false=Q .next loc H:=rfl
theorem qen {t:ME}{b:List MS}(J:Nat->Loc->Hp->Prop) (n:Nat) (h0:J n loc H)
  (turn:∀ n loc H,J n loc H->wpE Φ t loc H (kWhl Φ b J n loc Q)):wpS Φ (.whl t b) loc H Q:=⟨J,n,h0,turn⟩
theorem qaj {J:Nat->Loc->Hp->Prop}(h:J (n+1) loc H):forK J n Q .next loc H:=h
theorem forK_ret {J:Nat->Loc->Hp->Prop}{n:Nat}{v:AV}:forK J n Q (.ret v) loc H=Q (.ret v) loc H:=rfl
theorem s_for {t:Bool}{is:List Nat}{k:IK}{its:List ME}{b:List MS}:wpS Φ (.forr t is k its b) loc H Q=wpEs Φ its loc H (kIt k (forI Φ t is b loc Q)):=rfl
theorem qao {t:Bool}{is:List Nat}{b:List MS}{items:List AV}{Cnd:Hp->Prop}(J:Nat->Loc->Hp->Prop) (h0:J 0 loc H) (turn:∀ i loc H,J i loc H->Cnd H /\
   (∀ y,items[i]?=some y->∃ ws,qcr t is.length y=some ws/\wpSs Φ b (qby (is.zip ws) loc) H (forK J i Q)) /\
   (i=items.length->Q .next loc H)):forI Φ t is b loc Q items Cnd H:=⟨J,h0,turn⟩
end
theorem r_one {n:Int}{K:KI}:wpIt .range [.int n] H K=(-(2^62)<=n/\n<2^62/\K ((List.range n.toNat).map fun (k:Nat)=>AV.int k) (fun _=>True) H):=rfl
theorem r_two {a b:Int}{K:KI}:wpIt .range [.int a,.int b] H K=(-(2^62)<=a/\a<2^62 /\ -(2^62)<=b/\b<2^62/\K ((List.range (b-a).toNat).map fun (k:Nat)=>AV.int (a+k)) (fun _=>True) H):=rfl
theorem r_tup {l:List AV}{K:KI}:wpIt .plain [.tup l] H K=K l (fun _=>True) H:=rfl
theorem r_enum {l:List AV}{K:KI}:wpIt .enum [.tup l] H K=K (qds l) (fun _=>True) H:=rfl
theorem qti {K:KI}(h:H[i]?=some (.list l)):wpIt .enum [.ref i] H K=K (qds l) (fun H'=>H'[i]?=some (.list l)) H:=by
 show qba (qgm H i) _=_
 rw [qhh h];rfl
theorem qca {K:KI}(h:H[i]?=some (.list l)):wpIt .plain [.ref i] H K=K l (fun H'=>H'[i]?=some (.list l)) H:=by
 show qba (qgm H i) _=_
 rw [qhh h];rfl
theorem qyr {K:KI}(h:H[i]?=some (.list l)):wpIt .revd [.ref i] H K=K l.reverse (fun H'=>H'[i]?=some (.list l)) H:=by
 show onL (.ref i) H (fun i l=>K l.reverse (fun H'=>H'[i]?=some (.list l)) H)=_
 rw [qdg h]
theorem e_comp {t:Bool}{n:Nat}{elt:ME}{k:IK}{its cond:List ME}:wpE Φ (.comp t n elt k its cond) loc H Q=wpEs Φ its loc H (kIt k (qgp Φ t n elt cond loc Q)):=rfl
theorem qed {t:Bool}{elt:ME}{cond:List ME}{items:List AV}{Cnd:Hp->Prop}(p:AV->Option AV) (hs:items.length<=sizeLine) (hc:Cnd H)
  (turn:∀ y∈items,∃ ws,qcr t n y=some ws/\(∀ K:Bool->Hp->Prop,K (p y).isSome H->wpCs Φ cond (loc++ws.map some) H K)/\∀ v,p y=some v->∀ Q:PQ,Q v H->wpE Φ elt (loc++ws.map some) H Q)
  (q:Q (.ref H.length) (H++[.list (items.filterMap p)])):qgp Φ t n elt cond loc Q items Cnd H:=by
 refine ⟨hs,fun i l H'=>H'=H/\l=(items.take i).filterMap p,⟨rfl,by simp⟩,?_⟩
 rintro i l H' ⟨rfl,rfl⟩
 refine ⟨hc,fun y hy=>?_,fun e=>by rw [e,List.take_length];exact q⟩
 refine qbi (turn y (yc hy)) fun ws hu h1 h2=>?_
 refine ⟨ws,hu,h1 _ ?_⟩
 have et:items.take (i+1)=items.take i++[y]:=by
  rw [List.take_add_one,hy];rfl
 cases hp:p y with
 | none =>
  show H'=H'/\_
  refine ⟨rfl,?_⟩
  rw [et,List.filterMap_append];simp [hp]
 | some v =>
  refine h2 v hp _ ⟨rfl,?_⟩
  rw [et,List.filterMap_append];simp [hp]
theorem qee {t:Bool}{elt:ME}{items:List AV}{Cnd:Hp->Prop}(p:AV->AV) (hs:items.length<=sizeLine) (hc:Cnd H)
  (turn:∀ y∈items,∃ ws,qcr t n y=some ws/\∀ Q:PQ,Q (p y) H->wpE Φ elt (loc++ws.map some) H Q)
  (q:Q (.ref H.length) (H++[.list (items.map p)])):qgp Φ t n elt [] loc Q items Cnd H:=by
 refine qed (fun y=>some (p y)) hs hc (fun y hy=>?_) (by simpa using q)
 refine qad (turn y hy) fun ws hu h=>?_
 exact ⟨ws,hu,fun K k=>by rw [cs_nil];exact k,fun v hv=>by cases hv;exact h⟩
end Mine
namespace Mine
open PySem PySem.W PyProof.Rows
noncomputable def qqy (p:Program) (loose:List Str) (x:Str):Bool :=
 !(startupNames.contains x)&&!((looseW p loose).contains x)&&!(((recsOf p).map (·.name)).contains x)&&!(((litsOf p).map (·.1)).contains x)&&!(((clssOf p (looseW p loose)).map (·.name)).contains x)
section
variable {p:Program}{loose:List Str}{R:WRecords}{XP:(Str->Option Value)->Heap->Prop}{w:World}{s₀:Shared}{mg mb:Str->Option Value}{h:Heap}{prog:Program}
theorem qjs (G:Ground p loose R XP w s0 mg mb h){x:Str}(hx:qqy p loose x=true):mg x=none:=by
 simp only [qqy,Bool.and_eq_true,Bool.not_eq_true',List.contains_eq_mem,decide_eq_false_iff_not] at hx
 refine qa4 (hx) fun qQ0 h5=>?_
 clear hx
 obtain ⟨⟨⟨h1,h2⟩,h3⟩,h4⟩:=qQ0
 exact G.T.free x h1 h2 h3 h4 h5
theorem qwj (G:Ground p loose R XP w s0 mg mb h):(PEnv.mk prog w h mg mb).OK2 where
 g:=G.T.g
 b:=G.T.b
 nolimit:=G.T.nolimit
 low:=by
  refine qad (G.T.nodigits) fun _ qQ1 _=>?_
  obtain ⟨o,_,_,ho,_⟩:=qQ1
  exact ⟨_,o,ho,by decide⟩
noncomputable def qf4:List Str:=["len", "all", "any", "sorted", "list", "tuple", "int", "min", "max", "bool", "str", "isinstance", "range", "reversed", "enumerate"]
theorem qva (b:Bi):bootBuiltins b.nm=some b.val:=by cases b<;>decide +kernel
theorem qu9 (b:Ty):bootBuiltins b.ps=some (.type b.nm):=by cases b<;>decide +kernel
theorem qrj (b:ITy):bootBuiltins b.str=some (.type b.nm):=by cases b<;>decide +kernel
theorem qrk:bootBuiltins "isinstance" = some (.builtin "isinstance"):=by decide +kernel
theorem qyu (b:Bi):b.nm∈qf4/\b.nm ≠ "__name__" := by cases b<;>decide +kernel
theorem qyt (b:Ty):b.ps∈qf4/\b.ps ≠ "__name__" := by cases b<;>decide +kernel
theorem qwk (b:ITy):b.str∈qf4/\b.str ≠ "__name__" := by cases b<;>decide +kernel
theorem qwl:("isinstance" : Str)∈qf4/\("isinstance" : Str) ≠ "__name__" := by decide +kernel
theorem qw2 {Γ:GT}(G:Ground p loose R XP w s0 mg mb h) (hb:qf4.all (fun x=>qqy p loose x)=true) (hf:Γ.fns.all (fun x=>((recsOf p).map (·.name)).contains x)=true)
  (hc:∀ x v,Γ.csts.lookup x=some v->∃ u,mg x=some u/\∀ h' ι,h.StaysIn h'->VR h h' ι v u):GOK (PEnv.mk prog w h mg mb) Γ:=by
 have fr:∀ x,x∈qf4/\x ≠ "__name__" -> mg x=none/\mb x=bootBuiltins x:=fun x hx=>⟨qjs G (yq hb x hx.1),G.T.builtins x hx.2⟩
 refine { toOK2:=qwj G,fns:=fun x hx=>?_,csts:=hc,blt:=fun b=>?_,ty:=fun b=>?_,isi:=?_,its:=fun b=>?_ }
 ·have:=yq hf x (by simpa using hx)
  simp only [List.contains_eq_mem,decide_eq_true_eq,List.mem_map] at this
  refine qad (this) fun d hd eQ2=>?_
  clear this
  subst eQ2
  refine qx8 (G.T.fn d hd) fun a o pm code doc h1 h2 qQ7=>?_
  obtain ⟨h3,_⟩:=qQ7
  exact ⟨a,o,_,h1,h2,h3⟩
 ·obtain ⟨h1,h2⟩:=fr _ (qyu b);exact ⟨h1,h2.trans (qva b)⟩
 ·obtain ⟨h1,h2⟩:=fr _ (qyt b);exact ⟨h1,h2.trans (qu9 b)⟩
 ·obtain ⟨h1,h2⟩:=fr _ qwl;exact ⟨h1,h2.trans qrk⟩
 ·obtain ⟨h1,h2⟩:=fr _ (qwk b);exact ⟨h1,h2.trans (qrj b)⟩
structure FnOK (p:Program) (Γ:GT) (x:Str) (vars params:List Str) (f:MF):Prop where
 ex:∃ d,d∈recsOf p/\d.name=x/\d.scope.kind=.function/\d.scope.isCoroutine=false/\d.scope.isGenerator=false/\(Ctx.mk (vars.map some) d.scope.names 0).good params=true /\
  CSs Γ ⟨vars.map some,d.scope.names,0⟩ f.body d.body/\params.length=f.params/\vars.length=f.vars /\
  ∀ pm cd doc vals,vals.length=params.length->bindArgs (Calls.docDef d.name d.params d.body d.scope pm cd doc) ⟨vals,[]⟩=pure (params.zip vals)
theorem FnOK.call {Γ:GT}{x:Str}{vars params:List Str}{f:MF}{args:List AV}{Q:PQ}(fn:FnOK p Γ x vars params f) (G:Ground p loose R XP w s0 mg mb h) (ok:GOK (PEnv.mk prog w h mg mb) Γ)
  (hΦ:∀ f args H Q,Φ f args H Q->qa2 (PEnv.mk prog w h mg mb) n f args H Q XF) (wp:wpF Φ f args H Q):qa2 (PEnv.mk prog w h mg mb) (n+1) x args H Q XF:=by
 refine qyc (fn.ex) fun d hd eQ2 k1 k2 k3 qQ6=>?_
 subst eQ2
 obtain ⟨good,cs,hp,hv,hb⟩:=qQ6
 refine qx8 (G.T.fn d hd) fun a o pm code doc h1 h2 qQ7=>?_
 obtain ⟨h3,h4⟩:=qQ7
 refine qv5 ok hΦ (C:=⟨vars.map some,d.scope.names,0⟩) (params:=params) ⟨⟨a,o,_,h1,h2,h3,rfl,rfl,k1,k2,k3,rfl,rfl,rfl,h4,fun vals hl=>hb pm code doc vals hl⟩⟩ good cs hp (by rw [ya];exact hv) wp
theorem finish {c:ClaimW}{cl:Str->Option Addr}{mean:ExcName->Option Value}{wargs:List WData}{fa l:Addr}{ns:List Int}(hmg:mg "law" = some (.ref fa)) (hg:s1.gens=#[]) (hn:n<200)
  (hL:s1.heap.IsList l vs.toArray) (hI:IntsAre vs ns) (hr:∀ cls,c.raises wargs cls=false) (hp:c.post wargs (.bool true) wargs=true)
  (hc:qa2 (PEnv.mk prog w s1.heap mg mb) n "law" [.fro (ns.map .int)] [] (fun v _=>v=.bool true) XF) :
  codeAny (model prog w) callerA (.call (.ref fa) ⟨[.ref l],[]⟩) (GoodWG c cl mean wargs s1) s1:=by
 have rs:∀ {vs:List Value}{ns:List Int},IntsAre vs ns->VRs s1.heap s1.heap [] (ns.map .int) vs:=fun {vs ns} q=>by
  induction q with
  | nil=>rfl
  | cons _ _ _ ih=>exact VRs.cons (VR.mkInt _ _) ih
 refine hc callerA [] s1 [.ref l] fa _ hmg ⟨⟨?_,?_,rfl⟩,⟨[],rfl,(fun e he=>nomatch he)⟩,(⟨fun b o e=>e,(fun a ha=>nomatch ha),List.nodup_nil,rfl,(fun i o e=>by simp at e)⟩:HR s1.heap [] [] s1.heap)⟩ ⟨_,[],rfl,?_,rfl⟩ (fun v s' g=>?_) Acc.no
 ·show 1+claimMargin+n<recursionLimit
  unfold claimMargin recursionLimit;exact z27 hn
 ·show 4+8*n+200<cLine
  unfold cLine;exact z28 hn
 ·unfold VR;exact ⟨l,vs,rfl,hL,rs hI⟩
 ·obtain ⟨ι',H',av,p,r,rfl⟩:=g
  cases r
  refine GoodW.toG ⟨.inl ⟨_,.bool true,[],rfl,hr,.bool true,hp,fun _=>⟨List.nodup_nil,fun a ha=>nomatch ha⟩⟩,fun b o e=>p.hr.base b o e,p.same.2,p.same.1.trans hg⟩
end
theorem post_true (l:OpenLaw) (args:List WData):l.row.claim.post args (.bool true) args=true :=
 postW_of (r:=l.row.toRowW) (X:=true) rfl (w_eq_bool (k:=true) (l:=true) (w_res rfl) w_lit) rfl
end Mine
namespace Mine
open PySem
theorem qkc {k:Int}(h0:0<=k) (h1:k<n):place k n=some k.toNat:=by
 unfold place;rw [if_pos h0,if_pos h1]
theorem log2_lt (h:n<2^k) (hk:0<k):n.log2<k:=by
 by_cases h0:n=0
 ·subst h0;simpa using hk
 ·exact (Nat.log2_lt h0).mpr h
theorem qc7 {a:Int}(h:a.natAbs<2^k):Builtin.Int.intBits a<=k:=by
 unfold Builtin.Int.intBits
 split
 ·exact Nat.zero_le _
 ·rename_i h0
  have hk:0<k:=by
   rcases Nat.eq_zero_or_pos k with rfl|hk
   ·simp at h;simp [h] at h0
   ·exact hk
  exact log2_lt h hk
theorem qc6 {a b:Int}(h:a.natAbs<2^64):IntMulOk a b:=IntMulOk.of_left (qc7 h)
theorem qdh {a b:Int}(h:b.natAbs<2^64):IntMulOk a b:=IntMulOk.of_right (qc7 h)
theorem noPy {a b:Int}(h:b.natAbs<2^9000):NoPy a b:=by
 unfold NoPy Builtin.divisionGoesByPylong
 simp only [gt_iff_lt,Bool.and_eq_false_imp,decide_eq_true_eq]
 intro h1
 exfalso
 split at h1
 ·exact Nat.not_succ_le_zero 300 h1
 ·have:=log2_lt h (by exact Nat.zero_lt_succ 8999)
  exact z29 h1 this
theorem qlk {a b:Int}(h:b.natAbs<2^64):NoPy a b:=noPy (Nat.lt_of_lt_of_le h (Nat.pow_le_pow_right (by decide) (by decide)))
theorem qae {a b:Int}(h:0<=b):a.fmod b=a%b:=Int.fmod_eq_emod_of_nonneg a h
theorem qal {a b:Int}(h:0<=b):a.fdiv b=a/b:=Int.fdiv_eq_ediv_of_nonneg a h
theorem su2 {a0 a1:AV}:[a0,a1].length<2^62:=by simp
theorem su3 {a0 a1 a2:AV}:[a0,a1,a2].length<2^62:=by simp
end Mine
namespace Mine
open PySem
noncomputable def wps:=And.intro @ss_nil <| And.intro @ss_cons <| And.intro @thenS_next <| And.intro @thenS_ret <| And.intro @s_asg <| And.intro @s_asgT <| And.intro @s_sto <| And.intro @s_ite <| And.intro @s_ret <| And.intro @s_ret0 <| And.intro @s_expr <| And.intro @s_for <| And.intro @whlK_ret <| And.intro @forK_ret <| And.intro @end_ret <| And.intro @end_next <| And.intro @k_bin1 <| And.intro @k_bin2 <| And.intro @k_cmp1 <| And.intro @k_cmp2 <| And.intro @k_c1 <| And.intro @k_c2 <| And.intro @k_c3 <| And.intro @k_c4t <| And.intro @k_c4f <| And.intro @k_not <| And.intro @k_neg <| And.intro @k_and <| And.intro @k_andt <| And.intro @k_andf <| And.intro @k_or <| And.intro @k_ort <| And.intro @k_orf <| And.intro @k_call <| And.intro @k_bi <| And.intro @k_isi <| And.intro @k_idx1 <| And.intro @k_idx2 <| And.intro @k_s1 <| And.intro @k_s2n <| And.intro @k_s2o <| And.intro @k_s4n <| And.intro @k_s4o <| And.intro @k_s6 <| And.intro @k_t1 <| And.intro @k_t2n <| And.intro @k_t2o <| And.intro @k_t4n <| And.intro @k_t4o <| And.intro @k_tup <| And.intro @k_lst <| And.intro @k_m1 <| And.intro @k_m2 <| And.intro @k_e1 <| And.intro @k_e2 <| And.intro @k_cs <| And.intro @k_cst <| And.intro @k_csf <| And.intro @k_it <| And.intro @k_asg <| And.intro @k_asgT <| And.intro @k_sto1 <| And.intro @k_sto2 <| And.intro @k_sto3 <| And.intro @k_sto4 <| And.intro @k_ite <| And.intro @k_itet <| And.intro @k_itef <| And.intro @k_ret <| And.intro @k_exp <| And.intro @k_whl <| And.intro @k_whlt <| And.intro @k_whlf <| And.intro @e_cst <| And.intro @e_loc0 <| And.intro @e_locS <| And.intro @e_bin <| And.intro @e_cmp <| And.intro @e_cmp2 <| And.intro @e_not <| And.intro @e_neg <| And.intro @e_and2 <| And.intro @e_or2 <| And.intro @e_call <| And.intro @e_bi <| And.intro @e_isi <| And.intro @e_idx <| And.intro @e_slc <| And.intro @e_slcT <| And.intro @e_rev <| And.intro @e_tup <| And.intro @e_lst <| And.intro @e_dic0 <| And.intro @e_dic1 <| And.intro @k_d1 <| And.intro @k_d3 <| And.intro @r_enum <| And.intro @e_meth <| And.intro @e_comp <| And.intro @es_nil <| And.intro @es_cons <| And.intro @cs_nil <| And.intro @cs_cons <| And.intro @withL_some <| And.intro @b_add <| And.intro @b_sub <| And.intro @b_mul <| And.intro @b_mod <| And.intro @b_fdiv <| And.intro @b_pow <| And.intro @b_addT <| And.intro @c_lt <| And.intro @c_le <| And.intro @c_gt <| And.intro @c_ge <| And.intro @c_eqI <| And.intro @c_neI <| And.intro @c_eqS <| And.intro @c_neS <| And.intro @c_eqB <| And.intro @c_neB <| And.intro @i_tup0 <| And.intro @i_tup1 <| And.intro @i_tup2 <| And.intro @l_tup <| And.intro @l_fro <| And.intro @g_tup <| And.intro @n_bool <| And.intro @n_min <| And.intro @n_max <| And.intro @r_one <| And.intro @r_two @r_tup
theorem set0 {α:Type}{a b:α}{l:List α}:(a::l).set 0 b=b::l:=rfl
theorem setS {α:Type}{a b:α}{l:List α}{n:Nat}:(a::l).set (n+1) b=a::l.set n b:=rfl
theorem mapC {α β:Type}{f:α->β}{a:α}{l:List α}:(a::l).map f=f a::l.map f:=rfl
theorem mapN {α β:Type}{f:α->β}:([]:List α).map f=[]:=rfl
theorem appC {α:Type}{a:α}{l m:List α}:(a::l)++m=a::(l++m):=rfl
theorem appN {α:Type}{l:List α}:[]++l=l:=rfl
theorem repS {α:Type}{a:α}{n:Nat}:List.replicate (n+1) a=a::List.replicate n a:=rfl
theorem repZ {α:Type}{a:α}:List.replicate 0 a=[]:=rfl
theorem sAc {i:Nat}{v:AV}{r:List (Nat×AV)}{loc:Loc}:qby ((i,v)::r) loc=qby r (loc.set i (some v)):=rfl
theorem sAn {loc:Loc}:qby [] loc=loc:=rfl
theorem zipC {α β:Type}{a:α}{b:β}{l:List α}{m:List β}:(a::l).zip (b::m)=(a,b)::l.zip m:=rfl
theorem zipN {α β:Type}{l:List β}:([]:List α).zip l=[]:=rfl
theorem zipM {α β:Type}{l:List α}:l.zip ([]:List β)=[]:=by cases l<;>rfl
noncomputable def lst:=And.intro @set0 <| And.intro @setS <| And.intro @mapC <| And.intro @mapN <| And.intro @appC <| And.intro @appN <| And.intro @repS <| And.intro @repZ <| And.intro @sAc <| And.intro @sAn <| And.intro @zipC <| And.intro @zipN <| And.intro @zipM <| And.intro Bool.not_true Bool.not_false
theorem all0 {P:List Value->Prop}(h:P []):∀ vals:List Value,vals.length=0->P vals:=fun vals e=>by
 rw [List.eq_nil_of_length_eq_zero e];exact h
theorem all1 {P:List Value->Prop}(h:∀ a,P [a]) (vals:List Value) (e:vals.length=1):P vals:=by
 cases vals with
 | nil=>cases e
 | cons a r=>exact all0 (P:=fun l=>P (a::l)) (h a) r (Nat.succ.inj e)
theorem all2 {P:List Value->Prop}(h:∀ a b,P [a,b]) (vals:List Value) (e:vals.length=2):P vals:=by
 cases vals with
 | nil=>cases e
 | cons a r=>exact all1 (P:=fun l=>P (a::l)) (h a) r (Nat.succ.inj e)
theorem all3 {P:List Value->Prop}(h:∀ a b c,P [a,b,c]) (vals:List Value) (e:vals.length=3):P vals:=by
 cases vals with
 | nil=>cases e
 | cons a r=>exact all2 (P:=fun l=>P (a::l)) (h a) r (Nat.succ.inj e)
theorem all4 {P:List Value->Prop}(h:∀ a b c d,P [a,b,c,d]) (vals:List Value) (e:vals.length=4):P vals:=by
 cases vals with
 | nil=>cases e
 | cons a r=>exact all3 (P:=fun l=>P (a::l)) (h a) r (Nat.succ.inj e)
end Mine
namespace Mine
open PySem PySem.W PyProof.Rows
variable {P:PEnv}{C:Ctx}{d:Nat}{loc:Loc}{H:Hp}{X:XP}
theorem XLeft.post {l:List Env}{H':Hp}{base:Heap}(x:XLeft B l [] ι s ι' H' base s'):Post B ι s ι' H' s' :=
 ⟨x.pre,x.hr.keep x.stays,x.kept,x.new,x.same⟩
theorem XLeft.wide {l:List Env}{H':Hp}{base:Heap}(x:XLeft B l [] ι s ι' H' base s'):XLeft B l S ι s ι' H' base s' :=
 ⟨x.pre,x.hr,x.stays,x.kept.mono fun _ h=>yo (.inr h),fun a o e hn hf=>x.inb a o e (fun m=>hn (yo (.inr m))) hf,x.new,x.same⟩
theorem XLeft.beforeS {l:List Env}{s2:Shared}{H1 H2:Hp}{base:Heap}(p:PostS B S ι s ι1 H1 s1) (x:XLeft B l S ι1 s1 ι2 H2 base s2) (hS:∀ a∈S,a∉ι2):XLeft B l S ι s ι2 H2 base s2:=by
 have out:∀ a o,s.heap.get? a=some o->a∉S++ι->a∉S++ι1:=fun a o e hn q=>(yd q).elim (fun m=>hn (yo (.inl m))) fun m =>
  (p.new a m).elim (fun z=>hn (yo (.inr z))) fun z=>by rw [e] at z;cases z
 refine ⟨p.pre.trans x.pre,x.hr,x.stays,fun a o e hn=>?_,fun a o e hn hf=>?_,fun a ha=>?_,?_⟩
 ·refine qad (p.kept a o e hn) fun sl e1 q1=>?_
  refine qad (x.kept a _ e1 (out a o e hn)) fun sl' e2 q2=>?_
  exact ⟨sl',e2,fun c=>(q2 c).trans (q1 c)⟩
 ·refine qad (p.kept a o e hn) fun sl e1 q1=>?_
  refine qar (x.inb a _ e1 (out a o e hn) hf) fun sl' e2=>?_
  exact ⟨sl',e2⟩
 ·by_cases hi:a∈ι
  ·exact .inl hi
  ·right
   rcases x.new a ha with q|q
   ·exact (p.new a q).resolve_left hi
   ·cases e:s.heap.get? a with
    | none=>rfl
    | some o =>
     refine qad (p.kept a o e fun m=>(yd m).elim (fun z=>hS a z ha) hi) fun sl e1 _=>?_
     rw [e1] at q;cases q
 ·exact ⟨x.same.1.trans p.same.1,x.same.2.trans p.same.2⟩
theorem XAcc.step {H1:Hp}{Q:MFlow->Loc->Hp->Prop}(x:XAcc P C A env ι s Q E) (p:PostS P.B (own C env) ι s ι1 H1 s1):XAcc P C A env ι1 s1 Q E:=by
 intro l hl e s' ι' H' loc' c hx he hq
 refine x l hl e s' ι' H' loc' c ?_ he hq
 rcases hx with ⟨ea,base,D,h1,h2,h3,h4⟩|⟨ea,base,D,h1,h2,h3,h4⟩
 ·exact .inl ⟨ea,base,D,h1,h2,h3.beforeS p he.offOwn,h4⟩
 ·exact .inr ⟨ea,base,D,h1,h2,h3.beforeS p he.offOwn,h4⟩
theorem qq3 {Q:MFlow->Loc->Hp->Prop}(h:Q .next loc H):ExsX P C d [] loc H Q:=(qoc h).x
theorem qod {st:Stmt}{rest:List Stmt}{Q:MFlow->Loc->Hp->Prop}
  (h:ExX P C d st loc H (fun fl loc' H'=>match fl with|.next=>ExsX P C d rest loc' H' Q|fl=>Q fl loc' H')):ExsX P C d (st::rest) loc H Q:=fun A E env ι s w e tp xa=>by
 refine wpAny_execs_cons (gs (h A E env ι s w e tp fun l hl e' s' ι' H' loc' c hx he hq=>xa l hl e' s' ι' H' loc' c hx he hq) (fun f s1 ι1 H1 loc1 fl p1 e1 r1 g=>?_))
 cases fl with
 | next =>
  cases r1
  exact wpAny_mono (g A E env ι1 s1 (w.stepS e p1 e1) e1 tp (xa.step p1)) (fun _ _ g=>g.before p1) fun _ _ x=>x
 | brk=>cases r1;exact ⟨ι1,H1,loc1,.brk,p1,e1,rfl,g⟩
 | cont=>cases r1;exact ⟨ι1,H1,loc1,.cont,p1,e1,rfl,g⟩
 | ret v=>obtain ⟨u,rfl,r⟩:=r1;exact ⟨ι1,H1,loc1,.ret v,p1,e1,⟨u,rfl,r⟩,g⟩
 | exc c=>exact r1.elim
theorem qxc {t:Expr}{a b:List Stmt}{Q:MFlow->Loc->Hp->Prop}(h:TsOK P C d t loc H (fun c H'=>if c then ExsX P C d a loc H' Q else ExsX P C d b loc H' Q) XF):ExX P C d (.If t a b pos) loc H Q:=fun A E env ι s w e tp xa=>by
 refine wpAny_If (gb (h A E env ι s w e Acc.no) (fun c s1 ι1 H1 p1 g=>?_))
 cases c with
 | true=>exact wpAny_mono (g A E env ι1 s1 (w.step p1) (e.step w.hr p1) tp (xa.step p1.toS)) (fun _ _ g=>g.before p1.toS) fun _ _ x=>x
 | false=>exact wpAny_mono (g A E env ι1 s1 (w.step p1) (e.step w.hr p1) tp (xa.step p1.toS)) (fun _ _ g=>g.before p1.toS) fun _ _ x=>x
theorem qf1 {A:Around}{ι:List Addr}{h:Heap}{l:List Env}(fr:qeg A P.B h ι) (hl:A.frames=some l):∀ env∈l,env.scope.kind≠.module/\∃ L o,env.frame=some L/\P.B.get? L=none/\h.get? L=some o/\(∃ es n,o.data=.dict es n)/\L∉ι:=by
 refine qad (fr) fun fl e q=>?_
 clear fr
 rw [hl] at e;cases e;exact q
theorem qd6 {h:Heap}:∀ {l:List Env}{as:List Addr},(∀ env∈l,env.scope.kind≠.module/\∃ L o,env.frame=some L/\h.get? L=some o/\(∃ es n,o.data=.dict es n)/\L∈as)->h.FunFrames (hideAll h as) l
 | [],_,_=>trivial
 | env::l,as,q=>by
  refine qa4 (q env (List.mem_cons_self ..)) fun k qQ1=>?_
  obtain ⟨L,o,h1,h2,⟨es,n,h3⟩,h4⟩:=qQ1
  exact ⟨k,⟨L,o,h1,hideAll_none _ h4,h2,fun vs z=>by rw [h3] at z;cases z⟩,qd6 fun en hen=>q en (yi _ hen)⟩
theorem HR.hide {B:Heap}{ι:List Addr}{H:Hp}{h:Heap}(q:HR B ι H h){as:List Addr}(ha:∀ L∈as,B.get? L=none/\L∉ι/\∃ o es n,h.get? L=some o/\o.data=.dict es n):HR B ι H (hideAll h as):=by
 have kp:Kept as h (hideAll h as):=fun a o e hn=>⟨o.slots,hideAll_get _ e hn,fun _=>rfl⟩
 have nt:qbp as h:=fun a m vs t=>by
  refine qfk (ha a m) fun _ _ qQ2=>?_
  obtain ⟨o,es,n,e,dd⟩:=qQ2
  refine qbi (t) fun o' e' _ qQ3=>?_
  clear t
  obtain ⟨n',d'⟩:=qQ3
  rw [e] at e';cases e';rw [dd] at d';cases d'
 refine ⟨fun b o e=>hideAll_get _ (q.base b o e) (fun m=>by rw [(ha b m).1] at e;cases e),q.fresh,q.nodup,q.len,fun i o e=>?_⟩
 refine qad (q.objs i o e) fun a ea r=>?_
 exact ⟨a,ea,r.mono kp nt (List.prefix_refl _) fun y ey=>hideAll_get _ ey fun m=>(ha a m).2.1 (yc ea)⟩
theorem qoe {x:Str}{D:Addr}{B newId initId:String}{bm:List Value}{np cpos:Pos}{e0:Expr}{Q:MFlow->Loc->Hp->Prop}(ok:P.OK) (O:OwnCls x D bm newId P.mg P.B) (FB:ExcBaseFacts B newId initId bm)
  (hk:C.names.lookup x=some .globalImplicit) (hd:(x == ("__debug__" : Str))=false) (he:∀ env,starEach (e0::es) env=(false,eval e0 env)::starEach es env) (hp:qcb es)
  (h:qct P C d (e0::es) loc H (fun vs H'=>vs.length<=sizeLine/\Q (.exc x) loc H') XF):ExX P C d (.Raise (some (.Call (.Name x np) (e0::es) [] cpos)) none pos) loc H Q:=fun A E env ι s w e tp xa=>by
 refine qzk (O.obj) fun tl N nm q bs qQ5=>?_
 obtain ⟨hdct,sn,sub,ab,col,dd,k0,k1,k2,k3,k5,mN,hC,hN,hni,T⟩:=qQ5
 refine wpAny_Raise_call_subT (C:=D) (nm:=nm) (q:=q) (N:=N) (bs:=bs) (bm:=tl) (hdct:=hdct) (sn:=sn) (sub:=sub) (ab:=ab) (col:=col) (dd:=dd) (k0:=k0) (k1:=k1) (k2:=k2) (k3:=k3) (k5:=k5)
  FB (mN:=mN) (T.hasType FB.hasBase) w.room.handled (by rw [he];show (false||(backTo cpos (starEach es env)).any (·.1))=false;rw [hp env cpos];rfl) hni
  (Calls.Name_function_global e.kind (by unfold Env.kindOf;rw [e.names];exact hk) (Calls.loadGlobal_global (e.glob▸ok.g.keeps fun b o e=>w.hr.base b o e) O.bound ⟨rfl,?_⟩) hd)
 have ha:=h A E env ι s cpos w e Acc.no
 rw [he] at ha ⊢
 refine Calls.evalArgs_plain (wpAny_mono ha (fun vs s2 g=>?_) fun _ _ y=>y)
 obtain ⟨ι2,H2,l2,p₂,r2,hlen,hq⟩:=g
 have kb:∀ b o,P.B.get? b=some o->s2.heap.get? b=some o:=fun b o eb=>p₂.hr.base b o eb
 refine ⟨rfl,by rw [r2.length];exact hlen,kb _ _ hC,hN.keeps kb,T.keeps kb,fun h' ea hm=>?_⟩
 obtain ⟨l,hl⟩:∃ l,A.frames=some l:=let ⟨_,l,hl⟩:=tp;⟨_,hl⟩
 have fr:=qf1 (w.step p₂).fr hl
 have fin:∀ L∈fAs l,P.B.get? L=none/\L∉ι2/\∃ o es n,s2.heap.get? L=some o/\o.data=.dict es n:=fun L hL=>by
  refine qad (List.mem_filterMap.mp hL) fun en hen z=>?_
  refine qa4 (fr en hen) fun _ qQ1=>?_
  obtain ⟨L',o,h1,h2,h3,⟨es,n,h4⟩,h5⟩:=qQ1
  rw [z] at h1;cases h1
  exact ⟨h2,h5,o,es,n,h3,h4⟩
 have p3:Post P.B ι2 s2 ι2 H2 { s2 with heap:=h' }:=Post.keep (t:=s2.toks) p₂.hr hm.keeps
 have pp:=p₂.trans p3
 have xl:XLeft P.B l [] ι s ι2 H2 (hideAll s2.heap (fAs l)) { s2 with heap:=h' } :=
  ⟨p₂.pre,p₂.hr.hide fin,fun b o eb=>hm.keeps b o (of_hideAll _ eb),pp.kept,fun a o eo hn hf=>by
   refine qad (p₂.kept a o eo hn) fun sl e1 _=>?_
   exact ⟨sl,hideAll_get _ e1 hf⟩,p₂.new,p₂.same⟩
 exact xa l hl _ _ ι2 H2 loc x (.inr ⟨ea,_,D,rfl,O.bound,xl.wide,s2.heap,vs,fun b o eb=>of_hideAll _ eb,qd6 fun en hen=>by
  refine qa4 (fr en hen) fun k qQ1=>?_
  obtain ⟨L,o,h1,h2,h3,h4,h5⟩:=qQ1
  exact ⟨k,L,o,h1,h3,h4,List.mem_filterMap.mpr ⟨en,hen,h1⟩⟩,hm⟩) (e.step w.hr pp) hq
end Mine
namespace Mine
open PySem PySem.W PyProof.Rows
variable {P:PEnv}{C:Ctx}{d:Nat}{loc:Loc}{H:Hp}{X:XP}
def qe4 (P:PEnv) (c T:Str):Prop:=∃ D Tc,P.mg c=some (.ref D)/\P.mg T=some Tc/\∀ (M:Model) (h:Heap) (ea:Addr) (o:Obj),P.B.StaysIn h->h.get? ea=some o->o.cls=.ref D->Looks M h (excMatches (.ref ea) Tc) true
structure SuG (P:PEnv) (L:Addr) (ys:List Str) (m:Str->Option Value) (R:MFlow->Hp->Hp->Prop) (s:Shared) (f:Flow) (s':Shared):Prop where
 same:∃ h t,s'={ s with heap:=h,toks:=t }
 ns:∃ m',s'.heap.Ns L m'/\∀ z,z∉ys->m' z=m z
 keep:∀ b o,b≠L->s.heap.get? b=some o->s'.heap.get? b=some o
 res:∀ ι H,HR P.B ι H s.heap->L∉ι->∃ ι₂ H₂ fl,ι<+:ι₂/\HR P.B ι₂ H₂ s'.heap/\(∀ a∈ι₂,a∈ι\/s.heap.get? a=none)/\FR P.B s'.heap ι₂ fl f/\R fl H H₂
def qhx (P:PEnv) (C:Ctx) (d:Nat) (n:Str) (ys:List Str) (suite:List Stmt) (c:Str) (R:MFlow->Hp->Hp->Prop):Prop :=
 ∀ A E env s ea o D m,A.depth+d<recursionLimit->A.units+8*d+200<cLine->env.scope.kind=.function->env.scope.names=C.names->env.globals=mainGlobals->env.builtins=builtinsNs->s.heap.Ns env.locals m->m n=some (.ref ea) ->
  P.B.StaysIn s.heap->P.B.get? env.locals=none->s.heap.get? ea=some o->o.cls=.ref D->P.mg c=some (.ref D)->A.handled=some (.ref ea)->qc3 ea s.heap ->
  wpAny (model P.prog P.w) A (execs suite env) (SuG P env.locals ys m R s) E s
def ExsA (P:PEnv) (C:Ctx) (d:Nat) (body:List Stmt) (loc:Loc) (H:Hp) (Q:MFlow->Loc->Hp->Prop) (X:XP):Prop :=
 ∀ A E env ι s,W P.B A d ι H s->EnvR P.B C env ι s.heap loc->Acc P A X ι s E->wpAny (model P.prog P.w) A (execs body env) (GivesS P.B C env ι s Q) E s
theorem FR.mono (x:Kept S h h') (nt:qbp S h){fl:MFlow}{f:Flow}(q:FR B h ι fl f):FR B h' ι fl f:=by
 cases fl with
 | ret v=>exact qad q fun u e r=>⟨u,e,VR.mono x nt (List.prefix_refl _) _ _ r⟩
 | _=>exact q
theorem qj1 {A:Around}{base h9:Heap}{l:List Env}{H':Hp}(fr:∀ en∈env::l,en.scope.kind≠.module/\∃ L o,en.frame=some L/\B.get? L=Option.none/\s.heap.get? L=some o/\(∃ es n,o.data=.dict es n)/\L∉ι) (xl:XLeft B (env::l) [] ι s ι' H' base s1)
  (up:∀ a o,s1.heap.get? a=some o->a≠env.locals->(∀ vs,o.data≠.fields vs)->∃ sl,h9.get? a=some { o with slots:=sl }) (kb:∀ b o,base.get? b=some o->h9.get? b=some o) (a:Addr) (o:Obj) (eo:s.heap.get? a=some o) (hL:a≠env.locals) (hι:a∉ι) :
  ∃ sl,h9.get? a=some { o with slots:=sl }/\((∀ es n,o.data≠.dict es n)->sl=o.slots):=by
 refine qad (xl.kept a o eo hι) fun sl e1 q1=>?_
 by_cases hfa:a∈fAs (env::l)
 ·refine qjz (qn3 (A:=A) fr a hfa o eo) fun es nn h4=>?_
  refine (up a _ e1 hL fun vs q=>by rw [show ({ o with slots:=sl }:Obj).data=o.data from rfl,h4] at q;cases q).elim fun sl' e2=>⟨sl',e2,fun c=>absurd h4 (c es nn)⟩
 ·refine (xl.inb a o eo hι hfa).elim fun sl' e2=>?_
  have e3:=yj (e1.symm.trans (xl.stays a _ e2))
  have e4:sl=sl':=congrArg Obj.slots e3
  subst e4
  exact ⟨sl,kb a _ e2,q1⟩
theorem quq {tp hpos:Pos}{body:List Stmt}{T n:Str}{b0:Stmt}{suite:List Stmt}{ys:List Str}{Q:MFlow->Loc->Hp->Prop}
  (ok:P.OK) (hk:C.names.lookup T=some .globalImplicit) (hd:(T == ("__debug__" : Str))=false) (hn:C.names.lookup n=some .local) (ni:∀ y∈n::ys,∀ (i:Nat) (dd:AV),C.vars[i]?=some (some y)->loc[i]?≠some (some dd)) (nn:n∉ys)
  (hx:ExsA P C d body loc H (fun fl l' H'=>fl≠.next/\Q fl l' H') X)
  (hX:∀ c H',X c H'->qe4 P c T/\∃ R,qhx P C d n ys (b0::suite) c R/\∀ fl H2,R fl H' H2->Q fl loc H2) :
  ExX P C d (.Try body [.ExceptHandler (some (.Name T tp)) (some n) (b0::suite) hpos] [] [] pos) loc H Q:=fun A E env ι s w e tpi xa=>by
 obtain ⟨ef,l,hl⟩:=tpi
 refine wpAny_Try_except (gs (hx A _ env ι s w e ?_) fun f s1 ι1 H1 loc1 fl p1 e₁ r1 g=>?_)
 ·rintro l' hl' e' s1 ι' H' c ⟨ea,base,D,rfl,hD,xl,⟨a0,hf⟩,nc⟩ hc
  have:=yj (hl.symm.trans hl')
  subst this
  obtain ⟨⟨D',Tc,hD',hT,look⟩,R,hs,hq⟩:=hX c H' hc
  have:=Value.ref.inj (yj (hD.symm.trans hD'))
  subst this
  have locNot:base.get? env.locals=none:=(hf.2.2.1.mem (b:=env.locals) (by rw [List.filterMap_cons,ef];exact List.mem_cons_self ..)).1
  refine wpAny_mono (qdd.any nc (wpAny_looks_onW (Q:=fun _ s''=>∃ h4,s''={ s1 with heap:=h4 }/\Heap.HeldW base (env::l) ea (.ref D) a0 env.locals h4/\s1.heap.UpToSlots h4) hl ef hf fun h4 held up4=>⟨h4,rfl,held,up4⟩)) (fun _ s4 g=>?_) fun _ _ y=>y
  obtain ⟨⟨h4,rfl,held,up4⟩,nc4⟩:=g
  refine wpAny_mono (qb7.any nc4 (wpAny_landsW (s:={ s1 with heap:=h4 }) (Q:=fun _ s''=>∃ h5,s''={ s1 with heap:=h5 }/\Heap.FlyingW base (env::l) ea (.ref D) a0 h5/\h4.UpToSlots h5) held fun h5 fly5 up5=>⟨h5,rfl,fly5,up5⟩)) (fun _ s5 g=>?_) fun _ _ y=>y
  obtain ⟨⟨h5,rfl,fly5,up5⟩,nc5⟩:=g
  have kb5:P.B.StaysIn h5:=fun b o eb=>fly5.1 b o (xl.hr.base b o eb)
  refine wpAny_handleBy_cons (codeAny_handlers_test ?_) (by intro q;cases q)
  refine Calls.Name_function_global e.kind (by unfold Env.kindOf;rw [e.names];exact hk) (Calls.loadGlobal_global (e.glob▸ok.g.keeps kb5) hT ?_) hd
  refine qad fly5.there fun oe he hcls=>?_
  refine (look _ h5 ea oe kb5 he hcls).here (codeAny_handlers_suite_as ?_)
  refine wpAny_mono (qb7.any nc5 (lands_againW (s:={ s1 with heap:=h5 }) (Q:=fun _ s''=>∃ h6,s''={ s1 with heap:=h6 }/\Heap.FlyingW base (env::l) ea (.ref D) a0 h6/\h5.UpToSlots h6) fly5 fun h6 fly6 up6=>⟨h6,rfl,fly6,up6⟩)) (fun _ s6 g=>?_) fun _ _ y=>y
  obtain ⟨⟨h6,rfl,fly6,up6⟩,nc6⟩:=g
  have kl:env.kindOf n=some .local:=by unfold Env.kindOf;rw [e.names];exact hn
  refine e.ns.elim fun m ns=>?_
  have ns1:s1.heap.Ns env.locals m:=Ns.of_data ns fun o eo=>qbi (xl.kept.data eo e.offL) fun o' e1 d1 _=>⟨o',e1,d1⟩
  have up:s1.heap.UpToSlots h6:=(up4.trans up5).trans up6
  have ns6:h6.Ns env.locals m:=up.ns ns1
  have hp:(env.scope.kind == .class||(env.scope.kind == .module&&env.locals != env.globals))=false:=by rw [e.kind];rfl
  refine wpAny_storeName_local kl ns6 (fun h7 ns7 sb7=>?_) hp
  have nl:∀ {b:Addr}{o:Obj},base.get? b=some o->b≠env.locals:=fun eb z=>by rw [z,locNot] at eb;cases eb
  have kb7:∀ b o,base.get? b=some o->h7.get? b=some o:=fun b o eb=>sb7.extBut b o (nl eb) (fly6.1 b o eb)
  refine qad fly6.there fun oe6 he6 hcls6=>?_
  have eaL:ea≠env.locals:=fun z=>by
   obtain ⟨oe',vs',q1,_,q2,_⟩:=fly6.first
   obtain ⟨o6,es6,ep6,q3,q4,_⟩:=ns6
   rw [z] at q1;rw [q1] at q3;cases q3;rw [q2] at q4;cases q4
  have nc7:qc3 ea h7:=by
   obtain ⟨o',vs',q1,q2,q3⟩:=nc6
   exact ⟨o',vs',sb7.extBut ea o' eaL q1,q2,q3⟩
  have hr7:HR P.B ι' H' h7:=xl.hr.keep kb7
  have off:∀ a o,s.heap.get? a=some o->a∉ι->a∉ι':=fun a o eo hno z=>(xl.new a z).elim hno fun y=>by rw [eo] at y;cases y
  have locι:env.locals∉ι':=qx9 ns fun o es ep eo _=>off _ o eo e.offL
  refine wpAny_mono (hs _ _ env _ ea oe6 D _ w.room.depth w.room.units e.kind e.names e.glob e.blt ns7 (by simp) (fun b o eb=>kb7 b o (xl.hr.base b o eb)) e.newL (sb7.extBut ea oe6 eaL he6) hcls6 hD rfl nc7) (fun f s8 g=>?_) fun _ _ y=>y
  obtain ⟨h8,t8,rfl⟩:=g.same
  refine qad g.ns fun m8 ns8 em8=>?_
  refine wpAny_nameGoes_keeps kl ns8 hp fun h9 v9 ns9 sb9=>?_
  obtain ⟨ι2,H2,fl,pre2,hr8,new2,fr2,rr⟩:=g.res ι' H' hr7 locι
  have all:∀ b o,b≠env.locals->h7.get? b=some o->h9.get? b=some o:=fun b o hb e7=>sb9.extBut b o hb (g.keep b o hb e7)
  have kb9:∀ b o,base.get? b=some o->h9.get? b=some o:=fun b o eb=>all b o (nl eb) (kb7 b o eb)
  have up9:∀ a o,s1.heap.get? a=some o->a≠env.locals->(∀ vs,o.data≠.fields vs)->∃ sl,h9.get? a=some { o with slots:=sl }:=fun a o eo ha hno=>(up a o eo hno).elim fun sl e6=>⟨sl,all a _ ha (sb7.extBut a _ ha e6)⟩
  have tk:=qj1 (A:=A) (qf1 w.fr hl) xl up9 kb9
  have kept:Kept (own C env++ι) s.heap h9:=fun a o eo hno=>tk a o eo (fun z=>hno (yo (.inl (z▸List.mem_cons_self ..)))) fun z=>hno (yo (.inr z))
  have there:∀ a o,s.heap.get? a=some o->a∉ι->h7.get? a≠none:=fun a o eo hi z=>by
   by_cases hL:a=env.locals
   ·obtain ⟨o7,_,_,q,_⟩:=ns7
    rw [hL,q] at z;cases z
   ·refine qad (qj1 (A:=A) (qf1 w.fr hl) xl (fun a o eo ha hno=>(up a o eo hno).elim fun sl e6=>⟨sl,sb7.extBut a _ ha e6⟩) kb7 a o eo hL hi) fun sl e1 _=>?_
    rw [z] at e1;cases e1
  have locι2:env.locals∉ι2:=fun q=>(new2 _ q).elim locι fun z=>by obtain ⟨o7,_,_,q,_⟩:=ns7;rw [show ({ s1 with heap:=h7,toks:=s1.toks+1 }:Shared).heap=h7 from rfl,q] at z;cases z
  have new9:∀ a∈ι2,a∈ι\/s.heap.get? a=none:=fun a ha=>by
   by_cases hi:a∈ι
   ·exact .inl hi
   ·right
    cases y:s.heap.get? a with
    | none=>rfl
    | some o=>exact (new2 a ha).elim (fun q=>absurd q (off a o y hi)) fun q=>absurd q (there a o y hi)
  have ntL:qbp [env.locals] h8:=qbn (Z:=fun b=>∀ vs,¬ IsTup h8 b vs) fun vs q=>qi1 ns8 fun o es ep eo dt _=>qbi q fun o' eo' _ z=>z.elim fun nn z=>by
   have:=yj (eo.symm.trans eo');subst this;rw [dt] at z;cases z
  have ext9:∀ b o,b∉[env.locals]->h8.get? b=some o->h9.get? b=some o:=fun b o hb eb=>sb9.extBut b o (fun z=>hb (z▸ym rfl)) eb
  have hr9:HR P.B ι2 H2 h9:=hr8.off ext9 ntL (qbn (Z:=fun b=>b∉ι2) locι2) (qbn (Z:=fun b=>P.B.get? b=none) e.newL)
  have ps:PostS P.B (own C env) ι s ι2 H2 { s1 with heap:=h9,toks:=t8+1 }:=⟨xl.pre.trans pre2,hr9,kept,new9,xl.same⟩
  have cell:∀ y c ov,some y∈C.vars->env.cells.lookup y=some c->s.heap.IsCell c ov->h9.IsCell c ov:=fun y c ov hm hc ic=>qad ic fun o eo dc=>qad (tk c o eo (e.offC y c hm hc).2.1 (e.offC y c hm hc).1) fun sl e1 _=>⟨_,e1,dc⟩
  refine ⟨ι2,H2,loc,fl,ps,⟨e.kind,e.names,e.glob,e.blt,⟨_,ns9⟩,locι2,e.newL,fun y c hm hc=>?_,fun y c hm hc=>(e.isC y c hm hc).elim fun ov ic=>⟨ov,cell y c ov hm hc ic⟩,e.apart,e.len,fun i y hi=>?_⟩,fr2.mono (Kept.of_keeps ext9) ntL,hq _ _ rr⟩
  ·exact ⟨fun q=>(new9 c q).elim (e.offC y c hm hc).1 fun z=>(e.isC y c hm hc).elim fun ov ic=>qad ic fun o eo _=>qa1 z eo,(e.offC y c hm hc).2⟩
  ·refine qad (e.vars i y hi) fun ov hs' hv=>?_
   by_cases hy:y∈n::ys
   ·refine hs'.elim (fun q=>⟨_,.inl ⟨q.1,_,ns9,rfl⟩,fun dd hdd=>absurd hdd (ni y hy i dd hi)⟩) fun q=>qad q.2 fun c ec ic=>⟨ov,.inr ⟨q.1,c,ec,cell y c ov (yc hi) ec ic⟩,fun dd hdd=>absurd hdd (ni y hy i dd hi)⟩
   ·rw [List.mem_cons,not_or] at hy
    refine ⟨ov,hs'.imp (fun q=>⟨q.1,qad q.2 fun m' n' em=>⟨_,ns9,?_⟩⟩) fun q=>⟨q.1,qad q.2 fun c ec ic=>⟨c,ec,cell y c ov (yc hi) ec ic⟩⟩,fun dd hdd=>qad (hv dd hdd) fun v ev rv=>⟨v,ev,ps.vr w.hr e rv⟩⟩
    have:=qij n' ns
    subst this
    have e8:=em8 y hy.2
    simp only [if_neg hy.1] at e8 ⊢
    rw [e8];exact em
 ·have z:=g.1
  cases fl with
  | next=>exact absurd rfl z
  | brk=>cases r1;exact ⟨ι1,H1,loc1,.brk,p1,e₁,rfl,g.2⟩
  | cont=>cases r1;exact ⟨ι1,H1,loc1,.cont,p1,e₁,rfl,g.2⟩
  | ret v=>exact qad r1 fun u hu r=>by subst hu;exact ⟨ι1,H1,loc1,.ret v,p1,e₁,⟨u,rfl,r⟩,g.2⟩
  | exc c=>exact r1.elim
end Mine
namespace Mine
open PySem PySem.W PyProof.Rows
structure ExcK (K:Frag) (D:Addr):Prop where
 cls:(clsIn K D).isSome=true
 ga:findIn K (.ref D) "__getattribute__" = some (some (.builtin "BaseException.__getattribute__"))
 gt:findIn K (.ref D) "__getattr__" = some none
 ca:findIn K (.ref D) "__class__" = some (some (.builtin "object.__class__"))
 mo:mroIn K D (.type "object")=some true
 mb:mroIn K D (.type "BaseException")=some true
section
variable {prog:Program}{w:World}{A:Around}{E:Value->Shared->Prop}{h:Heap}{g:Array GenState}{d:Drawn}{t:Nat}{os:OsState}{a D:Addr}{o:Obj}{K:Frag}
theorem qvt {tp:Value}{R:Result->Shared->Prop}(X:K.In h) (F':ExcK K D) (hx:h.get? a=some o) (hc:o.cls=.ref D) (hq:R (.ok (.ret (.ref D))) ⟨h,g,d,t,os⟩) :
  codeAny (model prog w) A (.call (.builtin "getset_descriptor.__get__") ⟨[.builtin "object.__class__",.ref a,tp],[]⟩) R ⟨h,g,d,t,os⟩:=by
 have L1:Looks (model prog w) h (isSubtype (.ref D) (.type (".".intercalate ("object.__class__".cutAt '.').dropLast))) true:=by
  rw [F.owner_object_class];exact looks_mroIn X F'.mo
 have hT5:(⟨h,g,d,t,os⟩:Shared).TypeIs (.builtin "object.__class__") "getset_descriptor" := F.typeOf_object_class
 refine codeAny_call_builtin F.slot_gs_get.plain F.entry_gs_get (F.slot_gs_get.check _ _ _ _ _ _ _ _ hT5 (F.args_gs_get _ _ _) ?_)
 repeat (any_goals (first|assumption|(with_reducible refine wpAny_loadPart_at hx ?_;rw [hc])|with_reducible refine L1.at ?_|wp_step))
 refine ⟨Code.quiet_builtin _ (by decide +kernel),codeAny_builtin F.entry_object_class ?_⟩
 repeat (any_goals (first|assumption|(with_reducible refine wpAny_loadPart_at hx ?_;rw [hc])|wp_step))
theorem qpi {tk:Tok}{Q:Fin->Shared->Prop}(X:K.In h) (F':ExcK K D) (hx:h.get? a=some o) (hc:o.cls=.ref D) (hq:Q (.done (.ret (.ref D))) ⟨h,g,d,t,os⟩) :
  wpAny (model prog w) A (Builtin.«object.__getattribute__» ⟨[.ref a,.str "__class__" tk],[]⟩) Q E ⟨h,g,d,t,os⟩:=by
 have hT5:(⟨h,g,d,t,os⟩:Shared).TypeIs (.builtin "object.__class__") "getset_descriptor" := F.typeOf_object_class
 have L2:=looks_findIn (M:=model prog w) X F'.ca
 have f5:=F.typeOf_object_class
 have f6:=F.slot_gs_get.lookup
 have f7:=F.slot_gs_set.lookup
 repeat (any_goals (first|assumption|(with_reducible refine wpAny_loadPart_at hx ?_;rw [hc])|with_reducible refine L2.at ?_|wp_step))
 refine qvt X F' hx hc ?_
 repeat (any_goals (first|assumption|wp_step))
theorem qpj {nameV:Value}{Q:Unit->Shared->Prop}(X:K.In h) (F':ExcK K D) (hx:h.get? a=some o) (hc:o.cls=.ref D) (hq:Q () ⟨h,g,d,t,os⟩) :
  wpAny (model prog w) A (checkBuiltinCall "BaseException.__getattribute__" ⟨[.ref a,nameV],[]⟩) Q E ⟨h,g,d,t,os⟩:=by
 have hk:builtinKind "BaseException.__getattribute__" = some .slot:=by decide +kernel
 have hsplit:splitId "BaseException.__getattribute__" = some ("BaseException", "__getattribute__"):=by decide +kernel
 have L1:=looks_mroIn (M:=model prog w) X F'.mb
 have ha:=F.args_bexc_ga (.ref a) nameV
 simp only [checkBuiltinCall,hk,hsplit]
 refine wpAny_bind ?_
 ·unfold isInstance
  repeat (first|(with_reducible refine wpAny_loadPart_at hx ?_;rw [hc])|with_reducible refine L1.at ?_|wp_step)
  exact hq
theorem qsr {tk:Tok}{R:Result->Shared->Prop}(X:K.In h) (F':ExcK K D) (hx:h.get? a=some o) (hc:o.cls=.ref D) (hq:R (.ok (.ret (.ref D))) ⟨h,g,d,t,os⟩) :
  codeAny (model prog w) A (.call (.builtin "BaseException.__getattribute__") ⟨[.ref a,.str "__class__" tk],[]⟩) R ⟨h,g,d,t,os⟩ :=
 codeAny_call_builtin F.excAttr_ValueError.ga.plain F.entry_bexc_ga (qpj X F' hx hc (qpi X F' hx hc hq))
theorem qya {tk:Tok}{fill expr:Bool}{Q:Value->Shared->Prop}(X:K.In h) (F':ExcK K D) (hx:h.get? a=some o) (hc:o.cls=.ref D) (hq:Q (.ref D) ⟨h,g,d,t,os⟩) :
  wpAny (model prog w) A (getAttrBy (.ref a) (.str "__class__" tk) fill expr) Q E ⟨h,g,d,t,os⟩:=by
 have f3:=F.excAttr_ValueError.ga.bind (.ref a)
 have L3:=looks_findIn (M:=model prog w) X F'.ga
 have L4:=looks_findIn (M:=model prog w) X F'.gt
 have hx0:(expr&&onTheHeap (Value.builtin "BaseException.__getattribute__"))=false:=by cases expr<;>rfl
 have hx2:(Value.builtin "BaseException.__getattribute__" == Value.builtin "object.__getattribute__")=false:=by decide +kernel
 have hx1:(onTheHeap (Value.ref D)&&Value.builtin "BaseException.__getattribute__" == Value.builtin "object.__getattribute__")=false:=by rw [hx2];rfl
 repeat (any_goals (first|assumption|(with_reducible refine wpAny_loadPart_at hx ?_;rw [hc])|with_reducible refine L3.at ?_|with_reducible refine L4.at ?_|wp_step))
 refine qsr X F' hx hc ?_
 repeat (any_goals (first|assumption|wp_step))
theorem qss {Q:Option Value->Shared->Prop}(X:K.In h) (F':ExcK K D) (hx:h.get? a=some o) (hc:o.cls=.ref D) (hq:Q (some (.ref D)) ⟨h,g,d,t+1,os⟩) :
  wpAny (model prog w) A (getAttr? (.ref a) "__class__") Q E ⟨h,g,d,t,os⟩:=by
 unfold getAttr? getAttrBy?
 repeat (any_goals (first|assumption|with_reducible apply qya X F' hx hc|wp_step))
end
theorem ExcK.at {K:Frag}{D:Addr}(F':ExcK K D):∃ c dd cd sl,K.lookup D=some ⟨c,dd,.cls cd,sl⟩:=by
 have h:=F'.cls
 unfold clsIn at h
 split at h
 ·exact ⟨_,_,_,_,by assumption⟩
 ·cases h
theorem qvs {K:Frag}{D a:Addr}(F':ExcK K D):KitX K (.ref a) (.ref D) (fun h=>∃ o,h.get? a=some o/\o.cls=.ref D) where
 ty:=fun M h _ p=>by obtain ⟨o,h1,h2⟩:=p;exact h2▸(Looks.ld h1).andThen .now
 it:=fun _ _ X _=>by
  refine qzg (F'.at) fun c dd cd sl ho=>?_
  intro A' Q' E' s' k q
  unfold isType loadHead
  exact wpAny_bind (wpAny_loadPart (k _ _ (X _ _ ho)) (wpAny_pure q))
 ne:=fun h tp dd its n sl X htp=>by
  refine qzg (F'.at) fun c dd' cd sl' ho=>?_
  refine Bool.eq_false_iff.mpr fun q=>?_
  have e:D=tp:=Value.ref.inj (beq_iff_eq.mp q)
  subst e
  have z:=(X _ _ ho).symm.trans htp
  cases z
 ca:=fun {prog w A E Q s} X p k=>by
  obtain ⟨hh,g,d,tt,os⟩:=s
  refine qad (p) fun o h1 h2=>?_
  clear p
  exact qss X F' h1 h2 k
theorem ql0 {P:PEnv}{K:Frag}{c T:Str}{D:Addr}{Tc:Value}(X:K.In P.B) (hc:P.mg c=some (.ref D)) (hT:P.mg T=some Tc) (he:exmOne K (.ref D) Tc=some true):qe4 P c T :=
 ⟨D,Tc,hc,hT,fun M h ea o st e1 e2=>exm_one (X.keeps st) (e2▸(Looks.ld e1).andThen .now) he⟩
end Mine
namespace Mine
open PySem PySem.W PyProof.Rows
def qdt (s:Shared) (h:Heap):Prop:=∀ q o,s.heap.get? q=some o->h.get? q=some o
structure XEnv (P:PEnv) (C:Ctx) (x:Str) (D:Addr) (env:Env) (s:Shared):Prop where
 kind:env.scope.kind=.function
 names:env.scope.names=C.names
 glob:env.globals=mainGlobals
 blt:env.builtins=builtinsNs
 ns:∃ m ea o,s.heap.Ns env.locals m/\m x=some (.ref ea)/\s.heap.get? ea=some o/\o.cls=.ref D
 base:P.B.StaysIn s.heap
variable {P:PEnv}{C:Ctx}{d:Nat}{x:Str}{D:Addr}
theorem XEnv.grow {tk:Nat}(e:XEnv P C x D env s) (k:qdt s h):XEnv P C x D env { s with heap:=h,toks:=tk }:=by
 refine qvu (e.ns) fun m ea o h1 h2 h3 h4=>?_
 exact ⟨e.kind,e.names,e.glob,e.blt,⟨m,ea,o,h1.keeps k,h2,k _ _ h3,h4⟩,fun b o eb=>k _ _ (e.base b o eb)⟩
def XV (P:PEnv) (C:Ctx) (d:Nat) (x:Str) (D:Addr) (e:Expr) (b:Bool):Prop :=
 ∀ A E env s (Q:Value->Shared->Prop),A.depth+d<recursionLimit->XEnv P C x D env s->(∀ h tk,qdt s h->Q (.bool b) { s with heap:=h,toks:=tk })->wpAny (model P.prog P.w) A (eval e env) Q E s
def XT (P:PEnv) (C:Ctx) (d:Nat) (x:Str) (D:Addr) (e:Expr) (b:Bool):Prop :=
 ∀ A E env s (Q:Bool->Shared->Prop),A.depth+d<recursionLimit->XEnv P C x D env s->(∀ h tk,qdt s h->Q b { s with heap:=h,toks:=tk })->wpAny (model P.prog P.w) A (isTrue e env (eval e env)) Q E s
def XB (P:PEnv) (C:Ctx) (d:Nat) (x:Str) (D:Addr) (body:List Stmt) (f:Flow):Prop :=
 ∀ A E env s (Q:Flow->Shared->Prop),A.depth+d<recursionLimit->XEnv P C x D env s->(∀ h tk,qdt s h->Q f { s with heap:=h,toks:=tk })->wpAny (model P.prog P.w) A (execs body env) Q E s
theorem qdt.refl :qdt s s.heap:=fun _ _ e=>e
theorem qdt.trans {tk:Nat}(a:qdt s h) (b:qdt { s with heap:=h,toks:=tk } h'):qdt s h':=fun q o e=>b q o (a q o e)
theorem qff {e:Expr}{b:Bool}(h:XV P C d x D e b) (he:∀ env whole,isTrue e env whole=(do let v ←whole;standAt e.pos;holding [v] (truthy v))):XT P C d x D e b:=fun A E env s Q hr xe k =>
 isTrue_plain (h A E env s _ hr xe fun h tk g=>wpAny_truthy_bool (k h tk g)) (he env _)
theorem qvp {e:Expr}{b:Bool}(h:XT P C d x D e b):XT P C d x D (.UnaryOp .Not e pos) (!b):=fun A E env s Q hr xe k=>isTrue_not (h A E env s _ hr xe k)
theorem ql4 :XT P C d x D (.BoolOp .Or [] pos) false:=fun A E env s Q hr xe k=>isTrue_or_nil (k s.heap s.toks .refl)
theorem qph {e:Expr}{rest:List Expr}{b:Bool}(h:XT P C d x D e false) (h2:XT P C d x D (.BoolOp .Or rest pos) b):XT P C d x D (.BoolOp .Or (e::rest) pos) b:=fun A E env s Q hr xe k=>by
 refine isTrue_or (h A E env s _ hr xe fun hh tk g=>?_)
 show wpAny _ _ _ _ _ _
 rw [qg8 _ (eval (.BoolOp .Or rest pos) env)]
 exact h2 A E env _ _ hr (xe.grow g) fun h' tk' g'=>k h' tk' (g.trans g')
def Glob (P:PEnv) (y:Str) (v:Value):Prop:=P.mg y=some v\/(P.mg y=none/\P.mb y=some v)
theorem qhl {y:Str}{Q:Value->Shared->Prop}(ok:P.OK) (xe:XEnv P C x D env s) (g:Glob P y v) (hk:C.names.lookup y=some .globalImplicit)
  (hd:(y == ("__debug__" : Str))=false) (q:Q v s):wpAny (model P.prog P.w) A (eval (.Name y pos) env) Q E s:=by
 have hk':env.kindOf y=some .globalImplicit:=by unfold Env.kindOf;rw [xe.names];exact hk
 rcases g with g|⟨g1,g2⟩
 ·exact Calls.Name_function_global xe.kind hk' (Calls.loadGlobal_global (xe.glob▸ok.g.keeps xe.base) g q) hd
 ·exact Calls.Name_function_global xe.kind hk' (Calls.loadGlobal_builtin (xe.glob▸ok.g.keeps xe.base) g1 (xe.blt▸ok.b.keeps xe.base) g2 q) hd
theorem qsg {Q:Value->Shared->Prop}(xe:XEnv P C x D env s) (hk:C.names.lookup x=some .local)
  (hd:(x == ("__debug__" : Str))=false) (q:∀ ea o,s.heap.get? ea=some o->o.cls=.ref D->Q (.ref ea) s):wpAny (model P.prog P.w) A (eval (.Name x pos) env) Q E s:=by
 refine qvu (xe.ns) fun m ea o h1 h2 h3 h4=>?_
 exact wpAny_Name (wpAny_loadName_local xe.kind (by unfold Env.kindOf;rw [xe.names];exact hk) h1 h2 (q ea o h3 h4)) hd
theorem qvo {K:Frag}{y:Str}{cv:Value}{b:Bool}{p1 p2 p3:Pos}(ok:P.OK) (X:K.In P.B) (F':ExcK K D) (iso:Glob P "isinstance" (.builtin "isinstance")) (gy:Glob P y cv) (kit:kitOne K (.ref D) cv=some b)
  (k1:C.names.lookup ("isinstance" : Str)=some .globalImplicit) (k2:C.names.lookup x=some .local) (k3:C.names.lookup y=some .globalImplicit) (dx:(x == ("__debug__" : Str))=false) (dy:(y == ("__debug__" : Str))=false) :
  XV P C d x D (.Call (.Name "isinstance" p1) [.Name x p2,.Name y p3] [] pos) b:=fun A E env s Q hr xe k=>by
 refine Call_ (qhl ok xe iso k1 (by decide) ?_)
 have s1:starEach [.Name x p2,.Name y p3] env=(false,eval (.Name x p2) env)::starEach [.Name y p3] env:=rfl
 have s2:starEach [.Name y p3] env=(false,eval (.Name y p3) env)::starEach [] env:=rfl
 have s3:(backTo pos (starEach [.Name y p3] env)).any (·.1)=false:=rfl
 refine callWith_builtin1 (spliced_more (qsg xe k2 dx fun ea o e1 e2=>?_) s1) s1 s3
 refine spliced_more (qhl ok xe gy k3 dy (spliced_none ?_)) s2
 exact kia_one (qvs F') (X.keeps xe.base) ⟨o,e1,e2⟩ kit (by intro z;cases z) fun tk=>k s.heap tk .refl
theorem qsq {f:Str}{C':Ctx}{p:Str}{body:List Stmt}{b:Bool}{p1 p2:Pos}(ok:P.OK) (fn:FnAt P f C' [p] body) (hp:C'.names.lookup p=some .local) (h:XB P C' d p D body (.ret (.bool b)))
  (k1:C.names.lookup f=some .globalImplicit) (k2:C.names.lookup x=some .local) (dx:(x == ("__debug__" : Str))=false) (df:(f == ("__debug__" : Str))=false) :
  XV P C (d+1) x D (.Call (.Name f p1) [.Name x p2] [] pos) b:=fun A E env s Q hr xe k=>by
 refine qyb (fn.ex) fun fa o fd h1 h2 h3 h4 qQ7=>?_
 obtain ⟨h5,h6,h7,h8,h9,h10,h11,h12,h13⟩:=qQ7
 refine Call_ (qhl ok xe (.inl h1) k1 df ?_)
 refine callWith_def (o:=o) (fd:=fd) h3 (spliced_more (qsg xe k2 dx fun ea oe e1 e2=>spliced_none ?_)) rfl
 refine ⟨xe.base _ _ h2,wpAny_call ?_⟩
 refine codeAny_call_cells (fd:=fd) (body:=body) (binds:=[(p,.ref ea)]) (by exact Nat.lt_of_add_right_lt hr) (xe.base _ _ h2) h3 (ok.nolimit.keeps xe.base) (h12.keeps xe.base) h4 (h13 [.ref ea] rfl) h9 (fun y hy=>?_) (fun s1 ic=>?_) h7 h8 h6
 ·rw [yb hy,h5];exact .inl hp
 ·generalize hen:callEnvC fd s.heap.objs.size fa=env' at ic ⊢
  have es:env'.scope=fd.scope:=by rw [←hen];rfl
  refine qjz (ic.toInCall.same) fun h₁ t1 hs1=>?_
  have keep:=ic.toInCall.keep
  have pk:env'.kindOf p=some .local:=by unfold Env.kindOf;rw [es,h5];exact hp
  have xe':XEnv P C' p D env' s1:=⟨by rw [es];exact h6,by rw [es,h5],by rw [←hen];exact h10,by rw [←hen];exact h11,
   ⟨_,ea,oe,ic.toInCall.ns,qhu (ps:=[p]) (vs:=[.ref ea]) (i:=0) pk (by simp) rfl rfl,keep _ _ e1,e2⟩,fun b o eb=>keep _ _ (xe.base b o eb)⟩
  refine h _ _ env' s1 _ (show A.depth+1+d<_ by exact z30 hr) xe' fun h' tk g=>?_
  have:=k h' tk fun q o' e=>g q o' (keep q o' e)
  rw [hs1];exact this
end Mine
namespace Mine
open PySem PySem.W PyProof.Rows
abbrev Rais:=List AV->Hp->XP->Prop
noncomputable def qsc (c:Str) (loc:Loc) (Q:PF):PL:=fun vs H=>vs.length<=sizeLine/\Q (.exc c) loc H
noncomputable def kRx (R:Rais) (loc:Loc) (Q:PF):PL:=fun vs H=>R vs H fun c H'=>Q (.exc c) loc H'
noncomputable def kTry (R:Rais) (hd:Str->Option MFlow) (loc:Loc) (Q:PF):PL:=fun vs H=>R vs H fun c H'=>∃ fl,hd c=some fl/\Q fl loc H'
abbrev qpe:=List AV->Hp->PQ->XP->Prop
noncomputable def qyz (R:qpe) (hd:Str->Option (List Str)) (loc:Loc) (Q:PF):PL:=fun vs H=>R vs H (fun v H'=>Q (.ret (.tup [v])) loc H') fun c H'=>∃ l,hd c=some l/\Q (.ret (.ref H'.length)) loc (H'++[.list (l.map .str)])
namespace MS
noncomputable def raise (c:Str) (as:List ME):MS:=fun Φ loc H Q=>wpEs Φ as loc H (qsc c loc Q)
noncomputable def orX (m:MS) (as:List ME) (R:Rais):MS:=fun Φ loc H Q=>wpS Φ m loc H Q\/wpEs Φ as loc H (kRx R loc Q)
noncomputable def tryX (is:List Nat) (as:List ME) (R:Rais) (hd:Str->Option MFlow):MS:=fun Φ loc H Q=>(∀ i∈is,loc[i]?=some none)/\wpEs Φ as loc H (kTry R hd loc Q)
noncomputable def tryC (is:List Nat) (as:List ME) (R:qpe) (hd:Str->Option (List Str)):MS:=fun Φ loc H Q=>(∀ i∈is,loc[i]?=some none)/\wpEs Φ as loc H (qyz R hd loc Q)
end MS
structure CSX (Ξ:PEnv->Nat->Prop) (G:GT) (C:Ctx) (m:MS) (st:Stmt):Prop where
 snd:∀ {P d Φ},GOK P G->Ξ P d->qga P d Φ->∀ {loc H}{Q:PF},wpS Φ m loc H Q->ExX P C d st loc H Q
structure CSsX (Ξ:PEnv->Nat->Prop) (G:GT) (C:Ctx) (ms:List MS) (sts:List Stmt):Prop where
 snd:∀ {P d Φ},GOK P G->Ξ P d->qga P d Φ->∀ {loc H}{Q:PF},wpSs Φ ms loc H Q->ExsX P C d sts loc H Q
section
variable {Ξ:PEnv->Nat->Prop}{G:GT}{C:Ctx}{m:MS}{ms:List MS}{st:Stmt}{sts:List Stmt}{pos:Pos}
theorem CSX.of (h:CS G C m st):CSX Ξ G C m st:=⟨fun ok _ hΦ _ _ _ w=>(h.snd ok hΦ w).x⟩
theorem CSsX.of (h:CSs G C ms sts):CSsX Ξ G C ms sts:=⟨fun ok _ hΦ _ _ _ w=>(h.snd ok hΦ w).x⟩
theorem CSsX.nil:CSsX Ξ G C [] []:=⟨fun _ _ _ _ _ _ w=>qq3 w⟩
theorem ExX.mono {P:PEnv}{loc:Loc}{Q Q':PF}(h:ExX P C d st loc H Q) (q:∀ f l H,Q f l H->Q' f l H):ExX P C d st loc H Q' :=
 fun A E env ι s w e tp xa=>wpAny_mono (h A E env ι s w e tp fun l hl e' s' ι' H' loc' c hx he hq=>xa l hl e' s' ι' H' loc' c hx he (q _ _ _ hq)) (fun f s' g=>by
  obtain ⟨ι',H',loc',fl,p,e',r,z⟩:=g
  exact ⟨ι',H',loc',fl,p,e',r,q _ _ _ z⟩) fun _ _ x=>x
theorem CSsX.cons (h:CSX Ξ G C m st) (hs:CSsX Ξ G C ms sts):CSsX Ξ G C (m::ms) (st::sts):=⟨fun ok ξ hΦ _ _ Q w=>by
 refine qod ((h.snd ok ξ hΦ w).mono fun f l H q=>?_)
 cases f with
 | next=>exact hs.snd ok ξ hΦ q
 | _=>exact q⟩
theorem CSX.ite {a:ME}{x:Expr}{ma mb:List MS}{xa xb:List Stmt}(ht:CE G C a x) (ha:CSsX Ξ G C ma xa) (hb:CSsX Ξ G C mb xb):CSX Ξ G C (.ite a ma mb) (.If x xa xb pos):=⟨fun ok ξ hΦ _ _ _ w =>
 qxc ((ht.snd ok hΦ w).2 _ fun v H' q=>by
  refine qad (asB.ex q) fun c eQ1 nQ2=>?_
  subst eQ1
  revert nQ2
  intro q
  show (if c then _ else _)
  cases c with
  | false=>exact hb.snd ok ξ hΦ q
  | true=>exact ha.snd ok ξ hΦ q)⟩
theorem qct.anyX {P:PEnv}{loc:Loc}{Q:PL}{X:XP}(h:qct P C d es loc H Q XF):qct P C d es loc H Q X:=fun A E env ι s pos w e _=>h A E env ι s pos w e Acc.no
theorem CSX.raise {c:Str}{B newId initId:String}{bm:List Value}{np cpos:Pos}{a:ME}{as:List ME}{x:Expr}(gn:GN C c) (FB:ExcBaseFacts B newId initId bm) (hx:CE G C a x) (hs:CEs G C as xs)
  (own:∀ {P d},Ξ P d->∃ D,OwnCls c D bm newId P.mg P.B):CSX Ξ G C (.raise c (a::as)) (.Raise (some (.Call (.Name c np) (x::xs) [] cpos)) none pos):=⟨fun ok ξ hΦ _ _ Q w=>by
 refine qar (own ξ) fun D O=>?_
 exact qoe ok.toOK O FB gn.look gn.dbg (fun env=>hx.star _ env) hs.plain ((CEs.cons hx hs).snd ok hΦ w)⟩
inductive Sls (C:Ctx):List Str->List Nat->Prop
 | nil:Sls C [] []
 | cons {y:Str}{i:Nat}{ys:List Str}{is:List Nat}:Slot C i y->Sls C ys is->Sls C (y::ys) (i::is)
theorem Sls.mem {ys:List Str}{is:List Nat}(h:Sls C ys is):∀ y∈ys,∃ i∈is,Slot C i y:=by
 induction h with
 | nil=>intro y hy;cases hy
 | cons s _ ih =>
  intro y hy
  rcases yg hy with rfl|hy
  ·exact ⟨_,List.mem_cons_self ..,s⟩
  ·refine qad (ih y hy) fun i hi q=>?_
   exact ⟨i,yi _ hi,q⟩
theorem qq4 {P:PEnv}{loc:Loc}{X:XP}{x:Expr}{Q:PF}(h:EvOK P C d x loc H (fun v H'=>Q (.ret v) loc H') X):ExsA P C d [.Return (some x) pos] loc H Q X:=fun A E env ι s w e a=>wpAny_execs_cons (by
 rw [exec_Return_some]
 exact wpAny_bind (wpAny_standAt (wpAny_bind (gv (h A E env ι s w e a) fun v s1 ι1 H1 x p1 r1 g=>wpAny_pure ⟨ι1,H1,loc,.ret x,p1.toS,e.step w.hr p1,⟨v,rfl,r1⟩,g⟩))))
theorem CSX.tryC {f T n:Str}{a:ME}{as:List ME}{x:Expr}{pn p1 tp hpos cpos tpos:Pos}{b0:Stmt}{suite:List Stmt}{R:qpe}{hd:Str->Option (List Str)}{is:List Nat}{ys:List Str}
  (hf:G.fns.contains f=true) (gn:GN C f) (hx:CE G C a x) (hs:CEs G C as xs) (r:∀ {P d},Ξ P d->∀ args H Q X,R args H Q X->qa2 P d f args H Q X) (gT:GN C T) (sl:Sls C (n::ys) is) (nn:n∉ys) (hn:C.names.lookup n=some .local)
  (hst:∀ env,starEach [.Call (.Name f pn) (x::xs) [] cpos] env=(false,eval (.Call (.Name f pn) (x::xs) [] cpos) env)::starEach [] env)
  (hh:∀ {P d},Ξ P d->∀ c l,hd c=some l->qe4 P c T/\qhx P C d n ys (b0::suite) c (fun fl H H2=>fl=.ret (.ref H.length)/\H2=H++[.list (l.map .str)])) :
  CSX Ξ G C (.tryC is (a::as) R hd) (.Try [.Return (some (.Tuple [.Call (.Name f pn) (x::xs) [] cpos] k tpos)) p1] [.ExceptHandler (some (.Name T tp)) (some n) (b0::suite) hpos] [] [] pos):=⟨fun ok ξ hΦ loc _ Q w=>by
 refine quq (X:=fun c H'=>∃ l,hd c=some l/\Q (.ret (.ref H'.length)) loc (H'++[.list (l.map .str)])) (ys:=ys) ok.toOK gT.look gT.dbg hn (fun y hy j dd hj z=>?_) nn (qq4 (qsh (qkr ?_ hst))) fun c H' q=>qad q fun l h1 h2=>⟨(hh ξ c l h1).1,_,(hh ξ c l h1).2,fun fl H2 z=>by rw [z.1,z.2];exact h2⟩
 ·refine qad (sl.mem y hy) fun i hi s=>?_
  rw [s.uniq j hj,w.1 i hi] at z;cases z
 ·refine qi1 (ok.fns _ hf) fun fa o fd h1 h2 h3=>?_
  refine qoi ok.toOK gn.look gn.dbg h1 h2 h3 (((CEs.cons hx hs).snd ok hΦ w.2).anyX.mono fun vs H' w=>(r ξ _ _ _ _ w).mono fun v H2 q=>qof ⟨by show 1<=sizeLine;decide +kernel,fun z=>(by cases z),q⟩) fun env=>hx.star _ env⟩
end
def wpFX (Φ:Fun) (f:MF) (args:List AV) (H:Hp) (Q:PQ) (X:XP):Prop :=
 args.length=f.params/\wpSs Φ f.body (args.map some++List.replicate (f.vars-f.params) none) H (endX Q X)
structure FnX (Ξ:PEnv->Nat->Prop) (p:Program) (Γ:GT) (x:Str) (vars params:List Str) (f:MF):Prop where
 ex:∃ d,d∈recsOf p/\d.name=x/\d.scope.kind=.function/\d.scope.isCoroutine=false/\d.scope.isGenerator=false/\(Ctx.mk (vars.map some) d.scope.names 0).good params=true /\
  CSsX Ξ Γ ⟨vars.map some,d.scope.names,0⟩ f.body d.body/\params.length=f.params/\vars.length=f.vars /\
  ∀ pm cd doc vals,vals.length=params.length->bindArgs (Calls.docDef d.name d.params d.body d.scope pm cd doc) ⟨vals,[]⟩=pure (params.zip vals)
section
variable {p:Program}{loose:List Str}{R:WRecords}{XP':(Str->Option Value)->Heap->Prop}{w:World}{s₀:Shared}{mg mb:Str->Option Value}{h:Heap}{prog:Program}
theorem FnX.call {Ξ:PEnv->Nat->Prop}{Γ:GT}{x:Str}{vars params:List Str}{f:MF}{args:List AV}{Q:PQ}{X:XP}(fn:FnX Ξ p Γ x vars params f) (G:Ground p loose R XP' w s0 mg mb h) (ok:GOK (PEnv.mk prog w h mg mb) Γ)
  (ξ:Ξ (PEnv.mk prog w h mg mb) n) (hΦ:∀ f args H Q,Φ f args H Q->qa2 (PEnv.mk prog w h mg mb) n f args H Q XF) (wp:wpFX Φ f args H Q X):qa2 (PEnv.mk prog w h mg mb) (n+1) x args H Q X:=by
 refine qyc (fn.ex) fun d hd eQ2 k1 k2 k3 qQ6=>?_
 subst eQ2
 obtain ⟨good,cs,hp,hv,hb⟩:=qQ6
 refine qx8 (G.T.fn d hd) fun a o pm code doc h1 h2 qQ7=>?_
 obtain ⟨h3,h4⟩:=qQ7
 refine qa4 (wp) fun hl wp=>?_
 refine qkw ok.toOK (C:=⟨vars.map some,d.scope.names,0⟩) (params:=params) ⟨⟨a,o,_,h1,h2,h3,rfl,rfl,k1,k2,k3,rfl,rfl,rfl,h4,fun vals hl=>hb pm code doc vals hl⟩⟩ good (by rw [hl,hp]) (cs.snd ok ξ hΦ ?_)
 unfold start
 have:(Ctx.mk (vars.map some) d.scope.names 0).vars.length=f.vars:=by rw [←hv];simp
 rw [this,hl];exact wp
end
end Mine
namespace Mine
open PySem PySem.W PyProof.Rows
noncomputable def qn2 (h:Heap) (D:Addr):Frag:=match h.get? D with
 | some o=>(D,o)::(match o.data with
  | .cls cd=>(match h.get? cd.ns with|some o'=>[(cd.ns,o')]|none=>[])
  | _=>[])
 | none=>[]
noncomputable def qiq (h:Heap):List Str->Frag
 | []=>[]
 | x::r=>(match h.nsMap mainGlobals x with|some (.ref D)=>qn2 h D|_=>[])++qiq h r
theorem qlq {D:Addr}:∀ e∈qn2 h D,h.get? e.1=some e.2:=by
 intro e he
 unfold qn2 at he
 split at he
 ·rename_i o ho
  rcases yg he with rfl|he
  ·exact ho
  ·split at he
   ·split at he
    ·rename_i o' ho'
     rw [yb he];exact ho'
    ·cases he
   ·cases he
 ·cases he
theorem qgz {h:Heap}:∀ {ns:List Str},∀ e∈qiq h ns,h.get? e.1=some e.2
 | [],e,he=>by cases he
 | x::r,e,he=>by
  unfold qiq at he
  rcases yd he with he|he
  ·split at he
   ·exact qlq e he
   ·cases he
  ·exact qgz e he
theorem qno {K:Frag}{a:Addr}{o:Obj}(e:K.lookup a=some o):(a,o)∈K:=by
 induction K with
 | nil=>cases e
 | cons p r ih =>
  obtain ⟨b,x⟩:=p
  simp only [List.lookup] at e
  split at e
  ·rename_i q;cases e;rw [beq_iff_eq.mp q];exact List.mem_cons_self ..
  ·exact yi _ (ih e)
theorem qn1 {ns:List Str}:(qiq h ns).In h:=fun a o e=>qgz _ (qno e)
noncomputable def excB (K:Frag) (D:Addr):Bool :=
 (clsIn K D).isSome&&(findIn K (.ref D) "__getattribute__" == some (some (.builtin "BaseException.__getattribute__")))&&(findIn K (.ref D) "__getattr__" == some none) &&
 (findIn K (.ref D) "__class__" == some (some (.builtin "object.__class__")))&&(mroIn K D (.type "object") == some true)&&(mroIn K D (.type "BaseException") == some true)
theorem quo {K:Frag}{D:Addr}(h:excB K D=true):ExcK K D:=by
 simp only [excB,Bool.and_eq_true,beq_iff_eq] at h
 refine qa4 (h) fun qQ0 h6=>?_
 clear h
 obtain ⟨⟨⟨⟨h1,h2⟩,h3⟩,h4⟩,h5⟩:=qQ0
 exact ⟨h1,h2,h3,h4,h5,h6⟩
structure ClsQ where
 raised:Str
 kits:List (Str×Bool)
 tys:List (String×Bool)
 caught:List Str
noncomputable def cfOk (q:ClsQ) (K:Frag) (mg:Str->Option Value):Bool:=match mg q.raised with
 | some (.ref D)=>excB K D&&(q.kits.all fun p=>(mg p.1).any fun v=>kitOne K (.ref D) v == some p.2)&&(q.tys.all fun p=>kitOne K (.ref D) (.type p.1) == some p.2)&&(q.caught.all fun x=>(mg x).any fun v=>exmOne K (.ref D) v == some true)
 | _=>false
structure CFacts (q:ClsQ) (K:Frag) (mg:Str->Option Value) (D:Addr):Prop where
 at_:mg q.raised=some (.ref D)
 exc:ExcK K D
 kit:∀ p∈q.kits,∃ v,mg p.1=some v/\kitOne K (.ref D) v=some p.2
 ty:∀ p∈q.tys,kitOne K (.ref D) (.type p.1)=some p.2
 ct:∀ x∈q.caught,∃ v,mg x=some v/\exmOne K (.ref D) v=some true
theorem qox {q:ClsQ}{K:Frag}{mg:Str->Option Value}(h:cfOk q K mg=true):∃ D,CFacts q K mg D:=by
 unfold cfOk at h
 split at h
 ·rename_i D e
  simp only [Bool.and_eq_true,List.all_eq_true,Option.any_eq_true,beq_iff_eq] at h
  refine qa4 (h) fun qQ0 h4=>?_
  clear h
  obtain ⟨⟨h1,h2⟩,h3⟩:=qQ0
  exact ⟨D,e,quo h1,h2,h3,h4⟩
 ·cases h
noncomputable def cfAt (ns:List Str) (qs:List ClsQ) (s:Shared):Bool:=qs.all fun q=>cfOk q (qiq s.heap ns) (s.heap.nsMap mainGlobals)
def CF (qs:List ClsQ) (mg:Str->Option Value) (h:Heap):Prop:=∃ K:Frag,K.In h/\∀ q∈qs,∃ D,CFacts q K mg D
theorem cf_of {ns:List Str}{qs:List ClsQ}(s:Shared) (e:cfAt ns qs s=true):CF qs (s.heap.nsMap mainGlobals) s.heap :=
 ⟨_,qn1,fun q hq=>qox (yq e q hq)⟩
theorem CF.keeps {qs:List ClsQ}(mg:Str->Option Value) (h h':Heap) (x:CF qs mg h) (hk:∀ b o,h.get? b=some o->h'.get? b=some o):CF qs mg h':=by
 refine qad (x) fun K h1 h2=>?_
 clear x
 exact ⟨K,h1.keeps hk,h2⟩
def XC (p:Program) (lv:List (Str×WData)) (qs:List ClsQ) (mg:Str->Option Value) (h:Heap):Prop:=XL p lv mg h/\CF qs mg h
theorem XC.keeps {p:Program}{lv:List (Str×WData)}{qs:List ClsQ}(mg:Str->Option Value) (h h':Heap) (x:XC p lv qs mg h) (hk:∀ b o,h.get? b=some o->h'.get? b=some o):XC p lv qs mg h' :=
 ⟨XL.keeps mg h h' x.1 hk,CF.keeps mg h h' x.2 hk⟩
structure IsF (P:PEnv) (D:Addr) (kits:List (Str×Bool)):Prop where
 ok:P.OK
 iso:Glob P "isinstance" (.builtin "isinstance")
 ex:∃ K:Frag,K.In P.B/\ExcK K D/\∀ p∈kits,∃ v,Glob P p.1 v/\kitOne K (.ref D) v=some p.2
theorem IsF.isi {P:PEnv}{D:Addr}{kits:List (Str×Bool)}{C:Ctx}{x y:Str}{b:Bool}{p1 p2 p3:Pos}(f:IsF P D kits) (hm:(y,b)∈kits)
  (k1:C.names.lookup ("isinstance" : Str)=some .globalImplicit) (k2:C.names.lookup x=some .local) (k3:C.names.lookup y=some .globalImplicit) (dx:(x == ("__debug__" : Str))=false) (dy:(y == ("__debug__" : Str))=false) :
  XV P C d x D (.Call (.Name "isinstance" p1) [.Name x p2,.Name y p3] [] pos) b:=by
 refine qbi (f.ex) fun K h1 h2 h3=>?_
 refine qad (h3 _ hm) fun v h4 h5=>?_
 exact qvo f.ok h1 h2 f.iso h4 h5 k1 k2 k3 dx dy
structure FnR (p:Program) (f x:Str) (kits:List (Str×Bool)) (b:Bool):Prop where
 ex:∃ d,d∈recsOf p/\d.name=f/\d.scope.kind=.function/\d.scope.isCoroutine=false/\d.scope.isGenerator=false/\d.scope.names.lookup x=some .local /\
  (∀ {P:PEnv}{n:Nat}{D:Addr},IsF P D kits->XB P ⟨[some x],d.scope.names,0⟩ n x D d.body (.ret (.bool b))) /\
  ∀ pm cd doc vals,vals.length=[x].length->bindArgs (Calls.docDef d.name d.params d.body d.scope pm cd doc) ⟨vals,[]⟩=pure ([x].zip vals)
section
variable {p:Program}{loose:List Str}{R:WRecords}{XP':(Str->Option Value)->Heap->Prop}{w:World}{s₀:Shared}{mg mb:Str->Option Value}{h:Heap}{prog:Program}
theorem FnR.call {f x y:Str}{kits:List (Str×Bool)}{b:Bool}{C:Ctx}{D:Addr}{p1 p2:Pos}(fn:FnR p f x kits b) (G:Ground p loose R XP' w s0 mg mb h) (i:IsF (PEnv.mk prog w h mg mb) D kits)
  (k1:C.names.lookup f=some .globalImplicit) (k2:C.names.lookup y=some .local) (dy:(y == ("__debug__" : Str))=false) (df:(f == ("__debug__" : Str))=false) :
  XV (PEnv.mk prog w h mg mb) C (n+1) y D (.Call (.Name f p1) [.Name y p2] [] pos) b:=by
 refine qyc (fn.ex) fun d hd eQ2 q1 q2 q3 qQ6=>?_
 subst eQ2
 obtain ⟨q4,q5,q6⟩:=qQ6
 refine qx8 (G.T.fn d hd) fun a o pm code doc h1 h2 qQ7=>?_
 obtain ⟨h3,h4⟩:=qQ7
 exact qsq i.ok (C':=⟨[some x],d.scope.names,0⟩) ⟨⟨a,o,_,h1,h2,h3,rfl,rfl,q1,q2,q3,rfl,rfl,rfl,h4,fun vals hl=>q6 pm code doc vals hl⟩⟩ q4 (q5 i) k1 k2 dy df
end
end Mine
namespace Mine
open PySem
def Rise (a:Array Nat):Prop:=a.toList.Pairwise (·<·)
theorem Rise.lt {a:Array Nat}(r:Rise a){u v:Nat}(h:i<k) (hu:a[i]?=some u) (hv:a[k]?=some v):u<v:=by
 rw [←Array.getElem?_toList] at hu hv
 refine qar (yl hu) fun hi eu=>qar (yl hv) fun hk ev=>?_
 rw [←eu,←ev];exact List.pairwise_iff_getElem.mp r i k hi hk h
theorem Rise.le {a:Array Nat}(r:Rise a){i k u v:Nat}(h:i<=k) (hu:a[i]?=some u) (hv:a[k]?=some v):u<=v :=
 (Nat.lt_or_eq_of_le h).elim (fun z=>Nat.le_of_lt (r.lt z hu hv)) fun z=>by subst z;exact Nat.le_of_eq (yj (hu.symm.trans hv))
structure Parts (a:Array Nat) (j b:Nat):Prop where
 le:b<=a.size
 lo:∀ i v,i<b->a[i]?=some v->v<j
 hi:∀ i v,b<=i->a[i]?=some v->j<=v
theorem qrq {a:Array Nat}(r:Rise a):∀ fuel lo hi,lo<=hi->hi<=a.size->hi<=lo+fuel->(∀ i v,i<lo->a[i]?=some v->v<j)->(∀ i v,hi<=i->a[i]?=some v->j<=v)->Parts a j (SetTable.below.go a j fuel lo hi):=by
 intro fuel
 induction fuel with
 | zero =>
  intro lo hi h1 h2 h3 h4 h5
  have:hi=lo:=Nat.le_antisymm h3 h1
  subst this
  exact ⟨h2,h4,h5⟩
 | succ fuel ih =>
  intro lo hi h1 h2 h3 h4 h5
  unfold SetTable.below.go
  by_cases hl:lo<hi
  ·rw [if_pos hl]
   dsimp only
   have hm:(lo+hi)/2<hi:=by exact z31 hl
   have hm1:lo<=(lo+hi)/2:=by exact z32 hm
   generalize (lo+hi)/2=m at hm hm1 ⊢
   have hms:m<a.size:=Nat.lt_of_lt_of_le hm h2
   have hg:a[m]?=some a[m]:=Array.getElem?_eq_getElem hms
   have hd:a.getD m j=a[m]:=by rw [Array.getD_eq_getD_getElem?,hg];rfl
   rw [hd]
   by_cases hv:a[m]<j
   ·rw [if_pos hv]
    exact ih (m+1) hi hm h2 (by exact z33 h3 hm1) (fun i v hi hiv=>Nat.lt_of_le_of_lt (r.le (Nat.le_of_lt_succ hi) hiv hg) hv) h5
   ·rw [if_neg hv]
    exact ih lo m hm1 (Nat.le_of_lt hms) (by exact z34 h3 hm) h4 fun i v hi hiv=>Nat.le_trans (Nat.not_lt.mp hv) (r.le hi hg hiv)
  ·rw [if_neg hl]
   have:hi=lo:=Nat.le_antisymm (Nat.not_lt.mp hl) h1
   subst this
   exact ⟨h2,h4,h5⟩
theorem qf5 {a:Array Nat}(r:Rise a) (j:Nat):Parts a j (SetTable.below a j) :=
 qrq r a.size 0 a.size (Nat.zero_le _) (Nat.le_refl _) (Nat.le_add_left _ _) (fun i v h=>absurd h (Nat.not_lt_zero _)) fun i v h hv=>absurd (Array.getElem?_eq_some_iff.mp hv).1 (Nat.not_lt.mpr h)
theorem Rise.ins {a:Array Nat}(r:Rise a)(h:a[SetTable.below a j]?≠some j):Rise (SetTable.insertAt a (SetTable.below a j) j):=by
 have p:=qf5 r j
 unfold Rise
 rw [SetTable.toList_insertAt]
 have lo:∀ x∈a.toList.take (SetTable.below a j),x<j:=fun x hx=>by
  refine (List.mem_take_iff_getElem.mp hx).elim fun i q=>q.elim fun hi e=>?_
  exact p.lo i x (Nat.lt_of_lt_of_le hi (Nat.min_le_left _ _)) (by rw [←Array.getElem?_toList,←e];exact List.getElem?_eq_getElem _)
 have hi:∀ x∈a.toList.drop (SetTable.below a j),j<x:=fun x hx=>by
  refine qar (List.mem_iff_getElem?.mp hx) fun i e=>?_
  rw [List.getElem?_drop,Array.getElem?_toList] at e
  have le:=p.hi _ x (Nat.le_add_right _ i) e
  refine Nat.lt_of_le_of_ne le fun z=>?_
  subst z
  by_cases i0:i=0
  ·subst i0;exact h e
  ·have lt:=r.lt (k:=SetTable.below a j+i) (i:=SetTable.below a j) (u:=a[SetTable.below a j]'(Nat.lt_of_le_of_lt (Nat.le_add_right _ i) (Array.getElem?_eq_some_iff.mp e).1)) (by exact z35 i0) (Array.getElem?_eq_getElem _) e
   exact absurd (p.hi _ _ (Nat.le_refl _) (Array.getElem?_eq_getElem (Nat.lt_of_le_of_lt (Nat.le_add_right _ i) (Array.getElem?_eq_some_iff.mp e).1))) (Nat.not_le.mpr lt)
 exact List.pairwise_append.mpr ⟨r.sublist (List.take_sublist _ _),List.pairwise_cons.mpr ⟨hi,r.sublist (List.drop_sublist _ _)⟩,fun x hx y hy=>(yg hy).elim (fun e=>e▸lo x hx) fun m=>Nat.lt_trans (lo x hx) (hi y m)⟩
theorem qla {t:SetTable}(h:t.slot j=.empty):t.place[SetTable.below t.place j]?≠some j:=fun e=>by
 unfold SetTable.slot at h
 dsimp only at h
 rw [e,if_pos (by simp)] at h
 cases h
theorem qs8 {t:SetTable}(nd:t.dummies=#[]) (j:Nat):t.slot j≠.dummy:=fun h=>by
 unfold SetTable.slot at h
 dsimp only at h
 split at h
 ·cases h
 ·rw [nd] at h
  cases h
theorem qle {t:SetTable}(nd:t.dummies=#[]){ha:Nat->Int}{h:Int}{d:Option Nat}:∀ fuel p,p.dummy=none->SetTable.probe.go t ha h fuel p=some (.empty j d)->d=none/\t.slot j=.empty:=by
 intro fuel
 induction fuel with
 | zero=>intro p _ e;cases e
 | succ fuel ih =>
  intro p hp e
  unfold SetTable.probe.go at e
  cases hs:t.slot p.j with
  | empty=>rw [hs] at e;cases e;exact ⟨hp,hs⟩
  | dummy=>exact absurd hs (qs8 nd _)
  | live i =>
   rw [hs] at e
   dsimp only at e
   split at e
   ·cases e
   ·refine ih _ ?_ e
    unfold SetTable.advance
    split
    ·exact hp
    ·exact hp
theorem qn0 {t:SetTable}(nd:t.dummies=#[]){h:Int}{b:Bool}(e:t.freeSlot h=some (j,b)):t.place[SetTable.below t.place j]?≠some j:=by
 unfold SetTable.freeSlot at e
 split at e
 ·rename_i j' d' hp
  have q:=qle nd _ _ rfl hp
  rw [q.1] at e
  cases e
  exact qla q.2
 ·cases e
structure TOk (L:Bool) (t:SetTable):Prop where
 rise:Rise t.place
 nd:t.dummies=#[]
 led:t.led=L
theorem TOk.stand {L:Bool}{t:SetTable}(h:TOk L t) (n:Nat):TOk L (t.standIn n):=⟨by unfold Rise SetTable.standIn;rw [Array.toList_range];exact List.pairwise_lt_range,rfl,h.led⟩
theorem TOk.orStand {L:Bool}{t:SetTable}(h:TOk L t) (n:Nat):TOk L (t.orStandIn n):=by
 unfold SetTable.orStandIn
 split
 ·exact h
 ·exact h.stand n
theorem TOk.plain {L b:Bool}{t:SetTable}(h:TOk L t):TOk L { t with plain:=b }:=⟨h.rise,h.nd,h.led⟩
theorem TOk.layNew {L:Bool}{t:SetTable}(h:TOk L t) (es:Array (Int×Value)) (k:Int) (x:Value):TOk L (layNew t es k x).2.1:=by
 unfold PySem.layNew
 split
 ·rename_i slot wd e
  refine TOk.orStand (t:=(t.put slot).1) ⟨h.rise.ins (qn0 h.nd e),?_,h.led⟩ _
  show (if SetTable.has t.dummies slot=true then _ else t.dummies)=#[]
  rw [h.nd];rfl
 ·exact h.stand _
theorem TOk.relay {L:Bool}{t:SetTable}(h:TOk L t) (es:Array (Int×Value)) (n:Nat):TOk L (relayAll t es n).2.1:=by
 unfold relayAll
 split
 ·rename_i t' order e
  dsimp only
  split
  ·unfold SetTable.relaid SetTable.laid at e
   refine qad (Option.bind_eq_some_iff.mp e) fun ow _ e2=>?_
   cases e2
   refine ⟨?_,rfl,h.led⟩
   show List.Pairwise _ (List.map _ _)
   rw [List.map_filterMap]
   refine List.Pairwise.filterMap (R:=(·<·)) _ (fun a b hab u hu v hv=>?_) List.pairwise_lt_range
   rw [Option.map_map] at hu hv
   refine qad (yf hu) fun c _ e1=>qad (yf hv) fun c' _ e2=>?_
   rw [←e1,←e2];exact hab
  ·exact h.stand _
 ·exact h.stand _
end Mine
namespace Mine
open PySem PySem.Spec
noncomputable def qk7:Value->Int|.int n _=>n|_=>0
noncomputable def qd4 (l:List (Int×Value)):List Int:=l.map fun e=>qk7 e.2
def AllI (l:List (Int×Value)):Prop:=∀ e∈l,∃ n t,e=(hashInt n,.int n t)
abbrev qat (es:Array (Int×Value)) (ep:Nat) (t:SetTable):Obj:={ cls:=.type "set",dict:=none,data:=.set es ep t,slots:=#[] }
inductive SetR (L:Bool) (h:Heap) (a:Addr) (ks:List Int):Prop where
 | mk (es:Array (Int×Value)) (ep:Nat) (t:SetTable) (at_:h.get? a=some (qat es ep t)) (el:AllI es.toList) (ke:qd4 es.toList=ks) (fit:t.fits es.size=true) (ok:TOk L t)
theorem AllI.elems {prog:Program}{w:World}{l:List (Int×Value)}(h:AllI l):ElemsOf (intKind prog w) l:=fun e he=>qjz (h e he) fun n t q=>by
 subst q;exact ⟨⟨n,by simp [intKind,Value.isInt],rfl⟩,rfl⟩
theorem AllI.perm {l l':List (Int×Value)}(h:AllI l) (p:l'.Perm l):AllI l':=fun e he=>h e (p.mem_iff.mp he)
theorem AllI.find {prog:Program}{w:World}{l:List (Int×Value)}(h:AllI l) (n:Int):(l.findIdx? fun e=>(intKind prog w).is n e.2)=none↔n∉qd4 l:=by
 rw [List.findIdx?_eq_none_iff]
 have key:∀ e∈l,((intKind prog w).is n e.2=true↔qk7 e.2=n):=fun e he=>qjz (h e he) fun m t q=>by
  subst q
  show (Value.isInt n (.int m t)=true↔m=n)
  simp only [Value.isInt,beq_iff_eq]
 unfold qd4
 rw [List.mem_map]
 constructor
 ·intro q z
  exact qad z fun e he e2=>by have:=q e he;rw [(key e he).mpr e2] at this;cases this
 ·intro q e he
  cases z:(intKind prog w).is n e.2 with
  | false=>rfl
  | true=>exact absurd ⟨e,he,(key e he).mp z⟩ q
section
variable {prog:Program}{w:World}{A:Around}{E:Value->Shared->Prop}{s:Shared}{L:Bool}
theorem SetR.store {a:Addr}{es es':Array (Int×Value)}{ep:Nat}{t t':SetTable}(at_:h.get? a=some (qat es ep t)):(h.update a (Obj.putSet es' t')).get? a=some (qat es' (ep+1) t'):=by
 have:=Heap.get?_update_self (Obj.putSet es' t') at_ rfl
 exact this
theorem qk1 {g:Bool->Sem Unit}(hg:∀ (b:Bool) (s1:Shared) (Q':Unit->Shared->Prop),Q' () s1->wpAny (model prog w) A (g b) Q' E s1){a:Addr}{es es1:Array (Int×Value)}{ep:Nat}{t t2:SetTable}{wd:Bool}{R:Option Bool->Shared->Prop}{ks:List Int}
  (at_:s.heap.get? a=some (qat es ep t)) (el:AllI es1.toList) (hb:es1.size<scanBound) (fit:t2.fits es1.size=true) (ok:TOk L t2) (kp:(qd4 es1.toList).Perm ks) (h:∀ h' ks',Heap.SameBut a s.heap h'->SetR L h' a ks'->ks'.Perm ks->R (some true) { s with heap:=h' }) :
  wpAny (model prog w) A (do
    storeSet a es1 t2
    if (!wd&&t2.tooFull)=true then do
      g (relayAll t2 es1 (SetTable.grown es1.size)).2.2
      storeSet a (relayAll t2 es1 (SetTable.grown es1.size)).1 (relayAll t2 es1 (SetTable.grown es1.size)).2.1
      pure (some true)
     else pure (some true)) R E s:=by
 refine wpAny_bind (wpAny_storeSet_of at_ rfl ?_ (fits_of_scanBound hb))
 have sb:=Heap.SameBut.update s.heap a (Obj.putSet es1 t2)
 have at1:=SetR.store (es':=es1) (t':=t2) at_
 split
 ·have hp:=relayAll_perm t2 es1 (SetTable.grown es1.size)
  have hsz:(relayAll t2 es1 (SetTable.grown es1.size)).1.size=es1.size:=by rw [←Array.length_toList,hp.length_eq,Array.length_toList]
  refine wpAny_bind (hg _ _ _ (wpAny_bind (wpAny_storeSet_of at1 rfl (wpAny_pure (h _ _ (sb.trans (Heap.SameBut.update _ a _)) ⟨_,_,_,SetR.store at1,el.perm hp,rfl,relayAll_fits ..,ok.relay _ _⟩ ((hp.map _).trans kp))) (fits_of_scanBound (by rw [hsz];exact hb)))))
 ·exact wpAny_pure (h _ _ sb ⟨_,_,_,at1,el,rfl,fit,ok⟩ kp)
theorem add_int {a:Addr}{n:Int}{tk:Tok}{ks:List Int}{Q:Bool->Shared->Prop}(hS:SetR L s.heap a ks) (nd:ks.Nodup) (room:ks.length+1<scanBound)
  (h:∀ b h' ks',Heap.SameBut a s.heap h'->SetR L h' a ks'->ks'.Nodup->(∀ q,q∈ks'↔q∈ks\/q=n)->ks'.length<=ks.length+1->Q b { s with heap:=h' }) :
  wpAny (model prog w) A (setAddHashed a (.int n tk) (hashInt n)) Q E s:=by
 cases hS with
 | mk es ep t at_ el ke fit ok =>
  have kl:ks.length=es.size:=by rw [←ke,qd4,ya,Array.length_toList]
  have hb:es.size<scanBound:=by rw [←kl];exact Nat.lt_of_succ_lt room
  unfold setAddHashed setAddHashedIn
  refine wpAny_holding (wpAny_bind (wpAny_setState_of at_ rfl fit ?_))
  dsimp only
  rw [byScan_of (knd:=intKind prog w) (x:=.int n tk) rfl hb el.elems]
  simp only [↓reduceIte]
  unfold setAddByScan
  refine wpAny_bind (wpAny_bind (wpAny_rule (wpAny_bind (wpAny_setScan_of (knd:=intKind prog w) (k:=n) (by simp [intKind,Value.isInt]) at_ rfl fit el.elems ?_))))
  have fi:=el.find (prog:=prog) (w:=w) n
  cases hr:List.findIdx? (fun e=>(intKind prog w).is n e.2) es.toList with
  | some j =>
   have hn:n∈ks:=by
    by_cases z:n∈ks
    ·exact z
    ·rw [←ke] at z;rw [fi.mpr z] at hr;cases hr
   refine wpAny_pure (wpAny_pure ?_)
   have e:s={ s with heap:=s.heap }:=by cases s;rfl
   rw [e]
   exact h _ s.heap ks (Heap.SameBut.refl a s.heap) ⟨es,ep,t,at_,el,ke,fit,ok⟩ nd (fun q=>⟨.inl,fun z=>z.elim id fun e=>e▸hn⟩) (Nat.le_succ _)
  | none =>
   have hn:n∉ks:=by rw [←ke];exact fi.mp hr
   dsimp only
   have hp:=layNew_perm t es (hashInt n) (.int n tk)
   have hf:=layNew_fits t es (hashInt n) (.int n tk)
   have ho:=ok.layNew es (hashInt n) (.int n tk)
   generalize hL:layNew t es (hashInt n) (.int n tk)=Lr at hp hf ho
   obtain ⟨es1,t1,wd,gave⟩:=Lr
   dsimp only at hp hf ho ⊢
   rw [Array.toList_push] at hp
   have el1:AllI es1.toList:=AllI.perm (fun e he=>(yd he).elim (el e) fun m=>⟨n,tk,yb m⟩) hp
   have kp:(qd4 es1.toList).Perm (ks++[n]):=by
    have:=hp.map fun e=>qk7 e.2
    rw [List.map_append,show es.toList.map (fun e=>qk7 e.2)=ks from ke] at this
    exact this
   have sz:es1.size=ks.length+1:=by
    have:=kp.length_eq
    rw [qd4,ya,Array.length_toList,List.length_append] at this
    exact this
   have fin:∀ h' ks',Heap.SameBut a s.heap h'->SetR L h' a ks'->ks'.Perm (ks++[n])->Q true { s with heap:=h' }:=fun h' ks' sb sr kp' =>
    h _ h' ks' sb sr (kp'.nodup_iff.mpr (List.nodup_append.mpr ⟨nd,List.nodup_cons.mpr ⟨List.not_mem_nil,List.nodup_nil⟩,fun x hx y hy e=>hn (yb hy▸e▸hx)⟩)) (fun q=>(kp'.mem_iff).trans (by rw [List.mem_append,List.mem_singleton])) (by rw [kp'.length_eq,List.length_append];exact Nat.le_refl _)
   have hgw:∀ (b:Bool) (s1:Shared) (Q':Unit->Shared->Prop),Q' () s1->wpAny (model prog w) A (match b with|true=>rule "set.scan.the-table-gave-way" | false=>pure ()) Q' E s1 :=
    fun b s1 Q' hq=>by cases b<;>first|exact wpAny_pure hq|exact wpAny_rule hq
   refine wpAny_bind (hgw _ _ _ ?_)
   have hbb:es1.size<scanBound:=by rw [sz];exact room
   split
   ·refine wpAny_bind ?_
    rw [hashByValue_scannable 8 (x:=.int n tk) rfl]
    refine wpAny_pure (qk1 hgw at_ el1 hbb ?_ ?_ kp fun h' ks' sb sr kp'=>wpAny_pure (fin h' ks' sb sr kp'))
    ·split
     ·exact hf
     ·exact SetTable.fits_plain_off hf
    ·split
     ·exact ho
     ·exact ho.plain
   ·refine wpAny_bind (wpAny_pure ?_)
    simp only [↓reduceIte]
    exact qk1 hgw at_ el1 hbb hf ho kp fun h' ks' sb sr kp'=>wpAny_pure (fin h' ks' sb sr kp')
end
end Mine
namespace Mine
open PySem PySem.Spec PyProof.Rows
section
variable {prog:Program}{w:World}{A:Around}{E:Value->Shared->Prop}{s:Shared}{L:Bool}
theorem SetR.keep {a:Addr}{ks:List Int}(x:SetR L h a ks) (k:∀ o,h.get? a=some o->h'.get? a=some o):SetR L h' a ks:=by
 cases x with|mk es ep t at_ el ke fit ok=>exact ⟨es,ep,t,k _ at_,el,ke,fit,ok⟩
theorem qpv {ns:List Int}(hi:i<ns.length) (q:Int):q∈ns.take (i+1)↔q∈ns.take i\/q=ns.getD i 0:=by
 rw [List.take_succ_eq_append_getElem hi,List.mem_append,List.mem_singleton,List.getD_eq_getElem?_getD,List.getElem?_eq_getElem hi];rfl
theorem qpt {I l S:Addr}{items:Array Value}{ns:List Int}{R:Result->Shared->Prop}(hh:A.handled=none) (SI:S≠I) (Sl:S≠l) (lI:l≠I) (hi:IntsAre items.toList ns) (hb:items.size+1<scanBound):∀ (k i:Nat) (s:Shared) (ks:List Int),items.size-i=k->i<=items.size ->
  s.heap.IsListIter I l i->s.heap.IsList l items->SetR L s.heap S ks->ks.Nodup->ks.length<=i->(∀ q,q∈ks↔q∈ns.take i) ->
  (∀ h' tk ks',(∀ b o,b≠S->b≠I->s.heap.get? b=some o->h'.get? b=some o)->SetR L h' S ks'->ks'.Nodup->(∀ q,q∈ks'↔q∈ns)->ks'.length<=items.size->R (.ok (.ret .none)) { s with heap:=h',toks:=tk }) ->
  codeAny (model prog w) A (.builtin "set.update.loop" ⟨[.ref S,.ref I],[]⟩) R s:=by
 have nl:ns.length=items.size:=by rw [←IntsAre.length hi,Array.length_toList]
 intro k
 induction k with
 | zero =>
  intro i s ks hk hi0 it il hS nd kl km hR
  have:i=items.size:=Nat.le_antisymm hi0 (Nat.sub_eq_zero_iff_le.mp hk)
  subst this
  refine codeAny_builtin PyProof.Rows.F.entry_set_update_loop ?_
  rw [Around.under_plainId PyProof.Rows.F.plain_set_update_loop _]
  show wpAny _ A.in1 (pyNext (.ref I) >>= _) _ _ s
  refine wpAny_bind (wpAny_pyNext_list_end (A:=A.in1) hh it il (Array.getElem?_eq_none (Nat.le_refl _)) fun h' x=>?_)
  show wpAny _ A.in1 (ret Value.none) _ _ _
  exact wpAny_pure (hR h' s.toks ks (fun b o _ hb e=>x b o hb e) (hS.keep fun o e=>x S o SI e) nd (fun q=>by rw [km q,List.take_of_length_le (Nat.le_of_eq nl)]) kl)
 | succ k ih =>
  intro i s ks hk hi0 it il hS nd kl km hR
  have hlt:i<items.size:=Nat.lt_of_sub_pos (by rw [hk];exact Nat.succ_pos _)
  refine codeAny_builtin PyProof.Rows.F.entry_set_update_loop ?_
  rw [Around.under_plainId PyProof.Rows.F.plain_set_update_loop _]
  show wpAny _ A.in1 (pyNext (.ref I) >>= _) _ _ s
  refine qar (IntsAre.int_at hi i items[i] (by rw [Array.getElem?_toList];exact Array.getElem?_eq_getElem hlt)) fun t et=>?_
  refine wpAny_bind (wpAny_pyNext_list_item (A:=A.in1) it il (x:=.int (ns.getD i 0) t) (by rw [←et];exact Array.getElem?_eq_getElem hlt) fun h1 it1 sb1=>?_)
  show wpAny _ A.in1 (holding [Value.int (ns.getD i 0) t] (setAdd S (.int (ns.getD i 0) t)) >>= _) _ _ _
  refine wpAny_bind (wpAny_holding ?_)
  unfold setAdd
  refine wpAny_holding (wpAny_bind ((intKind prog w).pyHash (k:=ns.getD i 0) (intKind_is _ _ _ _) ?_))
  refine add_int (s:={ s with heap:=h1,toks:=s.toks+1 }) (L:=L) (hS.keep fun o e=>sb1.extBut S o SI e) nd (by exact z36 hb hi0 kl) fun b h2 ks' sb2 sr nd' km' kl'=>?_
  have up:∀ b o,b≠S->b≠I->s.heap.get? b=some o->h2.get? b=some o:=fun b o b1 b2 e=>sb2.extBut b o b1 (sb1.extBut b o b2 e)
  refine wpAny_pure ⟨plainId_quiet PyProof.Rows.F.plain_set_update_loop _,ih (i+1) _ ks' (by exact z37 hk) hlt ?_ ?_ sr nd' (Nat.le_trans kl' (Nat.succ_le_succ kl)) (fun q=>?_) fun h' tk ks'' k'' sr'' nd'' km'' kl''=>?_⟩
  ·exact qad it1 fun o e z=>⟨o,sb2.extBut I o (Ne.symm SI) e,z⟩
  ·exact qad il fun o e z=>⟨o,up l o (Ne.symm Sl) lI e,z⟩
  ·rw [km' q,km q,qpv (by rw [nl];exact hlt)]
  ·exact hR h' tk ks'' (fun b o b1 b2 e=>k'' b o b1 b2 (up b o b1 b2 e)) sr'' nd'' km'' kl''
theorem qta {a:Value}{Q₁:Value->Shared->Prop}(h:Q₁ (.ref s.heap.objs.size) { s with heap:=s.heap.push (qat #[] 0 (.fresh 0 0 (!w.params.followText "set-order"))) }) :
  codeAny (model prog w) A (.call (.builtin "set.__new__") ⟨[.type "set",a],[]⟩) (wants Q₁ E) s:=by
 refine codeAny_of_tree ?_
 show wpAny _ A.in1 (do checkBuiltinCall "set.__new__" ⟨[.type "set",a],[]⟩;again (.builtin "set.__new__" ⟨[.type "set",a],[]⟩)) _ _ s
 refine wpAny_bind (wpAny_of_eq (F.newCall_set_1 a) (wpAny_pure ⟨plainId_quiet F.plain_set_new _,codeAny_builtin F.entry_set_new ?_⟩))
 rw [Around.under_plainId F.plain_set_new _]
 unfold Builtin.«set.__new__» Builtin.Frozenset.newClass
 have hsub:=sub_set_self
 obtain ⟨hp,g,d,tk,os⟩:=s
 dsimp only
 wp_walk
 refine wpAny_askSetting (wpAny_pure ?_)
 dsimp only
 simp only [newObj]
 refine wpAny_bind (wpAny_alloc (wpAny_pure ?_))
 exact wpAny_pure h
theorem tok0 (L:Bool):TOk L (.fresh 0 0 L):=⟨List.Pairwise.nil,rfl,rfl⟩
theorem qp8 (L:Bool):SetR L (h.push (qat #[] 0 (.fresh 0 0 L))) h.objs.size []:=⟨#[],0,_,Heap.get?_push_size _ rfl,(fun e he=>nomatch he),rfl,rfl,tok0 L⟩
set_option maxHeartbeats 4000000 in
theorem qv9 {l:Addr}{items:Array Value}{ns:List Int}{Q:Value->Shared->Prop}(hh:A.handled=none) (hl:s.heap.IsList l items) (hi:IntsAre items.toList ns) (hb:items.size+1<scanBound)
  (h:∀ (h':Heap) (tk:Nat) ks,SetR (!w.params.followText "set-order") h' s.heap.objs.size ks->ks.Nodup->(∀ q,q∈ks↔q∈ns)->ks.length<=items.size ->
   (∀ b o,s.heap.get? b=some o->h'.get? b=some o)->Q (.ref s.heap.objs.size) { s with heap:=h',toks:=tk }) :
  wpAny (model prog w) A (call (.type "set") [.ref l]) Q E s:=by
 obtain ⟨c,tl,hmro⟩:=F.called_set.mro
 have hmade:=F.called_set.made
 have hsub:=F.called_set.sub
 refine wpAny_call (codeAny_of_tree ?_)
 show wpAny _ _ (callAny (.type "set") _) _ _ _
 refine wpAny_pure ⟨Code.quiet_builtin _ (by decide +kernel),codeAny_builtin F.entry_type_call ?_⟩
 rw [Around.under_plain (weight_type_call_type "set" [.ref l] []) rfl]
 have h1:=F.called_set.notType
 have h2:=F.called_set.canCreate
 have hct:=F.typeCall_set_1 (.ref l)
 repeat (any_goals (first|assumption|wp_step))
 refine codeAny_mono (qta (E:=E) (Q₁:=fun obj s1=>obj=.ref s.heap.objs.size/\s1={ s with heap:=s.heap.push (qat #[] 0 (.fresh 0 0 (!w.params.followText "set-order"))) }) ⟨rfl,rfl⟩) fun r s1 hr=>?_
 generalize hLd:(!w.params.followText "set-order")=Ld at h hr
 cases r with
 | error e=>exact hr
 | ok fl =>
  cases fl with
  | ret obj =>
   obtain ⟨rfl,rfl⟩:=hr
   have hS:(s.heap.push (qat #[] 0 (.fresh 0 0 Ld))).get? s.heap.objs.size=some (qat #[] 0 (.fresh 0 0 Ld)):=Heap.get?_push_size _ rfl
   have hT:Shared.TypeIs { s with heap:=s.heap.push (qat #[] 0 (.fresh 0 0 Ld)) } (.ref s.heap.objs.size) "set" := ⟨_,hS,rfl⟩
   have hli:=F.called_set.init.lookup
   have hbi:=F.called_set.init.bind (.ref s.heap.objs.size)
   repeat (any_goals (first|assumption|wp_step))
   refine codeAny_mono (codeAny_call_builtin (R:=wants (fun r s2=>r=.none/\∃ h' tk ks,s2={ s with heap:=h',toks:=tk }/\SetR Ld h' s.heap.objs.size ks/\ks.Nodup/\(∀ q,q∈ks↔q∈ns)/\ks.length<=items.size /\
     (∀ b o,s.heap.get? b=some o->h'.get? b=some o)) E) F.called_set.init.plain F.entry_set_init (check_set_init_1 hT ?_)) fun r2 s2 hr2=>?_
   ·obtain ⟨ol,hol,hcl,nl,hdl⟩:=hl
    obtain ⟨ocls,odict,odata,oslots⟩:=ol
    simp only at hcl hdl
    subst hcl;subst hdl
    have hol':(s.heap.push (qat #[] 0 (.fresh 0 0 Ld))).get? l=some { cls:=.type "list",dict:=odict,data:=.seq items nl,slots:=oslots }:=Heap.get?_push_of_some _ hol
    have hsls:=F.sub_list_set
    have hslf:=F.sub_list_frozenset
    have hne:(Value.type "list" == Value.type "dict")=false:=by decide
    have hl1:(s.heap.push (qat #[] 0 (.fresh 0 0 Ld))).IsList l items:=⟨_,hol',rfl,nl,rfl⟩
    unfold Builtin.«set.__init__» noKeywords Builtin.Frozenset.updateFrom
    generalize hPI:pyIter=PI
    wp_walk
    subst hPI
    refine wpAny_pyIter_list hl1 (wpAny_bind (wpAny_runValue ?_))
    have hlS:l<s.heap.objs.size:=Heap.lt_size hol
    have sz:(s.heap.push (qat #[] 0 (.fresh 0 0 Ld))).objs.size=s.heap.objs.size+1:=Heap.size_push ..
    refine qpt (L:=Ld) (by simp [hh]) (by rw [sz];exact Nat.ne_of_lt (Nat.lt_succ_self _)) (Nat.ne_of_gt hlS) (by rw [sz];exact Nat.ne_of_lt (Nat.lt_succ_of_lt hlS)) hi hb _ 0 _ [] rfl (Nat.zero_le _) ⟨_,Heap.get?_push_size _ rfl,rfl,rfl⟩ (hl1.push _)
     ((qp8 Ld).keep fun o e=>Heap.get?_push_of_some _ e) List.nodup_nil (Nat.zero_le _) (fun q=>by rw [List.take_zero]) fun h' tk ks' k' sr nd km kl=>?_
    show wpAny _ _ _ _ _ _
    refine wpAny_pure ?_
    show wpAny _ _ (ret Value.none) _ _ _
    refine wpAny_pure ⟨rfl,h',tk,ks',rfl,sr,nd,km,kl,fun b o e=>?_⟩
    have hb:=Heap.lt_size e
    exact k' b o (Nat.ne_of_lt hb) (by rw [sz];exact Nat.ne_of_lt (Nat.lt_succ_of_lt hb)) (Heap.get?_push_of_some _ (Heap.get?_push_of_some _ e))
   ·cases r2 with
    | error e=>exact hr2
    | ok fl2 =>
     cases fl2 with
     | ret r =>
      obtain ⟨rfl,h',tk,ks,rfl,sr,nd,km,kl,k'⟩:=hr2
      repeat (any_goals (first|assumption|wp_step))
      exact h _ _ _ sr nd km kl k'
     | _=>exact hr2.elim
  | _=>exact hr.elim
end
end Mine
namespace Mine
open PySem PySem.Spec PyProof.Rows
theorem qkf:Manifest.owners.lookup (String.ofList ['r','o','t','a','r','e','t','i','_','t','e','s'].reverse)=some Manifest.sig_set_iterator:=by kernel_rfl
theorem qbr:PySem.Slot "set_iterator" "__next__" "set_iterator.__next__" :=
 .of (owner := "set_iterator") (n := "__next__") (by rw [typeLookup_type,builtinLookup_eq_fast];kernel_rfl) (by decide +kernel) (by decide +kernel) (by decide +kernel)
  (by first|exact .inl (by decide +kernel)|exact .inr (by decide +kernel)) (by rw [isSubtype_type];kernel_rfl)
theorem qfh:entryFor table "set_iterator.__next__" = some Builtin.«set_iterator.__next__»:=entryFor_of_tree (by kernel_rfl)
theorem qhv (a:Value):argsOk "set_iterator.__next__" ⟨[a],[]⟩:=by
 unfold argsOk;rw [signature?_of (id := "set_iterator.__next__") (n:=['_','_','t','x','e','n','_','_']) (o:=['r','o','t','a','r','e','t','i','_','t','e','s']) (by kernel_rfl) qkf];kernel_rfl
theorem qlw:entryFor table "set.__iter__" = some Builtin.«frozenset.__iter__»:=entryFor_alias (id' := "frozenset.__iter__") (by kernel_rfl) rfl (by decide +kernel) (by kernel_rfl)
abbrev qdy (first:Value) (k:Nat) (r:Addr) (n ep:Nat):Obj:={ cls:=.type "set_iterator",dict:=none,data:=.fields #[first,rawInt k,.ref r,rawInt n,rawInt ep],slots:=#[] }
section
variable {prog:Program}{w:World}{A:Around}{E:Value->Shared->Prop}{s:Shared}{it r:Addr}{k n ep slot:Nat}{es:Array (Int×Value)}{t:SetTable}
theorem qmn {x:Value}{nx:Nat}{Q:Option Value->Shared->Prop}(hi:s.heap.get? it=some (qdy (rawInt slot) k r n ep)) (hs:s.heap.get? r=some (qat es ep t)) (fit:t.fits es.size=true) (hn:es.size=n)
  (nxt:∀ A' (E':Value->Shared->Prop) (Q':Option (Value×Nat)->Shared->Prop),Q' (some (x,nx)) s->wpAny (model prog w) A' (setNext r slot k ep) Q' E' s)
  (hQ:∀ h',h'.get? it=some (qdy (rawInt nx) (k+1) r n ep)->Heap.SameBut it s.heap h'->Q (some x) { s with heap:=h' }):wpAny (model prog w) A (pyNext (.ref it)) Q E s:=by
 have hT:s.TypeIs (.ref it) "set_iterator" := ⟨_,hi,rfl⟩
 unfold pyNext
 refine wpAny_bind (wpAny_attempt (wpAny_callSpecial?_slot (name:=Str.ofString "__next__") hT qbr (wpAny_call_entry qbr hT qfh ?_ (qhv _))))
 show wpAny _ _ (fieldsOf (.ref it) >>= _) _ _ s
 refine wpAny_bind (wpAny_fieldsOf hi rfl ?_)
 show wpAny _ _ (setEntries r >>= _) _ _ s
 unfold setEntries
 refine wpAny_bind (wpAny_bind (wpAny_setState_of hs rfl fit (wpAny_pure ?_)))
 dsimp only
 rw [if_neg (by rw [hn];simp)]
 show wpAny _ _ (setNext r (Int.toNat slot) (Int.toNat k) (Int.toNat ep) >>= _) _ _ s
 refine wpAny_bind (nxt _ _ _ ?_)
 dsimp only
 refine wpAny_bind (wpAny_setField hi rfl (by simp) ?_)
 have h1:=Heap.get?_update_self (Obj.mapFields (·.setIfInBounds 0 (rawInt nx))) hi rfl
 refine wpAny_bind (wpAny_setField h1 rfl (by simp) (wpAny_pure ⟨x,rfl,wpAny_pure (hQ _ ?_ ((Heap.SameBut.update ..).trans (Heap.SameBut.update ..)))⟩))
 exact Heap.get?_update_self (Obj.mapFields (·.setIfInBounds 1 (rawInt ((k:Int)+1)))) h1 rfl
theorem qr3 {Q:Option Value->Shared->Prop}(hh:A.handled=none) (hi:s.heap.get? it=some (qdy (rawInt slot) k r n ep)) (hs:s.heap.get? r=some (qat es ep t)) (fit:t.fits es.size=true) (hn:es.size=n)
  (nxt:∀ A' (E':Value->Shared->Prop) (Q':Option (Value×Nat)->Shared->Prop),Q' none s->wpAny (model prog w) A' (setNext r slot k ep) Q' E' s)
  (hQ:∀ h',Heap.ExtBut it s.heap h'->Q none { s with heap:=h' }):wpAny (model prog w) A (pyNext (.ref it)) Q E s:=by
 have hT:s.TypeIs (.ref it) "set_iterator" := ⟨_,hi,rfl⟩
 unfold pyNext
 refine wpAny_bind (wpAny_attempt (wpAny_callSpecial?_slot (name:=Str.ofString "__next__") hT qbr (wpAny_call_entry qbr hT qfh ?_ (qhv _))))
 show wpAny _ _ (fieldsOf (.ref it) >>= _) _ _ s
 refine wpAny_bind (wpAny_fieldsOf hi rfl ?_)
 show wpAny _ _ (setEntries r >>= _) _ _ s
 unfold setEntries
 refine wpAny_bind (wpAny_bind (wpAny_setState_of hs rfl fit (wpAny_pure ?_)))
 dsimp only
 rw [if_neg (by rw [hn];simp)]
 show wpAny _ _ (setNext r (Int.toNat slot) (Int.toNat k) (Int.toNat ep) >>= _) _ _ s
 refine wpAny_bind (nxt _ _ _ ?_)
 dsimp only
 refine wpAny_bind (wpAny_setField hi rfl (by simp) ?_)
 show wpAny _ _ (newExc (.type "StopIteration") [] >>= _) _ _ _
 refine wpAny_bind ?_
 simp only [newExc,newTuple]
 refine wpAny_bind (wpAny_newObj_type ?_ (by size_fits))
 refine wpAny_bind (m:=firstArgMember _ _) (wpAny_of_eq (a:=Value.none) (by first|rfl|(simp only [firstArgMember];rfl)) ?_)
 refine wpAny_newObj_type ?_ (by size_fits)
 simp only [raiseNew]
 refine wpAny_bind (wpAny_handled ?_)
 first|rw [show A.in1.handled=none from hh]|rw [hh]
 refine wpAny_bind (wpAny_pure (wpAny_throw ?_))
 refine wpAny_bind (wpAny_isInstance (T := "StopIteration") (b:=true) ⟨_,Heap.get?_push_size _ rfl,rfl⟩ isSubtype_stop ?_)
 exact wpAny_pure (hQ _ (((Heap.SameBut.update ..).extBut.push _).push _))
theorem qez {α:Type}:∀ {l:List α}{i:Nat}(h:i<l.length),(l[i]::l.eraseIdx i).Perm l
 | x::l,0,h=>.refl _
 | x::l,i+1,h=>by
  show (l[i]'(Nat.lt_of_succ_lt_succ h)::x::l.eraseIdx i).Perm (x::l)
  exact (List.Perm.swap x _ _).trans ((qez (Nat.lt_of_succ_lt_succ h)).cons x)
theorem qon {α:Type}{Q:List α->Shared->Prop}:∀ (m:Nat) (xs:List α) (s:Shared),xs.length=m->(∀ ys d,ys.Perm xs->Q ys { s with drawn:=d })->wpAny (model prog w) A (drawOrder m xs) Q E s:=by
 intro m
 induction m generalizing Q with
 | zero =>
  intro xs s hm h
  have:xs=[]:=List.length_eq_zero_iff.mp hm
  subst this
  exact wpAny_pure (h [] s.drawn (.refl _))
 | succ m ih =>
  intro xs s hm h
  cases xs with
  | nil=>cases hm
  | cons x xs =>
   unfold drawOrder
   intro Γ p hΓ
   rw [show (choose .order (x::xs).length:Sem Nat)=.choose .order (x::xs).length .pure from rfl]
   have hl:(x::xs).length≠0:=Nat.succ_ne_zero _
   refine ⟨hl,?_⟩
   generalize hj:(model prog w).w.draws .order (s.drawn.get .order)%(x::xs).length=j
   have hlt:j<(x::xs).length:=hj▸Nat.mod_lt _ (Nat.pos_of_ne_zero hl)
   revert Γ p hΓ
   intro Γ p hΓ
   have key:wpAny (model prog w) A (match (x::xs)[j]? with|some y=>do return y::(←drawOrder m ((x::xs).eraseIdx j))|none=>unsupported "internal:drawOrder") Q E { s with drawn:=s.drawn.bump .order }:=by
    rw [List.getElem?_eq_getElem hlt]
    refine wpAny_bind (ih _ _ (by rw [List.length_eraseIdx_of_lt hlt,hm];rfl) fun ys d pm=>wpAny_pure (h _ d ?_))
    exact (pm.cons _).trans (qez hlt)
   exact key Γ p hΓ
theorem qnb {α:Type}(f:Nat->Nat) (xs:Array α):(pickOrder f xs).toList.Perm xs.toList:=by
 have key:∀ (m k:Nat) (l:List α) (out:Array α),l.length=m->(pickOrder.go f m k l out).toList.Perm (out.toList++l):=by
  intro m
  induction m with
  | zero =>
   intro k l out hm
   have:l=[]:=List.length_eq_zero_iff.mp hm
   subst this
   rw [List.append_nil];exact .refl _
  | succ m ih =>
   intro k l out hm
   unfold pickOrder.go
   have hlt:f k%l.length<l.length:=Nat.mod_lt _ (by rw [hm];exact Nat.succ_pos _)
   rw [List.getElem?_eq_getElem hlt]
   refine (ih _ _ _ (by rw [List.length_eraseIdx_of_lt hlt,hm];rfl)).trans ?_
   rw [Array.toList_push,List.append_assoc]
   exact (List.Perm.refl _).append (qez hlt)
 have:=key xs.size 0 xs.toList #[] Array.length_toList
 exact this
theorem qik {Q:Option (Value×Nat)->Shared->Prop}(bt:w.params.followText "set-order" = true) (hs:s.heap.get? r=some (qat es ep t)) (fit:t.fits es.size=true)
  (h:Q (((pickOrder (w.params.setOrder r ep) es)[k]?).map fun e=>(e.2,slot)) s):wpAny (model prog w) A (setNext r slot k ep) Q E s:=by
 unfold setNext
 refine wpAny_bind (wpAny_setState_of hs rfl fit ?_)
 dsimp only
 unfold setsByText
 refine wpAny_bind (wpAny_bind (wpAny_askSetting (wpAny_pure ?_)))
 dsimp only
 have bt':(model prog w).w.params.followText "set-order" = true:=bt
 rw [if_pos bt',if_neg (by simp)]
 unfold setWalk setsByText
 refine wpAny_bind (wpAny_bind (wpAny_setState_of hs rfl fit (wpAny_bind (wpAny_bind (wpAny_askSetting (wpAny_pure ?_))))))
 dsimp only
 rw [if_pos bt']
 exact wpAny_bind (wpAny_askSetting (wpAny_pure (wpAny_pure h)))
theorem qkg {Q:Option (Value×Nat)->Shared->Prop}(bt:w.params.followText "set-order" = false) (hs:s.heap.get? r=some (qat es ep t)) (fit:t.fits es.size=true) (nd:(!t.plain&&decide (es.size>1))=false) (led:t.led=true)
  (h:Q (match es[SetTable.below t.place slot]?,t.place[SetTable.below t.place slot]? with|some (_,x),some j=>some (x,j+1)|_,_=>none) s):wpAny (model prog w) A (setNext r slot k ep) Q E s:=by
 unfold setNext
 refine wpAny_bind (wpAny_setState_of hs rfl fit ?_)
 dsimp only
 unfold setsByText
 refine wpAny_bind (wpAny_bind (wpAny_askSetting (wpAny_pure ?_)))
 dsimp only
 rw [if_neg (show ¬ (model prog w).w.params.followText "set-order" = true from fun z=>by have z':w.params.followText "set-order" = true:=z;rw [bt] at z';cases z')]
 refine wpAny_ite_split (fun c=>?_) fun c=>?_
 ·have c':(!t.plain&&decide (es.size>1))=true:=c
  rw [nd] at c';cases c'
 ·refine wpAny_bind (show wpAny _ _ (if (!t.led&&!es.isEmpty)=true then unsupported "set:maker-not-led" else pure ()) _ _ _ from ?_)
  rw [led]
  exact wpAny_pure (wpAny_pure h)
end
end Mine
namespace Mine
open PySem PySem.Spec PyProof.Rows
section
variable {prog:Program}{w:World}{A:Around}{E:Value->Shared->Prop}{s:Shared}{it r tu:Addr}{k n ep:Nat}{es:Array (Int×Value)}{t:SetTable}
abbrev qdw (vs:Array Value):Obj:={ cls:=.type "tuple",data:=.seq vs }
theorem qs7 {x:Value}{pl:Nat}{hx:Int}{vs:Array Value}{Q:Option Value->Shared->Prop}(hi:s.heap.get? it=some (qdy (.ref tu) k r n ep)) (hs:s.heap.get? r=some (qat es ep t)) (fit:t.fits es.size=true) (hn:es.size=n)
  (ht:s.heap.get? tu=some (qdw vs)) (hv:vs[k]?=some (rawInt pl)) (he:es[pl]?=some (hx,x))
  (hQ:∀ h',h'.get? it=some (qdy (.ref tu) (k+1) r n ep)->Heap.SameBut it s.heap h'->Q (some x) { s with heap:=h' }):wpAny (model prog w) A (pyNext (.ref it)) Q E s:=by
 have hT:s.TypeIs (.ref it) "set_iterator" := ⟨_,hi,rfl⟩
 unfold pyNext
 refine wpAny_bind (wpAny_attempt (wpAny_callSpecial?_slot (name:=Str.ofString "__next__") hT qbr (wpAny_call_entry qbr hT qfh ?_ (qhv _))))
 show wpAny _ _ (fieldsOf (.ref it) >>= _) _ _ s
 refine wpAny_bind (wpAny_fieldsOf hi rfl ?_)
 show wpAny _ _ (setEntries r >>= _) _ _ s
 unfold setEntries
 refine wpAny_bind (wpAny_bind (wpAny_setState_of hs rfl fit (wpAny_pure ?_)))
 dsimp only
 rw [if_neg (by rw [hn];simp)]
 show wpAny _ _ (seqItems? (.ref tu) >>= _) _ _ s
 refine wpAny_bind (wpAny_seqItems ht rfl ?_)
 dsimp only
 rw [show vs[Int.toNat k]?=some (rawInt pl) from hv]
 show wpAny _ _ (setNextDrawn r (Int.toNat pl) (Int.toNat ep) >>= _) _ _ s
 unfold setNextDrawn
 refine wpAny_bind (wpAny_bind (wpAny_setState_of hs rfl fit ?_))
 dsimp only
 rw [if_neg (by simp),show es[Int.toNat pl]?=some (hx,x) from he]
 refine wpAny_pure (wpAny_bind (wpAny_setField hi rfl (by simp) (wpAny_pure ⟨x,rfl,wpAny_pure (hQ _ ?_ (Heap.SameBut.update ..))⟩)))
 exact Heap.get?_update_self (Obj.mapFields (·.setIfInBounds 1 (rawInt ((k:Int)+1)))) hi rfl
theorem qv3 {vs:Array Value}{Q:Option Value->Shared->Prop}(hh:A.handled=none) (hi:s.heap.get? it=some (qdy (.ref tu) k r n ep)) (hs:s.heap.get? r=some (qat es ep t)) (fit:t.fits es.size=true) (hn:es.size=n)
  (ht:s.heap.get? tu=some (qdw vs)) (hv:vs[k]?=none) (hQ:∀ h',Heap.ExtBut it s.heap h'->Q none { s with heap:=h' }):wpAny (model prog w) A (pyNext (.ref it)) Q E s:=by
 have hT:s.TypeIs (.ref it) "set_iterator" := ⟨_,hi,rfl⟩
 unfold pyNext
 refine wpAny_bind (wpAny_attempt (wpAny_callSpecial?_slot (name:=Str.ofString "__next__") hT qbr (wpAny_call_entry qbr hT qfh ?_ (qhv _))))
 show wpAny _ _ (fieldsOf (.ref it) >>= _) _ _ s
 refine wpAny_bind (wpAny_fieldsOf hi rfl ?_)
 show wpAny _ _ (setEntries r >>= _) _ _ s
 unfold setEntries
 refine wpAny_bind (wpAny_bind (wpAny_setState_of hs rfl fit (wpAny_pure ?_)))
 dsimp only
 rw [if_neg (by rw [hn];simp)]
 show wpAny _ _ (seqItems? (.ref tu) >>= _) _ _ s
 refine wpAny_bind (wpAny_seqItems ht rfl ?_)
 dsimp only
 rw [show vs[Int.toNat k]?=none from hv]
 refine wpAny_bind (wpAny_setField hi rfl (by simp) ?_)
 have h1:=Heap.get?_update_self (Obj.mapFields (·.setIfInBounds 0 (rawInt 0))) hi rfl
 refine wpAny_bind (wpAny_setField h1 rfl (by simp) ?_)
 show wpAny _ _ (newExc (.type "StopIteration") [] >>= _) _ _ _
 refine wpAny_bind ?_
 simp only [newExc,newTuple]
 refine wpAny_bind (wpAny_newObj_type ?_ (by size_fits))
 refine wpAny_bind (m:=firstArgMember _ _) (wpAny_of_eq (a:=Value.none) (by first|rfl|(simp only [firstArgMember];rfl)) ?_)
 refine wpAny_newObj_type ?_ (by size_fits)
 simp only [raiseNew]
 refine wpAny_bind (wpAny_handled ?_)
 first|rw [show A.in1.handled=none from hh]|rw [hh]
 refine wpAny_bind (wpAny_pure (wpAny_throw ?_))
 refine wpAny_bind (wpAny_isInstance (T := "StopIteration") (b:=true) ⟨_,Heap.get?_push_size _ rfl,rfl⟩ isSubtype_stop ?_)
 exact wpAny_pure (hQ _ ((((Heap.SameBut.update ..).trans (Heap.SameBut.update ..)).extBut.push _).push _))
theorem qnu (h:∀ v∈vs,∃ n t,v=Value.int n t):IntsAre vs (vs.map qk7):=by
 induction vs with
 | nil=>exact .nil
 | cons v vs ih =>
  refine qjz (h v (List.mem_cons_self ..)) fun m t q=>?_
  subst q
  exact .cons m t (ih fun x hx=>h x (yi _ hx))
theorem AllI.ints {l:List (Int×Value)}(h:AllI l)(p:vs.Perm (l.map (·.2))):∃ ms,IntsAre vs ms/\ms.Perm (qd4 l) :=
 ⟨_,qnu fun v hv=>qad (yh (p.mem_iff.mp hv)) fun e he ev=>qjz (h e he) fun n t q=>⟨n,t,by rw [←ev,q]⟩,by have:=p.map qk7;rw [List.map_map] at this;exact this⟩
theorem qvi {es:Array (Int×Value)}{ys:List Nat}(p:ys.Perm (List.range es.size)):(ys.map fun i=>(es[i]?.map (·.2)).getD .none).Perm (es.toList.map (·.2)):=by
 refine (p.map _).trans (List.Perm.of_eq ?_)
 refine List.ext_getElem (by rw [ya,ya,List.length_range,Array.length_toList]) fun i h1 h2=>?_
 rw [ya,Array.length_toList] at h2
 rw [List.getElem_map,List.getElem_map,List.getElem_range,Array.getElem?_eq_getElem h2,Array.getElem_toList];rfl
theorem qi3 {I:Addr}{fp:List Addr}{St:Nat->Heap->Prop}(hI:I∈fp) (fr:∀ i h h',St i h->(∀ b∈fp,∀ o,h.get? b=some o->h'.get? b=some o)->St i h')
  (ni:∀ i (s:Shared) (Q:Option Value->Shared->Prop) (E:Value->Shared->Prop) x,vs[i]?=some x->St i s.heap->(∀ h',St (i+1) h'->Heap.SameBut I s.heap h'->Q (some x) { s with heap:=h' })->wpAny (model prog w) A (pyNext (.ref I)) Q E s)
  (ne:∀ (s:Shared) (Q:Option Value->Shared->Prop) (E:Value->Shared->Prop),St vs.length s.heap->(∀ h',Heap.ExtBut I s.heap h'->Q none { s with heap:=h' })->wpAny (model prog w) A (pyNext (.ref I)) Q E s)
  (sf:∀ i (s:Shared) (Q:Value->Shared->Prop) (E:Value->Shared->Prop),St i s.heap->Q (.ref I) s->wpAny (model prog w) A (pyIter (.ref I)) Q E s):Walks prog w A I fp [I] vs.length (fun i v=>vs[i]?=some v) St where
 sub:=fun b hb=>yb hb▸hI
 frame:=fr
 item:=fun i s Q E hi st hQ=>ni i s Q E _ (List.getElem?_eq_getElem hi) st fun h' st' sb=>hQ _ h' s.toks (List.getElem?_eq_getElem hi) st' fun b o hb e=>sb.extBut b o (fun z=>hb (z▸ym rfl)) e
 done:=fun s Q E st hQ=>ne s Q E st fun h' x=>hQ h' s.toks fun b o hb e=>x b o (fun z=>hb (z▸ym rfl)) e
 self:=sf
theorem qol:entryFor table "set_iterator.__iter__" = some Builtin.«dict_keyiterator.__iter__»:=entryFor_alias (id' := "dict_keyiterator.__iter__") (by kernel_rfl) rfl (by decide +kernel) (by kernel_rfl)
theorem qj3:PySem.Slot "set_iterator" "__iter__" "set_iterator.__iter__" :=
 .of (owner := "set_iterator") (n := "__iter__") (by rw [typeLookup_type,builtinLookup_eq_fast];kernel_rfl) (by decide +kernel) (by decide +kernel) (by decide +kernel)
  (by first|exact .inl (by decide +kernel)|exact .inr (by decide +kernel)) (by rw [isSubtype_type];kernel_rfl)
theorem qrr (a:Value):argsOk "set_iterator.__iter__" ⟨[a],[]⟩:=by
 unfold argsOk;rw [signature?_of (id := "set_iterator.__iter__") (n:=['_','_','r','e','t','i','_','_']) (o:=['r','o','t','a','r','e','t','i','_','t','e','s']) (by kernel_rfl) qkf];kernel_rfl
theorem qja {first:Value}{Q:Value->Shared->Prop}(hi:s.heap.get? it=some (qdy first k r n ep)) (hQ:Q (.ref it) s):wpAny (model prog w) A (pyIter (.ref it)) Q E s:=by
 have hT:s.TypeIs (.ref it) "set_iterator" := ⟨_,hi,rfl⟩
 refine wpAny_pyIter_slot hT qj3 (wpAny_call_entry qj3 hT qol ?_ (qrr _))
 show wpAny _ _ (ret (.ref it)) _ _ s
 exact wpAny_pure ⟨_,rfl, "set_iterator",_,hT,qbr.lookup,hQ⟩
noncomputable def qfn (t:SetTable):Nat->Nat
 | 0=>0
 | j+1=>t.place.getD j 0+1
theorem qkz {t:SetTable}(ri:Rise t.place)(hj:j<=t.place.size):SetTable.below t.place (qfn t j)=j:=by
 have p:=qf5 ri (qfn t j)
 generalize SetTable.below t.place (qfn t j)=b at p
 cases j with
 | zero =>
  refine Nat.eq_zero_of_not_pos fun hb=>?_
  have h0:0<t.place.size:=Nat.lt_of_lt_of_le hb p.le
  exact absurd (p.lo 0 _ hb (Array.getElem?_eq_getElem h0)) (Nat.not_lt_zero _)
 | succ j =>
  have hj':j<t.place.size:=hj
  have e:qfn t (j+1)=t.place[j]+1:=by
   show t.place.getD j 0+1=_
   rw [Array.getD_eq_getD_getElem?,Array.getElem?_eq_getElem hj'];rfl
  rw [e] at p
  refine Nat.le_antisymm (Nat.not_lt.mp fun z=>?_) (Nat.not_lt.mp fun z=>?_)
  ·have h1:j+1<t.place.size:=Nat.lt_of_lt_of_le z p.le
   have q:=p.lo (j+1) _ z (Array.getElem?_eq_getElem h1)
   have q2:=ri.lt (Nat.lt_succ_self j) (Array.getElem?_eq_getElem hj') (Array.getElem?_eq_getElem h1)
   exact absurd (Nat.lt_of_lt_of_le q q2) (Nat.lt_irrefl _)
  ·have q:=p.hi j _ (Nat.le_of_lt_succ z) (Array.getElem?_eq_getElem hj')
   exact absurd q (Nat.not_succ_le_self _)
theorem qp5 {ks:List Int}{Q:Value->Shared->Prop}(hh:A.handled=none) (sr:SetR (!w.params.followText "set-order") s.heap r ks) (hl:ks.length<=4000)
  (hQ:∀ h' d I fp vs St,(∀ b o,s.heap.get? b=some o->h'.get? b=some o)->s.heap.get? I=none->(∀ b∈fp,b=r\/s.heap.get? b=none)->Walks prog w A I fp [I] vs.length (fun i v=>vs[i]?=some v) St->St 0 h'->(∃ ms,IntsAre vs ms/\ms.Perm ks) ->
   Q (.ref I) { s with heap:=h',drawn:=d }):wpAny (model prog w) A (pyIter (.ref r)) Q E s:=by
 cases sr with
 | mk es ep t at_ el ke fit ok =>
  have hT:s.TypeIs (.ref r) "set" := ⟨_,at_,rfl⟩
  have kl:ks.length=es.size:=by rw [←ke,qd4,ya,Array.length_toList]
  have psz:t.place.size=es.size:=by
   have:=fit
   unfold SetTable.fits at this
   rw [Bool.and_eq_true] at this
   exact beq_iff_eq.mp this.1
  refine wpAny_pyIter_slot hT F.slot_set_iter (wpAny_call_entry F.slot_set_iter hT qlw ?_ (F.args_set_iter_1 _))
  show wpAny _ _ (Builtin.Frozenset.sizeOf r >>= _) _ _ s
  unfold Builtin.Frozenset.sizeOf setEntries
  refine wpAny_bind (wpAny_bind (wpAny_bind (wpAny_setState_of at_ rfl fit (wpAny_pure (wpAny_pure ?_)))))
  dsimp only
  unfold setDrawn setsByText
  refine wpAny_bind (wpAny_bind (wpAny_setState_of at_ rfl fit (wpAny_bind (wpAny_bind (wpAny_askSetting (wpAny_pure (wpAny_pure ?_)))))))
  dsimp only
  have nr:∀ {h':Heap},(∀ b o,s.heap.get? b=some o->h'.get? b=some o)->h'.get? r=some (qat es ep t):=fun k=>k _ _ at_
  have hep:∀ {h':Heap}{d:Drawn}{A':Around}{E':Value->Shared->Prop}{Q':Nat->Shared->Prop},h'.get? r=some (qat es ep t)->Q' ep { s with heap:=h',drawn:=d }->wpAny (model prog w) A' (setEpoch r) Q' E' { s with heap:=h',drawn:=d }:=fun e q=>wpAny_setEpoch_of (s:={ s with heap:=_,drawn:=_ }) e rfl fit q
  refine wpAny_ite_split (fun c=>?_) fun c=>?_
  ·refine wpAny_bind (qon es.size (List.range es.size) s List.length_range fun ys d pm=>wpAny_bind (wpAny_newTuple ?_ (by rw [ya,pm.length_eq,List.length_range,←kl];exact Nat.le_trans hl (by decide +kernel))))
   have k1:∀ b o,s.heap.get? b=some o->(s.heap.push (qdw (ys.map fun i=>rawInt (i:Nat)).toArray)).get? b=some o:=fun b o e=>Heap.get?_push_of_some _ e
   refine wpAny_bind (hep (nr k1) ?_)
   refine wpAny_bind (wpAny_newObj_type (wpAny_pure ⟨_,rfl, "set_iterator",_,⟨_,Heap.get?_push_size _ rfl,rfl⟩,qbr.lookup,?_⟩))
   have k2:∀ b o,s.heap.get? b=some o->((s.heap.push (qdw (ys.map fun i=>rawInt (i:Nat)).toArray)).push (qdy (.ref s.heap.objs.size) 0 r es.size ep)).get? b=some o:=fun b o e=>Heap.get?_push_of_some _ (k1 b o e)
   have hz:(s.heap.push (qdw (ys.map fun i=>rawInt (i:Nat)).toArray)).objs.size=s.heap.objs.size+1:=Heap.size_push ..
   have nI:s.heap.get? (s.heap.push (qdw (ys.map fun i=>rawInt (i:Nat)).toArray)).objs.size=none:=by
    cases z:s.heap.get? (s.heap.push (qdw (ys.map fun i=>rawInt (i:Nat)).toArray)).objs.size with
    | none=>rfl
    | some o=>exact absurd (Heap.lt_size z) (by rw [hz];exact Nat.not_lt.mpr (Nat.le_succ _))
   have nT:s.heap.get? s.heap.objs.size=none:=by
    cases z:s.heap.get? s.heap.objs.size with
    | none=>rfl
    | some o=>exact absurd (Heap.lt_size z) (Nat.lt_irrefl _)
   refine hQ _ d _ [_,r,s.heap.objs.size] _ (fun i h=>h.get? (s.heap.push (qdw (ys.map fun i=>rawInt (i:Nat)).toArray)).objs.size=some (qdy (.ref s.heap.objs.size) i r es.size ep)/\h.get? r=some (qat es ep t)/\h.get? s.heap.objs.size=some (qdw (ys.map fun i=>rawInt (i:Nat)).toArray)) k2 nI (fun b hb=>?_)
    (qi3 (vs:=ys.map fun i=>(es[i]?.map (·.2)).getD .none) (List.mem_cons_self ..) (fun i h h' st k=>⟨k _ (List.mem_cons_self ..) _ st.1,k _ (yi _ (List.mem_cons_self ..)) _ st.2.1,k _ (yi _ (yi _ (List.mem_cons_self ..))) _ st.2.2⟩) (fun i s' Q' E' x hx st hq=>?_) (fun s' Q' E' st hq=>?_) fun i s' Q' E' st q=>qja st.1 q)
    ⟨Heap.get?_push_size _ rfl,nr k2,Heap.get?_push_of_some _ (Heap.get?_push_size _ rfl)⟩ (by rw [←ke];exact el.ints (qvi pm))
   ·rcases yg hb with z|m
    ·exact .inr (z▸nI)
    ·rcases yg m with z|m
     ·exact .inl z
     ·exact .inr (yb m▸nT)
   ·rw [List.getElem?_map] at hx
    refine qad (yf hx) fun j hj ej=>?_
    have jlt:j<es.size:=List.mem_range.mp (pm.mem_iff.mp (yc hj))
    rw [Array.getElem?_eq_getElem jlt] at ej
    refine qs7 (pl:=j) (hx:=es[j].1) st.1 st.2.1 fit rfl st.2.2 (by rw [List.getElem?_toArray,List.getElem?_map,hj];rfl) (by rw [Array.getElem?_eq_getElem jlt,←ej];rfl) fun h' e sb=>hq h' ⟨e,?_,?_⟩ sb
    ·exact sb.extBut _ _ (fun z=>by rw [z,nI] at at_;cases at_) st.2.1
    ·exact sb.extBut _ _ (fun z=>by rw [hz] at z;exact Nat.succ_ne_self _ z.symm) st.2.2
   ·exact qv3 hh st.1 st.2.1 fit rfl st.2.2 (by rw [List.getElem?_toArray];exact List.getElem?_eq_none_iff.mpr (by rw [ya,ya];exact Nat.le_refl _)) hq
  ·refine wpAny_bind (wpAny_pure (wpAny_bind (hep (d:=s.drawn) at_ ?_)))
   refine wpAny_bind (wpAny_newObj_type (wpAny_pure ⟨_,rfl, "set_iterator",_,⟨_,Heap.get?_push_size _ rfl,rfl⟩,qbr.lookup,?_⟩))
   have k2:∀ b o,s.heap.get? b=some o->(s.heap.push (qdy (rawInt 0) 0 r es.size ep)).get? b=some o:=fun b o e=>Heap.get?_push_of_some _ e
   have nI:s.heap.get? s.heap.objs.size=none:=by
    cases z:s.heap.get? s.heap.objs.size with
    | none=>rfl
    | some o=>exact absurd (Heap.lt_size z) (Nat.lt_irrefl _)
   have rI:r≠s.heap.objs.size:=fun z=>by rw [z,nI] at at_;cases at_
   have fpx:∀ b∈[s.heap.objs.size,r],b=r\/s.heap.get? b=none:=fun b hb=>(yg hb).elim (fun z=>.inr (z▸nI)) fun m=>.inl (yb m)
   have frx:∀ {f:Nat->Value}(i:Nat) (h h':Heap),(h.get? s.heap.objs.size=some (qdy (f i) i r es.size ep)/\h.get? r=some (qat es ep t))->(∀ b∈[s.heap.objs.size,r],∀ o,h.get? b=some o->h'.get? b=some o)->h'.get? s.heap.objs.size=some (qdy (f i) i r es.size ep)/\h'.get? r=some (qat es ep t) :=
    fun i h h' st k=>⟨k _ (List.mem_cons_self ..) _ st.1,k _ (yi _ (List.mem_cons_self ..)) _ st.2⟩
   cases bt:w.params.followText "set-order" with
   | true =>
    refine hQ _ s.drawn _ [_,r] _ (fun i h=>h.get? s.heap.objs.size=some (qdy (rawInt (0:Nat)) i r es.size ep)/\h.get? r=some (qat es ep t)) k2 nI fpx
     (qi3 (vs:=(pickOrder (w.params.setOrder r ep) es).toList.map (·.2)) (List.mem_cons_self ..) (frx (f:=fun _=>rawInt (0:Nat))) (fun i s' Q' E' x hx st hq=>?_) (fun s' Q' E' st hq=>?_) fun i s' Q' E' st q=>qja st.1 q)
     ⟨Heap.get?_push_size _ rfl,nr k2⟩ (by rw [←ke];exact el.ints ((qnb _ es).map _))
    ·rw [List.getElem?_map,Array.getElem?_toList] at hx
     refine qad (yf hx) fun e he ex=>?_
     exact qmn (x:=x) (nx:=0) st.1 st.2 fit rfl (fun A' E'' Q'' q=>qik bt st.2 fit (by rw [he];rw [←ex] at q;exact q)) fun h' e sb=>hq h' ⟨e,sb.extBut _ _ rI st.2⟩ sb
    ·refine qr3 hh st.1 st.2 fit rfl (fun A' E'' Q'' q=>qik bt st.2 fit ?_) hq
     rw [Array.getElem?_eq_none (by rw [ya,Array.length_toList];exact Nat.le_refl _)];exact q
   | false =>
    have ndr:(!t.plain&&decide (es.size>1))=false:=by
     cases z:(!t.plain&&decide (es.size>1)) with
     | false=>rfl
     | true =>
      refine absurd ?_ c
      rw [Bool.and_eq_true]
      exact ⟨by show (!w.params.followText "set-order")=true;rw [bt];rfl,z⟩
    have led:t.led=true:=by rw [ok.led,bt];rfl
    refine hQ _ s.drawn _ [_,r] _ (fun i h=>h.get? s.heap.objs.size=some (qdy (rawInt (qfn t i)) i r es.size ep)/\h.get? r=some (qat es ep t)) k2 nI fpx
     (qi3 (vs:=es.toList.map (·.2)) (List.mem_cons_self ..) (frx (f:=fun i=>rawInt (qfn t i))) (fun i s' Q' E' x hx st hq=>?_) (fun s' Q' E' st hq=>?_) fun i s' Q' E' st q=>qja st.1 q)
     ⟨Heap.get?_push_size _ rfl,nr k2⟩ (by rw [←ke];exact el.ints (.refl _))
    ·rw [List.getElem?_map,Array.getElem?_toList] at hx
     refine qad (yf hx) fun e he ex=>?_
     have hlt:i<es.size:=(Array.getElem?_eq_some_iff.mp he).1
     have hp:t.place[i]?=some (t.place.getD i 0):=by rw [Array.getD_eq_getD_getElem?,Array.getElem?_eq_getElem (by rw [psz];exact hlt)];rfl
     refine qmn (x:=x) (nx:=qfn t (i+1)) st.1 st.2 fit rfl (fun A' E'' Q'' q=>qkg bt st.2 fit ndr led ?_) fun h' e sb=>hq h' ⟨e,sb.extBut _ _ rI st.2⟩ sb
     rw [qkz ok.rise (by rw [psz];exact Nat.le_of_lt hlt),he,hp]
     rw [←ex] at q;exact q
    ·refine qr3 hh st.1 st.2 fit rfl (fun A' E'' Q'' q=>qkg bt st.2 fit ndr led ?_) hq
     rw [ya,Array.length_toList,qkz ok.rise (by rw [psz];exact Nat.le_refl _),Array.getElem?_eq_none (Nat.le_refl _)];exact q
end
end Mine
namespace Mine
open PySem PySem.W PySem.Spec PyProof.Rows
section
variable {prog:Program}{w:World}{A:Around}{E:Value->Shared->Prop}{s:Shared}{r:Addr}{ks:List Int}
theorem qp6 {Q:Bool->Shared->Prop}(hT:s.TypeIs (.ref r) "set") (h:Q false s):wpAny (model prog w) A (Builtin.List.listLengthHint (.ref r)) Q E s:=by
 unfold Builtin.List.listLengthHint
 refine wpAny_bind (wpAny_specialOf hT PySem.F.slot_set_len.lookup ?_)
 generalize hid:("set.__len__" : String)=id0
 wp_delta
 rw [show splitId id0=some ("set", "__len__") from by subst hid;decide +kernel]
 subst hid
 refine wpAny_bind (wpAny_isInstance (T := "set") (b:=true) hT (by rw [isSubtype_type];kernel_rfl) ?_)
 refine wpAny_ite_split (fun hab=>absurd hab (by decide)) (fun _=>?_)
 refine wpAny_ite_split (fun _=>?_) (fun hab=>absurd (by decide +kernel) hab)
 refine wpAny_bind (wpAny_typeOf hT ?_)
 exact wpAny_pure h
theorem qx1 {acc:Array Value}(h:ItemsOf (fun i v=>vs[i]?=some v) acc vs.length):acc.toList=vs:=by
 refine List.ext_getElem (by rw [Array.length_toList];exact h.1) fun i h1 h2=>?_
 rw [Array.length_toList] at h1
 have:vs[i]?=some acc[i]:=h.2 i acc[i] (Array.getElem?_eq_getElem h1)
 rw [List.getElem?_eq_getElem h2] at this
 rw [Array.getElem_toList];exact (yj this).symm
theorem qlc {R:Result->Shared->Prop}(hh:A.handled=none) (sr:SetR (!w.params.followText "set-order") s.heap r ks) (hl:ks.length<=4000) (S:Addr) (Sr:S≠r) (res:Value) (c0:Nat) (hS:s.heap.get? S=some { cls:=.type "list",data:=.seq #[] c0 })
  (hR:∀ h' tk d vs ms c,(∀ b o,b≠S->s.heap.get? b=some o->h'.get? b=some o)->h'.get? S=some { cls:=.type "list",dict:=none,data:=.seq (List.toArray vs) c,slots:=#[] }->IntsAre vs ms->ms.Perm ks->R (.ok (.ret res)) { s with heap:=h',toks:=tk,drawn:=d }) :
  wpAny (model prog w) A.in1 (Builtin.List.listExtendWith (.ref S) (.ref r) res)
   (fun fin s'=>match fin with|.done f=>R (.ok f) s'|.again c'=>c'.quiet=true/\codeAny (model prog w) A c' R s') (fun e s'=>R (.error e) s') s:=by
 have hT:s.TypeIs (.ref r) "set" := by cases sr with|mk es ep t at_ _ _ _ _=>exact ⟨_,at_,rfl⟩
 unfold Builtin.List.listExtendWith
 refine wpAny_bind (wpAny_typeOf (T := "set") hT ?_)
 have h1:Builtin.List.listSameRef (.ref S) (.ref r)=false:=by simp [Builtin.List.listSameRef,Sr]
 have h2:(Value.type "set" == Value.type "list")=false:=by decide
 have h3:(Value.type "set" == Value.type "tuple")=false:=by decide
 simp only [h1,h2,h3,Bool.or_false,Bool.false_eq_true,if_false]
 refine wpAny_bind (qp5 (A:=A.in1) hh sr hl fun h' d I fp vs St k1 nI fpx W st ms=>qad ms fun ms hm pm=>?_)
 have hS1:=k1 _ _ hS
 have Sfp:S∉fp:=fun m=>(fpx S m).elim Sr fun z=>by rw [hS] at z;cases z
 have SI:S≠I:=fun z=>by rw [z,nI] at hS;cases hS
 have nv:vs.length<=sizeLine:=by rw [IntsAre.length hm,pm.length_eq];exact Nat.le_trans hl (by decide +kernel)
 have key:∀ (h'':Heap) (c1:Nat),St 0 h''->(∀ b o,b≠S->h'.get? b=some o->h''.get? b=some o)->h''.get? S=some { cls:=.type "list",data:=.seq #[] c1 } ->
   codeAny (model prog w) A (.builtin "list.extend.loop" ⟨[.ref S,.ref I,res],[]⟩) R { s with heap:=h'',drawn:=d }:=fun h'' c1 st' k'' hS''=>by
  refine codeAny_extend_loopS W.toS nv S Sfp res vs.length 0 _ #[] c1 rfl (Nat.zero_le _) st' hS'' (ItemsOf.nil _) fun s' acc' c' hmv hS' hacc=>?_
  rw [Moved.eq_with hmv]
  have ea:=qx1 hacc
  refine hR s'.heap s'.toks d vs ms c' (fun b o hb e=>hmv.heap b o (fun m=>?_) (k'' b o hb (k1 b o e))) (by rw [←ea,Array.toArray_toList];exact hS') hm pm
  rcases yg m with z|m
  ·exact hb z
  ·rw [yb m,nI] at e;cases e
 refine wpAny_bind (wpAny_holding (qp6 (s:={ s with heap:=h',drawn:=d }) (hT.elim fun o z=>⟨o,k1 _ _ z.1,z.2⟩) ?_))
 refine wpAny_ite_split (fun _=>?_) (fun _=>wpAny_pure ⟨plainId_quiet PySem.F.plain_extend_loop _,key _ c0 st (fun b o _ e=>e) hS1⟩)
 refine wpAny_bind (wpAny_rule (wpAny_bind ?_))
 show wpAny _ _ (updateSeq S (·.push .none) >>= fun _=>updateSeq S (·.pop)) _ _ _
 refine wpAny_bind (wpAny_updateSeq hS1 rfl ?_)
 have hS2:=Heap.get?_update_self (Obj.mapSeq (·.push Value.none)) hS1 rfl
 refine wpAny_updateSeq (hz:=by seq_fits) hS2 rfl ?_
 have hS3:=Heap.get?_update_self (Obj.mapSeq (·.pop)) hS2 rfl
 have oth:∀ b o,b≠S->h'.get? b=some o->((h'.update S (Obj.mapSeq (·.push Value.none))).update S (Obj.mapSeq (·.pop))).get? b=some o:=fun b o hb e=>(Heap.get?_update_other _ _ (Ne.symm hb)).trans ((Heap.get?_update_other _ _ (Ne.symm hb)).trans e)
 exact wpAny_pure ⟨plainId_quiet PySem.F.plain_extend_loop _,key _ _ (W.frame 0 _ _ st fun b hb o e=>oth b o (fun z=>Sfp (z▸hb)) e) oth hS3⟩
theorem qjb {R:List Value->Shared->Prop}(hh:A.handled=none) (sr:SetR (!w.params.followText "set-order") s.heap r ks) (hl:ks.length<=4000)
  (h:∀ h' tk d vs ms,(∀ b o,s.heap.get? b=some o->h'.get? b=some o)->IntsAre vs ms->ms.Perm ks->R vs { s with heap:=h',toks:=tk,drawn:=d }):wpAny (model prog w) A (collect (.ref r)) R E s:=by
 have rlt:r<s.heap.objs.size:=by cases sr with|mk es ep t at_ _ _ _ _=>exact Heap.lt_size at_
 unfold collect
 refine wpAny_bind (wpAny_runValue (codeAny_builtin entry_proto_collect' ?_))
 rw [Around.under_plainId PySem.F.plain_proto_collect _]
 show wpAny _ A.in1 (newList [] >>= fun l=>again (.builtin "list.__iadd__" ⟨[l,.ref r],[]⟩)) _ _ s
 refine wpAny_bind (wpAny_newObj_type ?_)
 refine wpAny_pure ⟨plainId_quiet PySem.F.plain_list_iadd _,codeAny_builtin entry_list_iadd' ?_⟩
 rw [Around.under_plainId PySem.F.plain_list_iadd _]
 have hS1:(s.heap.push { cls:=.type "list",data:=.seq ([]:List Value).toArray }).get? s.heap.objs.size=some { cls:=.type "list",data:=.seq #[] }:=Heap.get?_push_size _ rfl
 show wpAny _ A.in1 (Builtin.List.listExtendWith (.ref s.heap.objs.size) (.ref r) (.ref s.heap.objs.size)) _ _ _
 have key:=qlc (prog:=prog) (A:=A) (s:={ s with heap:=s.heap.push { cls:=.type "list",data:=.seq ([]:List Value).toArray } })
  (R:=fun (q:Result) (s':Shared)=>∃ h' tk d vs ms c,q=.ok (.ret (.ref s.heap.objs.size))/\s'={ s with heap:=h',toks:=tk,drawn:=d }/\(∀ b o,s.heap.get? b=some o->h'.get? b=some o) /\
   h'.get? s.heap.objs.size=some { cls:=.type "list",dict:=none,data:=.seq (List.toArray vs) c,slots:=#[] }/\IntsAre vs ms/\ms.Perm ks)
  hh (sr.keep fun o e=>Heap.get?_push_of_some _ e) hl s.heap.objs.size (Nat.ne_of_gt rlt) (.ref s.heap.objs.size) 0 hS1
  fun h' tk d vs ms c hk hS' hm pm=>⟨h',tk,d,vs,ms,c,rfl,rfl,fun b o e=>hk b o (Nat.ne_of_lt (Heap.lt_size e)) (Heap.get?_push_of_some _ e),hS',hm,pm⟩
 refine wpAny_mono key (fun fin s' x=>?_) fun e s' x=>?_
 ·cases fin with
  | done f =>
   obtain ⟨h',tk,d,vs,ms,c,e,rfl,hk,hS',hm,pm⟩:=x
   cases e
   show wpAny _ A (load s.heap.objs.size >>= _) _ _ _
   exact wpAny_bind (wpAny_load hS' (wpAny_pure (h h' tk d vs ms hk hm pm)))
  | again c1 =>
   refine ⟨x.1,codeAny_mono x.2 fun q s2 y=>?_⟩
   obtain ⟨h',tk,d,vs,ms,c,rfl,rfl,hk,hS',hm,pm⟩:=y
   show wpAny _ A (load s.heap.objs.size >>= _) _ _ _
   exact wpAny_bind (wpAny_load hS' (wpAny_pure (h h' tk d vs ms hk hm pm)))
 ·obtain ⟨_,_,_,_,_,_,e',_⟩:=x
  cases e'
theorem qpz {Q:Value->Shared->Prop}(hh:A.handled=none) (sr:SetR (!w.params.followText "set-order") s.heap r ks) (hl:ks.length<64)
  (h:∀ h' tk d L out ms e,(∀ b o,s.heap.get? b=some o->h'.get? b=some o)->s.heap.get? L=none->h'.get? L=some (seqObj "list" (List.toArray out) e)->IntsAre out ms->ms.Perm ks->ms.Pairwise (·<=·)->Q (.ref L) { s with heap:=h',toks:=tk,drawn:=d }) :
  wpAny (model prog w) A (call (.builtin "sorted") [.ref r]) Q E s:=by
 refine Calls.call_function_entry kind_sorted plain_sorted entry_sorted (args_sorted1 _) ?_
 unfold Builtin.«sorted»
 refine wpAny_bind (m:=checkCount "sorted" 1 1 _) (wpAny_pure ?_)
 refine wpAny_bind (qjb (A:=A.in1) hh sr (Nat.le_trans (Nat.le_of_lt hl) (by decide)) fun h' tk d vs ns hk hI pm=>?_)
 have hl2:vs.length<64:=by rw [IntsAre.length hI,pm.length_eq];exact hl
 refine wpAny_bind (wpAny_newList ?_ (Nat.le_trans (Nat.le_of_lt hl2) (by decide +kernel)))
 have hoL:(h'.push { cls:=.type "list",data:=.seq vs.toArray }).get? h'.objs.size=some (seqObj "list" vs.toArray 0):=Heap.get?_push_size _ rfl
 refine wpAny_bind (wpAny_holding (wpAny_call_entry slot_list_sort ⟨_,hoL,rfl⟩ entry_list_sort (list_sort_tree hoL hI hl2 fun out ms h1 h2 h3=>⟨_,rfl,?_⟩) (args_list_sort _)))
 refine wpAny_pure ⟨_,rfl,?_⟩
 have hlt:∀ b o,s.heap.get? b=some o->b<h'.objs.size:=fun b o e=>Heap.lt_size (hk b o e)
 refine qar (sortedHeap_at (out:=out) hoL) fun e he=>?_
 refine h _ tk d h'.objs.size out.toList ms e (fun b o e=>?_) ?_ (by simpa using he) h1 (h2.trans pm) h3
 ·rw [sortedHeap_old (Nat.ne_of_lt (hlt b o e)) (by rw [Heap.size_push];exact Nat.lt_succ_of_lt (hlt b o e))]
  exact Heap.get?_push_of_some _ (hk b o e)
 ·cases e:s.heap.get? h'.objs.size with
  | none=>rfl
  | some o=>exact absurd (hlt _ _ e) (Nat.lt_irrefl _)
end
end Mine
namespace Mine
open PySem PySem.W PyProof.Rows
section
variable {prog:Program}{w:World}{A:Around}{E:Value->Shared->Prop}{s:Shared}
theorem qyw {l:Addr}{b:Bool}{u:Tok}{Q:Value->Shared->Prop}(hl:s.heap.get? l=some { cls:=.type "list",dict:=none,data:=.seq (List.toArray [v]) k,slots:=#[] })
  (h:Q (.ref s.heap.objs.size) { s with heap:=s.heap.push { cls:=.type "list",data:=.seq (List.toArray (if b then [v] else [])) } }):wpAny (model prog w) A (binaryOp .Mult (.ref l) (.int (if b then 1 else 0) u)) Q E s:=by
 refine wpAny_binaryOp_repeat_ref (T := "list") (U := "int") (by decide) ⟨_,hl,rfl⟩ (fun s'=>typeIs_int s' _ u) noFill_list_mul F.fills_int_mul F.slot_int_rmul repeat_list F.slot_int_index.lookup
  (call_meets F.slot_int_rmul (typeIs_int s _ u) F.entry_int_rmul (F.args_int_rmul_2 _ _) (int___rmul___int_list _ u l _ k)
   ⟨hl,rfl,⟨_,hl,rfl⟩,call_meets F.slot_list_mul ⟨_,hl,rfl⟩ F.entry_list_mul (F.args_list_mul_2 _ _)
    (AutoListH.list___mul___list_int_3 l _ k _ u (by cases b<;>decide) (by show ¬ 1*_>_;cases b<;>decide) (by show ¬ Builtin.List.listTooLong (1*_)=true;cases b<;>decide +kernel))
    ⟨hl,?_⟩⟩)
 cases b<;>exact h
end
variable {P:PEnv}{C:Ctx}{d:Nat}{x:Str}{D:Addr}
def XLv (P:PEnv) (C:Ctx) (d:Nat) (x:Str) (D:Addr) (e:Expr) (l:List Str):Prop :=
 ∀ A E env s (Q:Value->Shared->Prop),A.depth+d<recursionLimit->XEnv P C x D env s->(∀ h tk L vs n,qdt s h->s.heap.get? L=none->h.get? L=some { cls:=.type "list",dict:=none,data:=.seq (List.toArray vs) n,slots:=#[] }->(∀ B h ι,VRs B h ι (l.map .str) vs)->Q (.ref L) { s with heap:=h,toks:=tk })->wpAny (model P.prog P.w) A (eval e env) Q E s
theorem ql5 {w:Str}{ic:Expr}{b:Bool}{p1 p2 p3 p4 p5:Pos}(ok:P.OK) (hw:PyData.strOk w=true) (hi:XV P C d x D ic b) (gi:Glob P "int" (.type "int")) (ki:C.names.lookup ("int" : Str)=some .globalImplicit) (hs:∀ env,starEach [ic] env=(false,eval ic env)::starEach [] env) :
  XLv P C d x D (.BinOp (.List [.Constant (.str w) k p1] p2) .Mult (.Call (.Name "int" p3) [ic] [] p4) p5) (if b then [w] else []):=fun A E env s Q hr xe kq=>by
 refine wpAny_BinOp (wpAny_List (spliced_more (wpAny_Constant_str (spliced_none ⟨by show 1<=sizeLine;decide +kernel,?_⟩)) rfl))
 generalize hh1:s.heap.push { cls:=.type "list",data:=.seq (List.toArray [Value.str w s.toks]) }=h1
 have k1:qdt s h1:=fun q o e=>by rw [←hh1];exact Heap.get?_push_of_some _ e
 have l1:h1.get? s.heap.objs.size=some { cls:=.type "list",dict:=none,data:=.seq (List.toArray [Value.str w s.toks]) 0,slots:=#[] }:=by rw [←hh1];exact Heap.get?_push_size _ rfl
 have xe1:XEnv P C x D env { s with heap:=h1,toks:=s.toks+1 }:=xe.grow k1
 refine Call_ (qhl ok xe1 gi ki (by decide) ?_)
 refine callWith_type1 (spliced_more (hi A E env _ _ hr xe1 fun h2 tk2 g2=>spliced_none ?_) (hs env)) (hs env) rfl
 refine call_int_bool ?_
 refine qyw (g2 _ _ l1) ?_
 have k2:qdt s h2:=k1.trans g2
 refine kq _ _ _ _ 0 (fun q o e=>Heap.get?_push_of_some _ (k2 q o e)) ?_ (Heap.get?_push_size _ rfl) fun B h ι=>?_
 ·cases z:s.heap.get? h2.objs.size with
  | none=>rfl
  | some o=>exact absurd (Heap.lt_size (k2 _ _ z)) (Nat.lt_irrefl _)
 ·cases b with
  | false=>rfl
  | true=>exact ⟨_,_,rfl,VR.mkStr w _ hw,rfl⟩
theorem qvr {e1 e2:Expr}{l1 l2:List Str}{p:Pos}(h1:XLv P C d x D e1 l1) (h2:XLv P C d x D e2 l2) (hn:l1.length+l2.length<=1000):XLv P C d x D (.BinOp e1 .Add e2 p) (l1++l2):=fun A E env s Q hr xe kq=>by
 refine wpAny_BinOp (h1 A E env s _ hr xe fun h tk L vs n g nL aL sv=>h2 A E env _ _ hr (xe.grow g) fun h' tk' L' vs' n' g' nL' aL' sv'=>?_)
 have e1:=(sv P.B h []).length
 have e2:=(sv' P.B h []).length
 rw [ya] at e1 e2
 refine PySem.P.add_list (g' _ _ aL) aL' ?_ (by rw [List.size_toArray,List.size_toArray,e1,e2];exact Nat.le_trans hn (by decide +kernel))
 have k2:qdt s h':=g.trans g'
 refine kq _ _ _ (vs++vs') 0 (fun q o e=>Heap.get?_push_of_some _ (k2 q o e)) ?_ (by rw [←List.append_toArray];exact Heap.get?_push_size _ rfl) fun B h ι=>?_
 ·cases z:s.heap.get? h'.objs.size with
  | none=>rfl
  | some o=>exact absurd (Heap.lt_size (k2 _ _ z)) (Nat.lt_irrefl _)
 ·rw [List.map_append];exact (sv B h ι).append (sv' B h ι)
theorem qi6 {n w:Str}{t e1 e2:Expr}{a:List Stmt}{l1 l2:List Str}{p1 p2 p3 p4 p5 p6:Pos}{c:Str}(hc:P.mg c=some (.ref D)) (ht:XT P C d n D t false) (h1:XLv P C d n D e1 l1) (h2:XLv P C d n D e2 l2) (hn:l1.length+l2.length<=1000)
  (hw:C.names.lookup w=some .local) (nw:n≠w) (wd:(w == ("__debug__" : Str))=false) (hsw:∀ env,swapsWith e1 (some (.Name w p2)) p3.line env=pure false) :
  qhx P C d n [w] [.If t a [] p1,.Assign [.Name w p2] e1 p3,.Return (some (.BinOp (.Name w p4) .Add e2 p5)) p6] c (fun fl H H2=>fl=.ret (.ref H.length)/\H2=H++[.list ((l1++l2).map .str)]):=fun A E env s ea o D' m hr hu k1 k2 k3 k4 ns hm st nl ee1 ee2 hD hh nc=>by
 have:=Value.ref.inj (yj (hc.symm.trans hD))
 subst this
 have xe:XEnv P C n D env s:=⟨k1,k2,k3,k4,⟨m,ea,o,ns,hm,ee1,ee2⟩,st⟩
 have kw:env.kindOf w=some .local:=by unfold Env.kindOf;rw [k2];exact hw
 have hp:(env.scope.kind == .class||(env.scope.kind == .module&&env.locals != env.globals))=false:=by rw [k1];rfl
 refine wpAny_execs_cons (wpAny_If (ht A E env s _ hr xe fun h1' tk1 g1=>wpAny_execs_nil ?_))
 refine wpAny_execs_cons (wpAny_Assign_Name (h1 A E env _ _ hr (xe.grow g1) fun h2' tk2 L vs nn g2 nL aL sv=>?_) (hsw env))
 have g12:qdt s h2':=g1.trans g2
 refine wpAny_storeName_local kw (ns.keeps g12) (fun h3 ns3 sb3=>?_) hp
 have locL:L≠env.locals:=fun z=>by
  obtain ⟨o1,es,ep,q,_⟩:=ns
  rw [z,g1 _ _ q] at nL;cases nL
 have k3':∀ b ob,b≠env.locals->s.heap.get? b=some ob->h3.get? b=some ob:=fun b ob hb eb=>sb3.extBut b ob hb (g12 b ob eb)
 have eaL:ea≠env.locals:=fun z=>by
  obtain ⟨o1,vs1,q1,q2,_⟩:=nc
  obtain ⟨o2,es2,ep2,q3,q4,_⟩:=ns
  rw [z] at q1;rw [q1] at q3;cases q3;rw [q2] at q4;cases q4
 have aL3:h3.get? L=some { cls:=.type "list",dict:=none,data:=.seq (List.toArray vs) nn,slots:=#[] }:=sb3.extBut L _ locL aL
 have xe3:XEnv P C n D env { s with heap:=h3,toks:=tk2+1 }:=⟨k1,k2,k3,k4,⟨_,ea,o,ns3,by simp only [if_neg nw];exact hm,k3' ea o eaL ee1,ee2⟩,fun b ob eb=>k3' b ob (fun z=>by rw [z,nl] at eb;cases eb) (st b ob eb)⟩
 refine wpAny_execs_cons ?_
 rw [exec_Return_some]
 refine wpAny_bind (wpAny_standAt (wpAny_bind (wpAny_BinOp (wpAny_Name (wpAny_loadName_local (v:=.ref L) k1 kw ns3 (by simp) ?_) wd))))
 refine h2 A E env _ _ hr xe3 fun h4 tk4 L' vs' n' g4 nL' aL' sv'=>?_
 have z1:=(sv P.B h4 []).length
 have z2:=(sv' P.B h4 []).length
 rw [ya] at z1 z2
 refine PySem.P.add_list (g4 _ _ aL3) aL' (wpAny_pure ?_) (by rw [List.size_toArray,List.size_toArray,z1,z2];exact Nat.le_trans hn (by decide +kernel))
 have up:∀ b ob,b≠env.locals->s.heap.get? b=some ob->(h4.push { cls:=.type "list",data:=.seq (List.toArray vs++List.toArray vs') }).get? b=some ob:=fun b ob hb eb=>Heap.get?_push_of_some _ (g4 b ob (k3' b ob hb eb))
 have nN:s.heap.get? h4.objs.size=none:=by
  cases z:s.heap.get? h4.objs.size with
  | none=>rfl
  | some ob =>
   by_cases hb:h4.objs.size=env.locals
   ·obtain ⟨o3,es,ep,q,_⟩:=ns3
    rw [←hb] at q
    exact absurd (Heap.lt_size (g4 _ _ q)) (Nat.lt_irrefl _)
   ·exact absurd (Heap.lt_size (g4 _ _ (k3' _ _ hb z))) (Nat.lt_irrefl _)
 refine ⟨⟨_,_,rfl⟩,⟨_,ns3.keeps fun b ob eb=>Heap.get?_push_of_some _ (g4 b ob eb),fun z hz=>?_⟩,up,fun ι H hrr hL=>⟨ι++[h4.objs.size],H++[.list ((l1++l2).map .str)],.ret (.ref H.length),List.prefix_append _ _,?_,fun a ha=>(yd ha).imp id fun q=>by rw [yb q];exact nN,?_,rfl,rfl⟩⟩
 ·rw [List.mem_singleton] at hz
  simp only [if_neg hz]
 ·have ntL:qbp [env.locals] s.heap:=qbn (Z:=fun b=>∀ vs,¬ IsTup s.heap b vs) fun vs q=>qi1 ns fun o es ep eo dt _=>qbi q fun o' eo' _ z=>z.elim fun nn z=>by
   have:=yj (eo.symm.trans eo');subst this;rw [dt] at z;cases z
  have hr2:HR P.B ι H (h4.push { cls:=.type "list",data:=.seq (List.toArray vs++List.toArray vs') }):=hrr.off (T:=[env.locals]) (fun b ob hb eb=>up b ob (fun z=>hb (z▸ym rfl)) eb) ntL (qbn (Z:=fun b=>b∉ι) hL) (qbn (Z:=fun b=>P.B.get? b=none) nl)
  refine hr2.adopt (fun q=>(hrr.mem q).elim fun ob eb=>qa1 nN eb) (hrr.noB nN) ⟨vs++vs',⟨0,by rw [←List.append_toArray];exact Heap.get?_push_size _ rfl⟩,?_⟩
  rw [List.map_append];exact (sv _ _ _).append (sv' _ _ _)
 ·exact ⟨_,rfl,_,rfl,by rw [←hrr.len];simp⟩
end Mine
namespace Mine
open PySem PySem.W PyProof.Rows
noncomputable def kSrt (i:Nat) (loc:Loc) (Q:PF):PQ:=fun v H=>∃ ns:List Int,seqL H v=some (ns.map .int)/\ns.length<64/\∀ ms:List Int,ms.Nodup->ms.Pairwise (·<=·)->(∀ q,q∈ms↔q∈ns)->Q .next (loc.set i (some (.ref H.length))) (H++[.list (ms.map .int)])
namespace MS
noncomputable def asgS (i:Nat) (a:ME):MS:=fun Φ loc H Q=>wpE Φ a loc H (kSrt i loc Q)
end MS
def qrw (P:PEnv):Prop:=P.mg "set" = none/\P.mb "set" = some (.type "set")
noncomputable def MS.never:MS:=fun _ _ _ _=>False
theorem CS.never {G:GT}{C:Ctx}{st:Stmt}:CS G C .never st:=⟨fun _ _ _ _ _ w=>w.elim⟩
theorem qxf {P:PEnv}{C:Ctx}{loc:Loc}{X:XP}{p1 p2 pos2:Pos}{x:Expr}{Q:PQ}(ok:P.OK) (g1:GN C "sorted") (g2:GN C "set") (h1:P.mg "sorted" = none/\P.mb "sorted" = some (.builtin "sorted")) (h2:qrw P)
  (h:EvOK P C d x loc H (fun v H'=>∃ ns:List Int,seqL H' v=some (ns.map .int)/\ns.length<64/\∀ ms:List Int,ms.Nodup->ms.Pairwise (·<=·)->(∀ q,q∈ms↔q∈ns)->Q (.ref H'.length) (H'++[.list (ms.map .int)])) X) (hs:∀ env,starEach [x] env=(false,eval x env)::starEach [] env) :
  EvOK P C d (.Call (.Name "sorted" p1) [.Call (.Name "set" p2) [x] [] pos2] [] pos) loc H Q X:=fun A E env ι s w e a=>by
 have s1:∀ env,starEach [.Call (.Name "set" p2) [x] [] pos2] env=(false,eval (.Call (.Name "set" p2) [x] [] pos2) env)::starEach [] env:=fun _=>rfl
 refine Call_ (Calls.Name_function_global e.kind (by unfold Env.kindOf;rw [e.names];exact g1.look) (Calls.loadGlobal_builtin (e.glob▸ok.g.keeps fun b o e=>w.hr.base b o e) h1.1 (e.blt▸ok.b.keeps fun b o e=>w.hr.base b o e) h1.2 ?_) g1.dbg)
 refine callWith_builtin1 (wpAny_items_cons ?_ (s1 env)) (s1 env) rfl
 refine Call_ (Calls.Name_function_global e.kind (by unfold Env.kindOf;rw [e.names];exact g2.look) (Calls.loadGlobal_builtin (e.glob▸ok.g.keeps fun b o e=>w.hr.base b o e) h2.1 (e.blt▸ok.b.keeps fun b o e=>w.hr.base b o e) h2.2 ?_) g2.dbg)
 refine callWith_type1 (wpAny_items_cons (gv (h A E env ι s w e a) fun v s₁ ι1 H1 l p₁ r1 g=>wpAny_items_nil ?_) (hs env)) (hs env) rfl
 refine qbi g fun ns q1 q2 q3=>?_
 have w1:=w.step p₁
 refine qa6 (qbj w1.hr r1 q1) fun la vs ev il rl=>?_
 subst ev
 have hv:vs.length=ns.length:=by rw [rl.length,ya]
 refine qv9 w.room.handled il rl.toInts (by rw [List.size_toArray,hv];exact Nat.lt_of_le_of_lt q2 (by decide)) fun h₂ tk2 ks sr nd mem hlen k2=>wpAny_items_nil ?_
 rw [List.size_toArray,hv] at hlen
 refine qpz w.room.handled sr (Nat.lt_of_le_of_lt hlen q2) fun h3 tk3 d3 L out ms e3 k3 nL hL hI pm pw=>?_
 have nL1:s₁.heap.get? L=none:=by
  cases z:s₁.heap.get? L with
  | none=>rfl
  | some o=>exact qa1 nL (k2 L o z)
 have po:Post P.B ι1 s₁ (ι1++[L]) (H1++[.list (ms.map .int)]) { s₁ with heap:=h3,toks:=tk3 }:=Post.alloc w1.hr (fun b o e=>k3 b o (k2 b o e)) nL1 ⟨out,⟨e3,hL⟩,VRs.ofInts hI⟩
 have po':Post P.B ι1 s₁ (ι1++[L]) (H1++[.list (ms.map .int)]) { s₁ with heap:=h3,toks:=tk3,drawn:=d3 }:=⟨po.pre,po.hr,po.kept,po.new,rfl,rfl⟩
 refine Gives.before p₁ ⟨_,_,.ref H1.length,po',⟨_,rfl,by rw [←w1.hr.len];simp⟩,q3 ms (pm.nodup_iff.mpr nd) pw fun q=>(pm.mem_iff).trans (mem q)⟩
section
variable {Ξ:PEnv->Nat->Prop}{G:GT}{C:Ctx}
theorem CSX.asgS {n:Str}{a:ME}{x:Expr}{p p1 p2 pos2 pos3:Pos}(sl:Slot C i n) (hx:CE G C a x) (g1:GN C "sorted") (g2:GN C "set") (h2:∀ {P d},Ξ P d->qrw P)
  (hsw:∀ env,swapsWith (.Call (.Name "sorted" p1) [.Call (.Name "set" p2) [x] [] pos2] [] pos) (some (.Name n p)) pos3.line env=pure false) :
  CSX Ξ G C (.asgS i a) (.Assign [.Name n p] (.Call (.Name "sorted" p1) [.Call (.Name "set" p2) [x] [] pos2] [] pos) pos3):=⟨fun ok ξ hΦ _ _ Q w =>
 (qir sl (qxf ok.toOK g1 g2 (ok.blt .sorted) (h2 ξ) ((hx.snd ok hΦ w).1.mono fun _ _ q=>q) fun env=>hx.star _ env) hsw).x⟩
end
end Mine
namespace Mine
open PySem
local macro_rules |`(tactic| walk_at "wp")=>do
 let pre ←("ss_nil ss_cons thenS_next thenS_ret s_asg s_asgT s_sto s_ite s_ret s_ret0 s_expr s_for whlK_ret forK_ret end_ret end_next k_bin1 k_bin2 k_cmp1 k_cmp2 k_c1 k_c2 k_c3 k_c4t k_c4f k_not k_neg k_and k_andt k_andf k_or k_ort k_orf k_call k_bi k_isi k_idx1 k_idx2 k_s1 k_s2n k_s2o k_s4n k_s4o k_s6 k_t1 k_t2n k_t2o k_t4n k_t4o k_tup k_lst k_m1 k_m2 k_e1 k_e2 k_cs k_cst k_csf k_it k_asg k_asgT k_sto1 k_sto2 k_sto3 k_sto4 k_ite k_itet k_itef k_ret k_exp k_whl k_whlt k_whlf e_cst e_loc0 e_locS e_bin e_cmp e_cmp2 e_not e_neg e_and2 e_or2 e_call e_bi e_isi e_idx e_slc e_slcT e_rev e_tup e_lst e_dic0 e_dic1 k_d1 k_d3 r_enum e_meth e_comp es_nil es_cons cs_nil cs_cons withL_some b_add b_sub b_mul b_mod b_fdiv b_pow b_addT c_lt c_le c_gt c_ge c_eqI c_neI c_eqS c_neS c_eqB c_neB i_tup0 i_tup1 i_tup2 l_tup l_fro g_tup n_bool n_min n_max r_one r_two r_tup".splitOn " ").toArray.mapM fun n=>`(Lean.Parser.Tactic.simpLemma| ↓ $(Lean.mkIdent n.toName):term)
 let post ←("set0 setS mapC mapN appC appN repS repZ sAc sAn zipC zipN zipM Bool.not_true Bool.not_false".splitOn " ").toArray.mapM fun n=>`(Lean.Parser.Tactic.simpLemma| $(Lean.mkIdent n.toName):term)
 let all:Lean.TSyntaxArray [``Lean.Parser.Tactic.simpStar,``Lean.Parser.Tactic.simpErase,``Lean.Parser.Tactic.simpLemma]:=(pre++post).map fun x=>⟨x.raw⟩
 `(tactic| try simp only [$all,*])
local macro_rules |`(tactic| walk_at "om")=>`(tactic| first|decide|with_reducible assumption|with_reducible exact Int.emod_nonneg _ (by decide)|with_reducible exact yk _ (by decide)|omega)
local macro_rules |`(tactic| walk_at "sd")=>`(tactic| first|decide|exact ye rfl|rfl|exact qlk (by decide)|with_reducible assumption|omega|(simp [sizeLine];done))
local macro_rules |`(tactic| walk_at "go")=>`(tactic| ((walk_at "wp");repeat (with_reducible refine And.intro ?sd ?_;(case sd=>walk_at "sd"))))
local macro_rules |`(tactic| walk_at "wx")=>`(tactic| try simp -implicitDefEqProofs only [↓wps,lst])
local macro_rules |`(tactic| walk_at "gx")=>`(tactic| ((walk_at "wx");repeat (with_reducible refine And.intro ?sd ?_;(case sd=>walk_at "sd"))))
section
open PySem
abbrev CK (P:PEnv) (n:Nat):Fun:=fun f a H Q=>qa2 P n f a H Q XF
noncomputable def qck:MF:=⟨2,2,
 [.ite (.cmp .lt (.loc 1) (.bi .len [.loc 0])) [.ret (.idx (.loc 0) (.loc 1))] [],
 .ret (.cst (.int 0))]⟩
noncomputable def qfy:MF:=⟨1,1,
 [.ret (.and2 (.isi (.loc 0) .int) (.not (.isi (.loc 0) .bool)))]⟩
noncomputable def qfw:MF:=⟨3,4,
 [.asg 3 (.bin .mod (.cst (.int 1)) (.loc 2)),
 .asg 0 (.bin .mod (.loc 0) (.loc 2)),
 .whl (.cmp .gt (.loc 1) (.cst (.int 0))) [.ite (.cmp .eq (.bin .mod (.loc 1) (.cst (.int 2))) (.cst (.int 1))) [.asg 3 (.bin .mod (.bin .mul (.loc 3) (.loc 0)) (.loc 2))] [],
  .asg 0 (.bin .mod (.bin .mul (.loc 0) (.loc 0)) (.loc 2)),
  .asg 1 (.bin .fdiv (.loc 1) (.cst (.int 2)))],
 .ret (.loc 3)]⟩
noncomputable def qdp:MF:=⟨3,6,
 [.asg 3 (.lst []),
 .asg 4 (.cst (.int 7)),
 .forr false [5] .range [.loc 2] [.asg 4 (.bin .mod (.bin .add (.bin .add (.bin .add (.bin .mul (.loc 4) (.cst (.int 48271))) (.call "_law_cell_at" [.loc 0,.bin .add (.loc 1) (.loc 5)])) (.bin .mul (.cst (.int 31)) (.loc 5))) (.cst (.int 1))) (.cst (.int 2147483647))),
  .expr (.meth .append (.loc 3) [.loc 4])],
 .ret (.loc 3)]⟩
theorem qbe {a b:Int}(ha:a.natAbs<2^200) (hb:b.natAbs<2^200):IntMulOk a b :=
 IntMulOk.of_bits (Nat.le_trans (qc7 ha) (by decide)) (Nat.le_trans (qc7 hb) (by decide))
theorem qhe {a b:Int}(h:b.natAbs<2^200):NoPy a b:=noPy (Nat.lt_of_lt_of_le h (Nat.pow_le_pow_right (by decide) (by decide)))
def qx6 (Φ:Fun):Prop:=∀ (l:List Int) (k:Int) (H:Hp) (Q:PQ),0<=k->l.length<=63->Q (.int ((l[k.toNat]?).getD 0)) H->Φ "_law_cell_at" [.fro (l.map .int),.int k] H Q
theorem qu7 {l:List Int}{k:Int}{Q:PQ}(hk:0<=k) (hl:l.length<=63) (h:Q (.int ((l[k.toNat]?).getD 0)) H):wpF Φ qck [.fro (l.map .int),.int k] H Q:=by
 ((refine ⟨rfl,?_⟩;simp only [lst,Nat.reduceSub,Nat.sub_self,List.replicate]))
 simp only [qck]
 walk_at "wp"
 refine ⟨by simp;exact z38 hl,?_⟩
 refine qa7 (fun hlt=>?_) (fun hlt=>?_)
 ·walk_at "wp"
  simp at hlt
  refine qgx rfl (by simp;exact z38 hl) hk (z:=.int (l[k.toNat]'(by exact (Int.toNat_lt hk).mpr hlt))) (by simp) ?_
  have e:l[k.toNat]?=some (l[k.toNat]'(by exact (Int.toNat_lt hk).mpr hlt)):=List.getElem?_eq_getElem (by exact (Int.toNat_lt hk).mpr hlt)
  rw [e] at h;exact h
 ·walk_at "wp"
  simp at hlt
  have e:l[k.toNat]?=none:=List.getElem?_eq_none (by exact z39 hlt)
  rw [e] at h;exact h
theorem whole {i:Int}{Q:PQ}(h:Q (.bool true) H):wpF Φ qfy [.int i] H Q:=by
 ((refine ⟨rfl,?_⟩;simp only [lst,Nat.reduceSub,Nat.sub_self,List.replicate]))
 simp only [qfy]
 walk_at "wp"
 simp only [isi]
 walk_at "wp"
 exact h
noncomputable def pw (b e m:Int):Int:=b^e.toNat%m
theorem qd1 {x m:Int}(h0:0<=x) (h1:x<m) (hm:m<=10^32):x.natAbs<2^200:=by
 have:x.natAbs<10^32:=by exact z40 h0 h1 hm
 exact Nat.lt_of_lt_of_le this (by decide)
def SPow (Φ:Fun):Prop:=∀ (b e m:Int) (H:Hp) (Q:PQ),0<=e->1<=m->m<=10^32->Q (.int (pw b e m)) H->Φ "powered" [.int b,.int e,.int m] H Q
theorem qkb (y m:Int) (k:Nat):(y%m)^k%m=y^k%m:=by
 induction k with
 | zero=>rw [Int.pow_zero,Int.pow_zero]
 | succ k ih=>rw [Int.pow_succ,Int.pow_succ,Int.mul_emod,ih,Int.emod_emod_of_dvd _ (Int.dvd_refl m),←Int.mul_emod]
theorem qqd (b f:Int) (e:Nat) (m:Int):(if e%2=1 then f*b%m else f)*(b*b%m)^(e/2)%m=f*b^e%m:=by
 have h2:b^e=(b*b)^(e/2)*b^(e%2):=by
  have:b*b=b^2:=by rw [Int.pow_succ,Int.pow_succ,Int.pow_zero,Int.one_mul]
  rw [this,←Int.pow_mul,←Int.pow_add]
  congr 1;exact z41
 have h3:∀ (k:Nat) (x y:Int),x*(y%m)^k%m=x*y^k%m:=fun k x y=>by
  rw [Int.mul_emod,qkb,←Int.mul_emod]
 rw [h3,h2]
 split
 ·rename_i h1
  rw [h1,Int.pow_succ,Int.pow_zero,Int.one_mul,Int.mul_emod (f*b%m),Int.emod_emod_of_dvd _ (Int.dvd_refl m),←Int.mul_emod]
  congr 1
  rw [Int.mul_comm ((b*b)^(e/2)) b,Int.mul_assoc]
 ·rename_i h1
  have:e%2=0:=by exact Nat.mod_two_ne_one.mp h1
  rw [this,Int.pow_zero,Int.mul_one]
theorem powered {b e m:Int}{Q:PQ}(he:0<=e) (hm:1<=m) (hm2:m<=10^32) (h:Q (.int (pw b e m)) H):wpF Φ qfw [.int b,.int e,.int m] H Q:=by
 ((refine ⟨rfl,?_⟩;simp only [lst,Nat.reduceSub,Nat.sub_self,List.replicate]))
 simp only [qfw]
 walk_at "wp"
 simp only [qae (show (0:Int)<=m by exact Int.le_of_lt hm)]
 refine ⟨by exact Ne.symm (Int.ne_of_lt hm),by exact Ne.symm (Int.ne_of_lt hm),?_⟩
 refine qen (fun n loc H'=>∃ (f b':Int) (e':Nat),loc=[some (.int b'),some (.int e'),some (.int m),some (.int f)]/\H'=H/\0<=f/\f<m/\0<=b'/\b'<m/\e'=n/\f*b'^e'%m=b^e.toNat%m) e.toNat ⟨1%m,b%m,e.toNat,?_,rfl,Int.emod_nonneg _ (by exact Ne.symm (Int.ne_of_lt hm)),yk _ (by exact Int.lt_of_add_one_le hm),Int.emod_nonneg _ (by exact Ne.symm (Int.ne_of_lt hm)),yk _ (by exact Int.lt_of_add_one_le hm),rfl,?_⟩ ?_
 ·rw [Int.toNat_of_nonneg he]
 ·rw [Int.mul_emod,Int.emod_emod_of_dvd _ (Int.dvd_refl m),qkb,←Int.mul_emod,Int.one_mul]
 ·rintro n loc H' ⟨f,b',e',rfl,rfl,hf0,hf1,hb0,hb1,rfl,hi⟩
  have kf:f.natAbs<2^200:=qd1 hf0 hf1 hm2
  have kb:b'.natAbs<2^200:=qd1 hb0 hb1 hm2
  walk_at "wp"
  refine qa7 (fun hpos=>?_) (fun hpos=>?_)
  ·walk_at "wp"
   simp only [qae (show (0:Int)<=2 by walk_at "om")]
   refine ⟨by decide,?_⟩
   have st:=qqd b' f e' m
   have e2:((e':Int)/2)=((e'/2:Nat):Int):=by exact z42
   have hlt:e'/2<e':=by exact z43 hpos
   have bb0:=Int.emod_nonneg (b'*b') (show m≠0 by exact z44 hf0 hf1)
   have bb1:=yk (b'*b') (show 0<m by exact Int.lt_of_le_of_lt hb0 hb1)
   refine qa7 (fun h1=>?_) (fun h1=>?_)
   ·walk_at "wp"
    simp only [qae (show (0:Int)<=m by exact z45 bb0 bb1),qal (show (0:Int)<=2 by walk_at "om")]
    have h1':e'%2=1:=by exact Eq.symm ((fun {m n}=>Int.ofNat_inj.mp) (id (Eq.symm h1)))
    rw [if_pos h1'] at st
    refine ⟨qbe kf kb,by exact z44 bb0 bb1,qbe kb kb,by exact z44 bb0 bb1,by decide,qhe (by decide),?_⟩
    exact qaq (e'/2) hlt ⟨f*b'%m,b'*b'%m,e'/2,by rw [e2],rfl,Int.emod_nonneg _ (by exact z44 bb0 bb1),yk _ (by exact Int.lt_of_le_of_lt bb0 bb1),bb0,bb1,rfl,by rw [st];exact hi⟩
   ·walk_at "wp"
    simp only [qae (show (0:Int)<=m by exact z45 bb0 bb1),qal (show (0:Int)<=2 by walk_at "om")]
    have h1':¬ e'%2=1:=by exact ne_of_apply_ne Int.ofNat h1
    rw [if_neg h1'] at st
    refine ⟨qbe kb kb,by exact z44 bb0 bb1,by decide,qhe (by decide),?_⟩
    exact qaq (e'/2) hlt ⟨f,b'*b'%m,e'/2,by rw [e2],rfl,hf0,hf1,bb0,bb1,rfl,by rw [st];exact hi⟩
  ·walk_at "wp"
   have:e'=0:=by exact z46 hpos
   subst this
   rw [Int.pow_zero,Int.mul_one,Int.emod_eq_of_lt hf0 hf1] at hi
   show Q (.int f) H'
   rw [hi];exact h
structure CellsB (B:Int) (cs:List Int) (n:Nat):Prop where
 len:cs.length=n
 bd:∀ c∈cs,0<=c/\c<B
abbrev qdu (cs:List Int) (n:Nat):Prop:=CellsB 4294967296 cs n
theorem CellsB.up {cs:List Int}(h:CellsB 2147483647 cs n):qdu cs n:=⟨h.len,fun c hc=>by have:=h.bd c hc;exact z47 this⟩
def qpb (Φ:Fun):Prop:=∀ (l:List Int) (a:Int) (n:Nat) (H:Hp) (Q:PQ),0<=a->l.length<=63->n<=1000->(∀ cs,CellsB 2147483647 cs n->Q (.ref H.length) (H++[.list (cs.map .int)]))->Φ "_law_mixed" [.fro (l.map .int),.int a,.int n] H Q
theorem qwo (c:qx6 Φ){l:List Int}{a:Int}{Q:PQ}(ha:0<=a) (hl:l.length<=63) (hn:n<=1000) (h:∀ cs,CellsB 2147483647 cs n->Q (.ref H.length) (H++[.list (cs.map .int)])):wpF Φ qdp [.fro (l.map .int),.int a,.int n] H Q:=by
 ((refine ⟨rfl,?_⟩;simp only [lst,Nat.reduceSub,Nat.sub_self,List.replicate]))
 simp only [qdp]
 walk_at "wp"
 refine ⟨by decide,by exact z48,by exact z49 hn,?_⟩
 refine qao (fun i loc H'=>∃ (cs:List Int) (more:Int) (o:Option AV),CellsB 2147483647 cs i/\0<=more/\more<2147483647/\H'=H++[.list (cs.map .int)]/\loc=[some (.fro (l.map .int)),some (.int a),some (.int n),some (.ref H.length),some (.int more),o]) ⟨[],7,none,⟨rfl,fun c hc=>by simp at hc⟩,by walk_at "om",by walk_at "om",rfl,rfl⟩ ?_
 rintro i loc H' ⟨cs,more,o,hc,h0,h1,rfl,rfl⟩
 refine ⟨trivial,fun y hy=>?_,fun hi=>?_⟩
 ·have hlt:i<n:=by
   have:=(yl hy).1
   simpa using this
  rw [List.getElem?_map,List.getElem?_range (by simpa using hlt)] at hy
  simp only [Option.map_some,Option.some.injEq] at hy
  subst hy
  refine ⟨[.int i],rfl,?_⟩
  walk_at "wp"
  refine ⟨qc6 (Nat.lt_of_le_of_lt (show more.natAbs<=2147483647 by exact z50 h0 h1) (by decide)),?_⟩
  refine c l _ _ _ (by exact z51 ha) hl ?_
  walk_at "wp"
  simp only [qae (show (0:Int)<=2147483647 by walk_at "om")]
  refine ⟨qc6 (by decide),by decide,?_⟩
  generalize hx:(more*48271+(l[(a+i).toNat]?).getD 0+31*i+1)%2147483647=x
  have x0:0<=x:=by rw [←hx];exact Int.emod_nonneg _ (by decide)
  have x1:x<2147483647:=by rw [←hx];exact yk _ (by decide)
  have hg:(H++[AObj.list (cs.map AV.int)])[H.length]?=some (.list (cs.map AV.int)):=by simp
  refine ⟨qa0 hg,?_⟩
  rw [qfg hg]
  refine ⟨by rw [ya,hc.len];unfold sizeLine;exact z52 hn hlt,?_⟩
  walk_at "wp"
  refine qaj ⟨cs++[x],x,some (.int i),⟨by simp [hc.len],fun c' hc'=>?_⟩,x0,x1,?_,rfl⟩
  ·rcases yd hc' with m|m
   ·exact hc.bd c' m
   ·simp at m;rw [m];exact ⟨x0,x1⟩
  ·rw [List.set_append_right _ _ (Nat.le_refl _)];simp
 ·walk_at "wp"
  have:i=n:=by simpa using hi
  subst this
  exact h cs hc
end
section
open PySem
noncomputable def qdo:MF:=⟨3,6,
 [.asg 3 (.lst []),
 .whl (.cmp .gt (.loc 1) (.cst (.int 0))) [.expr (.meth .append (.loc 3) [.bin .mod (.loc 1) (.cst (.int 2))]),
  .asg 1 (.bin .fdiv (.loc 1) (.cst (.int 2)))],
 .asg 4 (.bin .mod (.cst (.int 1)) (.loc 2)),
 .forr false [5] .revd [.loc 3] [.asg 4 (.bin .mod (.bin .mul (.loc 4) (.loc 4)) (.loc 2)),
  .ite (.cmp .eq (.loc 5) (.cst (.int 1))) [.asg 4 (.bin .mod (.bin .mul (.loc 4) (.loc 0)) (.loc 2))] []],
 .ret (.loc 4)]⟩
noncomputable def qdn:MF:=⟨3,5,
 [.ite (.cmp .ne (.call "_law_power" [.loc 1,.bin .sub (.loc 0) (.cst (.int 1)),.loc 0]) (.cst (.int 1))) [.ret (.cst (.bool false))] [],
 .forr true [3,4] .plain [.loc 2] [.ite (.cmp .eq (.call "_law_power" [.loc 1,.bin .fdiv (.bin .sub (.loc 0) (.cst (.int 1))) (.loc 3),.loc 0]) (.cst (.int 1))) [.ret (.cst (.bool false))] []],
 .ret (.cst (.bool true))]⟩
noncomputable def qb4:MF:=⟨1,2,
 [.asg 1 (.cst (.int 2)),
 .whl (.cmp .le (.bin .mul (.loc 1) (.loc 1)) (.loc 0)) [.ite (.cmp .eq (.bin .mod (.loc 0) (.loc 1)) (.cst (.int 0))) [.ret (.cst (.bool false))] [],
  .asg 1 (.bin .add (.loc 1) (.cst (.int 1)))],
 .ret (.cmp .gt (.loc 0) (.cst (.int 1)))]⟩
noncomputable def qcj:MF:=⟨1,4,
 [.asg 1 (.lst []),
 .asg 2 (.cst (.int 2)),
 .whl (.cmp .gt (.loc 0) (.cst (.int 1))) [.asg 3 (.cst (.int 0)),
  .whl (.cmp .eq (.bin .mod (.loc 0) (.loc 2)) (.cst (.int 0))) [.asg 0 (.bin .fdiv (.loc 0) (.loc 2)),
   .asg 3 (.bin .add (.loc 3) (.cst (.int 1)))],
  .ite (.cmp .gt (.loc 3) (.cst (.int 0))) [.expr (.meth .append (.loc 1) [.tup [.loc 2,.loc 3]])] [],
  .asg 2 (.bin .add (.loc 2) (.cst (.int 1)))],
 .ret (.bi .tuple [.loc 1])]⟩
noncomputable def qbt:MF:=⟨2,4,
 [.ite (.cmp .eq (.loc 0) (.cst (.int 2))) [.ret (.tup [.cst (.int 2),.cst (.str "first"),.tup []])] [],
 .asg 2 (.call "_law_factors" [.bin .sub (.loc 0) (.cst (.int 1))]),
 .asg 3 (.bin .add (.cst (.int 1)) (.bin .mod (.loc 1) (.bin .sub (.loc 0) (.cst (.int 1))))),
 .whl (.not (.call "_law_round" [.loc 0,.loc 3,.loc 2])) [.asg 3 (.bin .add (.bin .mod (.loc 3) (.bin .sub (.loc 0) (.cst (.int 1)))) (.cst (.int 1)))],
 .ret (.tup [.loc 0,.cst (.str "prime"),.tup [.loc 3,.loc 2]])]⟩
noncomputable def qaz:MF:=⟨2,6,
 [.asg 2 (.comp false 1 (.loc 6) .range [.cst (.int 2),.loc 0] [.cmp .eq (.bin .mod (.loc 0) (.loc 6)) (.cst (.int 0))]),
 .asg 3 (.comp false 1 (.loc 6) .range [.cst (.int 2),.bin .sub (.loc 0) (.cst (.int 1))] [.cmp .eq (.bin .mod (.bin .mul (.loc 6) (.loc 6)) (.loc 0)) (.cst (.int 1))]),
 .asg 4 (.idx (.loc 2) (.bin .mod (.bin .fdiv (.loc 1) (.cst (.int 4))) (.bi .len [.loc 2]))),
 .ite (.and2 (.cmp .eq (.bin .mod (.loc 1) (.cst (.int 4))) (.cst (.int 0))) (.cmp .gt (.bi .len [.loc 3]) (.cst (.int 0)))) [.ret (.tup [.loc 0,.cst (.str "root"),.tup [.idx (.loc 3) (.bin .mod (.bin .fdiv (.loc 1) (.cst (.int 4))) (.bi .len [.loc 3]))]])] [],
 .ite (.cmp .gt (.bin .mod (.loc 1) (.cst (.int 4))) (.cst (.int 1))) [.ret (.tup [.loc 0,.cst (.str "split"),.tup [.loc 4,.bin .fdiv (.loc 0) (.loc 4)]])] [],
 .asg 5 (.bin .add (.cst (.int 1)) (.bin .mod (.bin .fdiv (.loc 1) (.cst (.int 4))) (.bin .sub (.loc 0) (.cst (.int 1))))),
 .whl (.cmp .eq (.call "_law_power" [.loc 5,.bin .sub (.loc 0) (.cst (.int 1)),.loc 0]) (.cst (.int 1))) [.asg 5 (.bin .add (.bin .mod (.loc 5) (.bin .sub (.loc 0) (.cst (.int 1)))) (.cst (.int 1)))],
 .ret (.tup [.loc 0,.cst (.str "power"),.tup [.loc 5]])]⟩
noncomputable def qcl:MF:=⟨1,5,
 [.asg 1 (.lst [.tup [.cst (.int 65537),.cst (.int 3),.tup [.tup [.cst (.int 2),.cst (.int 16)]]],.tup [.cst (.int 998244353),.cst (.int 3),.tup [.tup [.cst (.int 2),.cst (.int 23)],.tup [.cst (.int 7),.cst (.int 1)],.tup [.cst (.int 17),.cst (.int 1)]]]]),
 .asg 1 (.bin .add (.loc 1) (.lst [.tup [.cst (.int 2013265921),.cst (.int 31),.tup [.tup [.cst (.int 2),.cst (.int 27)],.tup [.cst (.int 3),.cst (.int 1)],.tup [.cst (.int 5),.cst (.int 1)]]],.tup [.cst (.int 4179340454199820289),.cst (.int 3),.tup [.tup [.cst (.int 2),.cst (.int 57)],.tup [.cst (.int 29),.cst (.int 1)]]]])),
 .asgT [2,3,4] (.idx (.loc 1) (.bin .mod (.loc 0) (.cst (.int 4)))),
 .asg 3 (.call "_law_power" [.loc 3,.idx (.lst [.cst (.int 1),.cst (.int 11),.cst (.int 13),.cst (.int 19),.cst (.int 23)]) (.bin .mod (.bin .fdiv (.loc 0) (.cst (.int 4))) (.cst (.int 5))),.loc 2]),
 .ret (.tup [.loc 2,.cst (.str "prime"),.tup [.loc 3,.loc 4]])]⟩
noncomputable def qaw:MF:=⟨1,1,
 [.ite (.cmp .eq (.idx (.loc 0) (.cst (.int 1))) (.cst (.str "prime"))) [.ret (.comp true 2 (.loc 1) .plain [.idx (.idx (.loc 0) (.cst (.int 2))) (.cst (.int 1))] [])] [],
 .ret (.lst [])]⟩
noncomputable def qcy:MF:=⟨3,5,
 [.whl (.cmp .gt (.bi .len [.loc 1]) (.cst (.int 0))) [.asg 3 (.meth .pop (.loc 1) []),
  .ite (.cmp .notIn (.loc 3) (.loc 0)) [.asg 4 (.idx (.loc 2) (.bin .mod (.bin .add (.loc 3) (.bi .len [.loc 0])) (.bi .len [.loc 2]))),
   .ite (.call "_law_is_prime" [.loc 3]) [.sto (.loc 0) (.loc 3) (.call "_law_prime_row" [.loc 3,.loc 4])] [.sto (.loc 0) (.loc 3) (.call "_law_parted_row" [.loc 3,.loc 4])],
   .expr (.meth .extend (.loc 1) [.call "_law_needs" [.idx (.loc 0) (.loc 3)]])] []],
 .ret (.comp false 1 (.idx (.loc 0) (.loc 5)) .plain [.bi .sorted [.loc 0]] [])]⟩
theorem qab {o:AObj}:(H++[o])[H.length]?=some o:=by simp
theorem qaa {t:Hp}:H<+:H++t:=List.prefix_append _ _
theorem qav {H H':Hp}{i:Nat}{o:AObj}(p:H<+:H') (h:H.length<=i):H<+:H'.set i o:=by
 refine qar (p) fun t eQ1=>?_
 clear p
 subst eQ1
 rw [List.set_append_right _ _ h];exact List.prefix_append _ _
theorem qac {H H':Hp}{i:Nat}{o:AObj}(p:H<+:H') (h:H[i]?=some o):H'[i]?=some o:=by
 refine qar (p) fun t eQ1=>?_
 clear p
 subst eQ1
 rw [List.getElem?_append_left (yl h).1];exact h
theorem szL (h:n<=1000):n<=sizeLine:=by unfold sizeLine;exact z53 h
theorem szB (h:n<=100000):n<=sizeLine:=by unfold sizeLine;exact z54 h
noncomputable def hv (l:List Int) (a:Nat):Nat:=l.foldl (fun a x=>2*a+x.toNat) a
theorem qnw (l:List Int) (x:Int) (a:Nat):hv (l++[x]) a=2*hv l a+x.toNat:=by simp [hv,List.foldl_append]
theorem qub (l:List Int) (x:Int) (a:Nat):hv (x::l) a=hv l (2*a+x.toNat):=rfl
def qg5 (Φ:Fun):Prop:=∀ (b e m:Int) (H:Hp) (Q:PQ),b.natAbs<2^200->0<=e->e<10^32->1<=m->m<=10^32->Q (.int (pw b e m)) H->Φ "_law_power" [.int b,.int e,.int m] H Q
theorem power {b e m:Int}{Q:PQ}(hb:b.natAbs<2^200) (e0:0<=e) (e1:e<10^32) (m0:1<=m) (m1:m<=10^32) (h:∀ H',H<+:H'->Q (.int (pw b e m)) H'):wpF Φ qdo [.int b,.int e,.int m] H Q:=by
 ((refine ⟨rfl,?_⟩;simp only [lst,Nat.reduceSub,Nat.sub_self,List.replicate]))
 simp only [qdo]
 walk_at "go"
 refine qen (fun n loc H'=>∃ (bs:List Int),loc=[some (.int b),some (.int n),some (.int m),some (.ref H.length),none,none]/\H'=H++[.list (bs.map .int)]/\(∀ x∈bs,x=0\/x=1)/\hv bs.reverse n=e.toNat/\n*2^bs.length<=e.toNat) e.toNat ⟨[],by rw [Int.toNat_of_nonneg e0],rfl,(fun x hx=>by cases hx),rfl,by simp⟩ ?_
 rintro n loc H' ⟨bs,rfl,rfl,h01,hh,hle⟩
 walk_at "wp"
 have hg:(H++[AObj.list (bs.map AV.int)])[H.length]?=some (.list (bs.map AV.int)):=qab
 refine qa7 (fun hn=>?_) (fun hn=>?_)
 ·walk_at "go"
  have hl:bs.length<=200:=by
   rcases Nat.lt_or_ge bs.length 200 with h|h
   ·exact Nat.le_of_succ_le h
   ·exfalso
    have h1:2^200<=2^bs.length:=Nat.pow_le_pow_right (by decide) h
    have h2:2^bs.length<=n*2^bs.length:=Nat.le_mul_of_pos_left _ (by exact Int.natCast_pos.mp hn)
    have h3:e.toNat<10^32:=by exact z55 e1
    have h4:(10:Nat)^32<2^200:=by decide
    exact z56 hle h1 h2 h3
  refine ⟨qa0 hg,?_⟩
  walk_at "go"
  rw [qfg hg]
  refine ⟨szL (by simp;exact z57 hl),?_⟩
  walk_at "go"
  (simp only [qae,qal,Int.reduceLE])
  refine qaq (n/2) (by exact z43 hn) ⟨bs++[(n:Int)%2],by rw [show ((n:Int)/2)=((n/2:Nat):Int) by exact z42],?_,fun x hx=>?_,?_,?_⟩
  ·rw [List.set_append_right _ _ (Nat.le_refl _)];simp
  ·rcases yd hx with hx|hx
   ·exact h01 x hx
   ·rw [yb hx];exact z58
  ·rw [List.reverse_append,List.reverse_singleton,List.singleton_append,qub,←hh]
   congr 1;exact z59
  ·rw [List.length_append,List.length_singleton,Nat.pow_succ]
   have:n/2*(2^bs.length*2)=(n/2*2)*2^bs.length:=by rw [Nat.mul_comm (2^bs.length) 2,Nat.mul_assoc]
   rw [this]
   exact Nat.le_trans (Nat.mul_le_mul_right _ (by exact z60)) hle
 ·walk_at "wp"
  have n0:n=0:=by exact z46 hn
  subst n0
  refine ⟨by exact Ne.symm (Int.ne_of_lt m0),?_⟩
  rw [qyr hg]
  simp only [qae (show (0:Int)<=m by exact Int.le_of_lt m0)]
  have key:∀ (a:Nat) (x:Int),x=0\/x=1->(if x=1 then (b^a%m*(b^a%m)%m)*b%m else b^a%m*(b^a%m)%m)=b^(2*a+x.toNat)%m:=by
   intro a x hx
   have h2:b^a%m*(b^a%m)%m=b^(2*a)%m:=by rw [←Int.mul_emod,←Int.pow_add];congr 2;exact z61
   rcases hx with rfl|rfl
   ·rw [if_neg (by decide),h2];rfl
   ·rw [if_pos rfl,h2,Int.mul_emod,Int.emod_emod_of_dvd _ (Int.dvd_refl m),←Int.mul_emod,←Int.pow_succ];rfl
  refine qao (fun i loc H'=>∃ (f:Int) (o:Option AV),H'=H++[AObj.list (bs.map .int)]/\0<=f/\f<m/\f=b^hv (bs.reverse.take i) 0%m/\loc=[some (.int b),some (.int 0),some (.int m),some (.ref H.length),some (.int f),o]) ⟨1%m,none,rfl,Int.emod_nonneg _ (by exact Ne.symm (Int.ne_of_lt m0)),yk _ (by exact Int.lt_of_add_one_le m0),by simp [hv],rfl⟩ ?_
  rintro i loc H' ⟨f,o,rfl,f0,f1,hf,rfl⟩
  refine ⟨hg,fun y hy=>?_,fun hi=>?_⟩
  ·rw [←List.map_reverse,List.getElem?_map] at hy
   refine qad (yf hy) fun x hx eQ2=>?_
   subst eQ2
   have x01:x=0\/x=1:=h01 x (by have:=yc hx;simpa using this)
   have ht:bs.reverse.take (i+1)=bs.reverse.take i++[x]:=by rw [List.take_add_one,hx];rfl
   have kf:f.natAbs<2^200:=qd1 f0 f1 m1
   have ff0:=Int.emod_nonneg (f*f) (show m≠0 by exact z44 f0 f1)
   have ff1:=yk (f*f) (show 0<m by exact Int.lt_of_le_of_lt f0 f1)
   have kff:(f*f%m).natAbs<2^200:=qd1 ff0 ff1 m1
   have kk:=key (hv (bs.reverse.take i) 0) x x01
   rw [←hf] at kk
   refine ⟨[.int x],rfl,?_⟩
   walk_at "wp"
   refine ⟨qbe kf kf,by exact z44 ff0 ff1,?_⟩
   simp only [qae (show (0:Int)<=m by exact z45 ff0 ff1)]
   refine qa7 (fun h1=>?_) (fun h1=>?_)
   ·walk_at "wp"
    refine ⟨qbe kff hb,by exact z44 ff0 ff1,?_⟩
    simp only [qae (show (0:Int)<=m by exact z45 ff0 ff1)]
    rw [if_pos h1] at kk
    exact qaj ⟨_,_,rfl,Int.emod_nonneg _ (by exact z44 ff0 ff1),yk _ (by exact Int.lt_of_le_of_lt ff0 ff1),by rw [ht,qnw];exact kk,rfl⟩
   ·walk_at "wp"
    rw [if_neg h1] at kk
    exact qaj ⟨_,_,rfl,ff0,ff1,by rw [ht,qnw];exact kk,rfl⟩
  ·walk_at "wp"
   have hl:bs.reverse.take i=bs.reverse:=List.take_of_length_le (by rw [hi];simp)
   rw [hl,hh] at hf
   rw [hf]
   exact h _ qaa
noncomputable def prAV (p:Int×Int):AV:=.tup [.int p.1,.int p.2]
noncomputable def psT (ps:List (Int×Int)):AV:=.tup (ps.map prAV)
noncomputable def qbd (n b:Int) (ps:List (Int×Int)):Bool:=decide (pw b (n-1) n=1)&&ps.all fun p=>!decide (pw b ((n-1)/p.1) n=1)
def qpa (Φ:Fun):Prop:=∀ (n b:Int) (ps:List (Int×Int)) (H:Hp) (Q:PQ),2<=n->n<=10^32->b.natAbs<2^200->(∀ p∈ps,1<=p.1/\p.1.natAbs<2^200)->Q (.bool (qbd n b ps)) H->Φ "_law_round" [.int n,.int b,psT ps] H Q
theorem qyn (c:qg5 Φ){n b:Int}{ps:List (Int×Int)}{Q:PQ}(n0:2<=n) (n1:n<=10^32) (hb:b.natAbs<2^200) (hp:∀ p∈ps,1<=p.1/\p.1.natAbs<2^200) (h:Q (.bool (qbd n b ps)) H):wpF Φ qdn [.int n,.int b,psT ps] H Q:=by
 unfold psT
 ((refine ⟨rfl,?_⟩;simp only [lst,Nat.reduceSub,Nat.sub_self,List.replicate]))
 simp only [qdn]
 walk_at "wp"
 refine c b (n-1) n H _ hb (by exact z62 n0) (by exact Int.sub_one_lt_of_le n1) (by exact Int.le_of_lt n0) n1 ?_
 walk_at "wp"
 refine qpy (fun h1=>?_) (fun h1=>?_)
 ·walk_at "wp"
  rw [show qbd n b ps=false by simp [qbd,h1]] at h;exact h
 walk_at "wp"
 have hr:qbd n b ps=ps.all fun p=>!decide (pw b ((n-1)/p.1) n=1):=by simp [qbd,h1]
 rw [hr] at h
 refine qao (fun i loc H'=>H'=H/\(∃ o1 o2,loc=[some (.int n),some (.int b),some (.tup (ps.map prAV)),o1,o2])/\(ps.drop i).all (fun p=>!decide (pw b ((n-1)/p.1) n=1))=ps.all fun p=>!decide (pw b ((n-1)/p.1) n=1)) ⟨rfl,⟨none,none,rfl⟩,by simp⟩ ?_
 rintro i loc H' ⟨rfl,⟨o1,o2,rfl⟩,hd⟩
 refine ⟨trivial,fun y hy=>?_,fun hi=>?_⟩
 ·rw [List.getElem?_map] at hy
  refine qad (yf hy) fun p hpp eQ2=>?_
  subst eQ2
  refine qar (yl hpp) fun hlt e=>?_
  have hpm:=hp p (yc hpp)
  rw [List.drop_eq_getElem_cons hlt,e,List.all_cons] at hd
  refine ⟨[.int p.1,.int p.2],rfl,?_⟩
  walk_at "wp"
  refine ⟨by exact z63 hpm,qhe hpm.2,?_⟩
  simp only [qal (show (0:Int)<=p.1 by exact z64 hpm)]
  have d0:0<=(n-1)/p.1:=Int.ediv_nonneg (by exact z62 n0) (by exact z64 hpm)
  have d1:(n-1)/p.1<=n-1:=Int.ediv_le_self _ (by exact z62 n0)
  refine c b ((n-1)/p.1) n H' _ hb d0 (by exact z65 n1 d1) (by exact z66 d0 d1) n1 ?_
  walk_at "wp"
  refine qa7 (fun h2=>?_) (fun h2=>?_)
  ·walk_at "wp"
   rw [show (!decide (pw b ((n-1)/p.1) n=1))=false by simp [h2],Bool.false_and] at hd
   rw [←hd] at h;exact h
  ·walk_at "wp"
   rw [show (!decide (pw b ((n-1)/p.1) n=1))=true by simp [h2],Bool.true_and] at hd
   exact qaj ⟨rfl,⟨_,_,rfl⟩,hd⟩
 ·walk_at "wp"
  have:ps.drop i=[]:=by rw [hi];simp
  rw [this] at hd
  rw [←hd] at h;exact h
end
section
open PySem
noncomputable def isPB (n:Nat):Bool:=decide (1<n)&&(List.range n).all fun d=>decide (d<2)||!decide (n%d=0)
theorem qlp (d2:2<=d) (dn:d<n) (h:n%d=0):isPB n=false:=by
 cases e:isPB n with
 | false=>rfl
 | true =>
  simp only [isPB,Bool.and_eq_true,List.all_eq_true,List.mem_range,Bool.or_eq_true,decide_eq_true_eq,Bool.not_eq_true',decide_eq_false_iff_not] at e
  rcases e.2 d dn with h1|h1
  ·(first|lia|omega)
  ·exact absurd h h1
theorem qio (n1:1<n) (h:∀ d,2<=d->d<n->n%d≠0):isPB n=true:=by
 simp only [isPB,Bool.and_eq_true,List.all_eq_true,List.mem_range,Bool.or_eq_true,decide_eq_true_eq,Bool.not_eq_true',decide_eq_false_iff_not]
 refine ⟨n1,fun d hd=>?_⟩
 rcases Nat.lt_or_ge d 2 with h1|h1
 ·exact .inl h1
 ·exact .inr (h d h1 hd)
theorem qt8 (n2:2<=n) (h:isPB n=false):∃ d,2<=d/\d<n/\n%d=0:=by
 apply Classical.byContradiction
 intro hc
 have:isPB n=true:=qio (by exact Nat.lt_of_succ_le n2) fun d h1 h2 h3=>hc ⟨d,h1,h2,h3⟩
 rw [this] at h;cases h
def SIsP (Φ:Fun):Prop:=∀ (n:Nat) (H:Hp) (Q:PQ),2<=n->n<=1000000->Q (.bool (isPB n)) H->Φ "_law_is_prime" [.int n] H Q
theorem qqs {Q:PQ}(n2:2<=n) (n6:n<=1000000) (h:Q (.bool (isPB n)) H):wpF Φ qb4 [.int n] H Q:=by
 ((refine ⟨rfl,?_⟩;simp only [lst,Nat.reduceSub,Nat.sub_self,List.replicate]))
 simp only [qb4]
 walk_at "wp"
 refine qen (fun k loc H'=>∃ a:Nat,k=n-a/\2<=a/\a<=n/\H'=H/\loc=[some (.int n),some (.int a)]/\∀ d,2<=d->d<a->n%d≠0) (n-2) ⟨2,rfl,by walk_at "om",by walk_at "om",rfl,rfl,fun d h1 h2=>by exact z67 h1 h2⟩ ?_
 rintro k loc H' ⟨a,rfl,a2,an,rfl,rfl,hd⟩
 walk_at "wp"
 refine ⟨qc6 (by exact z68 n6 an),?_⟩
 refine qa7 (fun hle=>?_) (fun hle=>?_)
 ·have hle':a*a<=n:=by
   have:((a*a:Nat):Int)<=n:=by rw [Int.natCast_mul];exact hle
   exact Int.ofNat_le.mp this
  have han:a<n:=by
   have:2*a<=a*a:=Nat.mul_le_mul_right _ a2
   exact z69 a2 hle' this
  walk_at "wp"
  refine ⟨by exact z70 a2,?_⟩
  simp only [qae (show (0:Int)<=a by exact z71)]
  refine qa7 (fun h0=>?_) (fun h0=>?_)
  ·walk_at "wp"
   rw [qlp a2 han (by walk_at "om")] at h;exact h
  ·walk_at "wp"
   refine qaq (n-(a+1)) (by exact z72 han) ⟨a+1,rfl,by exact Nat.le_add_right_of_le a2,by exact Nat.succ_le_of_lt han,rfl,rfl,fun d h1 h2=>?_⟩
   rcases Nat.lt_or_ge d a with h3|h3
   ·exact hd d h1 h3
   ·have:d=a:=by exact Nat.eq_of_le_of_lt_succ h3 h2
    subst this
    (first|lia|omega)
 ·walk_at "wp"
  have hgt:n<a*a:=by
   have:¬ ((a*a:Nat):Int)<=n:=by rw [Int.natCast_mul];exact hle
   exact z73 this
  rw [qio (by exact Nat.lt_of_lt_of_le a2 an) (fun d d2 dn h0=>?_)] at h
  ·rw [show decide ((1:Int)<n)=true by simp;exact z74 a2 an];exact h
  ·rcases Nat.lt_or_ge d a with h3|h3
   ·exact hd d d2 h3 h0
   ·have e1:n=d*(n/d):=(Nat.mul_div_cancel' (Nat.dvd_of_mod_eq_zero h0)).symm
    have q2:2<=n/d:=by
     rcases Nat.lt_or_ge (n/d) 2 with h4|h4
     ·have:d*(n/d)<=d*1:=Nat.mul_le_mul_left _ (by exact Nat.le_of_lt_succ h4)
      exact z75 dn e1 this
     ·exact h4
    have qa:n/d<a:=by
     rcases Nat.lt_or_ge (n/d) a with h4|h4
     ·exact h4
     ·have:a*a<=d*(n/d):=Nat.mul_le_mul h3 h4
      exact z76 hgt e1 this
    refine hd (n/d) q2 qa ?_
    exact Nat.mod_eq_zero_of_dvd ⟨d,by rw [Nat.mul_comm];exact e1⟩
noncomputable def qb1:Nat->Nat->Nat->Nat×Nat
 | 0,m,_=>(m,0)
 | k+1,m,a=>if m%a=0 then ((qb1 k (m/a) a).1,(qb1 k (m/a) a).2+1) else (m,0)
noncomputable def facL:Nat->Nat->Nat->List (Int×Int)
 | 0,_,_=>[]
 | k+1,m,a=>if m<=1 then [] else if 0<(qb1 m m a).2 then ((a:Int),((qb1 m m a).2:Int))::facL k (qb1 m m a).1 (a+1) else facL k (qb1 m m a).1 (a+1)
noncomputable def facF (n:Nat):List (Int×Int):=facL n n 2
theorem qfm {a:Nat}(a2:2<=a):∀ (k m:Nat),1<=m->m<=k->1<=(qb1 k m a).1/\(qb1 k m a).1%a≠0/\(qb1 k m a).1∣m/\(qb1 k m a).1<=m
 | 0,m,h1,h2=>by (first|lia|omega)
 | k+1,m,h1,h2=>by
  unfold qb1
  split
  ·rename_i h0
   have hq:1<=m/a:=by
    have:=Nat.le_of_dvd h1 (Nat.dvd_of_mod_eq_zero h0)
    exact (Nat.le_div_iff_mul_le (by exact Nat.zero_lt_of_lt a2)).mpr (by exact z77 this)
   have hlt:m/a<m:=Nat.div_lt_self h1 a2
   refine qh0 (qfm a2 k (m/a) hq (by exact z78 h2 hlt)) fun g1 g2 g3 g4=>?_
   exact ⟨g1,g2,Nat.dvd_trans g3 (Nat.div_dvd_of_dvd (Nat.dvd_of_mod_eq_zero h0)),by show _<=m;(first|lia|omega)⟩
  ·rename_i h0
   exact ⟨h1,h0,Nat.dvd_refl _,Nat.le_refl _⟩
theorem qk9 {m:Nat}(h:m%a=0):qb1 (k+1) m a=((qb1 k (m/a) a).1,(qb1 k (m/a) a).2+1):=if_pos h
def qvm (Φ:Fun):Prop:=∀ (n:Nat) (H:Hp) (Q:PQ),1<=n->n<=20000->Q (psT (facF n)) H->Φ "_law_factors" [.int n] H Q
theorem qum {Q:PQ}(n1:1<=n) (n5:n<=20000) (h:∀ H',H<+:H'->Q (psT (facF n)) H'):wpF Φ qcj [.int n] H Q:=by
 ((refine ⟨rfl,?_⟩;simp only [lst,Nat.reduceSub,Nat.sub_self,List.replicate]))
 simp only [qcj]
 walk_at "go"
 refine qen (fun k loc H'=>∃ (m a:Nat) (fs:List (Int×Int)) (o:Option AV),loc=[some (.int m),some (.ref H.length),some (.int a),o]/\H'=H++[.list (fs.map prAV)]/\1<=m/\m<=n/\2<=a/\(∀ d,2<=d->d<a->m%d≠0)/\n+2=k+a/\fs++facL k m a=facF n/\fs.length+2<=a) n ⟨n,2,[],none,rfl,rfl,n1,Nat.le_refl _,Nat.le_refl _,(fun d h1 h2=>by exact z67 h1 h2),rfl,rfl,Nat.le_refl _⟩ ?_
 rintro k loc H' ⟨m,a,fs,o,rfl,rfl,m1,mn,a2,hd,hk,hf,hfl⟩
 walk_at "wp"
 refine qa7 (fun hm=>?_) (fun hm=>?_)
 ·have ham:a<=m:=by
   rcases Nat.lt_or_ge m a with h1|h1
   ·exact absurd (Nat.mod_self m) (hd m (by exact Int.ofNat_le.mp hm) h1)
   ·exact h1
  obtain ⟨j,rfl⟩:∃ j,k=j+1:=⟨k-1,by exact z79 mn hk ham⟩
  refine qh0 (qfm a2 m m m1 (Nat.le_refl _)) fun s1 s2 s3 s4=>?_
  unfold facL at hf
  rw [if_neg (by exact z80 hm)] at hf
  walk_at "wp"
  refine qen (fun i loc H'=>∃ (m' t:Nat),loc=[some (.int m'),some (.ref H.length),some (.int a),some (.int t)]/\H'=H++[.list (fs.map prAV)]/\1<=m'/\m'<=i/\i<=m/\t+i<=m/\(qb1 i m' a).1=(qb1 m m a).1/\(qb1 i m' a).2+t=(qb1 m m a).2) m ⟨m,0,rfl,rfl,m1,Nat.le_refl _,Nat.le_refl _,by exact z81,rfl,by exact z82⟩ ?_
  rintro i loc H' ⟨m',t,rfl,rfl,m1',mi,im,ti,e1,e2⟩
  walk_at "wp"
  refine ⟨by exact z83 hfl,?_⟩
  simp only [qae (show (0:Int)<=a by exact z71)]
  refine qa7 (fun h0=>?_) (fun h0=>?_)
  ·have h0':m'%a=0:=by (first|lia|omega)
   obtain ⟨i',rfl⟩:∃ j,i=j+1:=⟨i-1,by exact z84 m1' mi⟩
   rw [qk9 h0'] at e1 e2
   have hq:1<=m'/a:=by
    have:=Nat.le_of_dvd m1' (Nat.dvd_of_mod_eq_zero h0')
    exact (Nat.le_div_iff_mul_le (by exact Nat.zero_lt_of_lt hfl)).mpr (by exact z77 this)
   have hlt:m'/a<m':=Nat.div_lt_self m1' a2
   walk_at "wp"
   refine ⟨by exact z83 hfl,qlk (by exact z85 n5 hk),?_⟩
   simp only [qal (show (0:Int)<=a by exact z71)]
   exact qaq i' (by exact z86) ⟨m'/a,t+1,by rw [Int.natCast_ediv];rfl,rfl,hq,by exact z78 mi hlt,by exact z87 ti,by exact z88 ti,e1,by simp only at e2;exact z89 e2⟩
  ·have h0':m'%a≠0:=by (first|lia|omega)
   have e3:qb1 i m' a=(m',0):=by
    cases i with
    | zero=>rfl
    | succ i=>unfold qb1;rw [if_neg h0']
   rw [e3] at e1 e2
   simp only at e1 e2
   have hs:qb1 m m a=(m',t):=by
    apply Prod.ext
    ·exact e1.symm
    ·simp only;exact z90 e2
   rw [hs] at hf s1 s2 s3 s4
   simp only at hf s1 s2 s3 s4
   have hg:(H++[AObj.list (fs.map prAV)])[H.length]?=some (.list (fs.map prAV)):=qab
   have hd':∀ d,2<=d->d<a+1->m'%d≠0:=by
    intro d h1 h2 h3
    rcases Nat.lt_or_ge d a with h4|h4
    ·refine hd d h1 h4 (Nat.mod_eq_zero_of_dvd (Nat.dvd_trans (Nat.dvd_of_mod_eq_zero h3) s3))
    ·have:d=a:=by exact Nat.eq_of_le_of_lt_succ h4 h2
     subst this;exact s2 h3
   walk_at "wp"
   refine qa7 (fun ht=>?_) (fun ht=>?_)
   ·rw [if_pos (by exact Int.natCast_pos.mp ht)] at hf
    walk_at "wp"
    refine ⟨qa0 hg,by walk_at "sd",?_⟩
    rw [qfg hg]
    refine ⟨szB (by simp;exact z91 n5 hfl hk),?_⟩
    walk_at "wp"
    refine qaq j (by exact z86) ⟨m',a+1,fs++[((a:Int),(t:Int))],_,rfl,?_,s1,by exact Nat.le_trans s4 mn,by exact z92 hfl,hd',by exact z93 hk,by rw [List.append_assoc];exact hf,by simp;exact z94 hfl⟩
    rw [List.set_append_right _ _ (Nat.le_refl _)];simp [prAV]
   ·rw [if_neg (by exact z95 ht)] at hf
    walk_at "wp"
    exact qaq j (by exact z86) ⟨m',a+1,fs,_,rfl,rfl,s1,by exact Nat.le_trans s4 mn,by exact z92 hfl,hd',by exact z93 hk,hf,by exact Nat.le_add_right_of_le hfl⟩
 ·walk_at "wp"
  have hm1:m=1:=by exact z96 m1 hm
  subst hm1
  have e:facL k 1 a=[]:=by
   cases k with
   | zero=>rfl
   | succ k=>unfold facL;rw [if_pos (Nat.le_refl _)]
  rw [e,List.append_nil] at hf
  rw [qr1 qab]
  refine ⟨szB ?_,?_⟩
  ·have:facL k 1 a=[]:=e
   simp
   rcases Nat.lt_or_ge a 900 with h1|h1
   ·exact z97 n5 hk hfl
   ·exact z97 n5 hk hfl
  ·walk_at "wp"
   rw [hf]
   exact h _ qaa
end
section
open PySem
theorem qbo {Q:PQ}{k:Int}(h:H[i]?=some (.list l)) (hn:l.length<=1000) (h0:0<=k) (h1:k<l.length) (q:∀ z∈l,Q z H):qbm (.ref i) (.int k) H Q:=by
 rw [qkm h]
 exact ⟨by exact z98 hn,k.toNat,l[k.toNat]'(by exact (Int.toNat_lt h0).mpr h1),qkc h0 h1,List.getElem?_eq_getElem _,q _ (List.getElem_mem _)⟩
theorem qa9 {Q:PQ}{cs:List Int}{k:Int}(h:H[i]?=some (.list (cs.map .int))) (hc:qdu cs n) (hn:n<=1000) (h0:0<=k) (h1:k<n) (q:∀ c,0<=c->c<4294967296->Q (.int c) H):qbm (.ref i) (.int k) H Q:=by
 have hl:=hc.len
 refine qbo h (by simp;exact z99 hn hl) h0 (by (first|exact yk _ (by decide)|(simp;exact lt_of_lt_of_eq h1 (congrArg Nat.cast (id (Eq.symm hl)))))) fun z hz=>?_
 refine qad (yh hz) fun c h1 eQ2=>?_
 subst eQ2
 exact q c (hc.bd c h1).1 (hc.bd c h1).2
theorem qc1 {Q:PQ}(h:H[i]?=some (.list l)) (hn:l.length<=1000) (q:Q (.int l.length) H):wpBi .len [.ref i] H Q:=by
 rw [qsb h];exact ⟨by exact z98 hn,q⟩
noncomputable def qay:List (Int×Int)->Int
 | []=>1
 | p::r=>p.1^p.2.toNat*qay r
theorem qh7 (a b:List (Int×Int)):qay (a++b)=qay a*qay b:=by
 induction a with
 | nil=>simp [qay]
 | cons p r ih=>simp only [List.cons_append,qay,ih,Int.mul_assoc]
theorem pow_pos' {q:Int}(h:1<=q) (n:Nat):1<=q^n:=by
 induction n with
 | zero=>simp
 | succ n ih =>
  rw [Int.pow_succ]
  have:=Int.mul_le_mul ih h (by decide) (by exact Int.le_of_lt ih)
  simpa using this
theorem pow_mono' {q:Int}(h:1<=q)(hab:a<=b):q^a<=q^b:=by
 refine qar (Nat.exists_eq_add_of_le hab) fun c eQ1=>?_
 subst eQ1
 rw [Int.pow_add]
 have h1:=pow_pos' h a
 have:=Int.mul_le_mul (Int.le_refl (q^a)) (pow_pos' h c) (by decide) (by exact Int.le_of_lt h1)
 simpa using this
theorem qfs {ps:List (Int×Int)}(h:∀ p∈ps,1<=p.1):1<=qay ps:=by
 induction ps with
 | nil=>decide
 | cons p r ih =>
  have h1:=pow_pos' (h p (List.mem_cons_self ..)) p.2.toNat
  have h2:=ih fun x hx=>h x (yi _ hx)
  have:=Int.mul_le_mul h1 h2 (by decide) (by exact Int.le_of_lt h1)
  simpa [qay] using this
theorem qtl {ps:List (Int×Int)}{p:Int×Int}(h:ps[i]?=some p):qay ps=qay (ps.take i)*(p.1^p.2.toNat*qay (ps.drop (i+1))):=by
 refine qar (yl h) fun hi e=>?_
 conv=>lhs;rw [←List.take_append_drop i ps,qh7,List.drop_eq_getElem_cons hi,e]
 rfl
theorem qfr {ps:List (Int×Int)}{p:Int×Int}(h:ps[i]?=some p):qay (ps.take (i+1))=qay (ps.take i)*p.1^p.2.toNat:=by
 rw [List.take_add_one,h,qh7]
 simp [qay]
theorem qtk {ps:List (Int×Int)}(hp:∀ p∈ps,1<=p.1){p:Int×Int}(h:ps[i]?=some p) (hj:j<=p.2.toNat):qay (ps.take i)*p.1^j<=qay ps:=by
 have h1:1<=qay (ps.take i):=qfs fun x hx=>hp x (List.mem_of_mem_take hx)
 have h2:1<=qay (ps.drop (i+1)):=qfs fun x hx=>hp x (List.mem_of_mem_drop hx)
 have h3:=pow_mono' (hp p (yc h)) hj
 have h4:=pow_pos' (hp p (yc h)) j
 rw [qtl h]
 refine Int.mul_le_mul_of_nonneg_left ?_ (by exact Int.le_of_lt h1)
 have:=Int.mul_le_mul h3 h2 (by decide) (by exact z100 h3 h4)
 simpa using this
inductive Rw where
 | first
 | prime (n b:Int) (ps:List (Int×Int))
 | split (n a b:Int)
 | power (n b:Int)
 | root (n b:Int)
noncomputable def Rw.av:Rw->AV
 | .first=>.tup [.int 2,.str "first",.tup []]
 | .prime n b ps=>.tup [.int n,.str "prime",.tup [.int b,psT ps]]
 | .split n a b=>.tup [.int n,.str "split",.tup [.int a,.int b]]
 | .power n b=>.tup [.int n,.str "power",.tup [.int b]]
 | .root n b=>.tup [.int n,.str "root",.tup [.int b]]
noncomputable def Rw.num:Rw->Int
 | .first=>2
 | .prime n _ _=>n
 | .split n _ _=>n
 | .power n _=>n
 | .root n _=>n
noncomputable def Rw.needs:Rw->List Int
 | .prime _ _ ps=>ps.map (·.1)
 | _=>[]
def Ris (ps:List (Int×Int)):Prop:=ps.Pairwise fun p q=>p.1<q.1
def Rw.ok:Rw->Prop
 | .first=>True
 | .prime n b ps=>3<=n/\n<10^30-2000/\1<=b/\b<=n/\ps≠[]/\ps.length<=10/\(∀ p∈ps,2<=p.1/\p.1<=20000/\1<=p.2/\p.2<=100)/\Ris ps
 | .split n a b=>2<=a/\2<=b/\a<10^16/\b<10^16/\n=a*b/\n<10^30-2000
 | .power n b=>2<=n/\n<10^30-2000/\1<=b/\b<=n
 | .root n b=>2<=n/\n<10^30-2000/\1<=b/\b<=n
noncomputable def Rw.tells:Rw->Bool
 | .first=>true
 | .prime _ _ _=>true
 | _=>false
def Rw.sem:Rw->Prop
 | .first=>True
 | .prime n b ps=>b<n/\qay ps=n-1/\qbd n b ps=true/\∀ p∈ps,isPB p.1.toNat=true/\p.1<402
 | .split _ _ _=>True
 | .power n b=>b<n/\pw b (n-1) n≠1
 | .root n b=>1<b/\b<n-1/\b*b%n=1
def Rw.tru (r:Rw):Prop:=r.sem/\(r.num<=401->r.tells=isPB r.num.toNat)
noncomputable def nx (n:Nat):List Int:=if isPB n&&decide (3<=n) then (facF (n-1)).map (·.1) else []
noncomputable def qmu (n b:Nat) (ps:List (Int×Int)):Bool:=Nat.beq (b^(n-1)%n) 1&&ps.all fun p=>!Nat.beq (b^((n-1)/p.1.toNat)%n) 1
noncomputable def chk (n:Nat):Bool:=!isPB n||Nat.ble n 2||((facF (n-1)).all (fun p=>Nat.ble 2 p.1.toNat&&Nat.ble p.1.toNat 401&&Nat.ble 1 p.2.toNat&&Nat.ble p.2.toNat 100)&&Nat.ble (facF (n-1)).length 10&&!(facF (n-1)).isEmpty&&decide (qay (facF (n-1))=n-1)&&decide ((facF (n-1)).Pairwise fun p q=>p.1<q.1)&&(facF (n-1)).all (fun p=>isPB p.1.toNat)&&(List.range n).any fun b=>Nat.ble 1 b&&qmu n b (facF (n-1)))
theorem qu5:(List.range 402).all chk=true:=by decide +kernel
theorem qm2 {e m:Nat}:pw (b:Int) (e:Int) (m:Int)=((b^e%m:Nat):Int):=by
 unfold pw;rw [Int.toNat_natCast];simp
theorem qms {ps:List (Int×Int)}(hn:1<=n) (hp:∀ p∈ps,0<=p.1) (h:qmu n b ps=true):qbd n b ps=true:=by
 simp only [qmu,Bool.and_eq_true,List.all_eq_true,Bool.not_eq_true'] at h
 simp only [qbd,Bool.and_eq_true,List.all_eq_true,Bool.not_eq_true',decide_eq_true_eq,decide_eq_false_iff_not]
 refine ⟨?_,fun p hpm=>?_⟩
 ·rw [show (n:Int)-1=((n-1:Nat):Int) by exact z101 hn,qm2,Nat.eq_of_beq_eq_true h.1];rfl
 ·have h1:=h.2 p hpm
  have h2:=hp p hpm
  rw [show (n:Int)-1=((n-1:Nat):Int) by exact z101 hn,show p.1=((p.1.toNat:Nat):Int) by exact Int.eq_natCast_toNat.mpr h2,←Int.natCast_ediv,qm2]
  intro e
  exact Nat.ne_of_beq_eq_false h1 (by exact Eq.symm ((fun {m n}=>Int.ofNat_inj.mp) (id (Eq.symm e))))
theorem qm7 (n3:3<=n) (n4:n<=401) (hp:isPB n=true):(∀ p∈facF (n-1),2<=p.1/\p.1<402/\1<=p.2/\p.2<=100)/\(facF (n-1)).length<=10/\facF (n-1)≠[]/\qay (facF (n-1))=n-1/\Ris (facF (n-1))/\(∀ p∈facF (n-1),isPB p.1.toNat=true)/\∃ r:Nat,1<=r/\r<n/\qbd n r (facF (n-1))=true:=by
 have h:=yq qu5 n (List.mem_range.mpr (by exact Nat.lt_succ_of_le n4))
 simp only [chk,hp,Bool.not_true,Bool.false_or,Bool.or_eq_true,Bool.and_eq_true,List.all_eq_true,List.any_eq_true,List.mem_range,Nat.ble_eq,Bool.not_eq_true',List.isEmpty_eq_false_iff,decide_eq_true_eq] at h
 rcases h with h|⟨⟨⟨⟨⟨⟨h1,h2⟩,h3⟩,g1⟩,g2⟩,g3⟩,r,h4,h5,h6⟩
 ·(first|lia|omega)
 ·have hb:∀ p∈facF (n-1),2<=p.1/\p.1<402/\1<=p.2/\p.2<=100:=fun p hp=>by
   refine qa4 (h1 p hp) fun qQ0 a4=>?_
   obtain ⟨⟨a1,a2⟩,a3⟩:=qQ0
   (first|lia|omega)
  exact ⟨hb,h2,h3,g1,g2,g3,r,h5,h4,qms (by exact Nat.one_le_of_lt h4) (fun p hp=>by have:=hb p hp;exact z102 this) h6⟩
noncomputable def rnd (n b r:Nat):Nat:=if b<=r then r-b else r+(n-1)-b
theorem qj7 {r:Nat}(n2:2<=n) (b1:1<=b) (bn:b<n) (r1:1<=r) (rn:r<n) (h:b≠r):1<=b%(n-1)+1/\b%(n-1)+1<n/\rnd n (b%(n-1)+1) r<rnd n b r:=by
 rcases Nat.lt_or_ge b (n-1) with h1|h1
 ·rw [Nat.mod_eq_of_lt h1]
  unfold rnd
  refine ⟨by exact z103,by exact Nat.add_lt_of_lt_sub h1,?_⟩
  split<;>split<;>(first|lia|omega)
 ·have:b=n-1:=by exact z104 bn h1
  rw [this,Nat.mod_self]
  unfold rnd
  refine ⟨by walk_at "om",by exact z105 rn h this,?_⟩
  split<;>split<;>(first|lia|omega)
def qvl (Φ:Fun):Prop:=∀ (n:Nat) (c:Int) (H:Hp) (Q:PQ),2<=n->n<=401->isPB n=true->0<=c->(∀ r:Rw,r.ok->r.tru->r.num=n->r.needs=nx n->Q r.av H)->Φ "_law_prime_row" [.int n,.int c] H Q
theorem qm8 (cf:qvm Φ) (cr:qpa Φ){c:Int}{Q:PQ}(n2:2<=n) (n4:n<=401) (hp:isPB n=true) (c0:0<=c) (h:∀ r:Rw,r.ok->r.tru->r.num=n->r.needs=nx n->Q r.av H):wpF Φ qbt [.int n,.int c] H Q:=by
 ((refine ⟨rfl,?_⟩;simp only [lst,Nat.reduceSub,Nat.sub_self,List.replicate]))
 simp only [qbt]
 walk_at "wp"
 refine qa7 (fun e2=>?_) (fun e2=>?_)
 ·walk_at "go"
  have:n=2:=by exact Eq.symm ((fun {m n}=>Int.ofNat_inj.mp) (id (Eq.symm e2)))
  subst this
  exact h .first trivial ⟨trivial,fun _=>hp.symm⟩ rfl rfl
 walk_at "wp"
 have n3:3<=n:=by exact z106 n2 e2
 have e1:(n:Int)-1=((n-1:Nat):Int):=by exact z107 n3
 refine qst (qm7 n3 n4 hp) fun t1 t2 t3 t4 t5 qQ5=>?_
 obtain ⟨t6,r,r1,rn,hr⟩:=qQ5
 rw [e1]
 refine cf (n-1) H _ (by exact z108 r1 rn) (by exact z109 n4) ?_
 walk_at "wp"
 rw [e1]
 refine ⟨by exact z110 r1 rn,?_⟩
 rw [qae (by exact z111)]
 have b0:=Int.emod_nonneg c (show ((n-1:Nat):Int)≠0 by exact z110 r1 rn)
 have b1:=yk c (show 0<((n-1:Nat):Int) by exact z112 r1 rn)
 refine qen (fun k loc H'=>∃ b:Nat,k=rnd n b r/\1<=b/\b<n/\H'=H/\loc=[some (.int n),some (.int c),some (psT (facF (n-1))),some (.int b)]) _ ⟨(1+c%((n-1:Nat):Int)).toNat,rfl,by exact z113 b0,by exact z114 b0 b1,rfl,by rw [Int.toNat_of_nonneg (by exact z115 b0)]⟩ ?_
 rintro k loc H' ⟨b,rfl,bb1,bb2,rfl,rfl⟩
 walk_at "wp"
 refine cr n b (facF (n-1)) H' _ (by exact z116 b0 b1) (by exact z117 n4) (by exact z118 n4 bb2) (fun p hp=>by have:=t1 p hp;exact z119 this) ?_
 walk_at "wp"
 refine qa5 (b:=!qbd n b (facF (n-1))) (fun h1=>?_) (fun h1=>?_)
 ·walk_at "wp"
  rw [e1]
  refine ⟨by exact z120 b0 b1,?_⟩
  rw [qae (by exact z111)]
  have hne:b≠r:=fun e=>by rw [e,hr] at h1;cases h1
  refine qfk (qj7 n2 bb1 bb2 r1 rn hne) fun g1 g2 g3=>?_
  exact qaq _ g3 ⟨b%(n-1)+1,rfl,g1,g2,rfl,by rw [Int.natCast_add,Int.natCast_emod];rfl⟩
 ·walk_at "go"
  refine h (.prime n b (facF (n-1))) ⟨by exact Int.toNat_le.mp n3,by exact z121 n4,by exact Int.toNat_le.mp bb1,by exact z122 bb2,t3,t2,fun p hp=>by have:=t1 p hp;exact z123 this,t5⟩ ⟨⟨by show (b:Int)<n;exact Int.ofNat_lt.mpr bb2,t4,by simpa using h1,fun p hp=>⟨t6 p hp,(t1 p hp).2.1⟩⟩,fun _=>by rw [show (Rw.prime (n:Int) b (facF (n-1))).num.toNat=n from Int.toNat_natCast n,hp];rfl⟩ rfl ?_
  simp only [Rw.needs,nx,hp,Bool.true_and]
  rw [if_pos (by simpa using n3)]
end
section
open PySem
noncomputable def qdf (f:Int->Bool) (y:AV):Option AV:=match y with|.int a=>if f a then some (.int a) else none|_=>none
theorem qkd {f:Int->Bool}{m:Nat}{z:AV}(h:z∈((List.range m).map fun (k:Nat)=>AV.int (2+k)).filterMap (qdf f)):∃ a:Int,z=.int a/\2<=a/\a<2+m/\f a=true:=by
 refine qad (List.mem_filterMap.mp h) fun y hy e=>?_
 refine qad (yh hy) fun k hk eQ2=>?_
 subst eQ2
 have:=List.mem_range.mp hk
 simp only [qdf] at e
 split at e
 ·cases e;exact ⟨_,rfl,by exact z124,by exact z125 this,by assumption⟩
 ·cases e
theorem qtp {f:Int->Bool}{m:Nat}{a:Int}(h2:2<=a) (hm:a<2+m) (hf:f a=true):AV.int a∈((List.range m).map fun (k:Nat)=>AV.int (2+k)).filterMap (qdf f):=by
 refine List.mem_filterMap.mpr ⟨.int a,yn ⟨(a-2).toNat,List.mem_range.mpr (by exact z126 h2 hm),?_⟩,by simp [qdf,hf]⟩
 congr 1;exact z127 h2
theorem qke {f:Int->Bool}:(l.filterMap (qdf f)).length<=l.length:=List.length_filterMap_le _ _
theorem qje {a:Int}(n2:2<=n) (a2:2<=a) (h:(n:Int)%a=0):pw a ((n:Int)-1) n≠1:=by
 unfold pw
 intro e
 have hd:a∣(n:Int):=Int.dvd_of_emod_eq_zero h
 have h1:(a^((n:Int)-1).toNat%(n:Int))%a=a^((n:Int)-1).toNat%a:=Int.emod_emod_of_dvd _ hd
 rw [e] at h1
 obtain ⟨k,hk⟩:∃ k,((n:Int)-1).toNat=k+1:=⟨n-2,by exact z128 n2⟩
 rw [hk,Int.pow_succ,Int.mul_emod_left,Int.emod_eq_of_lt (by walk_at "om") (by exact Int.lt_of_add_one_le a2)] at h1
 exact z129 h1
theorem qkl {Q:PQ}{k:Int}(h:H[i]?=some (.list l)) (hn:l.length<=100000) (h0:0<=k) (h1:k<l.length) (q:∀ z∈l,Q z H):qbm (.ref i) (.int k) H Q:=by
 rw [qkm h]
 exact ⟨by exact z130 hn,k.toNat,l[k.toNat]'(by exact (Int.toNat_lt h0).mpr h1),qkc h0 h1,List.getElem?_eq_getElem _,q _ (List.getElem_mem _)⟩
theorem qjp {Q:PQ}(h:H[i]?=some (.list l)) (hn:l.length<=100000) (q:Q (.int l.length) H):wpBi .len [.ref i] H Q:=by
 rw [qsb h];exact ⟨by exact z130 hn,q⟩
def qx5 (Φ:Fun):Prop:=∀ (n:Nat) (c:Int) (H:Hp) (Q:PQ),2<=n->n<=20000->isPB n=false->0<=c->(∀ r:Rw,r.ok->r.tru->r.num=n->r.needs=[]->Q r.av H)->Φ "_law_parted_row" [.int n,.int c] H Q
theorem qlf {Φ:Fun}(cp:qg5 Φ){n:Nat}{c:Int}{H:Hp}{Q:PQ}(n2:2<=n) (n4:n<=20000) (hp:isPB n=false) (c0:0<=c) (h:∀ r:Rw,r.ok->r.tru->r.num=n->r.needs=[]->∀ H',H<+:H'->Q r.av H'):wpF Φ qaz [.int n,.int c] H Q:=by
 refine qbi (qt8 n2 hp) fun dv dv2 dvn hdv=>?_
 have cc:∀ {r:Rw},r.num=n->r.tells=false->(r.num<=401->r.tells=isPB r.num.toNat):=fun {r} e t _=>by rw [e,Int.toNat_natCast,hp,t]
 ((refine ⟨rfl,?_⟩;simp only [lst,Nat.reduceSub,Nat.sub_self,List.replicate]))
 simp only [qaz]
 walk_at "wp"
 refine ⟨by decide,by decide,by exact z48,by exact z131 n4,?_⟩
 refine qed (qdf fun a=>decide ((n:Int)%a=0)) (by rw [ya,List.length_range];exact szB (by exact z132 n4)) trivial (fun y hy=>?_) ?_
 ·refine qad (yh hy) fun k hk eQ2=>?_
  subst eQ2
  have hk:=List.mem_range.mp hk
  refine ⟨[.int (2+k)],rfl,fun K q=>?_,fun v hv Q' q=>?_⟩
  ·walk_at "wp"
   refine ⟨by exact z133,?_⟩
   simp only [qae (show (0:Int)<=2+k by exact z134)]
   have:(qdf (fun a=>decide ((n:Int)%a=0)) (.int (2+k))).isSome=decide ((n:Int)%(2+k)=0):=by
    simp only [qdf]
    split<;>simp_all
   rw [this] at q
   refine qa5 (b:=decide ((n:Int)%(2+k)=0)) (fun h1=>?_) (fun h1=>?_)
   ·rw [h1] at q;walk_at "wp";exact q
   ·rw [h1] at q;walk_at "wp";exact q
  ·simp only [qdf] at hv
   split at hv
   ·cases hv
    walk_at "wp"
    exact q
   ·cases hv
 generalize hP:(((List.range ((n:Int)-2).toNat).map fun (k:Nat)=>AV.int (2+k)).filterMap (qdf fun a=>decide ((n:Int)%a=0)))=PL
 have hPm:∀ z∈PL,∃ a:Int,z=.int a/\2<=a/\a<n/\(n:Int)%a=0:=by
  intro z hz
  rw [←hP] at hz
  refine qrz (qkd hz) fun a e h1 h2 h3=>?_
  exact ⟨a,e,h1,by exact z135 h1 h2,by simpa using h3⟩
 have hP1:1<=PL.length:=by
  have:AV.int dv∈PL:=by rw [←hP];exact qtp (by exact Int.toNat_le.mp dv2) (by exact z136 dvn) (by simp;(first|lia|omega))
  exact List.length_pos_of_mem this
 have hPl:PL.length<=20000:=by rw [←hP];refine Nat.le_trans qke ?_;simp;exact z137 n4
 clear hP
 walk_at "wp"
 refine ⟨by decide,by decide,by exact z138,by exact z139 n4,?_⟩
 refine qed (qdf fun a=>decide (a*a%n=1)) (by rw [ya,List.length_range];exact szB (by exact z140 n4)) trivial (fun y hy=>?_) ?_
 ·refine qad (yh hy) fun k hk eQ2=>?_
  subst eQ2
  have hk:=List.mem_range.mp hk
  refine ⟨[.int (2+k)],rfl,fun K q=>?_,fun v hv Q' q=>?_⟩
  ·walk_at "wp"
   refine ⟨qc6 (by exact z141 n4 hk),by exact z142 hk,?_⟩
   simp only [qae (show (0:Int)<=n by exact z71)]
   have:(qdf (fun a=>decide (a*a%(n:Int)=1)) (.int (2+k))).isSome=decide ((2+(k:Int))*(2+k)%n=1):=by
    simp only [qdf]
    split<;>simp_all
   rw [this] at q
   refine qa5 (b:=decide ((2+(k:Int))*(2+k)%n=1)) (fun h1=>?_) (fun h1=>?_)
   ·rw [h1] at q;walk_at "wp";exact q
   ·rw [h1] at q;walk_at "wp";exact q
  ·simp only [qdf] at hv
   split at hv
   ·cases hv
    walk_at "wp"
    exact q
   ·cases hv
 generalize hR:(((List.range ((n:Int)-1-2).toNat).map fun (k:Nat)=>AV.int (2+k)).filterMap (qdf fun a=>decide (a*a%n=1)))=RL
 have hRm:∀ z∈RL,∃ a:Int,z=.int a/\2<=a/\a<n-1/\a*a%n=1:=by
  intro z hz
  rw [←hR] at hz
  refine qrz (qkd hz) fun a e h1 h2 h3=>?_
  exact ⟨a,e,h1,by exact z143 h1 h2,by simpa using h3⟩
 have hRl:RL.length<=20000:=by rw [←hR];refine Nat.le_trans qke ?_;simp;exact z144 n4
 clear hR
 generalize hH1:H++[AObj.list PL]++[AObj.list RL]=H1
 have hp1:H<+:H1:=by rw [←hH1];exact qaa.trans qaa
 have hgP:H1[H.length]?=some (.list PL):=by rw [←hH1];exact qac qaa qab
 have hgR:H1[(H++[AObj.list PL]).length]?=some (.list RL):=by rw [←hH1];exact qab
 generalize (H++[AObj.list PL]).length=jR at hgR
 walk_at "go"
 refine qjp hgP (by exact z145 hPl) ?_
 walk_at "wp"
 refine ⟨by exact Int.natCast_ne_zero_iff_pos.mpr hP1,?_⟩
 simp only [qae (show (0:Int)<=PL.length by exact z71),qal (show (0:Int)<=4 by walk_at "om"),qae (show (0:Int)<=4 by walk_at "om")]
 refine qkl hgP (by exact z145 hPl) (Int.emod_nonneg _ (by exact Int.natCast_ne_zero_iff_pos.mpr hP1)) (yk _ (by exact Int.natCast_pos.mpr hP1)) fun z hz=>?_
 refine qrz (hPm z hz) fun a eQ1 a2 an ha=>?_
 subst eQ1
 have pwl:wpSs Φ (qaz.body.drop 4) [some (.int n),some (.int c),some (.ref H.length),some (.ref jR),some (.int a),none] H1 (qa8 Q):=by
  simp only [qaz,List.drop]
  walk_at "go"
  (simp only [qae,qal,Int.reduceLE])
  refine qa7 (fun h1=>?_) (fun h1=>?_)
  ·walk_at "wp"
   refine ⟨by exact z146 a2,qlk (by exact z147 n4 a2 an),by walk_at "sd",by walk_at "sd",?_⟩
   simp only [qal (show (0:Int)<=a by exact z148 a2)]
   have hmul:(n:Int)=a*((n:Int)/a):=(Int.mul_ediv_cancel' (Int.dvd_of_emod_eq_zero ha)).symm
   have q2:2<=(n:Int)/a:=by
    rcases Int.lt_or_le ((n:Int)/a) 2 with h4|h4
    ·have:a*((n:Int)/a)<=a*1:=Int.mul_le_mul_of_nonneg_left (by exact Int.le_iff_lt_add_one.mpr h4) (by exact z148 a2)
     exact z149 an hmul this
    ·exact h4
   have q3:(n:Int)/a<=n:=Int.ediv_le_self _ (by exact z71)
   exact h (.split n a ((n:Int)/a)) ⟨a2,q2,by exact z150 n4 an,by exact z151 n4 q3,hmul,by exact z152 n4⟩ ⟨trivial,cc rfl rfl⟩ rfl rfl _ hp1
  ·walk_at "wp"
   have e1:(n:Int)-1=((n-1:Nat):Int):=by exact z153 a2 an
   rw [e1]
   refine ⟨by decide,qlk (by decide),by exact z154 a2 an,?_⟩
   rw [qal (by walk_at "om"),qae (by exact z111)]
   have b0:=Int.emod_nonneg (c/4) (show ((n-1:Nat):Int)≠0 by exact z154 a2 an)
   have b1:=yk (c/4) (show 0<((n-1:Nat):Int) by exact z155 a2 an)
   refine qen (fun k loc H'=>∃ b:Nat,k=rnd n b a.toNat/\1<=b/\b<n/\H'=H1/\loc=[some (.int n),some (.int c),some (.ref H.length),some (.ref jR),some (.int a),some (.int b)]) _ ⟨(1+c/4%((n-1:Nat):Int)).toNat,rfl,by exact z113 b0,by exact z114 b0 b1,rfl,by rw [Int.toNat_of_nonneg (by exact z115 b0)]⟩ ?_
   rintro k loc H' ⟨b,rfl,bb1,bb2,rfl,rfl⟩
   walk_at "wp"
   refine cp b (n-1) n _ _ (by exact z156 n4 bb2) (by exact z157 bb2) (by exact z158 n4) (by exact z159 bb2) (by exact z160 n4) ?_
   walk_at "wp"
   refine qa7 (fun h1=>?_) (fun h1=>?_)
   ·walk_at "wp"
    rw [e1]
    refine ⟨by exact z110 bb1 bb2,?_⟩
    rw [qae (by exact z111)]
    have hne:b≠a.toNat:=fun e=>by
     have:((b:Nat):Int)=a:=by exact z161 bb1 e
     rw [this] at h1
     exact qje n2 a2 ha h1
    refine qfk (qj7 n2 bb1 bb2 (show 1<=a.toNat by exact z162 a2) (show a.toNat<n by exact z163 a2 an) hne) fun g1 g2 g3=>?_
    exact qaq _ g3 ⟨b%(n-1)+1,rfl,g1,g2,rfl,by rw [Int.natCast_add,Int.natCast_emod];rfl⟩
   ·walk_at "go"
    exact h (.power n b) ⟨by exact z164 bb1 bb2,by exact z152 n4,by exact Int.toNat_le.mp bb1,by exact z122 bb2⟩ ⟨⟨by show (b:Int)<n;exact Int.ofNat_lt.mpr bb2,h1⟩,cc rfl rfl⟩ rfl rfl _ hp1
 walk_at "go"
 (simp only [qae,qal,Int.reduceLE])
 refine qa7 (fun h1=>?_) (fun h1=>?_)
 ·walk_at "wp"
  refine qjp hgR (by exact z145 hRl) ?_
  walk_at "wp"
  refine qa7 (fun h2=>?_) (fun h2=>?_)
  ·walk_at "go"
   refine qjp hgR (by exact z145 hRl) ?_
   walk_at "wp"
   refine ⟨by exact Ne.symm (Int.ne_of_lt h2),?_⟩
   simp only [qae (show (0:Int)<=RL.length by exact z71),qal (show (0:Int)<=4 by walk_at "om")]
   refine qkl hgR (by exact z145 hRl) (Int.emod_nonneg _ (by exact Ne.symm (Int.ne_of_lt h2))) (yk _ (by walk_at "om")) fun z hz=>?_
   refine qrz (hRm z hz) fun x eQ1 x2 xn xx=>?_
   subst eQ1
   walk_at "go"
   exact h (.root n x) ⟨by exact z165 x2 xn,by exact z152 n4,by exact Int.le_of_lt x2,by exact z166 xn⟩ ⟨⟨by exact Int.lt_of_add_one_le x2,xn,xx⟩,cc rfl rfl⟩ rfl rfl _ hp1
  ·simp only [k_ite,k_itef,ss_nil,thenS_next]
   exact pwl
 ·simp only [k_andf,k_ite,k_itef,ss_nil,thenS_next]
  exact pwl
end
section
open PySem
noncomputable def nxN (n:Nat):List Nat:=(nx n).map Int.toNat
noncomputable def trT:Nat->Nat->Nat
 | 0,_=>0
 | k+1,n=>1+((nxN n).map fun q=>trT k q).sum
noncomputable def tr2:Nat->Nat->Nat
 | 0,_=>0
 | k+1,n=>(if n=2 then 0 else 1)+((nxN n).map fun q=>tr2 k q).sum
noncomputable def T (n:Nat):Nat:=trT 12 n
noncomputable def T2 (n:Nat):Nat:=tr2 12 n
noncomputable def chT (n:Nat):Bool:=Nat.beq (T n) (1+((nxN n).map T).sum)&&Nat.beq (T2 n) ((if Nat.beq n 2 then 0 else 1)+((nxN n).map T2).sum)&&Nat.ble (T n) 20&&Nat.ble (T2 n) 7&&(nxN n).all (fun q=>Nat.ble 2 q&&Nat.ble q 401)&&(nx n).all fun q=>Int.decLe 0 q |>.decide
theorem qu6:(List.range 402).all chT=true:=by decide +kernel
theorem qzc {n:Nat}(h:n<=401):T n=1+((nxN n).map T).sum/\T2 n=(if n=2 then 0 else 1)+((nxN n).map T2).sum/\T n<=20/\T2 n<=7/\(∀ q∈nxN n,2<=q/\q<=401)/\∀ q∈nx n,0<=q:=by
 have h:=yq qu6 n (List.mem_range.mpr (by exact Nat.lt_succ_of_le h))
 simp only [chT,Bool.and_eq_true,List.all_eq_true,Nat.ble_eq,decide_eq_true_eq] at h
 refine qa4 (h) fun qQ0 h6=>?_
 clear h
 obtain ⟨⟨⟨⟨h1,h2⟩,h3⟩,h4⟩,h5⟩:=qQ0
 refine ⟨Nat.eq_of_beq_eq_true h1,?_,h3,h4,h5,h6⟩
 rw [Nat.eq_of_beq_eq_true h2]
 by_cases e:n=2
 ·subst e;rfl
 ·rw [if_neg e,if_neg (by simpa using e)]
noncomputable def qpow:Nat->Nat->Nat->Nat->Nat->Nat
 | 0,_,_,f,m=>f%m
 | k+1,b,e,f,m=>if Nat.beq e 0 then f%m else qpow k (b*b%m) (e/2) (if Nat.beq (e%2) 1 then f*b%m else f) m
theorem qm1:∀ (k b e f m:Nat),e<2^k->qpow k b e f m=f*b^e%m
 | 0,b,e,f,m,h=>by
  have:e=0:=by simpa using h
  subst this;simp [qpow]
 | k+1,b,e,f,m,h=>by
  rw [qpow]
  by_cases h0:e=0
  ·subst h0;simp
  ·rw [if_neg (by simpa using h0),qm1 k _ _ _ _ (by rw [Nat.pow_succ] at h;exact z167 h)]
   have e2:b^e=(b*b)^(e/2)*b^(e%2):=by
    have:b*b=b^2:=by rw [Nat.pow_two]
    rw [this,←Nat.pow_mul,←Nat.pow_add]
    congr 1;exact z41
   have em:∀ x:Nat,x*(b*b%m)^(e/2)%m=x*(b*b)^(e/2)%m:=fun x=>by
    rw [Nat.mul_mod,←Nat.pow_mod,←Nat.mul_mod]
   rw [em,e2]
   by_cases h1:e%2=1
   ·rw [if_pos (by simpa using h1),h1,Nat.pow_one,Nat.mul_mod (f*b%m),Nat.mod_mod,←Nat.mul_mod]
    congr 1
    rw [Nat.mul_comm ((b*b)^(e/2)) b,Nat.mul_assoc]
   ·rw [if_neg (by simpa using h1),show e%2=0 by exact Nat.mod_two_ne_one.mp h1,Nat.pow_zero,Nat.mul_one]
noncomputable def pwN (b e m:Nat):Nat:=qpow 70 b e 1 m
theorem qm3 {e m:Nat}(h:e<2^70):pw (b:Int) (e:Int) (m:Int)=(pwN b e m:Nat):=by
 rw [qm2,pwN,qm1 _ _ _ _ _ h,Nat.one_mul]
noncomputable def qmt (n b:Nat) (ps:List (Int×Int)):Bool:=Nat.beq (pwN b (n-1) n) 1&&ps.all fun p=>!Nat.beq (pwN b ((n-1)/p.1.toNat) n) 1
theorem qtc {ps:List (Int×Int)}(hn:1<=n) (hn2:n<2^70) (hp:∀ p∈ps,0<=p.1) (h:qmt n b ps=true):qbd n b ps=true:=by
 simp only [qmt,Bool.and_eq_true,List.all_eq_true,Bool.not_eq_true'] at h
 simp only [qbd,Bool.and_eq_true,List.all_eq_true,Bool.not_eq_true',decide_eq_true_eq,decide_eq_false_iff_not]
 refine ⟨?_,fun p hpm=>?_⟩
 ·rw [show (n:Int)-1=((n-1:Nat):Int) by exact z101 hn,qm3 (by exact Nat.sub_lt_of_lt hn2),Nat.eq_of_beq_eq_true h.1];rfl
 ·have h1:=h.2 p hpm
  have h2:=hp p hpm
  have h3:(n-1)/p.1.toNat<=n-1:=Nat.div_le_self _ _
  rw [show (n:Int)-1=((n-1:Nat):Int) by exact z101 hn,show p.1=((p.1.toNat:Nat):Int) by exact Int.eq_natCast_toNat.mpr h2,←Int.natCast_ediv,qm3 (by exact z168 hn2 h3)]
  intro e
  exact Nat.ne_of_beq_eq_false h1 (by exact Eq.symm ((fun {m n}=>Int.ofNat_inj.mp) (id (Eq.symm e))))
noncomputable def bigR:List (Int×Int×List (Int×Int)):=[(65537,3,[(2,16)]),(998244353,3,[(2,23),(7,1),(17,1)]),(2013265921,31,[(2,27),(3,1),(5,1)]),(4179340454199820289,3,[(2,57),(29,1)])]
def BG (r:Rw):Prop:=(∃ n b ps,r=.prime n b ps)/\r.num<=10^20/\r.needs.length<=4
def NOK (r:Rw):Prop:=(∀ q∈r.needs,2<=q/\q<=401)/\((r.needs.map Int.toNat).map T).sum<=100/\((r.needs.map Int.toNat).map T2).sum<=3/\BG r
def SBig (Φ:Fun):Prop:=∀ (c:Int) (H:Hp) (Q:PQ),0<=c->(∀ r:Rw,r.ok->r.tru->3<=r.num->NOK r->Q r.av H)->Φ "_law_big_row" [.int c] H Q
noncomputable def bigE:List Nat:=[1,11,13,19,23]
theorem qo0:(bigR.all fun x=>bigE.all fun e=>qmt x.1.toNat (pwN x.2.1.toNat e x.1.toNat) x.2.2)=true:=by decide +kernel
theorem qrp {x:Int×Int×List (Int×Int)}(hx:x∈bigR){e:Nat}(he:e∈bigE):1<=pw x.2.1 e x.1/\(Rw.prime x.1 (pw x.2.1 e x.1) x.2.2).tru:=by
 have h:=yq (yq qo0 x hx) e he
 have hb:2<=x.1/\x.1<2^70/\402<x.1/\0<=x.2.1/\qay x.2.2=x.1-1/\(∀ p∈x.2.2,isPB p.1.toNat=true/\p.1<402)/\∀ p∈x.2.2,0<=p.1:=by
  simp only [bigR,List.mem_cons,List.not_mem_nil,or_false] at hx
  rcases hx with rfl|rfl|rfl|rfl<;>exact ⟨by decide,by decide,by decide,by decide,by decide +kernel,by decide +kernel,by decide⟩
 have he2:e<2^70:=by
  simp only [bigE,List.mem_cons,List.not_mem_nil,or_false] at he
  exact z169 he
 refine qst (hb) fun h1 h2 h3 h4 h5 qQ5=>?_
 clear hb
 obtain ⟨h6,h7⟩:=qQ5
 have e1:pw x.2.1 e x.1=(pwN x.2.1.toNat e x.1.toNat:Nat):=by
  have:=qm3 (b:=x.2.1.toNat) (m:=x.1.toNat) he2
  rwa [Int.toNat_of_nonneg h4,Int.toNat_of_nonneg (by exact z170 h3)] at this
 have hr:qbd x.1 (pw x.2.1 e x.1) x.2.2=true:=by
  have:=qtc (n:=x.1.toNat) (by exact z171 h3) (by exact z172 h2) h7 h
  rwa [←e1,Int.toNat_of_nonneg (by exact z170 h3)] at this
 refine ⟨?_,⟨yk _ (by exact z173 h3),h5,hr,h6⟩,fun c=>absurd c (by show ¬ x.1<=401;exact z174 h3)⟩
 have b0:0<=pw x.2.1 e x.1:=Int.emod_nonneg _ (by exact z175 h3)
 rcases Int.lt_or_eq_of_le b0 with q|q
 ·exact Int.le_of_sub_one_lt q
 ·exfalso
  rw [←q] at hr
  simp only [qbd,Bool.and_eq_true,decide_eq_true_eq] at hr
  have:=hr.1
  unfold pw at this
  obtain ⟨k,hk⟩:∃ k,(x.1-1).toNat=k+1:=⟨(x.1-2).toNat,by exact z176 h3⟩
  rw [hk,Int.pow_succ,Int.mul_zero,Int.zero_emod] at this
  exact z177 this
theorem qvg {Φ:Fun}(cp:qg5 Φ){c:Int}{H:Hp}{Q:PQ}(c0:0<=c) (h:∀ r:Rw,r.ok->r.tru->3<=r.num->NOK r->∀ H',H<+:H'->Q r.av H'):wpF Φ qcl [.int c] H Q:=by
 ((refine ⟨rfl,?_⟩;simp only [lst,Nat.reduceSub,Nat.sub_self,List.replicate]))
 simp only [qcl]
 walk_at "go"
 rw [qsm (qac qaa qab) qab]
 refine ⟨by walk_at "sd",?_⟩
 generalize hL:([AV.tup [AV.int 65537,AV.int 3,AV.tup [AV.tup [AV.int 2,AV.int 16]]],AV.tup [AV.int 998244353,AV.int 3,AV.tup [AV.tup [AV.int 2,AV.int 23],AV.tup [AV.int 7,AV.int 1],AV.tup [AV.int 17,AV.int 1]]]]++[AV.tup [AV.int 2013265921,AV.int 31,AV.tup [AV.tup [AV.int 2,AV.int 27],AV.tup [AV.int 3,AV.int 1],AV.tup [AV.int 5,AV.int 1]]],AV.tup [AV.int 4179340454199820289,AV.int 3,AV.tup [AV.tup [AV.int 2,AV.int 57],AV.tup [AV.int 29,AV.int 1]]]])=L
 have hLm:∀ z∈L,∃ x∈bigR,z=.tup [.int x.1,.int x.2.1,psT x.2.2]:=by
  intro z hz
  rw [←hL] at hz
  simp only [List.cons_append,List.nil_append,List.mem_cons,List.not_mem_nil,or_false] at hz
  rcases hz with rfl|rfl|rfl|rfl
  ·exact ⟨(65537,3,[(2,16)]),by simp [bigR],rfl⟩
  ·exact ⟨(998244353,3,[(2,23),(7,1),(17,1)]),by simp [bigR],rfl⟩
  ·exact ⟨(2013265921,31,[(2,27),(3,1),(5,1)]),by simp [bigR],rfl⟩
  ·exact ⟨(4179340454199820289,3,[(2,57),(29,1)]),by simp [bigR],rfl⟩
 have hL4:L.length=4:=by rw [←hL];rfl
 clear hL
 walk_at "go"
 (simp only [qae,qal,Int.reduceLE])
 refine qbo qab (by exact z178 hL4) (by walk_at "om") (by exact z179 hL4) fun z hz=>?_
 refine qad (hLm z hz) fun x hx eQ2=>?_
 subst eQ2
 have hxb:3<=x.1/\x.1<10^30/\x.2.1.natAbs<2^200/\∀ b,1<=b->b<=x.1->(Rw.prime x.1 b x.2.2).ok/\NOK (Rw.prime x.1 b x.2.2):=by
  simp only [bigR,List.mem_cons,List.not_mem_nil,or_false] at hx
  rcases hx with rfl|rfl|rfl|rfl <;>
  ·refine ⟨by decide,by decide,by decide,fun b b0 b1=>⟨⟨by decide,by decide,b0,b1,by simp,by simp,by decide,by unfold Ris;decide⟩,by simp only [Rw.needs];decide,?_,?_,⟨_,_,_,rfl⟩,by simp only [Rw.num];decide,by simp only [Rw.needs];decide⟩⟩
   ·simp only [Rw.needs];decide +kernel
   ·simp only [Rw.needs];decide +kernel
 refine qh0 (hxb) fun x3 x30 xb xok=>?_
 clear hxb
 walk_at "gx"
 (simp only [qae,qal,Int.reduceLE])
 refine qbo qab (by (first|exact ye rfl|simp)) (by walk_at "om") (by (first|exact yk _ (by decide)|(simp;(first|lia|omega)))) fun z hz=>?_
 have:∃ e:Nat,z=.int e/\e∈bigE/\e<100:=by
  simp only [List.mem_cons,List.not_mem_nil,or_false] at hz
  rcases hz with rfl|rfl|rfl|rfl|rfl
  ·exact ⟨1,rfl,by decide,by decide⟩
  ·exact ⟨11,rfl,by decide,by decide⟩
  ·exact ⟨13,rfl,by decide,by decide⟩
  ·exact ⟨19,rfl,by decide,by decide⟩
  ·exact ⟨23,rfl,by decide,by decide⟩
 refine qbi (this) fun e eQ1 e0 e1=>?_
 clear this
 subst eQ1
 walk_at "go"
 refine cp x.2.1 e x.1 _ _ xb (by exact z71) (by exact z180 e1) (by exact z181 x3) (by exact z182 x30) ?_
 walk_at "go"
 refine qa4 (qrp hx e0) fun b0 bt=>?_
 have b1:pw x.2.1 e x.1<x.1:=yk _ (by exact z183 x3)
 exact h (.prime x.1 (pw x.2.1 e x.1) x.2.2) (xok _ b0 (Int.le_of_lt b1)).1 bt x3 (xok _ b0 (Int.le_of_lt b1)).2 _ (by repeat (first|exact qaa|refine List.IsPrefix.trans ?_ qaa))
noncomputable def fstA (y:AV):AV:=match y with|.tup (x::_)=>x|_=>.none
def qso (Φ:Fun):Prop:=∀ (r:Rw) (H:Hp) (Q:PQ),r.ok->Q (.ref H.length) (H++[.list (r.needs.map .int)])->Φ "_law_needs" [r.av] H Q
theorem needs {r:Rw}{Q:PQ}(hr:r.ok) (h:Q (.ref H.length) (H++[.list (r.needs.map .int)])):wpF Φ qaw [r.av] H Q:=by
 cases r with
 | prime n b ps =>
  simp only [Rw.av,psT]
  ((refine ⟨rfl,?_⟩;simp only [lst,Nat.reduceSub,Nat.sub_self,List.replicate]))
  simp only [qaw]
  walk_at "go"
  refine qa5 (fun _=>?_) (fun h1=>absurd h1 (by decide))
  walk_at "go"
  have hl:ps.length<=10:=hr.2.2.2.2.2.1
  refine qee fstA (by simp;exact szL (by exact z184 hl)) trivial (fun y hy=>?_) ?_
  ·refine qad (yh hy) fun p hp eQ2=>?_
   subst eQ2
   refine ⟨[.int p.1,.int p.2],rfl,fun Q' q=>?_⟩
   walk_at "wp"
   exact q
  ·walk_at "wp"
   have:(ps.map prAV).map fstA=(Rw.prime n b ps).needs.map .int:=by simp [Rw.needs,prAV,fstA]
   rw [this];exact h
 | first =>
  simp only [Rw.av]
  ((refine ⟨rfl,?_⟩;simp only [lst,Nat.reduceSub,Nat.sub_self,List.replicate]))
  simp only [qaw]
  walk_at "go"
  refine qa5 (fun h1=>absurd h1 (by decide)) (fun _=>?_)
  walk_at "go"
  exact h
 | split n a b =>
  simp only [Rw.av]
  ((refine ⟨rfl,?_⟩;simp only [lst,Nat.reduceSub,Nat.sub_self,List.replicate]))
  simp only [qaw]
  walk_at "go"
  refine qa5 (fun h1=>absurd h1 (by decide)) (fun _=>?_)
  walk_at "go"
  exact h
 | power n b =>
  simp only [Rw.av]
  ((refine ⟨rfl,?_⟩;simp only [lst,Nat.reduceSub,Nat.sub_self,List.replicate]))
  simp only [qaw]
  walk_at "go"
  refine qa5 (fun h1=>absurd h1 (by decide)) (fun _=>?_)
  walk_at "go"
  exact h
 | root n b =>
  simp only [Rw.av]
  ((refine ⟨rfl,?_⟩;simp only [lst,Nat.reduceSub,Nat.sub_self,List.replicate]))
  simp only [qaw]
  walk_at "go"
  refine qa5 (fun h1=>absurd h1 (by decide)) (fun _=>?_)
  walk_at "go"
  exact h
end
section
open PySem
def DOK (P:Rw->Prop) (D:List (Int×AV)):Prop:=∀ e∈D,∃ r:Rw,r.ok/\P r/\r.num=e.1/\e.2=r.av
theorem qm5:∀ {ps qs:List (Int×Int)},ps.map prAV=qs.map prAV->ps=qs
 | [],[],_=>rfl
 | p::r,q::s,h=>by
  simp only [List.map_cons,List.cons.injEq,prAV,AV.tup.injEq,AV.int.injEq,and_true] at h
  rw [qm5 h.2,Prod.ext h.1.1 h.1.2]
theorem qtj {ps qs:List (Int×Int)}(h:psT ps=psT qs):ps=qs:=qm5 (AV.tup.inj h)
theorem qni {r s:Rw}(h:r.av=s.av):r.needs=s.needs:=by
 cases r<;>cases s<;>simp only [Rw.av,AV.tup.injEq,List.cons.injEq,AV.str.injEq,AV.int.injEq,and_true] at h<;>first|rfl|(obtain ⟨_,_,_,h⟩:=h;rw [Rw.needs,Rw.needs,qtj h])|exact absurd h.2.1 (by decide)
noncomputable def n2 (D:List (Int×AV)):Nat:=D.countP fun e=>!decide (e.1=2)
noncomputable def o2 (D:List (Int×AV)):Nat:=D.countP fun e=>decide (e.1=2)
theorem qy9 (D:List (Int×AV)):D.length=n2 D+o2 D:=by
 induction D with
 | nil=>rfl
 | cons e D ih =>
  simp only [n2,o2,List.countP_cons,List.length_cons] at ih ⊢
  by_cases h:e.1=2<;>simp [h]<;>(first|lia|omega)
theorem qec {D:List (Int×AV)}{k:Int}(h:dget D k=none):∀ e∈D,e.1≠k:=by
 intro e he hk
 simp only [dget,Option.map_eq_none_iff,List.find?_eq_none,decide_eq_true_eq] at h
 exact h e he hk
theorem qbv {D:List (Int×AV)}{k:Int}{v:AV}(h:dget D k=some v):(k,v)∈D:=by
 simp only [dget,Option.map_eq_some_iff] at h
 refine qad (h) fun e h1 eQ2=>?_
 clear h
 subst eQ2
 have h2:=List.find?_some h1
 simp only [decide_eq_true_eq] at h2
 have:=List.mem_of_find?_eq_some h1
 rw [←h2];exact this
theorem qfi {D:List (Int×AV)}{e:Int×AV}(h:e∈D):∃ v,dget D e.1=some v:=by
 cases hd:dget D e.1 with
 | some v=>exact ⟨v,rfl⟩
 | none=>exact absurd rfl (qec hd e h)
theorem qeb {D:List (Int×AV)}{k:Int}{v:AV}(h:dget D k=none):dset D k v=D++[(k,v)]:=by
 unfold dset
 rw [if_neg]
 intro h1
 simp only [List.any_eq_true,decide_eq_true_eq] at h1
 refine qad (h1) fun e h2 h3=>?_
 clear h1
 exact qec h e h2 h3
theorem qku {D:List (Int×AV)}{k:Int}{v:AV}(h:dget D k=none):dget (D++[(k,v)]) k=some v:=by
 simp only [dget,Option.map_eq_none_iff] at h
 simp [dget,List.find?_append,h]
def WG (w:Nat):Prop:=2<=w/\(w<=401\/(w<=20000/\isPB w=false))
def WOK (W:List Nat):Prop:=∀ w∈W,WG w
theorem qzd (h:isPB n=false):T n=1/\T2 n=(if n=2 then 0 else 1)/\nxN n=[]/\nx n=[]:=by
 have e:nx n=[]:=by unfold nx;rw [h];rfl
 have e2:nxN n=[]:=by unfold nxN;rw [e];rfl
 exact ⟨by show trT 12 n=1;rw [trT,e2];rfl,by show tr2 12 n=_;rw [tr2,e2];rfl,e2,e⟩
theorem qvk (h:WG n):T n=1+((nxN n).map T).sum/\T2 n=(if n=2 then 0 else 1)+((nxN n).map T2).sum/\T n<=20/\T2 n<=7/\WOK (nxN n)/\∀ q∈nx n,0<=q:=by
 rcases h.2 with h|⟨_,h⟩
 ·refine qst (qzc h) fun t1 t2 t3 t4 t5 t6=>?_
  exact ⟨t1,t2,t3,t4,fun w hw=>⟨(t5 w hw).1,.inl (t5 w hw).2⟩,t6⟩
 ·refine qh0 (qzd h) fun h1 h2 h3 h4=>?_
  rw [h1,h2,h3,h4]
  exact ⟨rfl,rfl,by decide,(by split<;>decide),(fun w hw=>by cases hw),fun q hq=>by cases hq⟩
noncomputable def wI (W:List Nat):List AV:=W.map fun (w:Nat)=>AV.int (w:Int)
structure RsC (P:Rw->Prop) (N:Nat) (rs:List Rw):Prop where
 ne:rs≠[]
 len:rs.length<=N+1
 ok:∀ r∈rs,r.ok
 p:∀ r∈rs,P r
 inc:(rs.map Rw.num).Pairwise (·<·)
 cl:N<=40->∀ r∈rs,∀ q∈r.needs,∃ s∈rs,s.num=q
structure Inv (P:Rw->Prop) (N:Nat) (D:List (Int×AV)) (W:List Nat):Prop where
 d:DOK P D
 o:o2 D<=1
 w:WOK W
 n:n2 D+(W.map T2).sum<=N
 e:D≠[]\/W≠[]
 nd:(D.map (·.1)).Nodup
 cl:N<=40->∀ r:Rw,(r.num,r.av)∈D->∀ q∈r.needs,(∃ v,dget D q=some v)\/∃ w∈W,(w:Int)=q
theorem qgw {l:List Int}(h:l.Pairwise (·<=·)) (n:l.Nodup):l.Pairwise (·<·):=by
 induction l with
 | nil=>exact .nil
 | cons x r ih =>
  rw [List.pairwise_cons] at h
  rw [List.nodup_cons] at n
  refine List.pairwise_cons.mpr ⟨fun y hy=>?_,ih h.2 n.2⟩
  have:=h.1 y hy
  rcases Int.lt_or_eq_of_le this with q|q
  ·exact q
  ·subst q;exact absurd hy n.1
theorem qrd {D E:List (Int×AV)}{k:Int}{v:AV}(h:dget D k=some v):∃ u,dget (D++E) k=some u:=by
 refine qar (qfi (List.mem_append_left E (qbv h))) fun u hu=>?_
 exact ⟨u,hu⟩
theorem qvj {W:List Nat}(h:WOK W):W.length<=(W.map T).sum:=by
 induction W with
 | nil=>simp
 | cons w W ih =>
  have h1:=(qvk (h w (by simp))).1
  have:=ih fun x hx=>h x (by simp [hx])
  simp only [List.length_cons,List.map_cons,List.sum_cons]
  exact z185 h1 this
theorem qmr {P:Rw->Prop}{D:List (Int×AV)}(hd:DOK P D):∀ (ms:List Int),(∀ k∈ms,∃ v,dget D k=some v)->∃ rs:List Rw,(ms.map fun k=>(dget D k).getD .none)=rs.map Rw.av/\rs.map Rw.num=ms/\∀ r∈rs,r.ok/\P r/\(r.num,r.av)∈D
 | [],_=>⟨[],rfl,rfl,fun _ h=>by cases h⟩
 | k::ms,h=>by
  refine qar (h k (by simp)) fun v hv=>?_
  refine qrz (hd _ (qbv hv)) fun r r1 rp r2 r3=>?_
  have rd:(r.num,r.av)∈D:=by rw [r2,←r3];exact qbv hv
  refine qbi (qmr hd ms fun x hx=>h x (by simp [hx])) fun rs h1 h2 h3=>?_
  refine ⟨r::rs,?_,by simp [h2,r2],fun x hx=>?_⟩
  ·simp only [List.map_cons,h1,hv,Option.getD_some];rw [←r3]
  ·rcases yg hx with rfl|hx
   ·exact ⟨r1,rp,rd⟩
   ·exact h3 x hx
noncomputable def getA (D:List (Int×AV)) (y:AV):AV:=match y with|.int k=>(dget D k).getD .none|_=>.none
theorem qu1 {Q:PQ}{l:List (Int×AV)}(h:H[i]?=some (.dict l)) (hn:l.length<=1000) (q:Q (.int l.length) H):wpBi .len [.ref i] H Q:=by
 rw [qwr h];exact ⟨by exact z98 hn,q⟩
theorem qcc {Q:PQ}{l:List (Int×AV)}{k:Int}(h:H[i]?=some (.dict l)) (q:Q (.bool !(dget l k).isSome) H):qbk .notIn (.int k) (.ref i) H Q:=by
 have:wpIn (.int k) (.ref i) H (fun b=>Q (.bool !b) H):=by
  simp only [wpIn,h]
  exact ⟨k,rfl,q⟩
 exact this
theorem qem {K:Hp->Prop}{l:List (Int×AV)}{k:Int}{x:AV}(h:H[i]?=some (.dict l)) (hn:l.length<=1000) (q:K (H.set i (.dict (dset l k x)))):qi2 (.ref i) (.int k) x H K:=by
 simp only [qi2,asI,h]
 exact ⟨szL hn,q⟩
theorem qm9 {Q:PQ}{x:AV}(h:H[i]?=some (.list (l++[x]))) (hn:l.length<=900) (q:Q x (H.set i (.list l))):wpMt .pop (.ref i) [] H Q:=by
 show onL (.ref i) H _
 rw [qdg h]
 exact ⟨szL (by simp;exact z186 hn),l,x,rfl,q⟩
theorem qsf {Q:PQ}{m:List AV}(h:H[i]?=some (.list l)) (h2:H[j]?=some (.list m)) (hn:l.length+m.length<=1000) (q:Q .none (H.set i (.list (l++m)))):wpMt .extend (.ref i) [.ref j] H Q:=by
 show onL (.ref i) H _
 rw [qdg h]
 have:onL (.ref j) H (fun _ m=>l.length+m.length<=1000000/\Q .none (H.set i (.list (l++m)))):=by
  rw [qdg h2]
  exact ⟨by exact z187 hn,q⟩
 exact this
theorem qaf {o:AObj}(h:i≠j):(H.set i o)[j]?=H[j]?:=List.getElem?_set_ne h
theorem qak {o o':AObj}(h:H[i]?=some o'):(H.set i o)[i]?=some o:=by
 rw [List.getElem?_set_self (yl h).1]
def qpd (Φ:Fun):Prop:=∀ (P:Rw->Prop) (N i j k n:Nat) (D:List (Int×AV)) (W:List Nat) (cs:List Int) (H H0:Hp) (Q:PQ),(∀ r:Rw,r.ok->r.tru->(∃ w:Nat,WG w/\r.num=w)->P r)->N<=62->H[i]?=some (.dict D)->H[j]?=some (.list (wI W))->H[k]?=some (.list (cs.map .int))->qdu cs n->1<=n->n<=1000->i≠j->i≠k->j≠k->H0<+:H->H0.length<=i->H0.length<=j->Inv P N D W->(W.map T).sum<=500 ->
 (∀ m rs H' D',H0<+:H'->H0.length<=m->H'[m]?=some (.list (rs.map Rw.av))->RsC P N rs->H'[i]?=some (.dict D')->Inv P N D' []->H'[k]?=some (.list (cs.map .int))->Q (.ref m) H')->Φ "_law_closed" [.ref i,.ref j,.ref k] H Q
theorem qxx {Φ:Fun}(c1:SIsP Φ) (c2:qvl Φ) (c3:qx5 Φ) (c4:qso Φ){P:Rw->Prop}{N i j k n:Nat}{D:List (Int×AV)}{W:List Nat}{cs:List Int}{H H0:Hp}{Q:PQ}(hP:∀ r:Rw,r.ok->r.tru->(∃ w:Nat,WG w/\r.num=w)->P r) (hN:N<=62) (hi:H[i]?=some (.dict D)) (hj:H[j]?=some (.list (wI W))) (hk:H[k]?=some (.list (cs.map .int))) (hc:qdu cs n) (hn1:1<=n) (hn:n<=1000) (ij:i≠j) (ik:i≠k) (jk:j≠k) (hp:H0<+:H) (i0:H0.length<=i) (j0:H0.length<=j) (inv:Inv P N D W) (hT:(W.map T).sum<=500)
  (h:∀ m rs H' D',H0<+:H'->H0.length<=m->H'[m]?=some (.list (rs.map Rw.av))->RsC P N rs->H'[i]?=some (.dict D')->Inv P N D' []->H'[k]?=some (.list (cs.map .int))->Q (.ref m) H'):wpF Φ qcy [.ref i,.ref j,.ref k] H Q:=by
 ((refine ⟨rfl,?_⟩;simp only [lst,Nat.reduceSub,Nat.sub_self,List.replicate]))
 simp only [qcy]
 walk_at "wp"
 refine qen (fun t loc H'=>∃ (D:List (Int×AV)) (W:List Nat) (o1 o2:Option AV),loc=[some (.ref i),some (.ref j),some (.ref k),o1,o2]/\H'[i]?=some (.dict D)/\H'[j]?=some (.list (wI W))/\H'[k]?=some (.list (cs.map .int))/\H0<+:H'/\Inv P N D W/\(W.map T).sum=t/\t<=500) _ ⟨D,W,none,none,rfl,hi,hj,hk,hp,inv,rfl,hT⟩ ?_
 clear hi hj hk hp inv hT D W H
 rintro t loc H ⟨D,W,o1,o2',rfl,hi,hj,hk,hp,inv,hT,ht⟩
 have hWl:=qvj inv.w
 have hDl:=qy9 D
 have hD63:D.length<=63:=by have:=inv.o;have:=inv.n;(first|lia|omega)
 walk_at "wp"
 refine qc1 hj (by simp [wI];exact z188 hT ht hWl) ?_
 walk_at "wp"
 refine qa7 (fun h1=>?_) (fun h1=>?_)
 ·have hW:W≠[]:=by rintro rfl;simp [wI] at h1
  obtain ⟨W',x,rfl⟩:∃ W' x,W=W'++[x]:=⟨W.dropLast,W.getLast hW,(List.dropLast_concat_getLast hW).symm⟩
  have hx:=inv.w x (by simp)
  refine qst (qvk hx) fun t1 t2 t3 t4 t5 t6=>?_
  have hjj:H[j]?=some (.list (wI W'++[.int x])):=by rw [hj];simp [wI]
  have w':WOK W':=fun w hw=>inv.w w (by simp [hw])
  rw [List.map_append,List.sum_append] at hT
  simp only [List.map_cons,List.map_nil,List.sum_cons,List.sum_nil] at hT
  have hn0:=inv.n
  rw [List.map_append,List.sum_append] at hn0
  simp only [List.map_cons,List.map_nil,List.sum_cons,List.sum_nil] at hn0
  have hWl':=qvj w'
  walk_at "wp"
  refine ⟨qa0 hjj,?_⟩
  refine qm9 hjj (by simp [wI];exact z189 ht hT hWl') ?_
  generalize hH1:H.set j (.list (wI W'))=H1
  have hi1:H1[i]?=some (.dict D):=by rw [←hH1,qaf (Ne.symm ij)];exact hi
  have hj1:H1[j]?=some (.list (wI W')):=by rw [←hH1];exact qak hj
  have hk1:H1[k]?=some (.list (cs.map .int)):=by rw [←hH1,qaf jk];exact hk
  have hp1:H0<+:H1:=by rw [←hH1];exact qav hp j0
  walk_at "wp"
  refine qcc hi1 ?_
  walk_at "wp"
  cases hg:dget D x with
  | some v =>
   simp only [Option.isSome_some]
   walk_at "wp"
   refine qaq _ (by exact z190 t1 hT) ⟨D,W',_,_,rfl,hi1,hj1,hk1,hp1,⟨inv.d,inv.o,w',by exact z191 hn0,.inl (by rintro rfl;simp [dget] at hg),inv.nd,fun h40 r hr q hq=>?_⟩,rfl,by exact z192 ht hT⟩
   rcases inv.cl h40 r hr q hq with c|⟨w,hw,e⟩
   ·exact .inl c
   ·rcases yd hw with hw|hw
    ·exact .inr ⟨w,hw,e⟩
    ·rw [yb hw] at e;subst e;exact .inl ⟨v,hg⟩
  | none =>
   simp only [Option.isSome_none]
   walk_at "wp"
   refine qu1 hi1 (by exact z193 hD63) ?_
   walk_at "wp"
   have hcl:=hc.len
   refine qc1 hk1 (by simp;exact z99 hn hcl) ?_
   walk_at "wp"
   refine ⟨by rw [ya];exact z194 hn1 hcl,?_⟩
   simp only [ya,hcl]
   rw [qae (by exact z71)]
   refine qa9 hk1 hc hn (Int.emod_nonneg _ (by exact Int.natCast_ne_zero_iff_pos.mpr hn1)) (yk _ (by exact Int.natCast_pos.mpr hn1)) fun c c0 c1'=>?_
   walk_at "wp"
   refine c1 x H1 _ hx.1 (by have:=hx.2;(first|lia|omega)) ?_
   have rest:∀ r:Rw,r.ok->r.tru->r.num=x->r.needs=nx x->wpSs Φ [MS.expr (.meth .extend (.loc 1) [.call "_law_needs" [.idx (.loc 0) (.loc 3)]])] [some (.ref i),some (.ref j),some (.ref k),some (.int x),some (.int c)] (H1.set i (.dict (dset D x r.av))) (qh2 Φ [] (whlK (fun t loc H'=>∃ (D:List (Int×AV)) (W:List Nat) (o1 o2:Option AV),loc=[some (.ref i),some (.ref j),some (.ref k),o1,o2]/\H'[i]?=some (.dict D)/\H'[j]?=some (.list (wI W))/\H'[k]?=some (.list (cs.map .int))/\H0<+:H'/\Inv P N D W/\(W.map T).sum=t/\t<=500) t (qh2 Φ [MS.ret (.comp false 1 (.idx (.loc 0) (.loc 5)) .plain [.bi .sorted [.loc 0]] [])] (qa8 Q)))):=by
    intro r hr htru hnum hneed
    rw [qeb hg]
    generalize hH2:H1.set i (.dict (D++[((x:Int),r.av)]))=H2
    have hi2:H2[i]?=some (.dict (D++[((x:Int),r.av)])):=by rw [←hH2];exact qak hi1
    have hj2:H2[j]?=some (.list (wI W')):=by rw [←hH2,qaf ij];exact hj1
    have hk2:H2[k]?=some (.list (cs.map .int)):=by rw [←hH2,qaf ik];exact hk1
    have hp2:H0<+:H2:=by rw [←hH2];exact qav hp1 i0
    walk_at "wp"
    refine ⟨qa0 hj2,?_⟩
    rw [qgy hi2]
    refine ⟨r.av,qku hg,?_⟩
    walk_at "wp"
    refine c4 r H2 _ hr ?_
    walk_at "wp"
    have hnl:(nx x).length<=20:=by
     have h1:=qvj t5
     simp only [nxN,ya] at h1
     simp only [nxN] at t1
     exact z195 t1 t3 h1
    have ew:wI W'++r.needs.map .int=wI (W'++nxN x):=by
     rw [hneed]
     simp only [wI,List.map_append,nxN,List.map_map,List.append_cancel_left_eq]
     refine List.map_congr_left fun q hq=>?_
     have:=t6 q hq
     simp only [Function.comp]
     congr 1;exact Int.eq_natCast_toNat.mpr this
    refine qsf (qac qaa hj2) qab (by rw [hneed];simp [wI];exact z196 ht hT hWl' hnl) ?_
    rw [ew]
    walk_at "wp"
    have hjl:j<H2.length:=(yl hj2).1
    refine qaq ((W'++nxN x).map T).sum ?_ ⟨D++[((x:Int),r.av)],W'++nxN x,_,_,rfl,?_,?_,?_,?_,⟨?_,?_,?_,?_,?_,?_,?_⟩,rfl,?_⟩
    ·rw [List.map_append,List.sum_append];exact z197 t1 hT
    ·rw [qaf (Ne.symm ij)];exact qac qaa hi2
    ·exact qak (qac qaa hj2)
    ·rw [qaf jk];exact qac qaa hk2
    ·exact qav (hp2.trans qaa) j0
    ·intro e he
     rcases yd he with he|he
     ·exact inv.d e he
     ·rw [yb he];exact ⟨r,hr,hP r hr htru ⟨x,hx,hnum⟩,hnum,rfl⟩
    ·simp only [o2,List.countP_append]
     by_cases e:(x:Int)=2
     ·have h0:o2 D=0:=by
       simp only [o2,List.countP_eq_zero]
       intro e' he'
       have:=qec hg e' he'
       simp;exact z198 e this
      simp only [o2] at h0
      simp [h0,List.countP_cons,e]
     ·have:=inv.o
      simp only [o2] at this
      simp [List.countP_cons,e];exact z199 this
    ·intro w hw
     rcases yd hw with hw|hw
     ·exact w' w hw
     ·exact t5 w hw
    ·simp only [n2,List.countP_append,List.map_append,List.sum_append]
     simp only [n2] at hn0
     by_cases e:x=2
     ·have:(x:Int)=2:=by exact Int.neg_inj.mp (congrArg Neg.neg (congrArg Nat.cast e))
      rw [if_pos e] at t2
      simp [List.countP_cons,this];exact z200 t2 hn0
     ·have:¬ (x:Int)=2:=by exact Nat.ToInt.of_diseq rfl rfl e
      rw [if_neg e] at t2
      simp [List.countP_cons,this];exact z201 t2 hn0
    ·exact .inl (by simp)
    ·rw [List.map_append,List.nodup_append]
     refine ⟨inv.nd,by simp,fun a ha b hb=>?_⟩
     refine qad (yh ha) fun e he eQ2=>?_
     subst eQ2
     simp only [List.map_cons,List.map_nil,List.mem_singleton] at hb
     subst hb
     exact qec hg e he
    ·intro h40 s hs q hq
     rcases yd hs with hs|hs
     ·rcases inv.cl h40 s hs q hq with ⟨v,c⟩|⟨w,hw,e⟩
      ·exact .inl (qrd c)
      ·rcases yd hw with hw|hw
       ·exact .inr ⟨w,List.mem_append_left _ hw,e⟩
       ·rw [yb hw] at e;subst e;exact .inl ⟨_,qku hg⟩
     ·have e:=congrArg Prod.snd (yb hs)
      rw [qni e,hneed] at hq
      have:=t6 q hq
      exact .inr ⟨q.toNat,List.mem_append_right _ (yn ⟨q,hq,rfl⟩),Int.toNat_of_nonneg this⟩
    ·rw [List.map_append,List.sum_append];exact z202 ht t1 hT
   walk_at "wp"
   cases hpx:isPB x with
   | true =>
    walk_at "wp"
    refine c2 x c H1 _ hx.1 (by rcases hx.2 with q|⟨_,q⟩;exact q;rw [q] at hpx;cases hpx) hpx c0 fun r r1 rt r2 r3=>?_
    walk_at "wp"
    refine qem hi1 (by exact z193 hD63) ?_
    simp only [k_sto4,thenS_next,ss_nil]
    exact rest r r1 rt r2 r3
   | false =>
    walk_at "wp"
    refine c3 x c H1 _ hx.1 (by have:=hx.2;(first|lia|omega)) hpx c0 fun r r1 rt r2 r3=>?_
    walk_at "wp"
    refine qem hi1 (by exact z193 hD63) ?_
    simp only [k_sto4,thenS_next,ss_nil]
    exact rest r r1 rt r2 (by rw [r3];simp [nx,hpx])
 ·have hW:W=[]:=by
   cases W with
   | nil=>rfl
   | cons w W=>exact absurd (by simp [wI];try (first|lia|omega)) h1
  subst hW
  have hDn:D≠[]:=by rcases inv.e with h2|h2;exact h2;exact absurd rfl h2
  walk_at "wp"
  refine ⟨D.map (·.1),.inr ⟨i,D,rfl,hi,rfl⟩,by rw [ya];exact Nat.lt_succ_of_le hD63,fun ms hperm hsort=>?_⟩
  walk_at "wp"
  rw [qca qab]
  have hml:ms.length=D.length:=by rw [hperm.length_eq,ya]
  have hms:∀ y∈ms,∃ v,dget D y=some v:=fun y hy=>by
   refine qad (yh (hperm.mem_iff.mp hy)) fun e he eQ2=>?_
   subst eQ2
   exact qfi he
  refine qbi (qmr inv.d ms hms) fun rs r1 r2 r3=>?_
  refine qee (getA D) (by rw [ya];exact szL (by exact z203 hD63 hml)) qab (fun y hy=>?_) ?_
  ·refine qad (yh hy) fun q hq eQ2=>?_
   subst eQ2
   refine qar (hms q hq) fun v hv=>?_
   refine ⟨[.int q],rfl,fun Q' qq=>?_⟩
   walk_at "wp"
   rw [qgy (qac qaa hi)]
   refine ⟨v,hv,?_⟩
   simp only [getA,hv,Option.getD_some] at qq
   exact qq
  ·walk_at "wp"
   have e:(ms.map AV.int).map (getA D)=rs.map Rw.av:=by
    rw [←r1,List.map_map];rfl
   rw [e]
   have hrl:rs.length=D.length:=by have:=congrArg List.length r2;simp at this;exact z204 hml this
   have hnd:ms.Nodup:=hperm.nodup_iff.mpr inv.nd
   refine h _ rs _ D (hp.trans (qaa.trans qaa)) ?_ qab ⟨?_,by have:=inv.o;have:=inv.n;simp at this;(first|lia|omega),fun r hr=>(r3 r hr).1,fun r hr=>(r3 r hr).2.1,by rw [r2];exact qgw hsort hnd,?_⟩ (qac (qaa.trans qaa) hi) inv (qac (qaa.trans qaa) hk)
   ·have:=hp.length_le;simp;exact Nat.le_add_right_of_le this
   ·rintro rfl
    cases D with
    | nil=>exact hDn rfl
    | cons=>simp at hrl
   ·intro h40 r hr q hq
    rcases inv.cl h40 r (r3 r hr).2.2 q hq with ⟨v,c⟩|⟨w,hw,_⟩
    ·have:q∈ms:=hperm.mem_iff.mpr (yn ⟨_,qbv c,rfl⟩)
     rw [←r2] at this
     refine qad (yh this) fun s hs e=>?_
     exact ⟨s,hs,e⟩
    ·cases hw
end
section
open PySem
theorem qrc {D:List (Int×AV)}{q:Int}:q∈D.map (·.1)↔∃ v,dget D q=some v:=by
 constructor
 ·intro h
  refine qad (yh h) fun e he eQ2=>?_
  subst eQ2
  exact qfi he
 ·rintro ⟨v,hv⟩
  exact yn ⟨_,qbv hv,rfl⟩
abbrev RsOK (rs:List Rw):Prop:=RsC Rw.tru 40 rs
theorem qg3 (ps:List (Int×Int)):cleans (ps.map prAV)=true:=by
 induction ps with
 | nil=>rfl
 | cons p ps ih=>simp only [List.map_cons,prAV,cleans,clean,ih,Bool.and_self]
theorem qk0 (r:Rw):clean r.av=true:=by
 cases r<;>simp only [Rw.av,psT,clean,cleans,qg3,Bool.and_self]
theorem qm4 (ps:List (Int×Int)):clean (psT ps)=true:=by simp only [psT,clean,qg3]
end
section
open PySem
noncomputable def qd3:MF:=⟨1,1,
 [.ret (.or2 (.cmp .eq (.idx (.loc 0) (.cst (.int 1))) (.cst (.str "first"))) (.cmp .eq (.idx (.loc 0) (.cst (.int 1))) (.cst (.str "prime"))))]⟩
noncomputable def qnl:MF:=⟨1,1,
 [.ite (.cmp .eq (.idx (.loc 0) (.cst (.int 1))) (.cst (.str "prime"))) [.ret (.comp true 2 (.loc 1) .plain [.idx (.idx (.loc 0) (.cst (.int 2))) (.cst (.int 1))] [])] [],
 .ret (.lst [])]⟩
noncomputable def qev:MF:=⟨2,6,
 [.asg 2 (.cst (.int 1)),
 .forr true [3,4] .plain [.loc 0] [.forr false [5] .range [.loc 4] [.asg 2 (.bin .mul (.loc 2) (.loc 3)),
   .ite (.cmp .gt (.loc 2) (.loc 1)) [.ret (.cst (.bool false))] []]],
 .ret (.cmp .eq (.loc 2) (.loc 1))]⟩
noncomputable def qcm:MF:=⟨4,4,
 [.ite (.or2 (.not (.bi .all [.comp true 2 (.cmp .isin (.loc 4) (.loc 3)) .plain [.loc 2] []])) (.not (.call "comes_to" [.loc 2,.bin .sub (.loc 0) (.cst (.int 1))]))) [.ret (.cst (.bool false))] [],
 .ite (.or2 (.cmp .ge (.loc 1) (.loc 0)) (.cmp .ne (.call "powered" [.loc 1,.bin .sub (.loc 0) (.cst (.int 1)),.loc 0]) (.cst (.int 1)))) [.ret (.cst (.bool false))] [],
 .ret (.bi .all [.comp true 2 (.cmp .ne (.call "powered" [.loc 1,.bin .fdiv (.bin .sub (.loc 0) (.cst (.int 1))) (.loc 4),.loc 0]) (.cst (.int 1))) .plain [.loc 2] []])]⟩
noncomputable def qjo:MF:=⟨2,6,
 [.asgT [2,3,4] (.loc 0),
 .ite (.cmp .eq (.loc 3) (.cst (.str "first"))) [.ret (.cmp .eq (.loc 2) (.cst (.int 2)))] [],
 .ite (.cmp .eq (.loc 3) (.cst (.str "prime"))) [.ret (.call "holds_prime" [.loc 2,.idx (.loc 4) (.cst (.int 0)),.idx (.loc 4) (.cst (.int 1)),.loc 1])] [],
 .ite (.cmp .eq (.loc 3) (.cst (.str "split"))) [.ret (.cmp .eq (.bin .mul (.idx (.loc 4) (.cst (.int 0))) (.idx (.loc 4) (.cst (.int 1)))) (.loc 2))] [],
 .asg 5 (.idx (.loc 4) (.cst (.int 0))),
 .ite (.cmp .eq (.loc 3) (.cst (.str "power"))) [.ret (.and2 (.cmp .lt (.loc 5) (.loc 2)) (.cmp .ne (.call "powered" [.loc 5,.bin .sub (.loc 2) (.cst (.int 1)),.loc 2]) (.cst (.int 1))))] [],
 .ret (.and2 (.cmp2 .lt .lt (.cst (.int 1)) (.loc 5) (.bin .sub (.loc 2) (.cst (.int 1)))) (.cmp .eq (.bin .mod (.bin .mul (.loc 5) (.loc 5)) (.loc 2)) (.cst (.int 1))))]⟩
noncomputable def qdq:MF:=⟨2,10,
 [.asgT [2,3,4] (.loc 0),
 .ite (.cmp .eq (.loc 3) (.cst (.str "first"))) [.ret (.cmp .eq (.loc 2) (.cst (.int 2)))] [],
 .ite (.cmp .eq (.loc 3) (.cst (.str "split"))) [.ret (.cmp .eq (.bin .mul (.idx (.loc 4) (.cst (.int 0))) (.idx (.loc 4) (.cst (.int 1)))) (.loc 2))] [],
 .asg 5 (.idx (.loc 4) (.cst (.int 0))),
 .ite (.cmp .eq (.loc 3) (.cst (.str "root"))) [.ret (.and2 (.cmp2 .lt .lt (.cst (.int 1)) (.loc 5) (.bin .sub (.loc 2) (.cst (.int 1)))) (.cmp .eq (.bin .mod (.bin .mul (.loc 5) (.loc 5)) (.loc 2)) (.cst (.int 1))))] [],
 .ite (.cmp .eq (.loc 3) (.cst (.str "power"))) [.ret (.and2 (.cmp .lt (.loc 5) (.loc 2)) (.cmp .ne (.call "_law_power" [.loc 5,.bin .sub (.loc 2) (.cst (.int 1)),.loc 2]) (.cst (.int 1))))] [],
 .asg 6 (.cst (.int 1)),
 .forr true [7,8] .plain [.idx (.loc 4) (.cst (.int 1))] [.ite (.cmp .notIn (.loc 7) (.loc 1)) [.ret (.cst (.bool false))] [],
  .forr false [9] .range [.loc 8] [.asg 6 (.bin .mul (.loc 6) (.loc 7))]],
 .ret (.and2 (.cmp .eq (.loc 6) (.bin .sub (.loc 2) (.cst (.int 1)))) (.and2 (.cmp .lt (.loc 5) (.loc 2)) (.call "_law_round" [.loc 2,.loc 5,.idx (.loc 4) (.cst (.int 1))])))]⟩
noncomputable def qdl:MF:=⟨1,1,
 [.ret (.or2 (.cmp .eq (.idx (.loc 0) (.cst (.int 1))) (.cst (.str "first"))) (.cmp .eq (.idx (.loc 0) (.cst (.int 1))) (.cst (.str "prime"))))]⟩
inductive Fc where
 | first
 | prime (b:Int) (ps:List (Int×Int))
 | split (a b:Int)
 | power (b:Int)
 | root (b:Int)
noncomputable def Fc.word:Fc->Str
 | .first => "first"
 | .prime _ _ => "prime"
 | .split _ _ => "split"
 | .power _ => "power"
 | .root _ => "root"
noncomputable def Fc.facts:Fc->List AV
 | .first=>[]
 | .prime b ps=>[.int b,psT ps]
 | .split a b=>[.int a,.int b]
 | .power b=>[.int b]
 | .root b=>[.int b]
noncomputable def roA (n:Int) (f:Fc):AV:=.tup [.int n,.str f.word,.tup f.facts]
def PsK (k:Nat) (ps:List (Int×Int)):Prop:=ps≠[]/\ps.length<=10+k/\∀ p∈ps,2<=p.1/\p.1<=1000000+10*k/\1<=p.2/\p.2<=100
def bK (k:Nat) (b:Int):Prop:=1<=b/\b<=10^30
def sK (k:Nat) (b:Int):Prop:=2<=b/\b<=10^16+k
def Fc.ok (k:Nat):Fc->Prop
 | .first=>True
 | .prime b ps=>bK k b/\PsK k ps/\Ris ps
 | .split a b=>sK k a/\sK k b
 | .power b=>bK k b
 | .root b=>bK k b
def RoK (k:Nat) (n:Int) (f:Fc):Prop:=k<=50/\2<=n/\n<=10^30-2000+k/\f.ok k
noncomputable def Fc.needs:Fc->List Int
 | .prime _ ps=>ps.map (·.1)
 | _=>[]
noncomputable def Fc.tells:Fc->Bool
 | .first=>true
 | .prime _ _=>true
 | _=>false
theorem qi5 {f:Fc}(h:(f.word == "first")=true):f=.first:=by
 cases f<;>first|rfl|(simp only [Fc.word] at h;exact absurd h (by decide))
theorem qma {f:Fc}(h:(f.word == "prime")=true):∃ b ps,f=.prime b ps:=by
 cases f<;>first|exact ⟨_,_,rfl⟩|(simp only [Fc.word] at h;exact absurd h (by decide))
theorem qi4 {f:Fc}(h:(f.word == "split")=true):∃ a b,f=.split a b:=by
 cases f<;>first|exact ⟨_,_,rfl⟩|(simp only [Fc.word] at h;exact absurd h (by decide))
theorem qiz {k:Nat}{b:Int}(hk:k<=50) (h:bK k b):b.natAbs<2^200:=by
 refine qa4 (h) fun h0 h1=>?_
 clear h
 have:b.natAbs<10^32:=by exact z205 h0 h1
 exact Nat.lt_of_lt_of_le this (by decide)
theorem qj5 {k:Nat}{b:Int}(hk:k<=50) (h:sK k b):b.natAbs<2^200:=by
 refine qa4 (h) fun h0 h1=>?_
 clear h
 have:b.natAbs<10^32:=by exact z206 hk h0 h1
 exact Nat.lt_of_lt_of_le this (by decide)
theorem qjx {ps:List (Int×Int)}(hk:k<=50) (h:PsK k ps):∀ p∈ps,1<=p.1/\p.1.natAbs<2^200:=fun p hp=>by
 refine qfk (h.2.2 p hp) fun h1 h2 _=>?_
 refine ⟨by exact Int.le_of_lt h1,?_⟩
 have:p.1.natAbs<10^32:=by exact z207 hk h1 h2
 exact Nat.lt_of_lt_of_le this (by decide)
def qef (nm:Str) (Φ:Fun):Prop:=∀ (k:Nat) (n:Int) (f:Fc) (H:Hp) (Q:PQ),RoK k n f->Q (.ref H.length) (H++[.list (f.needs.map .int)])->Φ nm [roA n f] H Q
theorem qwm {n:Int}{f:Fc}{Q:PQ}(hr:RoK k n f) (h:Q (.ref H.length) (H++[.list (f.needs.map .int)])):wpF Φ qaw [roA n f] H Q:=by
 unfold roA
 ((refine ⟨rfl,?_⟩;simp only [lst,Nat.reduceSub,Nat.sub_self,List.replicate]))
 simp only [qaw]
 walk_at "go"
 refine qa5 (fun h1=>?_) (fun h1=>?_)
 ·refine qjz (qma h1) fun b ps eQ2=>?_
  subst eQ2
  simp only [Fc.facts,psT]
  walk_at "go"
  have hl:ps.length<=10+k:=hr.2.2.2.2.1.2.1
  have hk:=hr.1
  refine qee fstA (by simp;exact szL (by exact z208 hl hk)) trivial (fun y hy=>?_) ?_
  ·refine qad (yh hy) fun p hp eQ2=>?_
   subst eQ2
   refine ⟨[.int p.1,.int p.2],rfl,fun Q' q=>?_⟩
   walk_at "wp"
   exact q
  ·walk_at "wp"
   have:(ps.map prAV).map fstA=(Fc.prime b ps).needs.map .int:=by simp [Fc.needs,prAV,fstA]
   rw [this];exact h
 ·walk_at "go"
  have:f.needs=[]:=by cases f<;>first|rfl|(simp only [Fc.word] at h1;exact absurd h1 (by decide))
  rw [this] at h;exact h
theorem qyv {n:Int}{f:Fc}{Q:PQ}(hr:RoK k n f) (h:Q (.ref H.length) (H++[.list (f.needs.map .int)])):wpF Φ qnl [roA n f] H Q:=qwm hr h
def qfc (nm:Str) (Φ:Fun):Prop:=∀ (n:Int) (f:Fc) (H:Hp) (Q:PQ),Q (.bool f.tells) H->Φ nm [roA n f] H Q
theorem tells {n:Int}{f:Fc}{Q:PQ}(h:Q (.bool f.tells) H):wpF Φ qdl [roA n f] H Q:=by
 unfold roA
 ((refine ⟨rfl,?_⟩;simp only [lst,Nat.reduceSub,Nat.sub_self,List.replicate]))
 simp only [qdl]
 walk_at "go"
 refine qa5 (fun h1=>?_) (fun h1=>?_)
 ·rw [qi5 h1] at h
  walk_at "wp"
  exact h
 ·walk_at "go"
  have:f.tells=(f.word == "prime"):=by cases f<;>simp only [Fc.word,Fc.tells] at h1 ⊢<;>first|decide|exact absurd h1 (by decide)
  rw [this] at h;exact h
theorem qv2 {n:Int}{f:Fc}{Q:PQ}(h:Q (.bool f.tells) H):wpF Φ qd3 [roA n f] H Q:=tells h
end
section
open PySem
theorem qmw {m:Nat}{y:AV}(h:((List.range m).map fun (k:Nat)=>AV.int k)[i]?=some y):y=.int i/\i<m:=by
 have hlt:i<m:=by
  have:=(yl h).1
  simpa using this
 rw [List.getElem?_map,List.getElem?_range hlt] at h
 simp only [Option.map_some,Option.some.injEq] at h
 exact ⟨h.symm,hlt⟩
def qsp (Φ:Fun):Prop:=∀ (k:Nat) (ps:List (Int×Int)) (n:Int) (H:Hp) (Q:PQ),k<=50->PsK k ps->1<=n->n<=10^32->Q (.bool (decide (qay ps=n))) H->Φ "comes_to" [psT ps,.int n] H Q
theorem comes_to {ps:List (Int×Int)}{n:Int}{Q:PQ}(hk:k<=50) (hps:PsK k ps) (n1:1<=n) (n2:n<=10^32) (h:Q (.bool (decide (qay ps=n))) H):wpF Φ qev [psT ps,.int n] H Q:=by
 have hp1:∀ p∈ps,1<=p.1:=fun p hp=>(qjx hk hps p hp).1
 unfold psT
 ((refine ⟨rfl,?_⟩;simp only [lst,Nat.reduceSub,Nat.sub_self,List.replicate]))
 simp only [qev]
 walk_at "go"
 refine qao (fun i loc H'=>∃ (o3 o4 o5:Option AV),H'=H/\qay (ps.take i)<=n/\loc=[some (.tup (ps.map prAV)),some (.int n),some (.int (qay (ps.take i))),o3,o4,o5]) ⟨none,none,none,rfl,by simp [qay];exact z209 n1,rfl⟩ ?_
 rintro i loc H' ⟨o3,o4,o5,rfl,hle,rfl⟩
 refine ⟨trivial,fun y hy=>?_,fun hi=>?_⟩
 ·rw [List.getElem?_map] at hy
  refine qad (yf hy) fun p hpp eQ2=>?_
  subst eQ2
  refine qh0 (hps.2.2 p (yc hpp)) fun q2 q3 t1 t2=>?_
  have f1:1<=qay (ps.take i):=qfs fun x hx=>hp1 x (List.mem_of_mem_take hx)
  refine ⟨[.int p.1,.int p.2],rfl,?_⟩
  walk_at "wp"
  refine ⟨by exact z210 t1,by exact z211 t2,?_⟩
  refine qao (fun j loc H2=>∃ (o5:Option AV),H2=H'/\j<=p.2.toNat/\qay (ps.take i)*p.1^j<=n/\loc=[some (.tup (ps.map prAV)),some (.int n),some (.int (qay (ps.take i)*p.1^j)),some (.int p.1),some (.int p.2),o5]) ⟨o5,rfl,Nat.zero_le _,by simpa using hle,by simp⟩ ?_
  rintro j loc H2 ⟨o5,rfl,hj,hjn,rfl⟩
  refine ⟨trivial,fun y hy=>?_,fun hi=>?_⟩
  ·refine qa4 (qmw hy) fun eQ0 hlt=>?_
   subst eQ0
   refine ⟨[.int j],rfl,?_⟩
   have g1:1<=qay (ps.take i)*p.1^j:=by
    have:=Int.mul_le_mul f1 (pow_pos' (hp1 p (yc hpp)) j) (by decide) (by exact Int.le_of_lt f1)
    simpa using this
   have e1:qay (ps.take i)*p.1^j*p.1=qay (ps.take i)*p.1^(j+1):=by rw [Int.pow_succ,Int.mul_assoc]
   walk_at "wp"
   refine ⟨qdh (Nat.lt_of_lt_of_le (show p.1.natAbs<10000000 by exact z212 hk q2 q3) (by decide)),?_⟩
   rw [e1]
   refine qa7 (fun h1=>?_) (fun h1=>?_)
   ·walk_at "wp"
    have:=qtk hp1 hpp (show j+1<=p.2.toNat by exact Nat.succ_le_of_lt hlt)
    rw [show decide (qay ps=n)=false from decide_eq_false (by exact z213 h1 this)] at h
    exact h
   ·walk_at "wp"
    exact qaj ⟨_,rfl,by exact Nat.succ_le_of_lt hlt,by exact Int.not_lt.mp h1,rfl⟩
  ·have hj2:j=p.2.toNat:=by simpa using hi
   walk_at "wp"
   refine qaj ⟨some (.int p.1),some (.int p.2),o5,rfl,?_,?_⟩
   ·rw [qfr hpp,←hj2];exact hjn
   ·rw [qfr hpp,←hj2]
 ·walk_at "wp"
  have:ps.take i=ps:=List.take_of_length_le (by rw [hi];simp)
  rw [this];exact h
theorem qoo {l:List Int}:dats H (l.map .int)=some (l.map .int):=by
 unfold dats
 induction l with
 | nil=>rfl
 | cons x r ih=>simp only [List.map_cons,datRs,datR,ih,Option.bind_some,Option.map_some]
theorem qrs {l:List Int}{q:Int}:((l.map PyData.int).any fun z=>PyData.eqv z (.int q))=l.contains q:=by
 induction l with
 | nil=>rfl
 | cons x r ih =>
  simp only [List.map_cons,List.any_cons,ih,PyData.eqv,List.contains_cons]
  rw [show (x == q)=(q == x) by rw [Bool.eq_iff_iff,beq_iff_eq,beq_iff_eq];exact eq_comm]
theorem qhj {l:List Int}{q:Int}{K:Bool->Prop}(hj:H[j]?=some (.list (l.map .int))) (h:K (l.contains q)):wpIn (.int q) (.ref j) H K:=by
 unfold wpIn
 simp only [hj]
 exact ⟨.int q,_,rfl,qoo,by simp [PyData.depth],by rw [qrs];exact h⟩
noncomputable def Fc.holds (n:Int) (pr:List Int):Fc->Bool
 | .first=>decide (n=2)
 | .prime b ps=>(ps.all fun p=>pr.contains p.1)&&(decide (qay ps=n-1)&&(decide (b<n)&&qbd n b ps))
 | .split a b=>decide (a*b=n)
 | .power b=>decide (b<n)&&!decide (pw b (n-1) n=1)
 | .root b=>(decide (1<b)&&decide (b<n-1))&&decide (b*b%n=1)
def SHp (Φ:Fun):Prop:=∀ (k j:Nat) (n b:Int) (ps:List (Int×Int)) (pr:List Int) (H:Hp) (Q:PQ),H[j]?=some (.list (pr.map .int))->RoK k n (.prime b ps)->(∀ H',H<+:H'->Q (.bool ((Fc.prime b ps).holds n pr)) H')->Φ "holds_prime" [.int n,.int b,psT ps,.ref j] H Q
noncomputable def inA (pr:List Int) (y:AV):AV:=match y with|.tup (.int q::_)=>.bool (pr.contains q)|_=>.none
noncomputable def pwA (b n:Int) (y:AV):AV:=match y with|.tup (.int q::_)=>.bool (!decide (pw b ((n-1)/q) n=1))|_=>.none
theorem holds_prime {Φ:Fun}(c1:qsp Φ) (c2:SPow Φ){k j:Nat}{n b:Int}{ps:List (Int×Int)}{pr:List Int}{H:Hp}{Q:PQ}(hj:H[j]?=some (.list (pr.map .int))) (hr:RoK k n (.prime b ps)) (h:∀ H',H<+:H'->Q (.bool ((Fc.prime b ps).holds n pr)) H'):wpF Φ qcm [.int n,.int b,psT ps,.ref j] H Q:=by
 refine qst (hr) fun hk n0 n1 qQ3 hps _=>?_
 clear hr
 obtain ⟨b0,b1⟩:=qQ3
 have hn:n<=10^32:=by exact z214 hk n1
 have hl:ps.length<=10+k:=hps.2.1
 have hall:∀ (g:Int×Int->Bool) (G:AV->AV),(∀ p,G (prAV p)=.bool (g p))->∀ (H':Hp),(H'++[AObj.list ((ps.map prAV).map G)])[H'.length]?=some (.list ((ps.map g).map AV.bool)):=fun g G e H'=>by
  rw [qab,List.map_map,List.map_map]
  congr 2
  exact List.map_congr_left fun p _=>e p
 ((refine ⟨rfl,?_⟩;simp only [lst,Nat.reduceSub,Nat.sub_self,List.replicate]))
 simp only [qcm,psT]
 walk_at "go"
 refine qee (inA pr) (by simp;exact szL (by exact z215 hk hl)) trivial (fun y hy=>?_) ?_
 ·refine qad (yh hy) fun p hp eQ2=>?_
  subst eQ2
  refine ⟨[.int p.1,.int p.2],rfl,fun Q' q=>?_⟩
  walk_at "wp"
  exact qhj (K:=fun b=>Q' (.bool b) H) hj q
 walk_at "wp"
 refine (qo5 (hall (fun p=>pr.contains p.1) _ (fun p=>rfl) H)).mpr ?_
 rw [List.all_map]
 walk_at "wp"
 refine qa5 (K:=fun b=>kOr Φ _ _ _ (.bool !b) _) (fun h1=>?_) (fun h1=>?_)
 ·simp only [Bool.not_true]
  walk_at "wp"
  refine c1 k ps (n-1) _ _ hk hps (by exact Int.le_sub_one_of_lt n0) (by exact z216 hn) ?_
  walk_at "wp"
  have h1:(ps.all fun p=>pr.contains p.1)=true:=h1
  refine qpy (K:=fun b=>qb5 Φ _ _ _ _ _ b) (fun h2=>?_) (fun h2=>?_)
  ·walk_at "wp"
   have e:(Fc.prime b ps).holds n pr=false:=by simp only [Fc.holds,h1,decide_eq_false h2,Bool.true_and,Bool.false_and]
   rw [e] at h
   exact h _ qaa
  walk_at "wp"
  refine qa7 (fun h3=>?_) (fun h3=>?_)
  ·walk_at "wp"
   have e:(Fc.prime b ps).holds n pr=false:=by simp only [Fc.holds,h1,show decide (b<n)=false from decide_eq_false (by exact Int.not_lt_of_ge h3),Bool.false_and,Bool.and_false]
   rw [e] at h
   exact h _ qaa
  walk_at "wp"
  refine c2 b (n-1) n _ _ (by exact z217 b0 h3) (by exact z218 b0 h3) hn ?_
  walk_at "wp"
  refine qpy (fun h4=>?_) (fun h4=>?_)
  ·walk_at "wp"
   have e:(Fc.prime b ps).holds n pr=false:=by simp only [Fc.holds,qbd,decide_eq_false h4,Bool.false_and,Bool.and_false]
   rw [e] at h
   exact h _ qaa
  walk_at "wp"
  refine qee (pwA b n) (by simp;exact szL (by exact z215 hk hl)) trivial (fun y hy=>?_) ?_
  ·refine qad (yh hy) fun p hp eQ2=>?_
   subst eQ2
   refine qfk (hps.2.2 p hp) fun q2 q3 _=>?_
   refine ⟨[.int p.1,.int p.2],rfl,fun Q' q=>?_⟩
   walk_at "wp"
   refine ⟨by exact z146 q2,qhe (qjx hk hps p hp).2,?_⟩
   simp only [qal (show (0:Int)<=p.1 by exact z148 q2)]
   refine c2 b ((n-1)/p.1) n _ _ (Int.ediv_nonneg (by exact z62 n0) (by exact z148 q2)) (by exact Int.le_of_lt n0) hn ?_
   walk_at "wp"
   exact q
  walk_at "wp"
  refine (qo5 (hall (fun p=>!decide (pw b ((n-1)/p.1) n=1)) _ (fun p=>rfl) _)).mpr ?_
  rw [List.all_map]
  walk_at "wp"
  have e:(Fc.prime b ps).holds n pr=(ps.all fun p=>!decide (pw b ((n-1)/p.1) n=1)):=by simp only [Fc.holds,qbd,h1,decide_eq_true h2,show decide (b<n)=true from decide_eq_true (by exact Int.lt_of_not_ge h3),decide_eq_true h4,Bool.true_and]
  rw [e] at h
  exact h _ (qaa.trans qaa)
 ·simp only [Bool.not_false]
  walk_at "wp"
  have h1:(ps.all fun p=>pr.contains p.1)=false:=h1
  have e:(Fc.prime b ps).holds n pr=false:=by simp only [Fc.holds,h1,Bool.false_and]
  rw [e] at h
  exact h _ qaa
theorem qye {f:Fc}(h1:(f.word == "first")=false) (h2:(f.word == "prime")=false) (h3:(f.word == "split")=false):(∃ b,f=.power b)\/∃ b,f=.root b:=by
 cases f with
 | power b=>exact .inl ⟨b,rfl⟩
 | root b=>exact .inr ⟨b,rfl⟩
 | first=>exact absurd h1 (by decide)
 | prime=>simp only [Fc.word] at h2;exact absurd h2 (by decide)
 | split=>simp only [Fc.word] at h3;exact absurd h3 (by decide)
theorem ql9 {f:Fc}(h1:(f.word == "first")=false) (h3:(f.word == "split")=false):(∃ b ps,f=.prime b ps)\/(∃ b,f=.power b)\/∃ b,f=.root b:=by
 cases f with
 | prime b ps=>exact .inl ⟨b,ps,rfl⟩
 | power b=>exact .inr (.inl ⟨b,rfl⟩)
 | root b=>exact .inr (.inr ⟨b,rfl⟩)
 | first=>exact absurd h1 (by decide)
 | split=>simp only [Fc.word] at h3;exact absurd h3 (by decide)
def qde (nm:Str) (Φ:Fun):Prop:=∀ (k j:Nat) (n:Int) (f:Fc) (pr:List Int) (H:Hp) (Q:PQ),H[j]?=some (.list (pr.map .int))->RoK k n f->(∀ H',H<+:H'->Q (.bool (f.holds n pr)) H')->Φ nm [roA n f,.ref j] H Q
theorem holds (c1:SHp Φ) (c2:SPow Φ){n:Int}{f:Fc}{pr:List Int}{Q:PQ}(hj:H[j]?=some (.list (pr.map .int))) (hr:RoK k n f) (h:∀ H',H<+:H'->Q (.bool (f.holds n pr)) H'):wpF Φ qjo [roA n f,.ref j] H Q:=by
 refine qh0 (id hr) fun hk n0 n1 hf=>?_
 have hn:n<=10^32:=by exact z214 hk n1
 have h0:=h H (List.prefix_refl _)
 unfold roA
 ((refine ⟨rfl,?_⟩;simp only [lst,Nat.reduceSub,Nat.sub_self,List.replicate]))
 simp only [qjo]
 walk_at "go"
 refine qa5 (fun h1=>?_) (fun h1=>?_)
 ·obtain rfl:=qi5 h1
  walk_at "wp"
  exact h0
 walk_at "wx"
 refine qa5 (fun h2=>?_) (fun h2=>?_)
 ·refine qjz (qma h2) fun b ps eQ2=>?_
  subst eQ2
  simp only [Fc.facts]
  walk_at "go"
  exact c1 k j n b ps pr H _ hj hr h
 walk_at "wp"
 refine qa5 (fun h3=>?_) (fun h3=>?_)
 ·refine qjz (qi4 h3) fun a b eQ2=>?_
  subst eQ2
  simp only [Fc.facts]
  walk_at "go"
  refine ⟨qbe (qj5 hk hf.1) (qj5 hk hf.2),?_⟩
  walk_at "wp"
  exact h0
 walk_at "wp"
 rcases qye h1 h2 h3 with ⟨b,rfl⟩|⟨b,rfl⟩
 ·simp only [Fc.facts,Fc.word]
  walk_at "go"
  refine qa5 (fun h4=>?_) (fun h4=>absurd h4 (by decide))
  walk_at "wp"
  refine qa7 (fun h5=>?_) (fun h5=>?_)
  ·walk_at "wp"
   refine c2 b (n-1) n _ _ (by exact z62 n0) (by exact Int.le_of_lt n0) hn ?_
   walk_at "wp"
   simp only [Fc.holds,decide_eq_true h5,Bool.true_and] at h0
   exact h0
  ·walk_at "wp"
   simp only [Fc.holds,decide_eq_false h5,Bool.false_and] at h0
   exact h0
 ·simp only [Fc.facts,Fc.word]
  walk_at "go"
  refine qa5 (fun h4=>absurd h4 (by decide)) (fun h4=>?_)
  have kb:=qiz hk hf
  walk_at "wp"
  refine qa7 (fun h5=>?_) (fun h5=>?_)
  ·walk_at "wp"
   refine qa7 (fun h6=>?_) (fun h6=>?_)
   ·walk_at "wp"
    refine ⟨qbe kb kb,by exact z219 h5 h6,?_⟩
    simp only [qae (show (0:Int)<=n by exact z220 h5 h6)]
    simp only [Fc.holds,decide_eq_true h5,decide_eq_true h6,Bool.true_and] at h0
    exact h0
   ·walk_at "wp"
    simp only [Fc.holds,decide_eq_false h6,Bool.and_false,Bool.false_and] at h0
    exact h0
  ·walk_at "wp"
   simp only [Fc.holds,decide_eq_false h5,Bool.false_and] at h0
   exact h0
theorem qnp (c1:qpa Φ) (c2:qg5 Φ){n:Int}{f:Fc}{pr:List Int}{Q:PQ}(hj:H[j]?=some (.list (pr.map .int))) (hr:RoK k n f) (h:Q (.bool (f.holds n pr)) H):wpF Φ qdq [roA n f,.ref j] H Q:=by
 refine qh0 (id hr) fun hk n0 n1 hf=>?_
 have hn:n<=10^32:=by exact z214 hk n1
 unfold roA
 ((refine ⟨rfl,?_⟩;simp only [lst,Nat.reduceSub,Nat.sub_self,List.replicate]))
 simp only [qdq]
 walk_at "go"
 refine qa5 (fun h1=>?_) (fun h1=>?_)
 ·obtain rfl:=qi5 h1
  walk_at "wp"
  exact h
 walk_at "wx"
 refine qa5 (fun h3=>?_) (fun h3=>?_)
 ·refine qjz (qi4 h3) fun a b eQ2=>?_
  subst eQ2
  simp only [Fc.facts]
  walk_at "go"
  refine ⟨qbe (qj5 hk hf.1) (qj5 hk hf.2),?_⟩
  walk_at "wp"
  exact h
 walk_at "wp"
 rcases ql9 h1 h3 with ⟨b,ps,rfl⟩|⟨b,rfl⟩|⟨b,rfl⟩
 ·simp only [Fc.facts,Fc.word]
  walk_at "gx"
  refine qa5 (fun h4=>absurd h4 (by decide)) (fun _=>?_)
  walk_at "wp"
  refine qa5 (fun h4=>absurd h4 (by decide)) (fun _=>?_)
  walk_at "wp"
  refine ⟨su2,?_⟩
  have hps:PsK k ps:=hf.2.1
  have hb:=qiz hk hf.1
  have hh:(Fc.prime b ps).holds n pr=((ps.all fun p=>pr.contains p.1)&&(decide (qay ps=n-1)&&(decide (b<n)&&qbd n b ps))):=rfl
  rw [hh] at h
  simp only [psT]
  walk_at "wp"
  refine qao (fun i loc H'=>∃ (o7 o8 o9:Option AV),H'=H/\(ps.all fun p=>pr.contains p.1)=((ps.drop i).all fun p=>pr.contains p.1)/\loc=[some (.tup [.int n,.str "prime",.tup [.int b,.tup (ps.map prAV)]]),some (.ref j),some (.int n),some (.str "prime"),some (.tup [.int b,.tup (ps.map prAV)]),some (.int b),some (.int (qay (ps.take i))),o7,o8,o9]) ⟨none,none,none,rfl,by simp,rfl⟩ ?_
  rintro i loc H' ⟨o7,o8,o9,rfl,hd,rfl⟩
  refine ⟨trivial,fun y hy=>?_,fun hi=>?_⟩
  ·rw [List.getElem?_map] at hy
   refine qad (yf hy) fun p hpp eQ2=>?_
   subst eQ2
   refine qar (yl hpp) fun hlt e=>?_
   have hpm:=yc hpp
   refine qh0 (hps.2.2 p hpm) fun q2 q3 t1 t2=>?_
   rw [List.drop_eq_getElem_cons hlt,e,List.all_cons] at hd
   refine ⟨[.int p.1,.int p.2],rfl,?_⟩
   walk_at "wp"
   refine qhj (K:=fun b=>kIte Φ _ _ _ _ (.bool !b) _) hj ?_
   refine qa5 (K:=fun b=>kIte Φ _ _ _ _ (.bool !b) _) (fun h5=>?_) (fun h5=>?_)
   ·simp only [Bool.not_true]
    walk_at "wp"
    rw [h5,Bool.true_and] at hd
    refine ⟨by exact z210 t1,by exact z211 t2,?_⟩
    refine qao (fun m loc H2=>∃ (o9:Option AV),H2=H'/\m<=p.2.toNat/\loc=[some (.tup [.int n,.str "prime",.tup [.int b,.tup (ps.map prAV)]]),some (.ref j),some (.int n),some (.str "prime"),some (.tup [.int b,.tup (ps.map prAV)]),some (.int b),some (.int (qay (ps.take i)*p.1^m)),some (.int p.1),some (.int p.2),o9]) ⟨o9,rfl,Nat.zero_le _,by simp⟩ ?_
    rintro m loc H2 ⟨o9,rfl,hm,rfl⟩
    refine ⟨trivial,fun y hy=>?_,fun hi=>?_⟩
    ·refine qa4 (qmw hy) fun eQ0 hlt=>?_
     subst eQ0
     refine ⟨[.int m],rfl,?_⟩
     walk_at "wp"
     refine ⟨qdh (Nat.lt_of_lt_of_le (show p.1.natAbs<10000000 by exact z212 hk q2 q3) (by decide)),?_⟩
     exact qaj ⟨_,rfl,by exact Nat.succ_le_of_lt hlt,by rw [Int.mul_assoc,←Int.pow_succ]⟩
    ·have hj2:m=p.2.toNat:=by simpa using hi
     walk_at "wp"
     exact qaj ⟨some (.int p.1),some (.int p.2),o9,rfl,hd,by rw [qfr hpp,←hj2]⟩
   ·simp only [Bool.not_false]
    walk_at "wp"
    rw [h5,Bool.false_and] at hd
    rw [hd,Bool.false_and] at h
    exact h
  ·walk_at "wp"
   have e1:ps.take i=ps:=List.take_of_length_le (by rw [hi];simp)
   have e2:ps.drop i=[]:=List.drop_eq_nil_of_le (by rw [hi];simp)
   rw [e2] at hd
   rw [hd,List.all_nil,Bool.true_and] at h
   rw [e1]
   refine qa7 (fun h5=>?_) (fun h5=>?_)
   ·walk_at "wp"
    rw [decide_eq_true h5,Bool.true_and] at h
    refine qa7 (fun h6=>?_) (fun h6=>?_)
    ·walk_at "wp"
     rw [decide_eq_true h6,Bool.true_and] at h
     refine ⟨su2,?_⟩
     refine c1 n b ps _ _ n0 hn hb (qjx hk hps) ?_
     walk_at "wp"
     exact h
    ·walk_at "wp"
     rw [decide_eq_false h6,Bool.false_and] at h
     exact h
   ·walk_at "wp"
    rw [decide_eq_false h5,Bool.false_and] at h
    exact h
 ·simp only [Fc.facts,Fc.word]
  walk_at "gx"
  refine qa5 (fun h4=>absurd h4 (by decide)) (fun _=>?_)
  walk_at "wp"
  refine qa5 (fun h4=>?_) (fun h4=>absurd h4 (by decide))
  walk_at "wp"
  refine qa7 (fun h5=>?_) (fun h5=>?_)
  ·walk_at "wp"
   refine c2 b (n-1) n _ _ (qiz hk hf) (by exact z62 n0) (by exact Int.sub_one_lt_of_le hn) (by exact Int.le_of_lt n0) hn ?_
   walk_at "wp"
   simp only [Fc.holds,decide_eq_true h5,Bool.true_and] at h
   exact h
  ·walk_at "wp"
   simp only [Fc.holds,decide_eq_false h5,Bool.false_and] at h
   exact h
 ·simp only [Fc.facts,Fc.word]
  walk_at "go"
  refine qa5 (fun h4=>?_) (fun h4=>absurd h4 (by decide))
  have kb:=qiz hk hf
  walk_at "wp"
  refine qa7 (fun h5=>?_) (fun h5=>?_)
  ·walk_at "wp"
   refine qa7 (fun h6=>?_) (fun h6=>?_)
   ·walk_at "wp"
    refine ⟨qbe kb kb,by exact z219 h5 h6,?_⟩
    simp only [qae (show (0:Int)<=n by exact z220 h5 h6)]
    simp only [Fc.holds,decide_eq_true h5,decide_eq_true h6,Bool.true_and] at h
    exact h
   ·walk_at "wp"
    simp only [Fc.holds,decide_eq_false h6,Bool.and_false,Bool.false_and] at h
    exact h
  ·walk_at "wp"
   simp only [Fc.holds,decide_eq_false h5,Bool.false_and] at h
   exact h
end
section
open PySem
noncomputable def qap:MF:=⟨3,9,
 [.asgT [3,4,5] (.loc 0),
 .ite (.cmp .eq (.loc 4) (.cst (.str "split"))) [.ret (.tup [.loc 3,.loc 4,.tup [.bin .sub (.bin .add (.idx (.loc 5) (.cst (.int 0))) (.cst (.int 1))) (.bin .mod (.loc 1) (.cst (.int 2))),.bin .add (.idx (.loc 5) (.cst (.int 1))) (.bin .mod (.loc 1) (.cst (.int 2)))]])] [],
 .ite (.cmp .eq (.loc 4) (.cst (.str "first"))) [.ret (.tup [.loc 3,.cst (.str "power"),.tup [.bin .add (.cst (.int 1)) (.bin .mod (.loc 2) (.cst (.int 3)))]])] [],
 .asg 6 (.idx (.loc 5) (.cst (.int 0))),
 .ite (.cmp .lt (.loc 1) (.cst (.int 4))) [.asg 6 (.idx (.lst [.bin .sub (.loc 3) (.cst (.int 1)),.cst (.int 1),.loc 3,.bi .min [.bin .add (.loc 6) (.loc 3),.bin .pow (.cst (.int 10)) (.cst (.int 30))]]) (.loc 1)),
  .ret (.tup [.loc 3,.loc 4,.bin .add (.tup [.loc 6]) (.slcT (.loc 5) [.cst (.int 1)] [])])] [],
 .ite (.or2 (.cmp .eq (.loc 4) (.cst (.str "power"))) (.cmp .eq (.loc 4) (.cst (.str "root")))) [.ret (.tup [.loc 3,.idx (.lst [.cst (.str "root"),.cst (.str "power")]) (.bi .int [.cmp .eq (.loc 4) (.cst (.str "root"))]),.loc 5])] [],
 .asg 7 (.bi .list [.idx (.loc 5) (.cst (.int 1))]),
 .asg 8 (.bin .mod (.loc 2) (.bi .len [.loc 7])),
 .ite (.cmp .eq (.loc 1) (.cst (.int 4))) [.sto (.loc 7) (.loc 8) (.tup [.idx (.idx (.loc 7) (.loc 8)) (.cst (.int 0)),.bin .add (.bin .mod (.idx (.idx (.loc 7) (.loc 8)) (.cst (.int 1))) (.cst (.int 100))) (.cst (.int 1))])] [.ite (.and2 (.cmp .eq (.loc 1) (.cst (.int 5))) (.cmp .gt (.bi .len [.loc 7]) (.cst (.int 1)))) [.asg 7 (.bin .add (.slc (.loc 7) [] [.loc 8]) (.slc (.loc 7) [.bin .add (.loc 8) (.cst (.int 1))] []))] [.ite (.cmp .eq (.loc 1) (.cst (.int 6))) [.asg 7 (.bin .add (.loc 7) (.lst [.tup [.bin .add (.bin .add (.idx (.idx (.loc 7) (.neg (.cst (.int 1)))) (.cst (.int 0))) (.cst (.int 1))) (.bin .mod (.loc 2) (.cst (.int 9))),.cst (.int 1)]]))] [.ite (.cmp .eq (.bin .mod (.loc 2) (.cst (.int 3))) (.cst (.int 0))) [.ret (.tup [.loc 3,.cst (.str "power"),.tup [.loc 6]])] [.asg 6 (.call "_law_power" [.loc 6,.idx (.idx (.loc 7) (.loc 8)) (.cst (.int 0)),.loc 3])]]]],
 .ret (.tup [.loc 3,.loc 4,.tup [.bi .max [.cst (.int 1),.loc 6],.bi .tuple [.loc 7]]])]⟩
noncomputable def qau:MF:=⟨3,6,
 [.asg 3 (.bin .mod (.loc 1) (.bi .len [.loc 0])),
 .asg 4 (.bin .mod (.bin .fdiv (.loc 1) (.cst (.int 64))) (.cst (.int 10))),
 .asg 5 (.idx (.loc 0) (.loc 3)),
 .ite (.and2 (.cmp .eq (.loc 4) (.cst (.int 8))) (.cmp .gt (.bi .len [.loc 0]) (.cst (.int 1)))) [.ret (.bin .add (.slc (.loc 0) [] [.loc 3]) (.slc (.loc 0) [.bin .add (.loc 3) (.cst (.int 1))] []))] [],
 .ite (.and2 (.cmp .eq (.loc 4) (.cst (.int 9))) (.or2 (.cmp .eq (.loc 3) (.bin .sub (.bi .len [.loc 0]) (.cst (.int 1)))) (.cmp .gt (.idx (.idx (.loc 0) (.bin .add (.loc 3) (.cst (.int 1)))) (.cst (.int 0))) (.bin .add (.idx (.loc 5) (.cst (.int 0))) (.cst (.int 1)))))) [.ret (.bin .add (.bin .add (.slc (.loc 0) [] [.loc 3]) (.lst [.tup [.bin .add (.idx (.loc 5) (.cst (.int 0))) (.cst (.int 1)),.idx (.loc 5) (.cst (.int 1)),.idx (.loc 5) (.cst (.int 2))]])) (.slc (.loc 0) [.bin .add (.loc 3) (.cst (.int 1))] []))] [],
 .ret (.bin .add (.bin .add (.slc (.loc 0) [] [.loc 3]) (.lst [.call "_law_other_facts" [.loc 5,.bin .mod (.loc 4) (.cst (.int 8)),.loc 2]])) (.slc (.loc 0) [.bin .add (.loc 3) (.cst (.int 1))] []))]⟩
theorem Fc.up {f:Fc}(h:f.ok k):f.ok (k+1):=by
 have b1:∀ {b:Int},sK k b->sK (k+1) b:=fun h=>⟨h.1,by have:=h.2;exact z221 this⟩
 cases f with
 | first=>trivial
 | prime b ps=>exact ⟨h.1,⟨h.2.1.1,by have:=h.2.1.2.1;exact Nat.le_succ_of_le this,fun p hp=>by have:=h.2.1.2.2 p hp;exact z222 this⟩,h.2.2⟩
 | split a b=>exact ⟨b1 h.1,b1 h.2⟩
 | power b=>exact h
 | root b=>exact h
theorem RoK.up {n:Int}{f:Fc}(h:RoK k n f) (hk:k<50):RoK (k+1) n f:=⟨by exact Nat.succ_le_of_lt hk,h.2.1,by have:=h.2.2.1;exact z223 this,f.up h.2.2.2⟩
theorem qei {K:List AV->Prop}(h:H[j]?=some (.list l)) (k:K l):qba (seqL H (.ref j)) K:=by
 rw [show seqL H (.ref j)=some l by simp [seqL,h]];exact k
theorem qc2 {Q:PQ}{m:List AV}(h1:H[i]?=some (.list l)) (h2:H[j]?=some (.list m)) (hn:l.length+m.length<=1000) (q:Q (.ref H.length) (H++[.list (l++m)])):qeh .add (.ref i) (.ref j) H Q:=by
 rw [qsm h1 h2];exact ⟨szL hn,q⟩
theorem qe6 {Q:PQ}(h:H[i]?=some (.list l)) (hn:l.length<=1000) (q:Q (.tup l) H):wpBi .tuple [.ref i] H Q:=by
 rw [qr1 h];exact ⟨szL hn,q⟩
theorem qce {α:Type}{l:List α}{a b:Option Int}{x:α}(h:x∈qag l a b):x∈l:=by
 unfold qag at h;exact List.mem_of_mem_drop (List.mem_of_mem_take h)
theorem qgu {α:Type}{l:List α}{a b:Option Int}:(qag l a b).length<=l.length:=by
 unfold qag;rw [List.length_take,List.length_drop];exact Nat.le_trans (Nat.min_le_right _ _) (Nat.sub_le _ _)
theorem qai {α β:Type}{g:α->β}{l:List α}{a b:Option Int}:qag (l.map g) a b=(qag l a b).map g:=by
 unfold qag;simp
theorem lsl1 {x:AV}{r:List AV}:qag (x::r) (some 1) none=r:=by
 unfold qag qbx
 simp
theorem qvh {Q:PQ}(h:H[i]?=some (.list l)) (hn:l.length<=1000) (h1:1<=l.length) (q:∀ z,l.getLast?=some z->Q z H):qbm (.ref i) (.int (-1)) H Q:=by
 rw [qkm h]
 refine ⟨by exact z98 hn,l.length-1,l[l.length-1]'(by exact Nat.sub_one_lt_of_lt h1),?_,List.getElem?_eq_getElem _,q _ (by rw [List.getLast?_eq_getElem?];exact List.getElem?_eq_getElem _)⟩
 unfold place
 rw [if_neg (by decide)]
 simp
 exact z224 h1
theorem qtf {ps:List (Int×Int)}:Ris ps↔(ps.map (·.1)).Pairwise (·<·):=List.pairwise_map.symm
theorem qte {ps:List (Int×Int)}{p:Int×Int}{t:Int}(h:Ris ps) (hp:ps[a]?=some p):Ris (ps.set a (p.1,t)):=by
 rw [qtf] at h ⊢
 have:(ps.set a (p.1,t)).map (·.1)=ps.map (·.1):=by
  refine List.ext_getElem? fun i=>?_
  rw [List.getElem?_map,List.getElem?_map,List.getElem?_set]
  split
  ·rename_i e;subst e
   rw [hp]
   simp [(yl hp).1]
  ·rfl
 rw [this];exact h
theorem qqb {ps:List (Int×Int)}{r:Int×Int}(h:Ris ps) (hl:ps.getLast?=some r):∀ x∈ps,x.1<=r.1:=by
 refine qar (List.getLast?_eq_some_iff.mp hl) fun l eQ1=>?_
 subst eQ1
 intro x hx
 rcases yd hx with hx|hx
 ·have:=(List.pairwise_append.mp h).2.2 x hx r (by simp)
  exact Int.le_of_lt this
 ·rw [yb hx];exact Int.le_refl _
theorem qtg {ps:List (Int×Int)}{q t:Int}(h:Ris ps) (hq:∀ x∈ps,x.1<q):Ris (ps++[(q,t)]) :=
 List.pairwise_append.mpr ⟨h,by simp,fun x hx y hy=>by rw [yb hy];exact hq x hx⟩
theorem qkh {α:Type}{l:List α}{a:Int}:qag l none (some a)=l.take (min a.toNat l.length):=by unfold qag qbx;simp
theorem qbz {α:Type}{l:List α}{a:Int}:qag l (some a) none=l.drop (min a.toNat l.length):=by
 show (l.drop (min a.toNat l.length)).take (l.length-min a.toNat l.length)=_
 exact List.take_of_length_le (by rw [List.length_drop];exact Nat.le_refl _)
theorem qis {α:Type}{l:List α}{a:Int}(h0:0<=a) (h1:a<l.length):(qag l none (some a)).length+(qag l (some (a+1)) none).length+1=l.length:=by
 refine qar (Int.eq_ofNat_of_zero_le h0) fun m eQ1=>?_
 subst eQ1
 have hm:m+1<=l.length:=by exact Int.ofNat_le.mp h1
 rw [qkh,qbz,show ((m:Int)+1).toNat=m+1 from rfl,Int.toNat_natCast,Nat.min_eq_left (Nat.le_of_succ_le hm),Nat.min_eq_left hm,List.length_take,List.length_drop,Nat.min_eq_left (Nat.le_of_succ_le hm)]
 exact z225 hm
theorem qwq {α:Type}{l:List α}(h:l.length<=1):l=[]\/∃ x,l=[x]:=by
 cases l with
 | nil=>exact .inl rfl
 | cons x r =>
  cases r with
  | nil=>exact .inr ⟨x,rfl⟩
  | cons=>simp at h
theorem qqk (h:a<=b):min a n<=min b n:=Nat.le_min.mpr ⟨Nat.le_trans (Nat.min_le_left _ _) h,Nat.min_le_right _ _⟩
theorem qql {α:Type}{l:List α}{a b:Int}(h:a<=b):(qag l none (some a)++qag l (some b) none).Sublist l:=by
 rw [qkh,qbz]
 conv=>rhs;rw [←List.take_append_drop (min a.toNat l.length) l]
 exact List.Sublist.append (List.Sublist.refl _) (List.drop_sublist_drop_left _ (qqk (Int.toNat_le_toNat h)))
theorem qnn {α:Type}{l:List α}{a:Int}:(qag l none (some a)++qag l (some (a+1)) none).Sublist l:=qql (Int.le_of_lt (Int.lt_succ a))
theorem qqc {ps:List (Int×Int)}{a:Int}(h:Ris ps):Ris (qag ps none (some a)++qag ps (some (a+1)) none):=List.Pairwise.sublist qnn h
theorem qoq {α:Type}{l:List α}{a:Int}{r:α}(a0:0<=a) (h:l[a.toNat]?=some r):qag l none (some a)++r::qag l (some (a+1)) none=l:=by
 refine qar (yl h) fun hlt e=>?_
 rw [qkh,qbz,show min a.toNat l.length=a.toNat by (first|lia|omega),show min (a+1).toNat l.length=a.toNat+1 by (first|lia|omega)]
 conv=>rhs;rw [←List.take_append_drop a.toNat l,List.drop_eq_getElem_cons hlt,e]
theorem qua {pre post:List Int}{x y:Int}(h:(pre++x::post).Pairwise (·<·)) (hxy:x<=y) (hp:∀ z∈post,y<z):(pre++y::post).Pairwise (·<·):=by
 rw [List.pairwise_append,List.pairwise_cons] at h ⊢
 refine qfk (h) fun h1 qQ1 h4=>?_
 clear h
 obtain ⟨h2,h3⟩:=qQ1
 refine ⟨h1,⟨hp,h3⟩,fun u hu v hv=>?_⟩
 rcases yg hv with rfl|hv
 ·have:=h4 u hu x (by simp);exact Int.lt_of_lt_of_le this hxy
 ·exact h4 u hu v (yi _ hv)
theorem qmp {K:Hp->Prop}{k:Int}{x:AV}(h:H[i]?=some (.list l)) (hn:l.length<=1000) (h0:0<=k) (h1:k<l.length) (q:K (H.set i (.list (l.set k.toNat x)))):qi2 (.ref i) (.int k) x H K:=by
 unfold qi2 asI;simp only [h];exact ⟨by exact z98 hn,h0,h1,q⟩
def qsn (Φ:Fun):Prop:=∀ (k:Nat) (n:Int) (f:Fc) (kd m:Int) (H:Hp) (Q:PQ),RoK k n f->k<50->0<=kd->kd<8->0<=m->(∀ f' H',RoK (k+1) n f'->H<+:H'->Q (roA n f') H')->Φ "_law_other_facts" [roA n f,.int kd,.int m] H Q
theorem qjf {Φ:Fun}(cp:qg5 Φ){k:Nat}{n:Int}{f:Fc}{kd m:Int}{H:Hp}{Q:PQ}(hr:RoK k n f) (hk5:k<50) (d0:0<=kd) (d8:kd<8) (m0:0<=m) (h:∀ f' H',RoK (k+1) n f'->H<+:H'->Q (roA n f') H'):wpF Φ qap [roA n f,.int kd,.int m] H Q:=by
 refine qh0 (id hr) fun hk n0 n1 hf=>?_
 have hn:n<=10^32:=by exact z214 hk n1
 have mk:∀ {f':Fc},f'.ok (k+1)->RoK (k+1) n f':=fun o=>⟨by exact Nat.succ_le_of_lt hk5,n0,by exact z223 n1,o⟩
 unfold roA at h ⊢
 ((refine ⟨rfl,?_⟩;simp only [lst,Nat.reduceSub,Nat.sub_self,List.replicate]))
 simp only [qap]
 walk_at "go"
 refine qa5 (fun h3=>?_) (fun h3=>?_)
 ·refine qjz (qi4 h3) fun a b eQ2=>?_
  subst eQ2
  simp only [Fc.facts]
  walk_at "go"
  (simp only [qae,qal,Int.reduceLE])
  refine qfk (hf) fun qQ0 b0 b1=>?_
  clear hf
  obtain ⟨a0,a1⟩:=qQ0
  exact h (.split (a+1-kd%2) (b+kd%2)) H (mk ⟨⟨by exact z226 a0,by exact z227 a1⟩,by exact z228 b0,by exact z229 b1⟩) (List.prefix_refl _)
 walk_at "wx"
 refine qa5 (fun h1=>?_) (fun h1=>?_)
 ·walk_at "go"
  (simp only [qae,qal,Int.reduceLE])
  exact h (.power (1+m%3)) H (mk ⟨by exact z230,by exact z231⟩) (List.prefix_refl _)
 walk_at "wp"
 have four:∀ b:Int,bK k b->∀ z∈[AV.int (n-1),.int 1,.int n,.int (if (10:Int)^Int.toNat 30<b+n then 10^Int.toNat 30 else b+n)],∃ b',z=.int b'/\bK (k+1) b':=by
  intro b hb z hz
  have e30:(10:Int)^Int.toNat 30=1000000000000000000000000000000:=rfl
  rw [e30] at hz
  refine qa4 (hb) fun b0 b1=>?_
  clear hb
  simp only [List.mem_cons,List.not_mem_nil,or_false] at hz
  rcases hz with rfl|rfl|rfl|rfl
  ·exact ⟨_,rfl,by exact Int.le_sub_one_of_lt n0,by exact z232 hk n1⟩
  ·exact ⟨_,rfl,by exact Int.le_refl 1,by exact z233⟩
  ·exact ⟨_,rfl,by exact Int.le_of_lt n0,by exact z234 hk n1⟩
  ·refine ⟨_,rfl,?_⟩
   split<;>exact ⟨by (first|lia|omega),by (first|lia|omega)⟩
 have two:∀ b:Int,bK k b->∀ z∈[AV.str "root",AV.str "power"],∃ f':Fc,f'.ok (k+1)/\[AV.int n,z,AV.tup [AV.int b]]=[AV.int n,AV.str f'.word,AV.tup f'.facts]:=by
  intro b hb z hz
  have:bK (k+1) b:=hb
  simp only [List.mem_cons,List.not_mem_nil,or_false] at hz
  rcases hz with rfl|rfl
  ·exact ⟨.root b,this,rfl⟩
  ·exact ⟨.power b,this,rfl⟩
 rcases ql9 h1 h3 with ⟨b,ps,rfl⟩|⟨b,rfl⟩|⟨b,rfl⟩
 ·refine qfk (hf) fun hb hps ris=>?_
  clear hf
  simp only [Fc.facts,Fc.word,psT]
  walk_at "go"
  refine qa7 (fun h4=>?_) (fun h4=>?_)
  ·walk_at "go"
   refine qbo qab (by (first|exact ye rfl|simp)) d0 h4 fun z hz=>?_
   refine qad (four b hb z hz) fun b' eQ1 kb=>?_
   subst eQ1
   walk_at "go"
   rw [lsl1]
   exact h (.prime b' ps) _ (mk ⟨kb,(Fc.up (f:=.prime b ps) ⟨hb,hps,ris⟩).2⟩) qaa
  walk_at "wp"
  refine qa5 (fun h5=>absurd h5 (by decide)) (fun _=>?_)
  walk_at "wp"
  refine qa5 (fun h5=>absurd h5 (by decide)) (fun _=>?_)
  walk_at "go"
  have hl:ps.length<=10+k:=hps.2.1
  have hl1:1<=ps.length:=List.length_pos_iff.mpr hps.1
  have hm:(ps.map prAV).length<=1000:=by (first|exact yk _ (by decide)|(simp;exact z215 hk hl))
  refine ⟨szL hm,?_⟩
  walk_at "wp"
  refine qc1 qab hm ?_
  walk_at "wp"
  refine ⟨by rw [ya];exact Int.natCast_ne_zero_iff_pos.mpr hl1,?_⟩
  have e1:((ps.map prAV).length:Int)=ps.length:=by simp
  rw [e1]
  simp only [qae (show (0:Int)<=ps.length by exact z71)]
  have a0:=Int.emod_nonneg m (show (ps.length:Int)≠0 by exact Int.natCast_ne_zero_iff_pos.mpr hl1)
  have a1:=yk m (show (0:Int)<ps.length by exact Int.natCast_pos.mpr hl1)
  generalize m%ps.length=a at a0 a1
  have fin:∀ (b':Int) (ps':List (Int×Int)) (j:Nat) (o8:Option AV) (H':Hp),H<+:H'->H'[j]?=some (.list (ps'.map prAV))->b'<=10^30->PsK (k+1) ps'->Ris ps'->wpSs Φ (qap.body.drop 9) [some (.tup [.int n,.str "prime",.tup [.int b,.tup (ps.map prAV)]]),some (.int kd),some (.int m),some (.int n),some (.str "prime"),some (.tup [.int b,.tup (ps.map prAV)]),some (.int b'),some (.ref j),o8] H' (qa8 Q):=by
   intro b' ps' j o8 H' hp hj hb' hps' ris'
   simp only [qap,List.drop]
   walk_at "wp"
   have:=hps'.2.1
   refine qe6 hj (by rw [ya];exact z235 hk this) ?_
   walk_at "go"
   refine h (.prime (if b'>1 then b' else 1) ps') _ (mk ⟨?_,hps',ris'⟩) hp
   split
   ·exact ⟨by (first|lia|omega),hb'⟩
   ·exact ⟨by exact Int.le_refl 1,by exact z233⟩
  have at_a:∃ p,ps[a.toNat]?=some p/\p∈ps:=⟨ps[a.toNat]'(by exact (Int.toNat_lt a0).mpr a1),List.getElem?_eq_getElem _,List.getElem_mem _⟩
  refine qad (at_a) fun p hpa hpm=>?_
  clear at_a
  have pa:∀ {H':Hp}{j:Nat}{Q':PQ},H'[j]?=some (.list (ps.map prAV))->Q' (.tup [.int p.1,.int p.2]) H'->qbm (.ref j) (.int a) H' Q':=fun {H' j Q'} hj q=>qgx (l:=ps.map prAV) (by simp [anyL,seqL,hj]) (by exact z98 hm) a0 (by rw [List.getElem?_map,hpa];rfl) q
  refine qh0 (hps.2.2 p hpm) fun q2 q3 t1 t2=>?_
  have hb1:b<=10^30:=hb.2
  have hps1:PsK (k+1) ps:=(Fc.up (f:=.prime b ps) ⟨hb,hps,ris⟩).2.1
  refine qa7 (fun h5=>?_) (fun h5=>?_)
  ·walk_at "wp"
   refine pa qab ?_
   walk_at "go"
   refine pa qab ?_
   walk_at "go"
   (simp only [qae,qal,Int.reduceLE])
   refine qmp qab hm a0 (by (first|exact yk _ (by decide)|(simp;exact z236 a1))) ?_
   walk_at "wp"
   refine fin b (ps.set a.toNat (p.1,p.2%100+1)) H.length _ _ (qav qaa (Nat.le_refl _)) ?_ hb1 ⟨?_,?_,?_⟩ (qte ris hpa)
   ·rw [List.set_append_right _ _ (Nat.le_refl _)]
    simp [List.map_set,prAV]
   ·intro e
    have:=congrArg List.length e
    rw [List.length_set,List.length_nil] at this
    exact z237 a0 a1 this
   ·rw [List.length_set];exact Nat.le_succ_of_le hl
   ·intro x hx
    rcases List.mem_or_eq_of_mem_set hx with hx|rfl
    ·exact hps1.2.2 x hx
    ·exact ⟨q2,by (first|lia|omega),by show 1<=p.2%100+1;exact z238,by show p.2%100+1<=100;exact z239⟩
  walk_at "wp"
  have last:wpSs Φ [MS.ite (.cmp .eq (.loc 1) (.cst (.int 6))) [.asg 7 (.bin .add (.loc 7) (.lst [.tup [.bin .add (.bin .add (.idx (.idx (.loc 7) (.neg (.cst (.int 1)))) (.cst (.int 0))) (.cst (.int 1))) (.bin .mod (.loc 2) (.cst (.int 9))),.cst (.int 1)]]))] [.ite (.cmp .eq (.bin .mod (.loc 2) (.cst (.int 3))) (.cst (.int 0))) [.ret (.tup [.loc 3,.cst (.str "power"),.tup [.loc 6]])] [.asg 6 (.call "_law_power" [.loc 6,.idx (.idx (.loc 7) (.loc 8)) (.cst (.int 0)),.loc 3])]]]
    [some (.tup [.int n,.str "prime",.tup [.int b,.tup (ps.map prAV)]]),some (.int kd),some (.int m),some (.int n),some (.str "prime"),some (.tup [.int b,.tup (ps.map prAV)]),some (.int b),some (.ref H.length),some (.int a)] (H++[.list (ps.map prAV)]) (qh2 Φ [] (qh2 Φ (qap.body.drop 9) (qa8 Q))):=by
   walk_at "wp"
   refine qa7 (fun h6=>?_) (fun h6=>?_)
   ·walk_at "wp"
    refine qvh qab hm (by (first|exact yk _ (by decide)|(simp;exact z240 a0 a1))) fun z hz=>?_
    rw [List.getLast?_map] at hz
    refine qad (yf hz) fun r hr2 eQ2=>?_
    subst eQ2
    have hr':r∈ps:=List.mem_of_getLast? hr2
    simp only [prAV]
    walk_at "go"
    (simp only [qae,qal,Int.reduceLE])
    refine qc2 (qac qaa qab) qab (by rw [ya];simp;exact z241 hk hl) ?_
    walk_at "wp"
    refine qh0 (hps.2.2 r hr') fun r2 r3 _ _=>?_
    refine fin b (ps++[(r.1+1+m%9,1)]) _ _ _ (qaa.trans (qaa.trans qaa)) ?_ hb1 ⟨by simp,by rw [List.length_append];simp;exact Nat.add_le_add_right hl 1,?_⟩ (qtg ris fun x hx=>?_)
    ·rw [qab];simp [prAV]
    ·intro x hx
     rcases yd hx with hx|hx
     ·exact hps1.2.2 x hx
     ·rw [yb hx]
      exact ⟨by show 2<=r.1+1+m%9;exact z242 r2,by show r.1+1+m%9<=_;exact z243 r3,Int.le_refl _,(by decide:(1:Int)<=100)⟩
    ·have:=qqb ris hr2 x hx
     exact z244 this
   ·walk_at "go"
    (simp only [qae,qal,Int.reduceLE])
    refine qa7 (fun h7=>?_) (fun h7=>?_)
    ·walk_at "go"
     exact h (.power b) _ (mk hb) qaa
    ·walk_at "wp"
     refine pa qab ?_
     walk_at "go"
     refine cp b p.1 n _ _ (qiz hk hb) (by exact z148 q2) (by exact z245 hk q3) (by exact Int.le_of_lt n0) hn ?_
     walk_at "wp"
     have u0:=Int.emod_nonneg (b^p.1.toNat) (show n≠0 by exact z146 n0)
     have u1:=yk (b^p.1.toNat) (show 0<n by exact z246 n0)
     exact fin _ ps _ _ _ qaa qab (by show pw b p.1 n<=_;unfold pw;exact z247 hk n1 u1) hps1 ris
  refine qa7 (fun h6=>?_) (fun h6=>?_)
  ·walk_at "wp"
   refine qc1 qab hm ?_
   walk_at "wp"
   rw [e1]
   refine qa7 (fun h7=>?_) (fun h7=>?_)
   ·walk_at "wp"
    refine ⟨by walk_at "om",qei qab ?_⟩
    walk_at "wp"
    refine ⟨szL hm,by exact Int.le_add_one a0,qei (qac qaa qab) ?_⟩
    walk_at "wp"
    refine ⟨szL hm,?_⟩
    rw [qai,qai]
    have l1:=@qgu _ ps none (some a)
    have l2:=@qgu _ ps (some (a+1)) none
    have l3:=qis a0 a1
    refine qc2 (qac qaa qab) qab (by rw [ya,ya];exact z248 hm e1 l3) ?_
    walk_at "wp"
    refine fin b (qag ps none (some a)++qag ps (some (a+1)) none) _ _ _ (qaa.trans (qaa.trans (qaa.trans qaa))) (by rw [qab,List.map_append]) hb1 ⟨?_,by rw [List.length_append];exact z249 hl l3,?_⟩ (qqc ris)
    ·intro e
     have:=congrArg List.length e
     rw [List.length_append,List.length_nil] at this
     exact z250 h7 l3 this
    ·intro x hx
     rcases yd hx with hx|hx<;>exact hps1.2.2 x (qce hx)
   ·exact last
  ·exact last
 ·simp only [Fc.facts,Fc.word]
  walk_at "go"
  refine qa7 (fun h4=>?_) (fun h4=>?_)
  ·walk_at "go"
   refine qbo qab (by (first|exact ye rfl|simp)) d0 h4 fun z hz=>?_
   refine qad (four b hf z hz) fun b' eQ1 kb=>?_
   subst eQ1
   walk_at "go"
   rw [lsl1]
   exact h (.power b') _ (mk kb) qaa
  walk_at "wp"
  refine qa5 (fun _=>?_) (fun h5=>absurd h5 (by decide))
  walk_at "go"
  refine qbo qab (by (first|exact ye rfl|simp)) (by split<;>decide) (by split<;>decide) fun z hz=>?_
  refine qad (two b hf z hz) fun f' ok' e=>?_
  walk_at "go"
  rw [e]
  exact h f' _ (mk ok') qaa
 ·simp only [Fc.facts,Fc.word]
  walk_at "go"
  refine qa7 (fun h4=>?_) (fun h4=>?_)
  ·walk_at "go"
   refine qbo qab (by (first|exact ye rfl|simp)) d0 h4 fun z hz=>?_
   refine qad (four b hf z hz) fun b' eQ1 kb=>?_
   subst eQ1
   walk_at "go"
   rw [lsl1]
   exact h (.root b') _ (mk kb) qaa
  walk_at "wp"
  refine qa5 (fun h5=>absurd h5 (by decide)) (fun _=>?_)
  walk_at "wp"
  refine qa5 (fun _=>?_) (fun h5=>absurd h5 (by decide))
  walk_at "go"
  refine qbo qab (by (first|exact ye rfl|simp)) (by split<;>decide) (by split<;>decide) fun z hz=>?_
  refine qad (two b hf z hz) fun f' ok' e=>?_
  walk_at "go"
  rw [e]
  exact h f' _ (mk ok') qaa
noncomputable def roP (r:Int×Fc):AV:=roA r.1 r.2
def RsK (k:Nat) (rs:List (Int×Fc)):Prop:=rs≠[]/\rs.length<=63/\(∀ r∈rs,RoK k r.1 r.2)/\(rs.map (·.1)).Pairwise (·<·)
def Nb (rs rs':List (Int×Fc)):Prop:=rs'.length<=rs.length/\∀ x∈rs',∃ y∈rs,x.1<=y.1+1
def qjw (Φ:Fun):Prop:=∀ (k i:Nat) (rs:List (Int×Fc)) (c m:Int) (H:Hp) (Q:PQ),H[i]?=some (.list (rs.map roP))->RsK k rs->k<50->0<=c->0<=m->(∀ j rs' H',H<+:H'->H'[j]?=some (.list (rs'.map roP))->RsK (k+1) rs'->Nb rs rs'->Q (.ref j) H')->Φ "_law_spoilt" [.ref i,.int c,.int m] H Q
theorem qv4 {Φ:Fun}(co:qsn Φ){k i:Nat}{rs:List (Int×Fc)}{c m:Int}{H:Hp}{Q:PQ}(hi:H[i]?=some (.list (rs.map roP))) (hrs:RsK k rs) (hk5:k<50) (c0:0<=c) (m0:0<=m) (h:∀ j rs' H',H<+:H'->H'[j]?=some (.list (rs'.map roP))->RsK (k+1) rs'->Nb rs rs'->Q (.ref j) H'):wpF Φ qau [.ref i,.int c,.int m] H Q:=by
 refine qh0 (hrs) fun rs0 rs63 rok inc=>?_
 clear hrs
 have l1:1<=rs.length:=List.length_pos_iff.mpr rs0
 have hm:(rs.map roP).length<=1000:=by rw [ya];exact z193 rs63
 have e1:((rs.map roP).length:Int)=rs.length:=by simp
 ((refine ⟨rfl,?_⟩;simp only [lst,Nat.reduceSub,Nat.sub_self,List.replicate]))
 simp only [qau]
 walk_at "wp"
 refine qc1 hi hm ?_
 walk_at "go"
 rw [e1]
 simp only [qae (show (0:Int)<=rs.length by exact z71)]
 (simp only [qae,qal,Int.reduceLE])
 have a0:=Int.emod_nonneg c (show (rs.length:Int)≠0 by exact Int.natCast_ne_zero_iff_pos.mpr l1)
 have a1:=yk c (show (0:Int)<rs.length by exact Int.natCast_pos.mpr l1)
 generalize c%rs.length=a at a0 a1
 obtain ⟨r,hra,hrm⟩:∃ r,rs[a.toNat]?=some r/\r∈rs:=⟨rs[a.toNat]'(by exact (Int.toNat_lt a0).mpr a1),List.getElem?_eq_getElem _,List.getElem_mem _⟩
 refine qgx (l:=rs.map roP) (z:=roA r.1 r.2) (by simp [anyL,seqL,hi]) (by exact z98 hm) a0 (by rw [List.getElem?_map,hra];rfl) ?_
 have hr:=rok r hrm
 have l2:=qis a0 a1
 have u0:0<=c/64%10:=by exact z252
 have u1:c/64%10<10:=by exact z253
 generalize c/64%10=d at u0 u1
 have fin:∀ (r':List (Int×Fc)) (H':Hp),H<+:H'->(∀ x∈r',RoK (k+1) x.1 x.2)->r'.length<=1->(∀ x∈r',(r.1<=x.1/\x.1<=r.1+1)/\∀ y∈qag rs (some (a+1)) none,x.1<y.1)->1<=(qag rs none (some a)).length+r'.length+(qag rs (some (a+1)) none).length->∀ (j:Nat),H'[j]?=some (.list ((qag rs none (some a)++r'++qag rs (some (a+1)) none).map roP))->Q (.ref j) H':=by
  intro r' H' hp hr' h1 h1' h2 j hj
  refine h j _ H' hp hj ⟨?_,?_,?_,?_⟩ ⟨by rw [List.length_append,List.length_append];exact z254 l2 h1,fun x hx=>?_⟩
  ·intro e
   have:=congrArg List.length e
   rw [List.length_append,List.length_append,List.length_nil] at this
   exact z255 h2 this
  ·rw [List.length_append,List.length_append];exact z256 rs63 l2 h1
  ·intro x hx
   rcases yd hx with hx|hx
   ·rcases yd hx with hx|hx
    ·exact (rok x (qce hx)).up hk5
    ·exact hr' x hx
   ·exact (rok x (qce hx)).up hk5
  ·rcases qwq h1 with rfl|⟨x,rfl⟩
   ·rw [List.append_nil]
    exact List.Pairwise.sublist (List.Sublist.map _ qnn) inc
   ·refine qa4 (h1' x (by simp)) fun g1 g2=>?_
    rw [List.append_assoc,List.map_append,List.singleton_append,List.map_cons]
    refine qua (x:=r.1) ?_ g1.1 fun z hz=>?_
    ·rw [←List.map_cons (f:=Prod.fst),←List.map_append,qoq a0 hra];exact inc
    ·refine qad (yh hz) fun y hy eQ2=>?_
     subst eQ2
     exact g2 y hy
  ·rcases yd hx with hx|hx
   ·rcases yd hx with hx|hx
    ·exact ⟨x,qce hx,by exact Int.le.intro 1 rfl⟩
    ·exact ⟨r,hrm,(h1' x hx).1.2⟩
   ·exact ⟨x,qce hx,by exact Int.le.intro 1 rfl⟩
 have behind:∀ y∈qag rs (some (a+1)) none,r.1<y.1:=fun y hy=>by
  have:=qoq a0 hra
  rw [←this,List.map_append,List.map_cons,List.pairwise_append,List.pairwise_cons] at inc
  exact inc.2.1.1 y.1 (yn ⟨y,hy,rfl⟩)
 have alt:wpSs Φ (qau.body.drop 5) [some (.ref i),some (.int c),some (.int m),some (.int a),some (.int d),some (roA r.1 r.2)] H (qa8 Q):=by
  simp only [qau,List.drop]
  walk_at "wp"
  refine ⟨by walk_at "om",qei hi ?_⟩
  walk_at "go"
  refine ⟨szL hm,?_⟩
  walk_at "go"
  (simp only [qae,qal,Int.reduceLE])
  refine co k r.1 r.2 (d%8) m _ _ hr hk5 (by exact z257) (by exact z258) m0 fun f' H' hf' hp'=>?_
  walk_at "go"
  refine qc2 (qac qaa (qac hp' qab)) qab (by rw [qai,ya];simp;exact z259 rs63 l2) ?_
  walk_at "wp"
  refine ⟨by exact Int.le_add_one a0,qei (qac (qaa.trans (hp'.trans (qaa.trans qaa))) hi) ?_⟩
  walk_at "wp"
  refine ⟨szL hm,?_⟩
  refine qc2 (qac qaa qab) qab (by rw [qai,qai,List.length_append,ya,ya];simp;exact z260 rs63 l2) ?_
  walk_at "wp"
  refine fin [(r.1,f')] _ (qaa.trans (hp'.trans (qaa.trans (qaa.trans (qaa.trans qaa))))) (fun x hx=>by rw [yb hx];exact hf') (Nat.le_refl _) (fun x hx=>by rw [yb hx];exact ⟨⟨Int.le_refl _,by show r.1<=r.1+1;exact Int.le.intro 1 rfl⟩,behind⟩) (by simp;exact z261) _ (by rw [qab,qai,qai];simp [roP])
 have alt4:wpSs Φ (qau.body.drop 4) [some (.ref i),some (.int c),some (.int m),some (.int a),some (.int d),some (roA r.1 r.2)] H (qa8 Q):=by
  simp only [qau,List.drop]
  have nine:(∀ y∈qag rs (some (a+1)) none,r.1+1<y.1)->wpSs Φ [.ret (.bin .add (.bin .add (.slc (.loc 0) [] [.loc 3]) (.lst [.tup [.bin .add (.idx (.loc 5) (.cst (.int 0))) (.cst (.int 1)),.idx (.loc 5) (.cst (.int 1)),.idx (.loc 5) (.cst (.int 2))]])) (.slc (.loc 0) [.bin .add (.loc 3) (.cst (.int 1))] []))] [some (.ref i),some (.int c),some (.int m),some (.int a),some (.int d),some (roA r.1 r.2)] H (qh2 Φ (qau.body.drop 5) (qa8 Q)):=by
   intro beh
   unfold roA
   walk_at "wp"
   refine ⟨by walk_at "om",qei hi ?_⟩
   walk_at "go"
   refine ⟨szL hm,?_⟩
   walk_at "go"
   refine qc2 (qac qaa qab) qab (by rw [qai,ya];simp;exact z259 rs63 l2) ?_
   walk_at "wp"
   refine ⟨by exact Int.le_add_one a0,qei (qac (qaa.trans (qaa.trans qaa)) hi) ?_⟩
   walk_at "wp"
   refine ⟨szL hm,?_⟩
   refine qc2 (qac qaa qab) qab (by rw [qai,qai,List.length_append,ya,ya];simp;exact z260 rs63 l2) ?_
   walk_at "wp"
   refine fin [(r.1+1,r.2)] _ (qaa.trans (qaa.trans (qaa.trans (qaa.trans qaa)))) (fun x hx=>by rw [yb hx];exact ⟨by exact Nat.succ_le_of_lt hk5,by have:=hr.2.1;show 2<=r.1+1;exact Int.le_add_one this,by have:=hr.2.2.1;show r.1+1<=_;exact z262 this,r.2.up hr.2.2.2⟩) (Nat.le_refl _) (fun x hx=>by rw [yb hx];exact ⟨⟨by show r.1<=r.1+1;exact Int.le.intro 1 rfl,Int.le_refl _⟩,beh⟩) (by simp;exact z261) _ (by rw [qab,qai,qai];simp [roP,roA])
  walk_at "wp"
  refine qa7 (fun h9=>?_) (fun h9=>?_)
  ·walk_at "wp"
   refine qc1 hi hm ?_
   walk_at "wp"
   rw [e1]
   refine qa7 (fun h8=>?_) (fun h8=>?_)
   ·simp only [k_or,k_ort,k_ite,k_itet]
    refine nine fun y hy=>?_
    rw [qbz,show min (a+1).toNat rs.length=rs.length by exact z263 h8,List.drop_length] at hy
    cases hy
   ·walk_at "wp"
    obtain ⟨r',hr'⟩:∃ r',rs[(a+1).toNat]?=some r':=⟨_,List.getElem?_eq_getElem (by exact z264 a0 a1 h8)⟩
    refine qgx (l:=rs.map roP) (z:=roP r') (by simp [anyL,seqL,hi]) (by exact z98 hm) (by exact Int.le_add_one a0) (by rw [List.getElem?_map,hr'];rfl) ?_
    have ro0:∀ {x:Int×Fc}{Q':PQ},Q' (.int x.1) H->qbm (roA x.1 x.2) (.int 0) H Q':=fun {x Q'} q=>by
     unfold roA;rw [i_tup0];exact ⟨su3,q⟩
    unfold roP
    walk_at "wp"
    refine ro0 ?_
    walk_at "wp"
    refine ro0 ?_
    walk_at "wp"
    refine qa7 (fun h7=>?_) (fun h7=>?_)
    ·simp only [k_ite,k_itet]
     refine nine fun y hy=>?_
     refine qar (yl hr') fun hlt e=>?_
     rw [qbz,show min (a+1).toNat rs.length=(a+1).toNat by (first|lia|omega),List.drop_eq_getElem_cons hlt,e] at hy
     rcases yg hy with rfl|hy
     ·exact h7
     ·have:=qoq (by exact Int.le_add_one a0) hr'
      rw [←this,List.map_append,List.map_cons,List.pairwise_append,List.pairwise_cons] at inc
      have hy':y∈qag rs (some (a+1+1)) none:=by
       rw [qbz,show min (a+1+1).toNat rs.length=(a+1).toNat+1 by (first|lia|omega)];exact hy
      have:=inc.2.1.1 y.1 (yn ⟨y,hy',rfl⟩)
      exact Int.lt_trans h7 this
    ·simp only [k_ite,k_itef,ss_nil,thenS_next]
     exact alt
  ·simp only [k_andf,k_ite,k_itef,ss_nil,thenS_next]
   exact alt
 walk_at "wp"
 refine qa7 (fun h9=>?_) (fun h9=>?_)
 ·walk_at "wp"
  refine qc1 hi hm ?_
  walk_at "wp"
  rw [e1]
  refine qa7 (fun h8=>?_) (fun h8=>?_)
  ·walk_at "wp"
   refine ⟨by walk_at "om",qei hi ?_⟩
   walk_at "wp"
   refine ⟨szL hm,by exact Int.le_add_one a0,qei (qac qaa hi) ?_⟩
   walk_at "wp"
   refine ⟨szL hm,?_⟩
   refine qc2 (qac qaa qab) qab (by rw [qai,qai,ya,ya];exact z265 rs63 l2) ?_
   walk_at "wp"
   exact fin [] _ (qaa.trans (qaa.trans qaa)) (fun x hx=>by cases hx) (by decide) (fun x hx=>by cases hx) (by simp;exact z266 l2 h8) _ (by rw [qab,qai,qai];simp)
  ·simp only [k_ite,k_itef,ss_nil,thenS_next]
   exact alt4
 ·simp only [k_andf,k_ite,k_itef,ss_nil,thenS_next]
  exact alt4
end
section
open PySem
noncomputable def qcq:AV:=.int 1000000000000000000000000000000
noncomputable def qht:AV:=.tup [.str "first",.str "prime",.str "split",.str "power",.str "root"]
noncomputable def qfb:AV:=.int 100
noncomputable def qet:MF:=⟨3,3,
 [.ret (.and2 (.isi (.loc 0) .int) (.and2 (.not (.isi (.loc 0) .bool)) (.cmp2 .le .le (.loc 1) (.loc 0) (.loc 2))))]⟩
noncomputable def qc0:MF:=⟨1,3,
 [.ite (.or2 (.not (.isi (.loc 0) .tuple)) (.cmp .eq (.bi .len [.loc 0]) (.cst (.int 0)))) [.ret (.cst (.bool false))] [],
 .asg 1 (.cst (.int 1)),
 .forr false [2] .plain [.loc 0] [.ite (.or2 (.not (.isi (.loc 2) .tuple)) (.cmp .ne (.bi .len [.loc 2]) (.cst (.int 2)))) [.ret (.cst (.bool false))] [],
  .ite (.or2 (.not (.call "is_whole" [.idx (.loc 2) (.cst (.int 0)),.bin .add (.loc 1) (.cst (.int 1)),.cst qcq])) (.not (.call "is_whole" [.idx (.loc 2) (.cst (.int 1)),.cst (.int 1),.cst qfb]))) [.ret (.cst (.bool false))] [],
  .asg 1 (.idx (.loc 2) (.cst (.int 0)))],
 .ret (.cst (.bool true))]⟩
noncomputable def qdr:MF:=⟨2,2,
 [.ite (.cmp .eq (.loc 0) (.cst (.str "first"))) [.ret (.cmp .eq (.bi .len [.loc 1]) (.cst (.int 0)))] [],
 .ite (.cmp .eq (.loc 0) (.cst (.str "prime"))) [.ret (.and2 (.cmp .eq (.bi .len [.loc 1]) (.cst (.int 2))) (.and2 (.call "is_whole" [.idx (.loc 1) (.cst (.int 0)),.cst (.int 1),.cst qcq]) (.call "are_powers" [.idx (.loc 1) (.cst (.int 1))])))] [],
 .ite (.cmp .eq (.loc 0) (.cst (.str "split"))) [.ret (.and2 (.cmp .eq (.bi .len [.loc 1]) (.cst (.int 2))) (.and2 (.call "is_whole" [.idx (.loc 1) (.cst (.int 0)),.cst (.int 2),.cst qcq]) (.call "is_whole" [.idx (.loc 1) (.cst (.int 1)),.cst (.int 2),.cst qcq])))] [],
 .ret (.and2 (.cmp .eq (.bi .len [.loc 1]) (.cst (.int 1))) (.call "is_whole" [.idx (.loc 1) (.cst (.int 0)),.cst (.int 1),.cst qcq]))]⟩
noncomputable def qhg:MF:=⟨1,1,
 [.ite (.or2 (.not (.isi (.loc 0) .tuple)) (.or2 (.cmp .ne (.bi .len [.loc 0]) (.cst (.int 3))) (.not (.call "is_whole" [.idx (.loc 0) (.cst (.int 0)),.cst (.int 2),.cst qcq])))) [.ret (.cst (.bool false))] [],
 .ite (.or2 (.not (.isi (.idx (.loc 0) (.cst (.int 1))) .str)) (.or2 (.cmp .notIn (.idx (.loc 0) (.cst (.int 1))) (.cst qht)) (.not (.isi (.idx (.loc 0) (.cst (.int 2))) .tuple)))) [.ret (.cst (.bool false))] [],
 .ret (.call "are_facts" [.idx (.loc 0) (.cst (.int 1)),.idx (.loc 0) (.cst (.int 2))])]⟩
noncomputable def qim:MF:=⟨3,3,
 [.ret (.and2 (.isi (.loc 0) .int) (.and2 (.not (.isi (.loc 0) .bool)) (.cmp2 .le .le (.loc 1) (.loc 0) (.loc 2))))]⟩
noncomputable def BIG:Int:=1000000000000000000000000000000
noncomputable def whB (v:AV) (a b:Int):Bool:=match v with|.int k=>decide (a<=k)&&decide (k<=b)|_=>false
noncomputable def risB:Int->List AV->Bool
 | _,[]=>true
 | a,.tup [.int q,t]::r=>whB (.int q) (a+1) BIG&&whB t 1 100&&risB q r
 | _,_=>false
noncomputable def powB (v:AV):Bool:=match v with|.tup (x::r)=>risB 1 (x::r)|_=>false
noncomputable def facB (w:Str) (f:List AV):Bool :=
 if w == "first" then decide ((f.length:Int)=0)
 else if w == "prime" then (match f with|[a,p]=>whB a 1 BIG&&powB p|_=>false)
 else if w == "split" then (match f with|[a,b]=>whB a 2 BIG&&whB b 2 BIG|_=>false)
 else (match f with|[a]=>whB a 1 BIG|_=>false)
noncomputable def qbb:List Str:=["first", "prime", "split", "power", "root"]
noncomputable def rowB (v:AV):Bool:=match v with|.tup [n,.str w,.tup f]=>whB n 2 BIG&&qbb.contains w&&facB w f|_=>false
inductive Gd (H:Hp):Nat->AV->Prop
 | none {n:Nat}:Gd H n .none
 | int {n:Nat}{k:Int}:Gd H n (.int k)
 | bool {n:Nat}{b:Bool}:Gd H n (.bool b)
 | str {n:Nat}{x:Str}:Gd H n (.str x)
 | tup {n:Nat}{l:List AV}:l.length<=1000->(∀ x∈l,Gd H n x)->Gd H (n+1) (.tup l)
 | ref {n i:Nat}{l:List AV}:H[i]?=some (.list l)->(∀ x∈l,Gd H n x)->Gd H (n+1) (.ref i)
theorem Gd.up {v:AV}(g:Gd H n v):∀ {m},n<=m->Gd H m v:=by
 induction g with
 | none=>intros;exact .none
 | int=>intros;exact .int
 | bool=>intros;exact .bool
 | str=>intros;exact .str
 | tup h _ ih=>intro m hm;obtain ⟨k,rfl⟩:∃ k,m=k+1:=⟨m-1,by exact z267 hm⟩;exact .tup h fun x hx=>ih x hx (by exact Nat.le_of_lt_succ hm)
 | ref h _ ih=>intro m hm;obtain ⟨k,rfl⟩:∃ k,m=k+1:=⟨m-1,by exact z267 hm⟩;exact .ref h fun x hx=>ih x hx (by exact Nat.le_of_lt_succ hm)
theorem Gd.grow {H':Hp}{v:AV}(p:H<+:H') (g:Gd H n v):Gd H' n v:=by
 induction g with
 | none=>exact .none
 | int=>exact .int
 | bool=>exact .bool
 | str=>exact .str
 | tup h _ ih=>exact .tup h ih
 | ref h _ ih=>exact .ref (qac p h) ih
theorem Gd.len (g:Gd H n (.tup l)):l.length<=1000:=by cases g;assumption
theorem Gd.mem (g:Gd H (n+1) (.tup l)):∀ x∈l,Gd H n x:=by cases g;assumption
theorem qf2 {ρ:Nat->Option PyData}{n:Nat}:∀ {l:List AV},(∀ x∈l,∃ d,datR ρ x=some d/\d.depth<=n)->∃ ds,datRs ρ l=some ds/\PyData.depthAll ds<=n
 | [],_=>⟨[],rfl,Nat.zero_le _⟩
 | x::l,h=>by
  refine qad (h x (by simp)) fun d h1 h2=>?_
  refine qad (qf2 (l:=l) fun y hy=>h y (by simp [hy])) fun ds h3 h4=>?_
  exact ⟨d::ds,by simp [datRs,h1,h3],by simp only [PyData.depthAll];exact Nat.max_le_of_le_of_le h2 h4⟩
theorem Gd.dat {v:AV}(g:Gd H n v):∀ {m},n<=m->∃ d,datR (rho H m) v=some d/\d.depth<=n:=by
 induction g with
 | none=>intros;exact ⟨.none,rfl,by simp [PyData.depth]⟩
 | int=>intros;exact ⟨.int _,rfl,by simp [PyData.depth]⟩
 | bool=>intros;exact ⟨.bool _,rfl,by simp [PyData.depth]⟩
 | str=>intros;exact ⟨.str _,rfl,by simp [PyData.depth]⟩
 | tup h _ ih =>
  intro m hm
  refine qad (qf2 fun x hx=>ih x hx (m:=m) (by exact Nat.le_of_succ_le hm)) fun ds h1 h2=>?_
  exact ⟨.tuple ds,by simp [datR,h1],by simp only [PyData.depth];exact Nat.add_le_add_right h2 1⟩
 | ref h _ ih =>
  intro m hm
  obtain ⟨k,rfl⟩:∃ k,m=k+1:=⟨m-1,by exact z267 hm⟩
  refine qad (qf2 fun x hx=>ih x hx (m:=k) (by exact Nat.le_of_lt_succ hm)) fun ds h1 h2=>?_
  exact ⟨.list ds,by simp [datR,rho,h,h1],by simp only [PyData.depth];exact Nat.add_le_add_right h2 1⟩
def SWh (f:Str) (Φ:Fun):Prop:=∀ (v:AV) (a b:Int) (H:Hp) (Q:PQ),Q (.bool (whB v a b)) H->Φ f [v,.int a,.int b] H Q
theorem is_whole {v:AV}{a b:Int}{Q:PQ}(h:Q (.bool (whB v a b)) H):wpF Φ qet [v,.int a,.int b] H Q:=by
 ((refine ⟨rfl,?_⟩;simp only [lst,Nat.reduceSub,Nat.sub_self,List.replicate]))
 simp only [qet]
 walk_at "wp"
 cases v with
 | int k =>
  simp only [isi]
  walk_at "wp"
  simp only [isi]
  walk_at "wp"
  refine qa7 (fun h1=>?_) (fun h1=>?_)
  ·walk_at "wp"
   simpa [whB,h1] using h
  ·walk_at "wp"
   simpa [whB,h1] using h
 | bool k =>
  simp only [isi]
  walk_at "wp"
  simp only [isi]
  walk_at "wp"
  exact h
 | _ =>
  simp only [isi]
  walk_at "wp"
  exact h
theorem qzj {v:AV}{a b:Int}{Q:PQ}(h:Q (.bool (whB v a b)) H):wpF Φ qim [v,.int a,.int b] H Q:=is_whole h
theorem qom {y:AV}(h:l[i]?=some y):l.drop i=y::l.drop (i+1):=by
 refine qar (yl h) fun hi e=>?_
 rw [List.drop_eq_getElem_cons hi,e]
theorem qth {a:Int}{r:List AV}{y:AV}(h:∀ q t,y≠.tup [q,t]):risB a (y::r)=false:=by
 cases y with
 | tup p =>
  match p,h with
  | [],_=>rfl
  | [x],_=>cases x<;>rfl
  | [q,t],h=>exact absurd rfl (h q t)
  | x::_::_::_,_=>cases x<;>rfl
 | _=>rfl
theorem qj9 {a k:Int}{r:List AV}{t:AV}:risB a (.tup [.int k,t]::r)=(whB (.int k) (a+1) BIG&&whB t 1 100&&risB k r):=rfl
theorem qmx {a:Int}{r:List AV}{q t:AV}(h:∀ k,q≠.int k):risB a (.tup [q,t]::r)=false:=by
 cases q<;>first|rfl|exact absurd rfl (h _)
theorem qvy (y:AV):(∃ q t,y=.tup [q,t])\/((∀ q t,y≠.tup [q,t])/\((∃ p,y=.tup p/\p.length≠2)\/∀ H,isi H y .tuple=false)):=by
 cases y with
 | tup p =>
  match p with
  | [q,t]=>exact .inl ⟨q,t,rfl⟩
  | []=>exact .inr ⟨fun _ _ e=>(by cases e),.inl ⟨_,rfl,by simp⟩⟩
  | [_]=>exact .inr ⟨fun _ _ e=>(by cases e),.inl ⟨_,rfl,by simp⟩⟩
  | _::_::_::r=>exact .inr ⟨fun _ _ e=>(by cases e),.inl ⟨_,rfl,by simp⟩⟩
 | _=>exact .inr ⟨fun _ _ e=>(by cases e),.inr fun _=>rfl⟩
theorem qg7 {q:AV}{a b:Int}(h:whB q a b=true):∃ k,q=.int k:=by
 cases q<;>first|exact ⟨_,rfl⟩|cases h
def SPw (f:Str) (Φ:Fun):Prop:=∀ (v:AV) (n:Nat) (H:Hp) (Q:PQ),Gd H n v->Q (.bool (powB v)) H->Φ f [v] H Q
theorem are_powers {Φ:Fun}(c:SWh "is_whole" Φ){v:AV}{n:Nat}{H:Hp}{Q:PQ}(g:Gd H n v) (h:Q (.bool (powB v)) H):wpF Φ qc0 [v] H Q:=by
 ((refine ⟨rfl,?_⟩;simp only [lst,Nat.reduceSub,Nat.sub_self,List.replicate]))
 simp only [qc0]
 walk_at "wp"
 cases v with
 | tup l =>
  simp only [isi]
  walk_at "wp"
  refine ⟨by have:=g.len;exact z98 this,?_⟩
  refine qa7 (fun h0=>?_) (fun h0=>?_)
  ·walk_at "wp"
   have:l=[]:=List.length_eq_zero_iff.mp (by exact Int.ofNat_eq_zero.mp h0)
   subst this;exact h
  ·walk_at "wp"
   have hp:powB (.tup l)=risB 1 l:=by cases l with|nil=>simp at h0|cons=>rfl
   rw [hp] at h
   refine qao (fun i loc H'=>∃ (a:Int) (o:Option AV),H'=H/\loc=[some (.tup l),some (.int a),o]/\risB a (l.drop i)=risB 1 l) ⟨1,none,rfl,rfl,by simp⟩ ?_
   rintro i loc H' ⟨a,o,rfl,rfl,hr⟩
   refine ⟨trivial,fun y hy=>?_,fun hi=>?_⟩
   ·rw [qom hy] at hr
    refine ⟨[y],rfl,?_⟩
    have gy:y∈l:=yc hy
    rcases qvy y with ⟨q,t,rfl⟩|⟨hn,hh⟩
    ·walk_at "wp"
     simp only [isi]
     walk_at "wp"
     refine ⟨by (first|exact ye rfl|simp),?_⟩
     refine qpy (fun hc=>absurd rfl hc) (fun _=>?_)
     walk_at "wp"
     refine ⟨by (first|exact ye rfl|simp),?_⟩
     refine c q (a+1) BIG H' _ ?_
     walk_at "wp"
     refine qa5 (b:=!whB q (a+1) BIG) (fun hq=>?_) (fun hq=>?_)
     ·walk_at "wp"
      have:risB a (.tup [q,t]::l.drop (i+1))=false:=by
       by_cases hk:∃ k,q=.int k
       ·refine qar (hk) fun k eQ1=>?_
        clear hk
        subst eQ1
        rw [qj9]
        simp only [Bool.not_eq_true'] at hq
        simp [hq]
       ·exact qmx fun k e=>hk ⟨k,e⟩
      rw [this] at hr
      rw [←hr] at h;exact h
     ·walk_at "wp"
      refine ⟨by (first|exact ye rfl|simp),?_⟩
      refine c t 1 100 H' _ ?_
      walk_at "wp"
      simp only [Bool.not_eq_false'] at hq
      refine qar (qg7 hq) fun k eQ1=>?_
      subst eQ1
      rw [qj9,hq] at hr
      refine qa5 (b:=!whB t 1 100) (fun ht=>?_) (fun ht=>?_)
      ·walk_at "wp"
       simp only [Bool.not_eq_true'] at ht
       rw [ht] at hr
       rw [←hr] at h;exact h
      ·walk_at "wp"
       simp only [Bool.not_eq_false'] at ht
       refine ⟨by (first|exact ye rfl|simp),?_⟩
       refine qaj ⟨k,_,rfl,rfl,?_⟩
       rw [ht] at hr
       simpa using hr
    ·rw [qth hn] at hr
     rw [←hr] at h
     rcases hh with ⟨p,rfl,hp2⟩|hno
     ·walk_at "wp"
      simp only [isi]
      walk_at "wp"
      have:=g
      refine ⟨by cases g with|tup h1 h2=>have:=(h2 _ gy).len;exact z98 this,?_⟩
      refine qpy (fun hc=>?_) (fun hc=>absurd (by exact Eq.symm ((fun {m n}=>Int.ofNat_inj.mp) (id (Eq.symm hc)))) hp2)
      walk_at "wp"
      exact h
     ·walk_at "wp"
      simp only [hno]
      walk_at "wp"
      exact h
   ·walk_at "wp"
    have:l.drop i=[]:=by rw [hi];simp
    rw [this] at hr
    rw [←hr] at h;exact h
 | _ =>
  simp only [isi]
  walk_at "wp"
  exact h
def SFac (Φ:Fun):Prop:=∀ (w:Str) (f:List AV) (n:Nat) (H:Hp) (Q:PQ),Gd H (n+1) (.tup f)->Q (.bool (facB w f)) H->Φ "are_facts" [.str w,.tup f] H Q
theorem are_facts {Φ:Fun}(c:SWh "is_whole" Φ) (cp:SPw "are_powers" Φ){w:Str}{f:List AV}{n:Nat}{H:Hp}{Q:PQ}(g:Gd H (n+1) (.tup f)) (h:Q (.bool (facB w f)) H):wpF Φ qdr [.str w,.tup f] H Q:=by
 have hl:=g.len
 unfold facB at h
 ((refine ⟨rfl,?_⟩;simp only [lst,Nat.reduceSub,Nat.sub_self,List.replicate]))
 simp only [qdr]
 walk_at "wp"
 refine qa5 (fun h1=>?_) (fun h1=>?_)
 ·rw [if_pos h1] at h
  walk_at "wp"
  exact ⟨by exact z98 hl,h⟩
 rw [if_neg (by rw [h1];exact Bool.false_ne_true)] at h
 walk_at "wx"
 refine qa5 (fun h2=>?_) (fun h2=>?_)
 ·rw [if_pos h2] at h
  walk_at "wp"
  refine ⟨by exact z98 hl,?_⟩
  clear h1 h2
  match f,g,h with
  | [a,p],g,h =>
   refine qa7 (fun h3=>?_) (fun h3=>absurd rfl h3)
   walk_at "wp"
   refine ⟨by (first|exact ye rfl|simp),?_⟩
   refine c a 1 BIG H _ ?_
   walk_at "wp"
   refine qa5 (fun h4=>?_) (fun h4=>?_)
   ·walk_at "wp"
    refine ⟨by (first|exact ye rfl|simp),?_⟩
    refine cp p _ H _ (g.mem p (by simp)) ?_
    have h:Q (.bool (_&&_)) H:=h
    rw [h4,Bool.true_and] at h;exact h
   ·walk_at "wp"
    have h:Q (.bool (_&&_)) H:=h
    rw [h4,Bool.false_and] at h;exact h
  | [],g,h =>
   refine qa7 (fun h3=>by simp at h3) (fun h3=>?_)
   walk_at "wp"
   exact h
  | [_],g,h =>
   refine qa7 (fun h3=>by simp at h3) (fun h3=>?_)
   walk_at "wp"
   exact h
  | _::_::_::r,g,h =>
   refine qa7 (fun h3=>by simp at h3;(first|lia|omega)) (fun h3=>?_)
   walk_at "wp"
   exact h
 rw [if_neg (by rw [h2];exact Bool.false_ne_true)] at h
 walk_at "wp"
 refine qa5 (fun h3=>?_) (fun h3=>?_)
 ·rw [if_pos h3] at h
  walk_at "wp"
  refine ⟨by exact z98 hl,?_⟩
  clear h1 h2 h3
  match f,g,h with
  | [a,p],g,h =>
   refine qa7 (fun h3=>?_) (fun h3=>absurd rfl h3)
   walk_at "wp"
   refine ⟨by (first|exact ye rfl|simp),?_⟩
   refine c a 2 BIG H _ ?_
   walk_at "wp"
   refine qa5 (fun h4=>?_) (fun h4=>?_)
   ·walk_at "wp"
    refine ⟨by (first|exact ye rfl|simp),?_⟩
    refine c p 2 BIG H _ ?_
    have h:Q (.bool (_&&_)) H:=h
    rw [h4,Bool.true_and] at h;exact h
   ·walk_at "wp"
    have h:Q (.bool (_&&_)) H:=h
    rw [h4,Bool.false_and] at h;exact h
  | [],g,h =>
   refine qa7 (fun h3=>by simp at h3) (fun h3=>?_)
   walk_at "wp"
   exact h
  | [_],g,h =>
   refine qa7 (fun h3=>by simp at h3) (fun h3=>?_)
   walk_at "wp"
   exact h
  | _::_::_::r,g,h =>
   refine qa7 (fun h3=>by simp at h3;(first|lia|omega)) (fun h3=>?_)
   walk_at "wp"
   exact h
 rw [if_neg (by rw [h3];exact Bool.false_ne_true)] at h
 walk_at "wp"
 refine ⟨by exact z98 hl,?_⟩
 clear h1 h2 h3
 match f,g,h with
 | [a],g,h =>
  refine qa7 (fun h3=>?_) (fun h3=>absurd rfl h3)
  walk_at "wp"
  refine ⟨by (first|exact ye rfl|simp),?_⟩
  exact c a 1 BIG H _ h
 | [],g,h =>
  refine qa7 (fun h3=>by simp at h3) (fun h3=>?_)
  walk_at "wp"
  exact h
 | _::_::r,g,h =>
  refine qa7 (fun h3=>by simp at h3;(first|lia|omega)) (fun h3=>?_)
  walk_at "wp"
  exact h
theorem qj2 (y:AV):(∃ a b c,y=.tup [a,b,c])\/(rowB y=false/\((∃ p,y=.tup p/\p.length≠3)\/∀ H,isi H y .tuple=false)):=by
 cases y with
 | tup p =>
  match p with
  | [a,b,c]=>exact .inl ⟨a,b,c,rfl⟩
  | []=>exact .inr ⟨rfl,.inl ⟨_,rfl,by simp⟩⟩
  | [_]=>exact .inr ⟨rfl,.inl ⟨_,rfl,by simp⟩⟩
  | [_,b]=>exact .inr ⟨by cases b<;>rfl,.inl ⟨_,rfl,by simp⟩⟩
  | _::b::c::_::r=>exact .inr ⟨by cases b<;>first|rfl|(cases c<;>rfl),.inl ⟨_,rfl,by simp⟩⟩
 | _=>exact .inr ⟨rfl,.inr fun _=>rfl⟩
theorem qr2 (y:AV):(∃ w,y=.str w)\/((∀ a c,rowB (.tup [a,y,c])=false)/\∀ H,isi H y .str=false):=by
 cases y<;>first|exact .inl ⟨_,rfl⟩|exact .inr ⟨fun _ _=>rfl,fun _=>rfl⟩
theorem qj0 (y:AV):(∃ f,y=.tup f)\/((∀ a w,rowB (.tup [a,.str w,y])=false)/\∀ H,isi H y .tuple=false):=by
 cases y<;>first|exact .inl ⟨_,rfl⟩|exact .inr ⟨fun _ _=>rfl,fun _=>rfl⟩
theorem qfp {a:AV}{w:Str}{f:List AV}:rowB (.tup [a,.str w,.tup f])=(whB a 2 BIG&&qbb.contains w&&facB w f):=rfl
theorem qwe {a b c:AV}(h:whB a 2 BIG=false):rowB (.tup [a,b,c])=false:=by
 cases b<;>first|rfl|(cases c<;>first|rfl|(rw [qfp,h];rfl))
theorem qqw {w:Str}{K:Bool->Prop}(h:K (qbb.contains w)):wpIn (.str w) qht H K:=by
 refine ⟨.str w,qbb.map .str,rfl,rfl,by simp [PyData.depth],?_⟩
 have:(List.any (qbb.map PyData.str) fun z=>PyData.eqv z (.str w))=qbb.contains w:=by
  simp only [qbb,List.map_cons,List.map_nil,List.any_cons,List.any_nil,PyData.eqv,List.contains_cons,List.contains_nil,Bool.or_false]
  simp only [Bool.beq_comm,BEq.comm]
 rw [this];exact h
theorem qjm {w:Str}{Q:PQ}(h:Q (.bool !(qbb.contains w)) H):qbk .notIn (.str w) qht H Q:=qqw (K:=fun b=>Q (.bool !b) H) h
def RG (H:Hp) (v:AV):Prop:=(∃ n,Gd H n v)/\∀ a w f,v=.tup [a,.str w,.tup f]->Gd H 4 (.tup f)
def SRow (f:Str) (Φ:Fun):Prop:=∀ (v:AV) (H:Hp) (Q:PQ),RG H v->Q (.bool (rowB v)) H->Φ f [v] H Q
theorem is_row {Φ:Fun}(c:SWh "is_whole" Φ) (cf:SFac Φ){v:AV}{H:Hp}{Q:PQ}(g:RG H v) (h:Q (.bool (rowB v)) H):wpF Φ qhg [v] H Q:=by
 ((refine ⟨rfl,?_⟩;simp only [lst,Nat.reduceSub,Nat.sub_self,List.replicate]))
 simp only [qhg]
 walk_at "wp"
 rcases qj2 v with ⟨a,b,t,rfl⟩|⟨hn,hh⟩
 ·simp only [isi]
  walk_at "wp"
  refine ⟨by (first|exact ye rfl|simp),?_⟩
  refine qpy (fun hc=>absurd rfl hc) (fun _=>?_)
  walk_at "wp"
  refine ⟨by (first|exact ye rfl|simp),?_⟩
  refine c a 2 BIG H _ ?_
  walk_at "wp"
  refine qa5 (b:=!whB a 2 BIG) (fun hq=>?_) (fun hq=>?_)
  ·walk_at "wp"
   rw [qwe (by simpa using hq)] at h;exact h
  ·walk_at "wp"
   refine ⟨by (first|exact ye rfl|simp),?_⟩
   rcases qr2 b with ⟨w,rfl⟩|⟨hn,hno⟩
   ·simp only [isi]
    walk_at "wp"
    refine ⟨by (first|exact ye rfl|simp),?_⟩
    refine qjm ?_
    walk_at "wp"
    refine qa5 (b:=!qbb.contains w) (fun hw=>?_) (fun hw=>?_)
    ·walk_at "wp"
     rcases qj0 t with ⟨f,rfl⟩|⟨hn,hno⟩
     ·rw [qfp,show qbb.contains w=false by simpa using hw,Bool.and_false,Bool.false_and] at h;exact h
     ·rw [hn] at h;exact h
    ·walk_at "wp"
     refine ⟨by (first|exact ye rfl|simp),?_⟩
     rcases qj0 t with ⟨f,rfl⟩|⟨hn,hno⟩
     ·simp only [isi]
      walk_at "wp"
      refine ⟨by simp,by simp,?_⟩
      refine cf w f 3 H _ (g.2 _ _ _ rfl) ?_
      rw [qfp,show qbb.contains w=true by simpa using hw,show whB a 2 BIG=true by simpa using hq,Bool.and_true,Bool.true_and] at h;exact h
     ·simp only [hno]
      walk_at "wp"
      rw [hn] at h;exact h
   ·simp only [hno]
    walk_at "wp"
    rw [hn] at h;exact h
 ·rw [hn] at h
  rcases hh with ⟨p,rfl,hp⟩|hno
  ·simp only [isi]
   walk_at "wp"
   refine ⟨by obtain ⟨n,g1⟩:=g.1;have:=g1.len;exact z98 this,?_⟩
   refine qpy (fun hc=>?_) (fun hc=>absurd (by exact Eq.symm ((fun {m n}=>Int.ofNat_inj.mp) (id (Eq.symm hc)))) hp)
   walk_at "wp"
   exact h
  ·simp only [hno]
   walk_at "wp"
   exact h
end
section
open PySem
noncomputable def qf3:AV:=.int 200
noncomputable def qcz:MF:=⟨1,3,
 [.ite (.or2 (.not (.isi (.loc 0) .tuple)) (.not (.cmp2 .le .le (.cst (.int 1)) (.bi .len [.loc 0]) (.cst qf3)))) [.ret (.cst (.bool false))] [],
 .asg 1 (.cst (.int 0)),
 .forr false [2] .plain [.loc 0] [.ite (.or2 (.not (.call "is_row" [.loc 2])) (.cmp .le (.idx (.loc 2) (.cst (.int 0))) (.loc 1))) [.ret (.cst (.bool false))] [],
  .asg 1 (.idx (.loc 2) (.cst (.int 0)))],
 .ret (.cst (.bool true))]⟩
noncomputable def qep:MF:=⟨1,4,
 [.asg 1 (.lst []),
 .forr true [2,3] .enum [.loc 0] [.ite (.not (.call "holds" [.loc 3,.loc 1])) [.ret (.loc 2)] [],
  .ite (.call "tells_prime" [.loc 3]) [.expr (.meth .append (.loc 1) [.idx (.loc 3) (.cst (.int 0))])] []],
 .ret (.cst .none)]⟩
noncomputable def qfx:MF:=⟨1,1,
 [.ret (.and2 (.call "is_slip" [.loc 0]) (.cmp .is (.call "wrong_at" [.loc 0]) (.cst .none)))]⟩
noncomputable def qdj:MF:=⟨1,3,
 [.asg 1 (.lst []),
 .forr false [2] .range [.bi .len [.loc 0]] [.ite (.not (.call "_law_holds" [.idx (.loc 0) (.loc 2),.loc 1])) [.ret (.loc 2)] [],
  .ite (.call "_law_tells" [.idx (.loc 0) (.loc 2)]) [.expr (.meth .append (.loc 1) [.idx (.idx (.loc 0) (.loc 2)) (.cst (.int 0))])] []],
 .ret (.cst .none)]⟩
noncomputable def numA (v:AV):Int:=match v with|.tup (.int n::_)=>n|_=>0
noncomputable def incB:Int->List AV->Bool
 | _,[]=>true
 | a,v::r=>rowB v&&(decide (a<numA v)&&incB (numA v) r)
noncomputable def adjL:List AV->Bool
 | x::y::r=>decide (numA x<numA y)&&adjL (y::r)
 | _=>true
noncomputable def lenB (l:List AV):Bool:=decide ((1:Int)<=l.length)&&decide ((l.length:Int)<=200)
noncomputable def qel (v:AV):Bool:=match v with|.tup l=>lenB l&&incB 0 l|_=>false
theorem qgs {v:AV}(h:rowB v=true):∃ n w f,v=.tup [.int n,.str w,.tup f]/\2<=n:=by
 rcases qj2 v with ⟨a,b,t,rfl⟩|⟨hn,_⟩
 ·rcases qr2 b with ⟨w,rfl⟩|⟨hn,_⟩
  ·rcases qj0 t with ⟨f,rfl⟩|⟨hn,_⟩
   ·rw [qfp,Bool.and_eq_true,Bool.and_eq_true] at h
    refine qar (qg7 h.1.1) fun k eQ1=>?_
    subst eQ1
    simp only [whB,Bool.and_eq_true,decide_eq_true_eq] at h
    exact ⟨k,w,f,rfl,h.1.1.1⟩
   ·rw [hn] at h;cases h
  ·rw [hn] at h;cases h
 ·rw [hn] at h;cases h
noncomputable def qow (a:Int) (l:List AV):Bool:=match l with|[]=>true|x::r=>decide (a<numA x)&&adjL (x::r)
theorem qip:∀ (l:List AV) (a:Int),incB a l=(l.all rowB&&qow a l)
 | [],_=>rfl
 | x::r,a=>by
  rw [incB,qip r (numA x)]
  have:qow a (x::r)=(decide (a<numA x)&&qow (numA x) r):=by
   cases r with
   | nil=>simp [qow,adjL]
   | cons y r=>rfl
  rw [this,List.all_cons]
  cases rowB x<;>cases decide (a<numA x)<;>cases r.all rowB<;>rfl
theorem qp2 (l:List AV):qel (.tup l)=(lenB l&&(l.all rowB&&adjL l)):=by
 show (lenB l&&incB 0 l)=_
 rw [qip]
 cases l with
 | nil=>rfl
 | cons x r =>
  cases hx:rowB x with
  | false=>simp [hx]
  | true =>
   refine qx9 (qgs hx) fun n w f eQ3 h2=>?_
   subst eQ3
   have:qow 0 (.tup [.int n,.str w,.tup f]::r)=adjL (.tup [.int n,.str w,.tup f]::r):=by
    show (decide ((0:Int)<n)&&_)=_
    rw [show decide ((0:Int)<n)=true by simp;exact z246 h2,Bool.true_and]
   rw [this]
theorem qze {v:AV}(g:Gd H 5 v):RG H v:=⟨⟨5,g⟩,fun a w f e=>by subst e;exact g.mem _ (by simp)⟩
def SlG (H:Hp) (v:AV):Prop:=∀ l,v=.tup l->l.length<=1000/\∀ x∈l,Gd H 5 x
def qx4 (Φ:Fun):Prop:=∀ (v:AV) (H:Hp) (Q:PQ),SlG H v->Q (.bool (qel v)) H->Φ "is_slip" [v] H Q
theorem is_slip (c:SRow "is_row" Φ){v:AV}{Q:PQ}(g:SlG H v) (h:Q (.bool (qel v)) H):wpF Φ qcz [v] H Q:=by
 ((refine ⟨rfl,?_⟩;simp only [lst,Nat.reduceSub,Nat.sub_self,List.replicate]))
 simp only [qcz]
 walk_at "wp"
 rcases qj0 v with ⟨l,rfl⟩|⟨_,hno⟩
 ·refine qa4 (g l rfl) fun hl hg=>?_
  simp only [isi]
  walk_at "wp"
  refine ⟨by exact z98 hl,?_⟩
  have body:lenB l=true->wpSs Φ (qcz.body.drop 1) [some (.tup l),none,none] H (qa8 Q):=by
   intro hlb
   have h:Q (.bool (lenB l&&incB 0 l)) H:=h
   rw [hlb,Bool.true_and] at h
   simp only [qcz,List.drop]
   walk_at "wp"
   refine qao (fun i loc H'=>∃ (a:Int) (o:Option AV),H'=H/\loc=[some (.tup l),some (.int a),o]/\incB a (l.drop i)=incB 0 l) ⟨0,none,rfl,rfl,by simp⟩ ?_
   rintro i loc H' ⟨a,o,rfl,rfl,hr⟩
   refine ⟨trivial,fun y hy=>?_,fun hi=>?_⟩
   ·rw [qom hy,incB] at hr
    refine ⟨[y],rfl,?_⟩
    walk_at "wp"
    refine c y H' _ (qze (hg y (yc hy))) ?_
    walk_at "wp"
    cases hb:rowB y with
    | false =>
     simp only [Bool.not_false]
     walk_at "wp"
     rw [hb,Bool.false_and] at hr
     rw [←hr] at h;exact h
    | true =>
     refine qx9 (qgs hb) fun n w f eQ3 n2'=>?_
     subst eQ3
     have hr:(decide (a<n)&&incB n (l.drop (i+1)))=incB 0 l:=by rw [hb,Bool.true_and] at hr;exact hr
     simp only [Bool.not_true]
     walk_at "wp"
     refine ⟨by (first|exact ye rfl|simp),?_⟩
     refine qa7 (fun h1=>?_) (fun h1=>?_)
     ·walk_at "wp"
      rw [show decide (a<n)=false by simp;exact z268 h1,Bool.false_and] at hr
      rw [←hr] at h;exact h
     ·walk_at "wp"
      refine ⟨by (first|exact ye rfl|simp),?_⟩
      rw [show decide (a<n)=true by simp;exact Int.lt_of_not_ge h1,Bool.true_and] at hr
      exact qaj ⟨n,_,rfl,rfl,hr⟩
   ·walk_at "wp"
    have:l.drop i=[]:=by rw [hi];simp
    rw [this] at hr
    rw [←hr] at h;exact h
  refine qa7 (fun h1=>?_) (fun h1=>?_)
  ·walk_at "wp"
   refine qpy (K:=fun b=>qb5 Φ _ _ _ _ _ b) (fun h2=>?_) (fun h2=>?_)
   ·walk_at "wp"
    have:qel (.tup l)=false:=by
     show (lenB l&&_)=false
     rw [show lenB l=false by simp only [lenB];rw [show decide ((l.length:Int)<=200)=false from decide_eq_false h2,Bool.and_false],Bool.false_and]
    rw [this] at h;exact h
   ·simp only [k_itef,ss_nil,thenS_next]
    exact body (by simp only [lenB];rw [decide_eq_true h1,show decide ((l.length:Int)<=200)=true from decide_eq_true h2];rfl)
  ·walk_at "wp"
   have:qel (.tup l)=false:=by
    show (lenB l&&_)=false
    rw [show lenB l=false by simp only [lenB];rw [decide_eq_false h1,Bool.false_and],Bool.false_and]
   rw [this] at h;exact h
 ·simp only [hno]
  walk_at "wp"
  have:qel v=false:=by cases v<;>first|rfl|simp [isi] at hno
  rw [this] at h;exact h
theorem qj8:∀ {ps:List (Int×Int)}{a:Int},Ris ps->(∀ p∈ps,a<p.1/\p.1<=BIG/\1<=p.2/\p.2<=100)->risB a (ps.map prAV)=true
 | [],_,_,_=>rfl
 | p::r,a,hr,h=>by
  refine qh0 (h p (List.mem_cons_self ..)) fun h1 h2 h3 h4=>?_
  have hr:=List.pairwise_cons.mp hr
  show (whB (.int p.1) (a+1) BIG&&whB (.int p.2) 1 100&&risB p.1 (r.map prAV))=true
  rw [qj8 hr.2 fun q hq=>⟨hr.1 q hq,(h q (yi _ hq)).2⟩]
  simp only [whB,Bool.and_true,Bool.and_eq_true,decide_eq_true_eq]
  exact ⟨⟨by exact Int.add_one_le_of_lt h1,h2⟩,h3,h4⟩
theorem qej {k a b:Int}(h1:a<=k) (h2:k<=b):whB (.int k) a b=true:=by simp only [whB,Bool.and_eq_true,decide_eq_true_eq];exact ⟨h1,h2⟩
theorem qp9 {k:Nat}{n:Int}{f:Fc}(h:RoK k n f):rowB (roA n f)=true:=by
 refine qh0 (h) fun hk n0 n1 hf=>?_
 clear h
 have hB:BIG=1000000000000000000000000000000:=rfl
 unfold roA
 rw [qfp,qej n0 (by exact z269 hk n1 hB),Bool.true_and]
 cases f with
 | first=>decide
 | prime b ps =>
  refine qfk (hf) fun qQ0 hps ris=>?_
  clear hf
  obtain ⟨b0,b1⟩:=qQ0
  have:powB (psT ps)=true:=by
   have hr:=qj8 (a:=1) ris fun p hp=>by
    refine qh0 (hps.2.2 p hp) fun q1 q2 q3 q4=>?_
    exact ⟨by exact Int.lt_of_add_one_le q1,by exact z270 hk hB q2,q3,q4⟩
   cases ps with
   | nil=>exact absurd rfl hps.1
   | cons p r=>exact hr
  show (qbb.contains "prime" && (whB (.int b) 1 BIG&&powB (psT ps)))=true
  rw [this,qej b0 (by exact le_of_le_of_eq b1 (id (Eq.symm hB)))];decide
 | split a b =>
  refine qfk (hf) fun qQ0 b0 b1=>?_
  clear hf
  obtain ⟨a0,a1⟩:=qQ0
  show (qbb.contains "split" && (whB (.int a) 2 BIG&&whB (.int b) 2 BIG))=true
  rw [qej a0 (by exact z271 hk hB a1),qej b0 (by exact z271 hk hB b1)];decide
 | power b =>
  show (qbb.contains "power" && whB (.int b) 1 BIG)=true
  rw [qej hf.1 (by have:=hf.2;exact le_of_le_of_eq this (id (Eq.symm hB)))];decide
 | root b =>
  show (qbb.contains "root" && whB (.int b) 1 BIG)=true
  rw [qej hf.1 (by have:=hf.2;exact le_of_le_of_eq this (id (Eq.symm hB)))];decide
theorem qo4:∀ {rs:List (Int×Fc)},(rs.map (·.1)).Pairwise (·<·)->adjL (rs.map roP)=true
 | [],_=>rfl
 | [_],_=>rfl
 | x::y::r,h=>by
  have h:=List.pairwise_cons.mp h
  show (decide (x.1<y.1)&&adjL ((y::r).map roP))=true
  rw [qo4 h.2,decide_eq_true (h.1 y.1 (by simp))];rfl
theorem qml {k:Nat}{rs:List (Int×Fc)}(h:RsK k rs):qel (.tup (rs.map roP))=true:=by
 refine qh0 (h) fun h0 h1 h2 h3=>?_
 clear h
 have l1:1<=rs.length:=List.length_pos_iff.mpr h0
 rw [qp2,qo4 h3,Bool.and_true]
 have e:((rs.map roP).length:Int)=rs.length:=by simp
 have:(rs.map roP).all rowB=true:=List.all_eq_true.mpr fun x hx=>by
  refine qad (yh hx) fun r hr eQ2=>?_
  subst eQ2
  exact qp9 (h2 r hr)
 rw [this,Bool.and_true,lenB,e,Bool.and_eq_true,decide_eq_true_eq,decide_eq_true_eq]
 exact z272 h1 l1
theorem gdI {l:List Int}(h:l.length<=1000):Gd H (n+1) (.tup (l.map .int)):=.tup (by simpa using h) fun x hx=>by
 obtain ⟨k,_,rfl⟩:=yh hx;exact .int
theorem qzm {a b c:AV}(ha:Gd H n a) (hb:Gd H n b) (hc:Gd H n c):Gd H (n+1) (.tup [a,b,c]):=.tup (by simp) fun x hx=>by
 simp only [List.mem_cons,List.not_mem_nil,or_false] at hx
 rcases hx with rfl|rfl|rfl<;>assumption
theorem qyp {n:Int}{f:Fc}(h:RoK k n f):Gd H 4 (roA n f):=by
 refine qzm .int .str ?_
 cases f with
 | first=>exact .tup (by simp [Fc.facts]) fun x hx=>by cases hx
 | prime b ps =>
  refine .tup (by simp [Fc.facts]) fun x hx=>?_
  simp only [Fc.facts,List.mem_cons,List.not_mem_nil,or_false] at hx
  rcases hx with rfl|rfl
  ·exact .int
  ·have:=h.2.2.2.2.1.2.1
   have:=h.1
   exact .tup (by rw [ya];(first|lia|omega)) fun x hx=>by
    refine qad (yh hx) fun p _ eQ2=>?_
    subst eQ2
    exact gdI (l:=[p.1,p.2]) (by simp)
 | split a b=>exact gdI (l:=[a,b]) (by simp)
 | power b=>exact gdI (l:=[b]) (by simp)
 | root b=>exact gdI (l:=[b]) (by simp)
theorem qv8 {rs:List (Int×Fc)}(hl:rs.length<=200) (h:∀ r∈rs,RoK k r.1 r.2):SlG H (.tup (rs.map roP)):=fun l e=>by
 cases e
 refine ⟨by rw [ya];exact z57 hl,fun x hx=>?_⟩
 refine qad (yh hx) fun r hr eQ2=>?_
 subst eQ2
 exact (qyp (h r hr)).up (by decide)
noncomputable def wr:Nat->List Int->List (Int×Fc)->Option Nat
 | _,_,[]=>none
 | k,pr,r::rs=>if r.2.holds r.1 pr then wr (k+1) (if r.2.tells then pr++[r.1] else pr) rs else some k
noncomputable def optA:Option Nat->AV
 | none=>.none
 | some k=>.int k
theorem qj6 {n:Int}{f:Fc}{Q:PQ}(q:Q (.int n) H):qbm (roA n f) (.int 0) H Q:=by
 unfold roA;rw [i_tup0];exact ⟨su3,q⟩
theorem qf7 {Q:PQ}{x:AV}(h:H[i]?=some (.list l)) (hn:l.length<=1000) (q:Q .none (H.set i (.list (l++[x])))):wpMt .append (.ref i) [x] H Q:=by
 rw [qfg h];exact ⟨szL hn,q⟩
def qo6 (Φ:Fun):Prop:=∀ (k:Nat) (rs:List (Int×Fc)) (H:Hp) (Q:PQ),rs.length<=200->(∀ r∈rs,RoK k r.1 r.2)->(∀ H',H<+:H'->Q (optA (wr 0 [] rs)) H')->Φ "wrong_at" [.tup (rs.map roP)] H Q
theorem wrong_at (c1:qde "holds" Φ) (c2:qfc "tells_prime" Φ){rs:List (Int×Fc)}{Q:PQ}(hl:rs.length<=200) (rok:∀ r∈rs,RoK k r.1 r.2) (h:∀ H',H<+:H'->Q (optA (wr 0 [] rs)) H'):wpF Φ qep [.tup (rs.map roP)] H Q:=by
 ((refine ⟨rfl,?_⟩;simp only [lst,Nat.reduceSub,Nat.sub_self,List.replicate]))
 simp only [qep]
 walk_at "go"
 refine qao (fun i loc H'=>∃ (pr:List Int) (o2 o3:Option AV),H<+:H'/\H'[H.length]?=some (.list (pr.map .int))/\pr.length<=i/\wr i pr (rs.drop i)=wr 0 [] rs/\loc=[some (.tup (rs.map roP)),some (.ref H.length),o2,o3]) ⟨[],none,none,qaa,qab,Nat.le_refl _,by simp,rfl⟩ ?_
 rintro i loc H' ⟨pr,o2,o3,hp,hj,hpl,hw,rfl⟩
 refine ⟨trivial,fun y hy=>?_,fun hi=>?_⟩
 ·rw [qhp,List.getElem?_map,Option.map_map] at hy
  refine qad (yf hy) fun r hr eQ2=>?_
  subst eQ2
  refine qar (yl hr) fun hlt e=>?_
  rw [List.drop_eq_getElem_cons hlt,e,wr] at hw
  have hrk:=rok r (yc hr)
  refine ⟨[.int i,roP r],rfl,?_⟩
  unfold roP
  walk_at "wp"
  refine c1 k H.length r.1 r.2 pr H' _ hj hrk fun H2 p2=>?_
  have hj2:=qac p2 hj
  walk_at "wp"
  refine qa5 (K:=fun b=>qb5 Φ _ _ _ _ _ (!b)) (fun h1=>?_) (fun h1=>?_)
  ·simp only [Bool.not_true]
   walk_at "wp"
   rw [h1,if_pos rfl] at hw
   refine c2 r.1 r.2 H2 _ ?_
   walk_at "wp"
   refine qa5 (K:=fun b=>qb5 Φ _ _ _ _ _ b) (fun h2=>?_) (fun h2=>?_)
   ·walk_at "wp"
    rw [h2,if_pos rfl] at hw
    refine ⟨qa0 hj2,?_⟩
    refine qj6 ?_
    walk_at "wp"
    refine qf7 hj2 (by rw [ya];(first|lia|omega)) ?_
    walk_at "wp"
    refine qaj ⟨pr++[r.1],_,_,qav (hp.trans p2) (Nat.le_refl _),?_,by rw [List.length_append];simp;exact z273 hpl,hw,rfl⟩
    rw [qak hj2];simp
   ·walk_at "wp"
    rw [h2,if_neg (by decide)] at hw
    exact qaj ⟨pr,_,_,hp.trans p2,hj2,by exact Nat.le_add_right_of_le hpl,hw,rfl⟩
  ·simp only [Bool.not_false]
   walk_at "wp"
   rw [h1,if_neg (by decide)] at hw
   rw [←hw] at h
   exact h _ (hp.trans p2)
 ·walk_at "wp"
  have:rs.drop i=[]:=List.drop_eq_nil_of_le (by rw [hi,qea];simp)
  rw [this] at hw
  rw [←hw] at h
  exact h _ hp
theorem is_none {o:Option Nat}{Q:PQ}(q:Q (.bool o.isNone) H):qbk .is (optA o) .none H Q:=by
 cases o with
 | none=>exact ⟨true,rfl,q⟩
 | some k=>exact ⟨false,rfl,q⟩
theorem qnt {o:Option Nat}{Q:PQ}(q:Q (.bool !o.isNone) H):qbk .isNot (optA o) .none H Q:=by
 cases o with
 | none=>exact ⟨true,rfl,q⟩
 | some k=>exact ⟨false,rfl,q⟩
def qrx (Φ:Fun):Prop:=∀ (v:AV) (H:Hp) (Q:PQ),SlG H v->(qel v=false->Q (.bool false) H)->(qel v=true->∃ k rs,v=.tup (rs.map roP)/\rs.length<=200/\(∀ r∈rs,RoK k r.1 r.2)/\∀ H',H<+:H'->Q (.bool (wr 0 [] rs).isNone) H')->Φ "lets_by" [v] H Q
theorem lets_by (c1:qx4 Φ) (c2:qo6 Φ){v:AV}{Q:PQ}(g:SlG H v) (h0:qel v=false->Q (.bool false) H) (h1:qel v=true->∃ k rs,v=.tup (rs.map roP)/\rs.length<=200/\(∀ r∈rs,RoK k r.1 r.2)/\∀ H',H<+:H'->Q (.bool (wr 0 [] rs).isNone) H'):wpF Φ qfx [v] H Q:=by
 ((refine ⟨rfl,?_⟩;simp only [lst,Nat.reduceSub,Nat.sub_self,List.replicate]))
 simp only [qfx]
 walk_at "wp"
 refine c1 v H _ g ?_
 walk_at "wp"
 refine qa5 (K:=fun b=>qjq Φ _ _ _ _ b) (fun e=>?_) (fun e=>?_)
 ·refine qry (h1 e) fun k rs eQ2 a b q=>?_
  subst eQ2
  walk_at "wp"
  refine c2 k rs H _ a b fun H' p=>?_
  walk_at "wp"
  exact is_none (q H' p)
 ·walk_at "wp"
  exact h0 e
end
section
open PySem
noncomputable def Rw.ro:Rw->Int×Fc
 | .first=>(2,.first)
 | .prime n b ps=>(n,.prime b ps)
 | .split n a b=>(n,.split a b)
 | .power n b=>(n,.power b)
 | .root n b=>(n,.root b)
theorem qyq (r:Rw):roP r.ro=r.av:=by cases r<;>rfl
theorem qwg (rs:List Rw):(rs.map Rw.ro).map roP=rs.map Rw.av:=by
 rw [List.map_map];exact List.map_congr_left fun r _=>qyq r
theorem qmv (r:Rw):r.ro.1=r.num:=by cases r<;>rfl
theorem qtd (rs:List Rw):(rs.map Rw.ro).map (·.1)=rs.map Rw.num:=by
 rw [List.map_map];exact List.map_congr_left fun r _=>qmv r
theorem qyo {r:Rw}(h:r.ok):RoK 0 r.ro.1 r.ro.2:=by
 cases r with
 | first=>exact ⟨by decide,by decide,by decide,trivial⟩
 | prime n b ps =>
  refine qst (h) fun h1 h2 h3 h4 h5 qQ5=>?_
  clear h
  obtain ⟨h6,h7,h8⟩:=qQ5
  exact ⟨by decide,by show 2<=n;exact Int.le_of_lt h1,by show n<=_;exact Int.le_of_lt h2,⟨h3,by exact z274 h2 h4⟩,⟨h5,by exact z275 h6,fun p hp=>by have:=h7 p hp;exact z276 this⟩,h8⟩
 | split n a b =>
  refine qst (h) fun h1 h2 h3 h4 h5 h6=>?_
  clear h
  have:2*2<=a*b:=Int.mul_le_mul h1 h2 (by decide) (by exact z148 h1)
  exact ⟨by decide,by show 2<=n;exact z277 h5 this,by show n<=_;exact Int.le_of_lt h6,⟨h1,by exact Int.le_of_lt h3⟩,h2,by exact Int.le_of_lt h4⟩
 | power n b =>
  refine qh0 (h) fun h1 h2 h3 h4=>?_
  clear h
  exact ⟨by decide,h1,by show n<=_;exact Int.le_of_lt h2,h3,by exact z274 h2 h4⟩
 | root n b =>
  refine qh0 (h) fun h1 h2 h3 h4=>?_
  clear h
  exact ⟨by decide,h1,by show n<=_;exact Int.le_of_lt h2,h3,by exact z274 h2 h4⟩
theorem qwf {P:Rw->Prop}{N:Nat}{rs:List Rw}(hN:N<=62) (h:RsC P N rs):RsK 0 (rs.map Rw.ro) :=
 ⟨fun e=>h.ne (List.map_eq_nil_iff.mp e),by rw [ya];have:=h.len;exact z278 hN this,fun x hx=>by
  refine qad (yh hx) fun r hr eQ2=>?_
  subst eQ2
  exact qyo (h.ok r hr),by rw [qtd];exact h.inc⟩
end
section
open PySem PySem.W PyProof.Rows
set_option Elab.async false
noncomputable def qbl:MF:=⟨1,3,
 [.asg 1 (.dic0),
 .forr false [2] .plain [.loc 0] [.ite (.cmp .notIn (.idx (.loc 2) (.cst (.int 0))) (.loc 1)) [.sto (.loc 1) (.idx (.loc 2) (.cst (.int 0))) (.loc 2)] []],
 .ret (.loc 1)]⟩
noncomputable def qdi:MF:=⟨2,6,
 [.asg 2 (.call "by_numbers" [.loc 0]),
 .ite (.cmp .notIn (.loc 1) (.loc 2)) [.never] [],
 .asg 3 (.dic0),
 .asg 4 (.lst [.loc 1]),
 .whl (.cmp .ne (.loc 4) (.lst [])) [.forr false [5] .plain [.call "needs" [.idx (.loc 2) (.meth .pop (.loc 4) [])]] [.ite (.and2 (.cmp .notIn (.loc 5) (.loc 3)) (.cmp .isin (.loc 5) (.loc 2))) [.sto (.loc 3) (.loc 5) (.cst (.bool true)),
    .expr (.meth .append (.loc 4) [.loc 5])] []]],
 .ret (.bi .sorted [.bi .list [.loc 3]])]⟩
noncomputable def qtt:MF:=⟨2,3,
 [.asg 2 (.bin .add (.call "stands_on" [.loc 0,.loc 1]) (.lst [.loc 1])),
 .ret (.bi .tuple [.comp false 1 (.loc 3) .plain [.loc 0] [.cmp .isin (.idx (.loc 3) (.cst (.int 0))) (.loc 2)]])]⟩
noncomputable def qhf:MF:=⟨1,4,
 [.asg 1 (.lst []),
 .forr false [2] .plain [.loc 0] [.asg 1 (.bin .add (.loc 1) (.bi .list [.loc 2]))],
 .asg 3 (.call "by_numbers" [.loc 1]),
 .ret (.bi .tuple [.comp false 1 (.idx (.loc 3) (.loc 4)) .plain [.bi .sorted [.bi .list [.loc 3]]] []])]⟩
noncomputable def qnk:MF:=⟨1,1,
 [.ret (.tup [.idx (.idx (.loc 0) (.neg (.cst (.int 1)))) (.cst (.int 0)),.call "tells_prime" [.idx (.loc 0) (.neg (.cst (.int 1)))]])]⟩
noncomputable def qeq:MF:=⟨2,3,
 [.asg 2 (.cst (.int 0)),
 .whl (.cmp .eq (.bin .mod (.loc 0) (.loc 1)) (.cst (.int 0))) [.asg 0 (.bin .fdiv (.loc 0) (.loc 1)),
  .asg 2 (.bin .add (.loc 2) (.cst (.int 1)))],
 .ret (.loc 2)]⟩
noncomputable def qeu:MF:=⟨3,5,
 [.ite (.or2 (.not (.call "is_whole" [.loc 0,.cst (.int 3),.cst qcq])) (.not (.call "is_whole" [.loc 1,.cst (.int 1),.cst qcq]))) [.raise "NoNumber" [.cst (.str "no number, or no base")]] [],
 .ite (.or2 (.cmp .eq (.bi .len [.loc 2]) (.cst (.int 0))) (.not (.bi .all [.comp false 1 (.and2 (.call "lets_by" [.loc 5]) (.idx (.call "says" [.loc 5]) (.cst (.int 1)))) .plain [.loc 2] []]))) [.raise "NoSlip" [.cst (.str "no slips of primes")]] [],
 .asgS 3 (.comp false 1 (.idx (.call "says" [.loc 5]) (.cst (.int 0))) .plain [.loc 2] []),
 .ite (.not (.bi .all [.comp false 1 (.cmp .eq (.bin .mod (.bin .sub (.loc 0) (.cst (.int 1))) (.loc 5)) (.cst (.int 0))) .plain [.loc 3] []])) [.raise "NotHeld" [.cst (.str "a prime that does not divide")]] [],
 .asg 4 (.tup [.loc 0,.cst (.str "prime"),.tup [.loc 1,.bi .tuple [.comp false 1 (.tup [.loc 5,.call "times_in" [.bin .sub (.loc 0) (.cst (.int 1)),.loc 5]]) .plain [.loc 3] []]]]),
 .ite (.not (.call "holds" [.loc 4,.loc 3])) [.raise "NotHeld" [.cst (.str "a row that does not hold")]] [],
 .ret (.call "cut" [.bin .add (.call "merged" [.loc 2]) (.tup [.loc 4]),.loc 0])]⟩
noncomputable def qci:MF:=⟨2,2,
 [.ret (.bi .tuple [.call "_law_closed" [.dic0,.lst [.loc 0],.loc 1]])]⟩
noncomputable def qes:MF:=⟨1,4,
 [.asg 1 (.dic0),
 .forr false [2] .plain [.loc 0] [.forr false [3] .plain [.loc 2] [.ite (.cmp .notIn (.idx (.loc 3) (.cst (.int 0))) (.loc 1)) [.sto (.loc 1) (.idx (.loc 3) (.cst (.int 0))) (.loc 3)] []]],
 .ret (.loc 1)]⟩
noncomputable def qdk:MF:=⟨2,3,
 [.asg 2 (.cst (.int 0)),
 .whl (.cmp .eq (.bin .mod (.loc 1) (.loc 0)) (.cst (.int 0))) [.asg 1 (.bin .fdiv (.loc 1) (.loc 0)),
  .asg 2 (.bin .add (.loc 2) (.cst (.int 1)))],
 .ret (.loc 2)]⟩
noncomputable def qcd:MF:=⟨3,11,
 [.ite (.or2 (.isi (.loc 0) .bool) (.or2 (.not (.isi (.loc 0) .int)) (.not (.cmp2 .le .le (.cst (.int 3)) (.loc 0) (.bin .pow (.cst (.int 10)) (.cst (.int 30))))))) [.ret (.lst [.cst (.str "NoNumber")])] [],
 .ite (.or2 (.isi (.loc 1) .bool) (.or2 (.not (.isi (.loc 1) .int)) (.not (.cmp2 .le .le (.cst (.int 1)) (.loc 1) (.bin .pow (.cst (.int 10)) (.cst (.int 30))))))) [.ret (.lst [.cst (.str "NoNumber")])] [],
 .asg 3 (.lst []),
 .forr false [4] .plain [.loc 2] [.ite (.or2 (.not (.isi (.loc 4) .tuple)) (.or2 (.cmp .eq (.bi .len [.loc 4]) (.cst (.int 0))) (.or2 (.cmp .isNot (.call "_law_wrong" [.loc 4]) (.cst .none)) (.not (.call "_law_tells" [.idx (.loc 4) (.neg (.cst (.int 1)))]))))) [.ret (.lst [.cst (.str "NoSlip")])] [],
  .ite (.cmp .notIn (.idx (.idx (.loc 4) (.neg (.cst (.int 1)))) (.cst (.int 0))) (.loc 3)) [.expr (.meth .append (.loc 3) [.idx (.idx (.loc 4) (.neg (.cst (.int 1)))) (.cst (.int 0))])] []],
 .ite (.cmp .eq (.loc 3) (.lst [])) [.ret (.lst [.cst (.str "NoSlip")])] [],
 .asg 5 (.bi .tuple [.comp false 1 (.tup [.loc 11,.call "_law_times" [.loc 11,.bin .sub (.loc 0) (.cst (.int 1))]]) .plain [.bi .sorted [.loc 3]] []]),
 .asg 6 (.tup [.loc 0,.cst (.str "prime"),.tup [.loc 1,.loc 5]]),
 .ite (.or2 (.not (.bi .all [.comp true 2 (.cmp .gt (.loc 12) (.cst (.int 0))) .plain [.loc 5] []])) (.not (.call "_law_holds" [.loc 6,.loc 3]))) [.ret (.lst [.cst (.str "NotHeld")])] [],
 .asg 7 (.call "_law_laid" [.loc 2]),
 .asg 8 (.lst []),
 .asg 9 (.bi .list [.loc 3]),
 .whl (.cmp .gt (.bi .len [.loc 9]) (.cst (.int 0))) [.asg 10 (.meth .pop (.loc 9) []),
  .ite (.cmp .notIn (.loc 10) (.loc 8)) [.expr (.meth .append (.loc 8) [.loc 10]),
   .expr (.meth .extend (.loc 9) [.call "_law_needs" [.idx (.loc 7) (.loc 10)]])] []],
 .ret (.tup [.bi .tuple [.bin .add (.comp false 1 (.idx (.loc 7) (.loc 11)) .plain [.bi .sorted [.loc 8]] []) (.lst [.loc 6])]])]⟩
noncomputable def qer (R_grown:qpe) (hd1:Str->Option (List Str)):MF:=⟨3,5,
 [.tryC [3,4] [.loc 0,.loc 1,.loc 2] R_grown hd1]⟩
noncomputable def qdm:MF:=⟨2,6,
 [.asg 2 (.comp true 2 (.call "_law_slip_of" [.loc 7,.slc (.loc 0) [.bin .mod (.loc 6) (.cst (.int 3))] []]) .enum [.comp true 2 (.loc 6) .plain [.loc 1] []] []),
 .asg 3 (.bin .mod (.idx (.loc 0) (.cst (.int 8))) (.cst (.int 12))),
 .asg 4 (.bin .mod (.bin .fdiv (.idx (.loc 0) (.cst (.int 8))) (.cst (.int 12))) (.bi .len [.loc 2])),
 .ite (.cmp .eq (.loc 3) (.cst (.int 1))) [.expr (.meth .pop (.loc 2) [.loc 4])] [],
 .ite (.cmp .eq (.loc 3) (.cst (.int 2))) [.expr (.meth .append (.loc 2) [.call "_law_slip_of" [.idx (.lst [.cst (.int 2),.cst (.int 3),.cst (.int 5),.cst (.int 7),.cst (.int 11)]) (.bin .mod (.idx (.loc 0) (.cst (.int 9))) (.cst (.int 5))),.slc (.loc 0) [.cst (.int 2)] []]])] [],
 .ite (.cmp .eq (.loc 3) (.cst (.int 3))) [.sto (.loc 2) (.loc 4) (.bi .tuple [.call "_law_spoilt" [.bi .list [.idx (.loc 2) (.loc 4)],.idx (.loc 0) (.cst (.int 9)),.idx (.loc 0) (.cst (.int 10))]])] [],
 .ite (.cmp .eq (.loc 3) (.cst (.int 4))) [.expr (.meth .insert (.loc 2) [.loc 4,.call "_law_slip_of" [.bin .add (.cst (.int 4)) (.bin .mul (.cst (.int 2)) (.bin .mod (.idx (.loc 0) (.cst (.int 9))) (.cst (.int 40)))),.loc 0]])] [],
 .ite (.cmp .eq (.loc 3) (.cst (.int 6))) [.expr (.meth .insert (.loc 2) [.loc 4,.idx (.lst [.tup [],.cst .none,.bi .list [.idx (.loc 2) (.loc 4)],.cst (.str "2 first"),.cst (.int 2),.lst [.idx (.loc 2) (.loc 4)]]) (.bin .mod (.idx (.loc 0) (.cst (.int 9))) (.cst (.int 6)))])] [],
 .ite (.cmp .eq (.loc 3) (.cst (.int 5))) [.expr (.meth .append (.loc 2) [.call "_law_slip_of" [.idx (.idx (.idx (.loc 2) (.loc 4)) (.neg (.cst (.int 1)))) (.cst (.int 0)),.slc (.loc 0) [.cst (.int 1)] []]])] [],
 .asg 5 (.bin .mod (.idx (.loc 0) (.cst (.int 10))) (.bin .add (.cst (.int 1)) (.bi .len [.loc 2]))),
 .ret (.bin .add (.slc (.loc 2) [.loc 5] []) (.slc (.loc 2) [] [.loc 5]))]⟩
noncomputable def qin:MF:=⟨1,10,
 [.asg 1 (.call "_law_mixed" [.loc 0,.cst (.int 0),.cst (.int 13)]),
 .asg 2 (.bin .add (.cst (.int 3)) (.bin .mod (.bin .fdiv (.idx (.loc 1) (.cst (.int 0))) (.cst (.int 8))) (.cst (.int 398)))),
 .whl (.and2 (.cmp .gt (.bin .mod (.idx (.loc 1) (.cst (.int 0))) (.cst (.int 4))) (.cst (.int 0))) (.not (.call "_law_is_prime" [.loc 2]))) [.asg 2 (.bin .add (.loc 2) (.cst (.int 1)))],
 .asg 3 (.tup [.loc 2,.cst (.str "prime"),.tup [.bin .add (.cst (.int 1)) (.bin .mod (.idx (.loc 1) (.cst (.int 11))) (.loc 2)),.call "_law_factors" [.bin .sub (.loc 2) (.cst (.int 1))]]]),
 .ite (.cmp .eq (.bin .mod (.idx (.loc 1) (.cst (.int 0))) (.cst (.int 8))) (.cst (.int 3))) [.asg 3 (.call "_law_big_row" [.bin .fdiv (.idx (.loc 1) (.cst (.int 0))) (.cst (.int 8))])] [.ite (.and2 (.cmp .gt (.bin .mod (.idx (.loc 1) (.cst (.int 11))) (.cst (.int 3))) (.cst (.int 0))) (.call "_law_is_prime" [.loc 2])) [.asg 3 (.call "_law_prime_row" [.loc 2,.idx (.loc 1) (.cst (.int 11))])] []],
 .asg 2 (.idx (.loc 3) (.cst (.int 0))),
 .asg 4 (.idx (.idx (.loc 3) (.cst (.int 2))) (.cst (.int 0))),
 .asg 5 (.call "_law_slips" [.loc 1,.idx (.idx (.loc 3) (.cst (.int 2))) (.cst (.int 1))]),
 .ite (.cmp .eq (.bin .mod (.idx (.loc 1) (.cst (.int 12))) (.cst (.int 8))) (.cst (.int 1))) [.asg 6 (.lst [.cst (.int 2),.cst (.int 2),.cst (.int 1),.bin .add (.bin .pow (.cst (.int 10)) (.cst (.int 30))) (.cst (.int 1)),.cst (.bool true),.cst .none,.cst (.str "3"),.cst (.int 0),.cst (.int 2)]),
  .asg 2 (.idx (.loc 6) (.bin .mod (.bin .fdiv (.idx (.loc 1) (.cst (.int 12))) (.cst (.int 8))) (.cst (.int 9))))] [],
 .ite (.cmp .eq (.bin .mod (.idx (.loc 1) (.cst (.int 12))) (.cst (.int 8))) (.cst (.int 2))) [.asg 4 (.idx (.lst [.cst (.int 0),.bin .add (.bin .pow (.cst (.int 10)) (.cst (.int 30))) (.cst (.int 1)),.cst (.bool true),.cst .none,.bin .sub (.cst (.int 0)) (.cst (.int 3))]) (.bin .mod (.bin .fdiv (.idx (.loc 1) (.cst (.int 12))) (.cst (.int 8))) (.cst (.int 5))))] [],
 .asg 7 (.call "_law_due" [.loc 2,.loc 4,.loc 5]),
 .asg 8 (.bi .list [.loc 5]),
 .asg 9 (.call "_law_told" [.loc 2,.loc 4,.loc 8]),
 .ite (.or2 (.cmp .ne (.loc 9) (.loc 7)) (.cmp .ne (.loc 8) (.loc 5))) [.ret (.cst (.bool false))] [],
 .ite (.cmp .ne (.call "_law_told" [.loc 2,.loc 4,.rev (.loc 8)]) (.call "_law_due" [.loc 2,.loc 4,.rev (.loc 5)])) [.ret (.cst (.bool false))] [],
 .ret (.cmp .eq (.call "_law_told" [.loc 2,.loc 4,.loc 5]) (.loc 7))]⟩
end
section
open PySem
theorem qam {loc:Loc}{Q:PQ}{ss:List MS}(k:Nat){s:MS}(hs:ss[k]?=some s) (h:∀ R:PF,(∀ v loc H,Q v H->R (.ret v) loc H)->(∀ loc H,wpSs Φ (ss.drop (k+1)) loc H (qa8 Q)->R .next loc H)->wpS Φ s loc H R):wpSs Φ (ss.drop k) loc H (qa8 Q):=by
 obtain ⟨hlt,e⟩:=yl hs
 rw [List.drop_eq_getElem_cons hlt,e,ss_cons]
 exact h _ (fun _ _ _ q=>q) (fun _ _ q=>q)
theorem qmo {o o':AObj}:(H++[o]).set H.length o'=H++[o']:=by
 rw [List.set_append_right _ _ (Nat.le_refl _)];simp
theorem qbh {α:Type}{loc:Loc}{Q:PQ}{t:Bool}{elt:ME}{Cnd:Hp->Prop}(g v:α->AV) (xs:List α) (hs:xs.length<=sizeLine) (hc:∀ H',H<+:H'->Cnd H')
  (turn:∀ H',H<+:H'->∀ x∈xs,∃ ws,qcr t n (g x)=some ws/\∀ Q:PQ,(∀ H2,H'<+:H2->Q (v x) H2)->wpE Φ elt (loc++ws.map some) H' Q)
  (q:∀ H',H<+:H'->Q (.ref H'.length) (H'++[.list (xs.map v)])):qgp Φ t n elt [] loc Q (xs.map g) Cnd H:=by
 refine ⟨by rw [ya];exact hs,fun i l H'=>H<+:H'/\l=(xs.take i).map v,⟨List.prefix_rfl,by simp⟩,?_⟩
 rintro i l H' ⟨hp,rfl⟩
 refine ⟨hc H' hp,fun y hy=>?_,fun e=>by rw [e,ya,List.take_length];exact q H' hp⟩
 rw [List.getElem?_map] at hy
 obtain ⟨x,hx,rfl⟩:=yf hy
 obtain ⟨ws,hu,h2⟩:=turn H' hp x (yc hx)
 refine ⟨ws,hu,?_⟩
 rw [cs_nil]
 show wpE Φ elt (loc++ws.map some) H' _
 refine h2 _ fun H2 p2=>⟨hp.trans p2,?_⟩
 rw [List.take_add_one,hx];simp
abbrev Row:=Int×Fc
noncomputable def slA (s:List Row):AV:=.tup (s.map roP)
noncomputable def byR (l:List Row):List (Int×AV):=l.map fun r=>(r.1,roP r)
noncomputable def insR (acc:List Row) (r:Row):List Row:=if (dget (byR acc) r.1).isSome then acc else acc++[r]
noncomputable def qan (l:List Row):List Row:=l.foldl insR []
theorem qkx (l:List Row):(byR l).map (·.1)=l.map (·.1):=by simp [byR,Function.comp_def]
theorem qjv (l:List Row) (r:Row):byR l++[(r.1,roP r)]=byR (l++[r]):=by simp [byR]
theorem qfz {l:List Row}{k:Int}:(dget (byR l) k).isSome=true↔k∈l.map (·.1):=by
 rw [←qkx,Option.isSome_iff_exists]
 constructor
 ·rintro ⟨v,hv⟩;exact yn ⟨_,qbv hv,rfl⟩
 ·intro h
  obtain ⟨e,he,rfl⟩:=yh h
  exact qfi he
theorem qqt {acc:List Row}{r x:Row}(h:x∈insR acc r):x∈acc\/x=r:=by
 unfold insR at h
 split at h
 ·exact .inl h
 ·rcases yd h with z|z
  ·exact .inl z
  ·exact .inr (yb z)
theorem qt9 {acc:List Row}{r:Row}(h:(acc.map (·.1)).Nodup):((insR acc r).map (·.1)).Nodup:=by
 unfold insR
 split
 ·exact h
 ·rename_i hn
  rw [List.map_append,List.nodup_append]
  refine ⟨h,by simp,fun a ha b hb e=>?_⟩
  have:b=r.1:=by simpa using hb
  subst this;subst e
  exact hn (qfz.mpr ha)
theorem qqv {acc:List Row}{r:Row}{k:Int}:k∈(insR acc r).map (·.1)↔k∈acc.map (·.1)\/k=r.1:=by
 unfold insR
 split
 ·rename_i hs
  constructor
  ·exact .inl
  ·rintro (z|rfl)
   ·exact z
   ·exact qfz.mp hs
 ·rw [List.map_append,List.mem_append];simp
theorem qqu {acc:List Row}{r:Row}:(insR acc r).length<=acc.length+1:=by
 unfold insR;split
 ·exact z279
 ·simp
theorem qhm:∀ {l acc:List Row}{x:Row},x∈l.foldl insR acc->x∈acc\/x∈l
 | [],acc,x,h=>.inl h
 | r::l,acc,x,h=>by
  rcases qhm (l:=l) h with z|z
  ·rcases qqt z with y|y
   ·exact .inl y
   ·exact .inr (by rw [y];exact List.mem_cons_self ..)
  ·exact .inr (yi _ z)
theorem qn4:∀ {l acc:List Row},(acc.map (·.1)).Nodup->((l.foldl insR acc).map (·.1)).Nodup
 | [],acc,h=>h
 | r::l,acc,h=>qn4 (l:=l) (qt9 h)
theorem qhn:∀ {l acc:List Row}{k:Int},k∈(l.foldl insR acc).map (·.1)↔k∈acc.map (·.1)\/k∈l.map (·.1)
 | [],acc,k=>by simp
 | r::l,acc,k=>by
  rw [List.foldl_cons,qhn,qqv,List.map_cons,List.mem_cons,or_assoc]
theorem qd7:∀ {l acc:List Row},(l.foldl insR acc).length<=acc.length+l.length
 | [],acc=>by simp
 | r::l,acc=>by
  have h1:=qd7 (l:=l) (acc:=insR acc r)
  have h2:=qqu (acc:=acc) (r:=r)
  simp only [List.foldl_cons,List.length_cons];exact z280 h1 h2
theorem qc9 (l:List Row):(qan l).length<=l.length:=by
 have:=qd7 (l:=l) (acc:=[]);rwa [List.length_nil,Nat.zero_add] at this
theorem qh3 (ss:List (List Row)) (t:Nat):(ss.take t).flatten.length<=ss.flatten.length:=by
 have e:ss.flatten=(ss.take t).flatten++(ss.drop t).flatten:=by rw [←List.flatten_append,List.take_append_drop]
 rw [e,List.length_append];exact z281
def qe3 (ss:List (List Row)) (rs:List Row):Prop:=rs.Perm (qan ss.flatten)/\(rs.map (·.1)).Pairwise (·<·)
noncomputable def qcs (F:List Row) (k:Int):Row:=(F.find? fun r=>r.1=k).getD (0,.first)
theorem qb9 {F:List Row}{r:Row}(nd:(F.map (·.1)).Nodup) (h:r∈F):qcs F r.1=r:=by
 induction F with
 | nil=>cases h
 | cons x F ih =>
  rw [List.map_cons,List.nodup_cons] at nd
  unfold qcs
  rcases yg h with rfl|h
  ·simp
  ·have:¬ x.1=r.1:=fun e=>nd.1 (by rw [e];exact yn ⟨r,h,rfl⟩)
   rw [List.find?_cons_of_neg (by simpa using this)]
   exact ih nd.2 h
theorem qcv {F:List Row}{k:Int}(nd:(F.map (·.1)).Nodup) (h:k∈F.map (·.1)):dget (byR F) k=some (roP (qcs F k))/\(qcs F k).1=k:=by
 obtain ⟨v,hv⟩:=Option.isSome_iff_exists.mp (qfz.mpr h)
 obtain ⟨r,hr,e⟩:=yh (qbv hv)
 have e1:r.1=k:=congrArg Prod.fst e
 have e2:roP r=v:=congrArg Prod.snd e
 subst e1
 rw [qb9 nd hr,hv,e2];exact ⟨rfl,rfl⟩
theorem qd2 {F G:List Row}(nd:(F.map (·.1)).Nodup) (h:∀ r∈G,r∈F):(G.map (·.1)).map (qcs F)=G:=by
 rw [List.map_map]
 have:G.map (qcs F∘fun r=>r.1)=G.map id:=List.map_congr_left fun r hr=>qb9 nd (h r hr)
 rw [this,List.map_id]
theorem qwp {F:List Row}{ms:List Int}(nd:(F.map (·.1)).Nodup) (hp:ms.Perm (F.map (·.1))) (hs:ms.Pairwise (·<=·)):(ms.map (qcs F)).Perm F/\((ms.map (qcs F)).map (·.1)).Pairwise (·<·):=by
 have e:(ms.map (qcs F)).map (·.1)=ms:=by
  rw [List.map_map]
  have:ms.map ((fun r=>r.1)∘qcs F)=ms.map id:=List.map_congr_left fun k hk=>(qcv nd (hp.mem_iff.mp hk)).2
  rw [this,List.map_id]
 refine ⟨?_,?_⟩
 ·have:=hp.map (qcs F)
  rwa [qd2 nd fun r h=>h] at this
 ·rw [e];exact qgw hs (hp.nodup_iff.mpr nd)
theorem qkk {a b:List Int}(ha:a.Pairwise (·<·)) (hb:b.Pairwise (·<·)) (h:∀ q,q∈a↔q∈b):a=b:=by
 induction a generalizing b with
 | nil =>
  cases b with
  | nil=>rfl
  | cons y b=>have:=(h y).mpr (by simp);cases this
 | cons x a ih =>
  cases b with
  | nil=>have:=(h x).mp (by simp);cases this
  | cons y b =>
   rw [List.pairwise_cons] at ha hb
   have exy:x=y:=by
    rcases yg ((h x).mp (by simp)) with z|z
    ·exact z
    ·rcases yg ((h y).mpr (by simp)) with u|u
     ·exact u.symm
     ·exact absurd (hb.1 x z) (Int.lt_asymm (ha.1 y u))
   subst exy
   rw [ih ha.2 hb.2 fun q=>?_]
   constructor
   ·intro z
    rcases yg ((h q).mp (yi _ z)) with u|u
    ·exact absurd (ha.1 q z) (by rw [u];exact Int.lt_irrefl _)
    ·exact u
   ·intro z
    rcases yg ((h q).mpr (yi _ z)) with u|u
    ·exact absurd (hb.1 q z) (by rw [u];exact Int.lt_irrefl _)
    ·exact u
theorem qcg (l:List Row):((qan l).map (·.1)).Nodup:=qn4 (by simp)
theorem qe3.uniq {ss:List (List Row)}{a b:List Row}(ha:qe3 ss a) (hb:qe3 ss b):a=b:=by
 have e:a.map (·.1)=b.map (·.1):=qkk ha.2 hb.2 fun q=>by rw [(ha.1.map (·.1)).mem_iff,(hb.1.map (·.1)).mem_iff]
 rw [←qd2 (qcg ss.flatten) fun r hr=>ha.1.mem_iff.mp hr,←qd2 (qcg ss.flatten) fun r hr=>hb.1.mem_iff.mp hr,e]
theorem qe3.mem {ss:List (List Row)}{rs:List Row}(h:qe3 ss rs){r:Row}(hr:r∈rs):∃ s∈ss,r∈s:=by
 rcases qhm (h.1.mem_iff.mp hr) with z|z
 ·cases z
 ·exact List.mem_flatten.mp z
theorem qe3.key {ss:List (List Row)}{rs:List Row}(h:qe3 ss rs){s:List Row}{r:Row}(hs:s∈ss) (hr:r∈s):∃ u∈rs,u.1=r.1:=by
 have:r.1∈(qan ss.flatten).map (·.1):=qhn.mpr (.inr (yn ⟨r,List.mem_flatten.mpr ⟨s,hs,hr⟩,rfl⟩))
 rw [←(h.1.map (·.1)).mem_iff] at this
 obtain ⟨u,hu,e⟩:=yh this
 exact ⟨u,hu,e⟩
theorem qe3.len {ss:List (List Row)}{rs:List Row}(h:qe3 ss rs):rs.length<=ss.flatten.length:=by
 rw [h.1.length_eq];exact qc9 _
theorem qb2 {r:Row}{Q:PQ}(q:Q (.int r.1) H):qbm (roP r) (.int 0) H Q:=qj6 q
def SByR (Φ:Fun):Prop:=∀ (i:Nat) (l:List Row) (H:Hp) (Q:PQ),H[i]?=some (.list (l.map roP))->l.length<=1000->Q (.ref H.length) (H++[.dict (byR (qan l))])->Φ "by_numbers" [.ref i] H Q
theorem by_numbers {Φ:Fun}{i:Nat}{l:List Row}{H:Hp}{Q:PQ}(hi:H[i]?=some (.list (l.map roP))) (hl:l.length<=1000) (h:Q (.ref H.length) (H++[.dict (byR (qan l))])):wpF Φ qbl [.ref i] H Q:=by
 ((refine ⟨rfl,?_⟩;simp only [lst,Nat.reduceSub,Nat.sub_self,List.replicate]))
 show wpSs Φ (qbl.body.drop 0) [some (.ref i),none,none] H (qa8 Q)
 refine qam 0 rfl fun R rr rn=>?_
 walk_at "wp"
 refine rn _ _ (qam 1 rfl fun R rr rn=>?_)
 walk_at "wp"
 rw [qca (qac qaa hi)]
 refine qao (fun t loc H'=>∃ (o:Option AV),H'=H++[.dict (byR ((l.take t).foldl insR []))]/\loc=[some (.ref i),some (.ref H.length),o]) ⟨none,rfl,rfl⟩ ?_
 rintro t loc H' ⟨o,rfl,rfl⟩
 refine ⟨qac qaa hi,fun y hy=>?_,fun ht=>?_⟩
 ·rw [List.getElem?_map] at hy
  obtain ⟨r,hr,rfl⟩:=yf hy
  have et:(l.take (t+1)).foldl insR []=insR ((l.take t).foldl insR []) r:=by
   rw [List.take_add_one,hr,List.foldl_append];rfl
  have fl:=qd7 (l:=l.take t) (acc:=[])
  have tl:(l.take t).length<=l.length:=List.length_take_le' _ _
  refine ⟨[roP r],rfl,?_⟩
  walk_at "wp"
  refine qb2 ?_
  walk_at "wp"
  refine qcc qab ?_
  walk_at "wp"
  generalize hD:(l.take t).foldl insR []=D at fl et
  refine qa5 (K:=fun b=>qb5 Φ _ _ _ _ _ (!b)) (fun hb=>?_) (fun hb=>?_)
  ·simp only [Bool.not_true]
   walk_at "wp"
   exact qaj ⟨_,by rw [et,insR,if_pos hb],rfl⟩
  ·simp only [Bool.not_false]
   walk_at "wp"
   refine qb2 ?_
   walk_at "wp"
   have hn:dget (byR D) r.1=none:=by simpa using hb
   refine qem qab (by simp [byR];simp at fl;(first|lia|omega)) ?_
   rw [qmo,qeb hn,qjv]
   walk_at "wp"
   exact qaj ⟨_,by rw [et,insR,if_neg (by rw [hb];decide)],rfl⟩
 ·have:l.take t=l:=List.take_of_length_le (by rw [ht];simp)
  rw [this]
  refine rn _ _ (qam 2 rfl fun R rr rn=>?_)
  walk_at "wp"
  exact rr _ _ _ h
def SByT (Φ:Fun):Prop:=∀ (l:List Row) (H:Hp) (Q:PQ),l.length<=1000->Q (.ref H.length) (H++[.dict (byR (qan l))])->Φ "by_numbers" [.tup (l.map roP)] H Q
theorem qju {l:List Row}{Q:PQ}(hl:l.length<=1000) (h:Q (.ref H.length) (H++[.dict (byR (qan l))])):wpF Φ qbl [.tup (l.map roP)] H Q:=by
 ((refine ⟨rfl,?_⟩;simp only [lst,Nat.reduceSub,Nat.sub_self,List.replicate]))
 show wpSs Φ (qbl.body.drop 0) [some (.tup (l.map roP)),none,none] H (qa8 Q)
 refine qam 0 rfl fun R rr rn=>?_
 walk_at "wp"
 refine rn _ _ (qam 1 rfl fun R rr rn=>?_)
 walk_at "wp"
 refine qao (fun t loc H'=>∃ (o:Option AV),H'=H++[.dict (byR ((l.take t).foldl insR []))]/\loc=[some (.tup (l.map roP)),some (.ref H.length),o]) ⟨none,rfl,rfl⟩ ?_
 rintro t loc H' ⟨o,rfl,rfl⟩
 refine ⟨trivial,fun y hy=>?_,fun ht=>?_⟩
 ·rw [List.getElem?_map] at hy
  obtain ⟨r,hr,rfl⟩:=yf hy
  have et:(l.take (t+1)).foldl insR []=insR ((l.take t).foldl insR []) r:=by
   rw [List.take_add_one,hr,List.foldl_append];rfl
  have fl:=qd7 (l:=l.take t) (acc:=[])
  have tl:(l.take t).length<=l.length:=List.length_take_le' _ _
  refine ⟨[roP r],rfl,?_⟩
  walk_at "wp"
  refine qb2 ?_
  walk_at "wp"
  refine qcc qab ?_
  walk_at "wp"
  generalize hD:(l.take t).foldl insR []=D at fl et
  refine qa5 (K:=fun b=>qb5 Φ _ _ _ _ _ (!b)) (fun hb=>?_) (fun hb=>?_)
  ·simp only [Bool.not_true]
   walk_at "wp"
   exact qaj ⟨_,by rw [et,insR,if_pos hb],rfl⟩
  ·simp only [Bool.not_false]
   walk_at "wp"
   refine qb2 ?_
   walk_at "wp"
   have hn:dget (byR D) r.1=none:=by simpa using hb
   refine qem qab (by simp [byR];simp at fl;(first|lia|omega)) ?_
   rw [qmo,qeb hn,qjv]
   walk_at "wp"
   exact qaj ⟨_,by rw [et,insR,if_neg (by rw [hb];decide)],rfl⟩
 ·have:l.take t=l:=List.take_of_length_le (by rw [ht];simp)
  rw [this]
  refine rn _ _ (qam 2 rfl fun R rr rn=>?_)
  walk_at "wp"
  exact rr _ _ _ h
end
section
open PySem
theorem qi9 {Q:PQ}{ns:List Int}(h:H[i]?=some (.list (ns.map .int))) (hn:ns.length<64) (q:∀ ms:List Int,ms.Perm ns->ms.Pairwise (·<=·)->Q (.ref H.length) (H++[.list (ms.map .int)])):wpBi .sorted [.ref i] H Q :=
 ⟨ns,.inl (by simp [seqL,h]),hn,q⟩
theorem qnm {Q:PQ}{l:List (Int×AV)}(h:H[i]?=some (.dict l)) (hn:l.length<=1000) (q:Q (.ref H.length) (H++[.list ((l.map (·.1)).map .int)])):wpBi .list [.ref i] H Q:=by
 have:qba (lstL H (.ref i)) fun l=>l.length<=sizeLine/\Q (.ref H.length) (H++[.list l]):=by
  simp only [lstL,h,qba]
  exact ⟨szL (by simp;exact z282 hn),q⟩
 exact this
theorem qld {loc:Loc}{Q:PQ}{F:List Row}{ms:List Int}{elt:ME}(hj:H[j]?=some (.dict (byR F))) (nd:(F.map (·.1)).Nodup) (hp:ms.Perm (F.map (·.1))) (hn:F.length<=1000) (hk:H[k]?=some (.list (ms.map .int)))
  (he:∀ (H':Hp) (x:Int) (Q:PQ),qbm (.ref j) (.int x) H' Q->wpE Φ elt (loc++[some (.int x)]) H' Q)
  (q:∀ H',H<+:H'->Q (.ref H'.length) (H'++[.list ((ms.map (qcs F)).map roP)])):qgp Φ false 1 elt [] loc Q (ms.map .int) (fun H'=>H'[k]?=some (.list (ms.map .int))) H:=by
 have ml:ms.length<=1000:=by rw [hp.length_eq,ya];exact hn
 refine qbh AV.int (fun x=>roP (qcs F x)) ms (szL ml) (fun H' p=>qac p hk) (fun H' p x hx=>?_) fun H' p=>?_
 ·refine ⟨[.int x],rfl,fun Q' q'=>he H' x Q' ?_⟩
  rw [qgy (qac p hj)]
  exact ⟨_,(qcv nd (hp.mem_iff.mp hx)).1,q' H' List.prefix_rfl⟩
 ·have:=q H' p
  rw [List.map_map] at this
  exact this
abbrev SsB (ss:List (List Row)):Prop:=ss.flatten.length<=60
theorem quj {ss:List (List Row)}{s:List Row}(h:s∈ss):s.length<=ss.flatten.length:=by
 induction ss with
 | nil=>cases h
 | cons x ss ih =>
  rw [List.flatten_cons,List.length_append]
  rcases yg h with rfl|h
  ·exact z281
  ·have:=ih h;exact Nat.le_add_left_of_le this
def SMer (Φ:Fun):Prop:=∀ (i:Nat) (ss:List (List Row)) (H:Hp) (Q:PQ),H[i]?=some (.list (ss.map slA))->SsB ss->(∀ H' rs,H<+:H'->qe3 ss rs->Q (slA rs) H')->Φ "merged" [.ref i] H Q
theorem merged (cb:SByR Φ){ss:List (List Row)}{Q:PQ}(hi:H[i]?=some (.list (ss.map slA))) (ok:SsB ss) (h:∀ H' rs,H<+:H'->qe3 ss rs->Q (slA rs) H'):wpF Φ qhf [.ref i] H Q:=by
 have tot:=ok
 ((refine ⟨rfl,?_⟩;simp only [lst,Nat.reduceSub,Nat.sub_self,List.replicate]))
 show wpSs Φ (qhf.body.drop 0) [some (.ref i),none,none,none] H (qa8 Q)
 refine qam 0 rfl fun R rr rn=>?_
 walk_at "go"
 refine rn _ _ (qam 1 rfl fun R rr rn=>?_)
 walk_at "wp"
 rw [qca (qac qaa hi)]
 refine qao (fun t loc H'=>∃ (j:Nat) (o:Option AV),H<+:H'/\H'[j]?=some (.list ((ss.take t).flatten.map roP))/\loc=[some (.ref i),some (.ref j),o,none]) ⟨_,none,qaa,qab,rfl⟩ ?_
 rintro t loc H' ⟨j,o,p,hj,rfl⟩
 have tl:(ss.take t).flatten.length<=ss.flatten.length:=qh3 ss t
 refine ⟨qac p hi,fun y hy=>?_,fun ht=>?_⟩
 ·rw [List.getElem?_map] at hy
  obtain ⟨s,hs,rfl⟩:=yf hy
  have sl:=quj (yc hs)
  refine ⟨[slA s],rfl,?_⟩
  unfold slA
  walk_at "wp"
  refine ⟨szL (by rw [ya];(first|lia|omega)),?_⟩
  refine qc2 (qac qaa hj) qab (by rw [ya,ya];(first|lia|omega)) ?_
  walk_at "wp"
  refine qaj ⟨_,_,p.trans (qaa.trans qaa),?_,rfl⟩
  rw [qab,List.take_add_one,hs,List.flatten_append]
  simp
 ·have:ss.take t=ss:=List.take_of_length_le (by rw [ht];simp)
  rw [this] at hj
  refine rn _ _ (qam 2 rfl fun R rr rn=>?_)
  walk_at "wp"
  refine cb j ss.flatten H' _ hj (by (first|lia|omega)) ?_
  walk_at "wp"
  refine rn _ _ (qam 3 rfl fun R rr rn=>?_)
  have fl:=qc9 ss.flatten
  have bl:(byR (qan ss.flatten)).length<=60:=by
   simp only [byR,ya];(first|lia|omega)
  walk_at "wp"
  refine qnm qab (by exact z283 bl) ?_
  walk_at "wp"
  refine qi9 qab (by simp;exact z284 bl) fun ms hp hs=>?_
  rw [qkx] at hp
  walk_at "wp"
  rw [qca qab]
  have nd:=qcg ss.flatten
  refine qld (F:=qan ss.flatten) (qac (qaa.trans qaa) qab) nd hp (by (first|lia|omega)) qab (fun H2 x Q' q=>by walk_at "wp";exact q) fun H2 p2=>?_
  walk_at "wp"
  have ml:ms.length<=1000:=by rw [hp.length_eq,ya];(first|lia|omega)
  refine qe6 qab (by simp;exact z282 ml) ?_
  walk_at "wp"
  exact rr _ _ _ (h _ _ (p.trans (qaa.trans (qaa.trans (qaa.trans (p2.trans qaa))))) (qwp nd hp hs))
def qpc (Φ:Fun):Prop:=∀ (i:Nat) (ss:List (List Row)) (H:Hp) (Q:PQ),H[i]?=some (.list (ss.map slA))->SsB ss->Q (.ref H.length) (H++[.dict (byR (qan ss.flatten))])->Φ "_law_laid" [.ref i] H Q
theorem laid {ss:List (List Row)}{Q:PQ}(hi:H[i]?=some (.list (ss.map slA))) (ok:SsB ss) (h:Q (.ref H.length) (H++[.dict (byR (qan ss.flatten))])):wpF Φ qes [.ref i] H Q:=by
 have tot:=ok
 ((refine ⟨rfl,?_⟩;simp only [lst,Nat.reduceSub,Nat.sub_self,List.replicate]))
 show wpSs Φ (qes.body.drop 0) [some (.ref i),none,none,none] H (qa8 Q)
 refine qam 0 rfl fun R rr rn=>?_
 walk_at "wp"
 refine rn _ _ (qam 1 rfl fun R rr rn=>?_)
 walk_at "wp"
 rw [qca (qac qaa hi)]
 refine qao (fun t loc H'=>∃ (o2 o3:Option AV),H'=H++[.dict (byR (qan (ss.take t).flatten))]/\loc=[some (.ref i),some (.ref H.length),o2,o3]) ⟨none,none,rfl,rfl⟩ ?_
 rintro t loc H' ⟨o2,o3,rfl,rfl⟩
 refine ⟨qac qaa hi,fun y hy=>?_,fun ht=>?_⟩
 ·rw [List.getElem?_map] at hy
  obtain ⟨s,hs,rfl⟩:=yf hy
  have tl:(ss.take (t+1)).flatten.length<=ss.flatten.length:=qh3 ss (t+1)
  have ef:(ss.take (t+1)).flatten=(ss.take t).flatten++s:=by
   rw [List.take_add_one,hs,List.flatten_append];simp
  rw [ef,List.length_append] at tl
  refine ⟨[slA s],rfl,?_⟩
  unfold slA
  walk_at "wp"
  refine qao (fun u loc H'=>∃ (o3:Option AV),H'=H++[.dict (byR ((s.take u).foldl insR (qan (ss.take t).flatten)))]/\loc=[some (.ref i),some (.ref H.length),some (.tup (s.map roP)),o3]) ⟨o3,rfl,rfl⟩ ?_
  rintro u loc H' ⟨o3,rfl,rfl⟩
  refine ⟨trivial,fun y hy=>?_,fun hu=>?_⟩
  ·rw [List.getElem?_map] at hy
   obtain ⟨r,hr,rfl⟩:=yf hy
   have et:(s.take (u+1)).foldl insR (qan (ss.take t).flatten)=insR ((s.take u).foldl insR (qan (ss.take t).flatten)) r:=by
    rw [List.take_add_one,hr,List.foldl_append];rfl
   have fl:=qd7 (l:=s.take u) (acc:=qan (ss.take t).flatten)
   have fl2:=qc9 (ss.take t).flatten
   have ul:(s.take u).length<=s.length:=List.length_take_le' _ _
   refine ⟨[roP r],rfl,?_⟩
   walk_at "wp"
   refine qb2 ?_
   walk_at "wp"
   refine qcc qab ?_
   walk_at "wp"
   have dl:((s.take u).foldl insR (qan (ss.take t).flatten)).length<=1000:=by
    (first|lia|omega)
   generalize hD:(s.take u).foldl insR (qan (ss.take t).flatten)=D at dl et
   refine qa5 (K:=fun b=>qb5 Φ _ _ _ _ _ (!b)) (fun hb=>?_) (fun hb=>?_)
   ·simp only [Bool.not_true]
    walk_at "wp"
    exact qaj ⟨_,by rw [et,insR,if_pos hb],rfl⟩
   ·simp only [Bool.not_false]
    walk_at "wp"
    refine qb2 ?_
    walk_at "wp"
    have hn:dget (byR D) r.1=none:=by simpa using hb
    refine qem qab (by simp [byR];(first|lia|omega)) ?_
    rw [qmo,qeb hn,qjv]
    walk_at "wp"
    exact qaj ⟨_,by rw [et,insR,if_neg (by rw [hb];decide)],rfl⟩
  ·have:s.take u=s:=List.take_of_length_le (by rw [hu];simp)
   rw [this]
   walk_at "wp"
   exact qaj ⟨_,_,by rw [ef,qan,qan,List.foldl_append],rfl⟩
 ·have:ss.take t=ss:=List.take_of_length_le (by rw [ht];simp)
  rw [this]
  refine rn _ _ (qam 2 rfl fun R rr rn=>?_)
  walk_at "wp"
  exact rr _ _ _ h
def IsTm (d n t:Nat):Prop:=∃ m,n=d^t*m/\¬ d∣m
theorem IsTm.uniq {t u:Nat}(hd:2<=d) (a:IsTm d n t) (b:IsTm d n u):t=u:=by
 obtain ⟨x,ea,na⟩:=a
 obtain ⟨y,eb,nb⟩:=b
 have key:∀ {t u x y:Nat},d^t*x=d^u*y->t<u->d∣x:=fun {t u x y} e lt=>by
  have e2:d^u=d^t*(d*d^(u-t-1)):=by
   rw [←Nat.pow_add_one',←Nat.pow_add];congr 1;exact z285 lt
  rw [e2,Nat.mul_assoc] at e
  have:=Nat.eq_of_mul_eq_mul_left (Nat.pow_pos (by exact Nat.zero_lt_of_lt hd)) e
  exact ⟨d^(u-t-1)*y,by rw [this,Nat.mul_assoc]⟩
 rcases Nat.lt_trichotomy t u with z|z|z
 ·exact absurd (key (ea.symm.trans eb) z) na
 ·exact z
 ·exact absurd (key (eb.symm.trans ea) z) nb
open Classical in
noncomputable def vl (d n:Nat):Nat:=if h:∃ t,IsTm d n t then h.choose else 0
theorem qs0 {t:Nat}(hd:2<=d) (h:IsTm d n t):vl d n=t:=by
 have e:∃ t,IsTm d n t:=⟨t,h⟩
 unfold vl;rw [dif_pos e];exact IsTm.uniq hd e.choose_spec h
theorem IsTm.ex {d:Nat}(hd:2<=d):∀ (f n:Nat),n<=f->1<=n->∃ t,IsTm d n t
 | 0,n,h,h1=>by (first|lia|omega)
 | f+1,n,h,h1=>by
  by_cases z:d∣n
  ·obtain ⟨k,rfl⟩:=z
   have k1:1<=k:=Nat.pos_of_ne_zero fun e=>by rw [e] at h1;exact Nat.not_succ_le_zero 0 h1
   have:2*k<=d*k:=Nat.mul_le_mul_right k hd
   obtain ⟨t,m,e,nm⟩:=IsTm.ex hd f k (by exact z286 h this) k1
   exact ⟨t+1,m,by rw [e,Nat.pow_succ',Nat.mul_assoc],nm⟩
  ·exact ⟨0,n,by simp,z⟩
theorem qvx (hd:2<=d) (h:1<=n):IsTm d n (vl d n):=by
 obtain ⟨t,ht⟩:=IsTm.ex hd n n (Nat.le_refl _) h
 rw [qs0 hd ht];exact ht
theorem qr0 (hd:2<=d) (h:1<=n):0<vl d n↔n%d=0:=by
 obtain ⟨m,e,nm⟩:=qvx hd h
 constructor
 ·intro z
  rw [e]
  obtain ⟨k,hk⟩:∃ k,vl d n=k+1:=⟨vl d n-1,by exact (Nat.sub_eq_iff_eq_add z).mp rfl⟩
  rw [hk,Nat.pow_succ',Nat.mul_assoc];exact Nat.mul_mod_right _ _
 ·intro z
  rcases Nat.eq_zero_or_pos (vl d n) with y|y
  ·rw [y] at e;simp at e
   exact absurd (e▸Nat.dvd_of_mod_eq_zero z) nm
  ·exact y
theorem qyf (hd:2<=d) (h:1<=n) (hn:n<2^100):vl d n<=100:=by
 obtain ⟨m,e,nm⟩:=qvx hd h
 rcases Nat.lt_or_ge 100 (vl d n) with z|z
 ·have m1:1<=m:=Nat.pos_of_ne_zero fun y=>by rw [y] at e;exact z287 h e
  have h1:2^100<=2^vl d n:=Nat.pow_le_pow_right (by decide) (by exact Nat.le_of_add_left_le z)
  have h2:2^vl d n<=d^vl d n:=Nat.pow_le_pow_left hd _
  have h3:d^vl d n*1<=d^vl d n*m:=Nat.mul_le_mul_left _ m1
  exact z288 hn e h1 h2 h3
 ·exact z
def qk2 (Φ:Fun):Prop:=∀ (n d:Nat) (H:Hp) (Q:PQ),1<=n->n<=10^30->2<=d->d<=1000000->Q (.int (vl d n)) H->Φ "times_in" [.int n,.int d] H Q
def qhz (Φ:Fun):Prop:=∀ (n d:Nat) (H:Hp) (Q:PQ),1<=n->n<=10^30->2<=d->d<=1000000->Q (.int (vl d n)) H->Φ "_law_times" [.int d,.int n] H Q
theorem times_in {Q:PQ}(n1:1<=n) (hn:n<=10^30) (d2:2<=d) (hd:d<=1000000) (h:Q (.int (vl d n)) H):wpF Φ qeq [.int n,.int d] H Q:=by
 ((refine ⟨rfl,?_⟩;simp only [lst,Nat.reduceSub,Nat.sub_self,List.replicate]))
 simp only [qeq]
 walk_at "wp"
 refine qen (fun k loc H'=>∃ t:Nat,loc=[some (.int (k:Nat)),some (.int d),some (.int t)]/\H'=H/\1<=k/\n=d^t*k/\k<=n) n ⟨0,rfl,rfl,n1,by simp,Nat.le_refl _⟩ ?_
 rintro k loc H' ⟨t,rfl,rfl,k1,e,kn⟩
 walk_at "wp"
 refine ⟨by exact z70 d2,?_⟩
 simp only [qae (show (0:Int)<=d by exact z71)]
 refine qa7 (K:=fun b=>kWhl Φ _ _ _ _ _ (.bool b) _) (fun h0=>?_) (fun h0=>?_)
 ·have hm:k%d=0:=by (first|lia|omega)
  have hk:=Nat.div_add_mod k d
  have kd:1<=k/d:=by
   rcases Nat.eq_zero_or_pos (k/d) with z|z
   ·rw [z] at hk;exact z289 k1 hm hk
   ·exact z
  have lt:k/d<k:=Nat.div_lt_self (by exact Nat.zero_lt_of_lt k1) (by exact Nat.lt_of_succ_le d2)
  walk_at "wp"
  refine ⟨by exact z70 d2,qlk (by exact z290 hd),?_⟩
  simp only [qal (show (0:Int)<=d by exact z71)]
  refine qaq (k/d) lt ⟨t+1,by simp,rfl,kd,?_,by exact z291 kn lt⟩
  rw [e,Nat.pow_succ,Nat.mul_assoc]
  congr 1
  rw [hm] at hk;exact z292 hk
 ·walk_at "wp"
  rw [qs0 d2 ⟨k,e,fun z=>h0 (by have:=Nat.mod_eq_zero_of_dvd z;(first|lia|omega))⟩] at h
  exact h
theorem qme {Q:PQ}(n1:1<=n) (hn:n<=10^30) (d2:2<=d) (hd:d<=1000000) (h:Q (.int (vl d n)) H):wpF Φ qdk [.int d,.int n] H Q:=by
 ((refine ⟨rfl,?_⟩;simp only [lst,Nat.reduceSub,Nat.sub_self,List.replicate]))
 simp only [qdk]
 walk_at "wp"
 refine qen (fun k loc H'=>∃ t:Nat,loc=[some (.int d),some (.int (k:Nat)),some (.int t)]/\H'=H/\1<=k/\n=d^t*k/\k<=n) n ⟨0,rfl,rfl,n1,by simp,Nat.le_refl _⟩ ?_
 rintro k loc H' ⟨t,rfl,rfl,k1,e,kn⟩
 walk_at "wp"
 refine ⟨by exact z70 d2,?_⟩
 simp only [qae (show (0:Int)<=d by exact z71)]
 refine qa7 (K:=fun b=>kWhl Φ _ _ _ _ _ (.bool b) _) (fun h0=>?_) (fun h0=>?_)
 ·have hm:k%d=0:=by (first|lia|omega)
  have hk:=Nat.div_add_mod k d
  have kd:1<=k/d:=by
   rcases Nat.eq_zero_or_pos (k/d) with z|z
   ·rw [z] at hk;exact z289 k1 hm hk
   ·exact z
  have lt:k/d<k:=Nat.div_lt_self (by exact Nat.zero_lt_of_lt k1) (by exact Nat.lt_of_succ_le d2)
  walk_at "wp"
  refine ⟨by exact z70 d2,qlk (by exact z290 hd),?_⟩
  simp only [qal (show (0:Int)<=d by exact z71)]
  refine qaq (k/d) lt ⟨t+1,by simp,rfl,kd,?_,by exact z291 kn lt⟩
  rw [e,Nat.pow_succ,Nat.mul_assoc]
  congr 1
  rw [hm] at hk;exact z292 hk
 ·walk_at "wp"
  rw [qs0 d2 ⟨k,e,fun z=>h0 (by have:=Nat.mod_eq_zero_of_dvd z;(first|lia|omega))⟩] at h
  exact h
end
section
open PySem
structure RR (rs:List Row):Prop where
 len:rs.length<=61
 ok:∀ r∈rs,RoK 1 r.1 r.2
 inc:(rs.map Prod.fst).Pairwise (·<·)
 cl:∀ r∈rs,∀ q∈r.2.needs,∃ s∈rs,s.1=q
theorem qn9 {l:List Row}(h:(l.map Prod.fst).Nodup):qan l=l:=by
 have key:∀ (l acc:List Row),((acc++l).map Prod.fst).Nodup->l.foldl insR acc=acc++l:=by
  intro l
  induction l with
  | nil=>intro acc _;simp
  | cons r l ih =>
   intro acc h
   have hn:¬ (dget (byR acc) r.1).isSome=true:=fun z=>by
    have:=qfz.mp z
    rw [List.map_append,List.nodup_append] at h
    exact h.2.2 r.1 this r.1 (by simp) rfl
   rw [List.foldl_cons,insR,if_neg hn,ih (acc++[r]) (by simpa using h)]
   simp
 exact key l [] (by simpa using h)
theorem RR.nd {rs:List Row}(h:RR rs):(rs.map Prod.fst).Nodup:=h.inc.imp fun {a b} z=>Int.ne_of_lt z
theorem qw1 {K:Bool->Prop}{l:List (Int×AV)}{k:Int}(h:H[i]?=some (.dict l)) (q:K (dget l k).isSome):wpIn (.int k) (.ref i) H K:=by
 simp only [wpIn,h]
 exact ⟨k,rfl,q⟩
theorem qtr {rs:List Row}(h:(rs.map Prod.fst).Pairwise (·<·)):∀ {r s:Row},r∈rs->s∈rs->r.1=s.1->r=s:=by
 induction rs with
 | nil=>intro r s hr;cases hr
 | cons x rs ih =>
  intro r s hr hs e
  rw [List.map_cons,List.pairwise_cons] at h
  rcases yg hr with hr'|hr'
  ·rcases yg hs with hs'|hs'
   ·rw [hr',hs']
   ·have:=h.1 s.1 (yn ⟨s,hs',rfl⟩);rw [hr'] at e;(first|lia|omega)
  ·rcases yg hs with hs'|hs'
   ·have:=h.1 r.1 (yn ⟨r,hr',rfl⟩);rw [hs'] at e;(first|lia|omega)
   ·exact ih h.2 hr' hs' e
theorem qx0 {rs:List Row}(h:(rs.map Prod.fst).Pairwise (·<·)){r:Row}(hr:r∈rs):dget (byR rs) r.1=some (roP r):=by
 have nd:(rs.map (·.1)).Nodup:=h.imp fun {a b} z=>Int.ne_of_lt z
 rw [(qcv nd (yn ⟨r,hr,rfl⟩)).1,qb9 nd hr]
theorem qsl {rs:List Row}{q:Int}:(dget (byR rs) q).isSome=true↔q∈rs.map Prod.fst:=qfz
inductive Rch (rs:List Row):Int->Int->Prop
 | one {r:Row}{q:Int}:r∈rs->q∈r.2.needs->Rch rs r.1 q
 | more {n:Int}{r:Row}{q:Int}:Rch rs n r.1->r∈rs->q∈r.2.needs->Rch rs n q
structure Seek (rs:List Row) (n:Int) (F W:List Int):Prop where
 rch:∀ q∈F,Rch rs n q
 num:∀ q∈F,q∈rs.map Prod.fst
 wait:∀ w∈W,w=n\/w∈F
 done:∀ r∈rs,(r.1=n\/r.1∈F)->r.1∈W\/∀ q∈r.2.needs,q∈F
 nd:F.Nodup
theorem Seek.all {rs:List Row}{n:Int}{F:List Int}(h:Seek rs n F []){q:Int}(r:Rch rs n q):q∈F:=by
 induction r with
 | one hr hq =>
  rcases h.done _ hr (.inl rfl) with z|z
  ·cases z
  ·exact z _ hq
 | more _ hr hq ih =>
  rcases h.done _ hr (.inr (ih h)) with z|z
  ·cases z
  ·exact z _ hq
theorem Seek.same {rs:List Row}{n:Int}{F G:List Int}(h:Seek rs n F []) (g:Seek rs n G []):∀ q,q∈F↔q∈G :=
 fun q=>⟨fun z=>g.all (h.rch q z),fun z=>h.all (g.rch q z)⟩
theorem Seek.start {rs:List Row}{n:Int}:Seek rs n [] [n] :=
 ⟨(fun q z=>by cases z),(fun q z=>by cases z),fun w hw=>.inl (yb hw),fun r hr z=>.inl (z.elim (fun z=>ym z) fun z=>by cases z),List.nodup_nil⟩
theorem qc5:∀ {F L:List Int},F.Nodup->(∀ q∈F,q∈L)->F.length<=L.length
 | [],_,_,_=>Nat.zero_le _
 | x::F,L,nd,h=>by
  rw [List.nodup_cons] at nd
  have hx:=h x (by simp)
  have h1:=qc5 nd.2 (L:=L.erase x) (fun q hq=>(List.mem_erase_of_ne (fun (e:q=x)=>nd.1 (e▸hq))).mpr (h q (yi _ hq)))
  rw [List.length_erase_of_mem hx] at h1
  have:=List.length_pos_of_mem hx
  simp only [List.length_cons];exact Nat.add_le_of_le_sub this h1
theorem Seek.len {rs:List Row}{n:Int}{F W:List Int}(h:Seek rs n F W):F.length<=rs.length:=by
 have:=qc5 h.nd h.num
 rwa [ya] at this
structure SeekIn (rs:List Row) (n:Int) (r:Row) (t:Nat) (F W:List Int):Prop where
 rch:∀ q∈F,Rch rs n q
 num:∀ q∈F,q∈rs.map Prod.fst
 wait:∀ w∈W,w=n\/w∈F
 done:∀ s∈rs,s≠r->(s.1=n\/s.1∈F)->s.1∈W\/∀ q∈s.2.needs,q∈F
 nd:F.Nodup
 part:∀ q∈r.2.needs.take t,q∈F
 here:r∈rs/\(r.1=n\/r.1∈F)
theorem Seek.pop {rs:List Row}(hrs:RR rs){n:Int}{F W:List Int}{w:Int}(h:Seek rs n F (W++[w])) (hn:n∈rs.map Prod.fst):∃ r,r∈rs/\r.1=w/\SeekIn rs n r 0 F W:=by
 have hw:=h.wait w (by simp)
 have:w∈rs.map Prod.fst:=by
  rcases hw with e|e
  ·rw [e];exact hn
  ·exact h.num w e
 obtain ⟨r,hr,rfl⟩:=yh this
 refine ⟨r,hr,rfl,h.rch,h.num,fun w hw=>h.wait w (List.mem_append_left _ hw),fun s hs ne z=>?_,h.nd,fun q hq=>by simp at hq,hr,hw⟩
 rcases h.done s hs z with y|y
 ·rcases yd y with y|y
  ·exact .inl y
  ·exact absurd (qtr hrs.inc hs hr (yb y)) ne
 ·exact .inr y
theorem SeekIn.old {rs:List Row}{n:Int}{r:Row}{t:Nat}{F W:List Int}(h:SeekIn rs n r t F W){q:Int}(hq:r.2.needs[t]?=some q) (hf:q∈F):SeekIn rs n r (t+1) F W :=
 ⟨h.rch,h.num,h.wait,h.done,h.nd,fun x hx=>by
   rw [List.take_add_one,hq] at hx
   rcases yd hx with z|z
   ·exact h.part x z
   ·rw [show x=q by simpa using z];exact hf,h.here⟩
theorem SeekIn.new {rs:List Row}(hrs:RR rs){n:Int}{r:Row}{t:Nat}{F W:List Int}(h:SeekIn rs n r t F W){q:Int}(hq:r.2.needs[t]?=some q) (hf:q∉F):SeekIn rs n r (t+1) (F++[q]) (W++[q]):=by
 have hm:=yc hq
 obtain ⟨s,hs,rfl⟩:=hrs.cl r h.here.1 q hm
 have l:∀ {x},x∈F->x∈F++[s.1]:=fun z=>List.mem_append_left _ z
 refine ⟨fun x hx=>?_,fun x hx=>?_,fun x hx=>?_,fun u hu ne z=>?_,?_,fun x hx=>?_,h.here.1,h.here.2.imp id l⟩
 ·rcases yd hx with z|z
  ·exact h.rch x z
  ·rw [yb z]
   rcases h.here.2 with e|e
   ·rw [←e];exact .one h.here.1 hm
   ·exact .more (h.rch _ e) h.here.1 hm
 ·rcases yd hx with z|z
  ·exact h.num x z
  ·rw [yb z];exact yn ⟨s,hs,rfl⟩
 ·rcases yd hx with z|z
  ·exact (h.wait x z).imp id l
  ·exact .inr (List.mem_append_right _ z)
 ·by_cases e:u.1∈[s.1]
  ·exact .inl (List.mem_append_right _ e)
  ·have z':u.1=n\/u.1∈F:=z.imp id fun y=>(yd y).resolve_right e
   rcases h.done u hu ne z' with y|y
   ·exact .inl (List.mem_append_left _ y)
   ·exact .inr fun q hq=>l (y q hq)
 ·rw [List.nodup_append]
  exact ⟨h.nd,by simp,fun a ha b hb e=>hf (by rw [yb hb] at e;exact e▸ha)⟩
 ·rw [List.take_add_one,hq] at hx
  rcases yd hx with z|z
  ·exact l (h.part x z)
  ·exact List.mem_append_right _ (by simpa using z)
theorem SeekIn.fin {rs:List Row}{n:Int}{r:Row}{t:Nat}{F W:List Int}(h:SeekIn rs n r t F W) (ht:r.2.needs.length<=t):Seek rs n F W :=
 ⟨h.rch,h.num,h.wait,fun s hs z=>by
  by_cases e:s=r
  ·subst e
   right
   have:=h.part
   rw [List.take_of_length_le ht] at this
   exact this
  ·exact h.done s hs e z,h.nd⟩
theorem SeekIn.len {rs:List Row}{n:Int}{r:Row}{t:Nat}{F W:List Int}(h:SeekIn rs n r t F W):F.length<=rs.length:=by
 have:=qc5 h.nd h.num
 rwa [ya] at this
theorem qfj {H:Hp}{i:Nat}{l:List Int}(h:H[i]?=some (.list (l.map .int))):dat H (.ref i)=some (.list (l.map .int)):=by
 show rho H 4 i=_
 have:datRs (rho H 3) (l.map .int)=some (l.map .int):=by
  clear h
  induction l with
  | nil=>rfl
  | cons x r ih=>simp only [List.map_cons,datRs,datR,ih,Option.bind_some,Option.map_some]
 unfold rho
 rw [h]
 simp only [this,Option.map_some]
theorem qho:∀ {a b:List Int},PyData.eqvAll (a.map .int) (b.map .int)=decide (a=b)
 | [],[]=>rfl
 | [],y::b=>rfl
 | x::a,[]=>rfl
 | x::a,y::b=>by
  simp only [List.map_cons,PyData.eqvAll,PyData.eqv,qho]
  rw [Bool.eq_iff_iff];simp
theorem qit {l:List Int}:(PyData.list (l.map .int)).depth<=100:=by
 have:PyData.depthAll (l.map PyData.int)<=1:=by
  induction l with
  | nil=>simp [PyData.depthAll]
  | cons x r ih=>simp only [List.map_cons,PyData.depthAll,PyData.depth];exact String.Pos.Raw.mk_le_mk.mp ih
 simp only [PyData.depth];exact z293 this
theorem qts {Q:PQ}{a b:List Int}(hi:H[i]?=some (.list (a.map .int))) (hj:H[j]?=some (.list (b.map .int))) (q:Q (.bool !decide (a=b)) H):qbk .ne (.ref i) (.ref j) H Q :=
 ⟨_,_,qfj hi,qfj hj,qit,by show Q (.bool !PyData.eqvAll _ _) H;rw [qho];exact q⟩
theorem qu0 {Q:PQ}{a b:List Int}(hi:H[i]?=some (.list (a.map .int))) (hj:H[j]?=some (.list (b.map .int))) (q:Q (.bool (decide (a=b))) H):qbk .eq (.ref i) (.ref j) H Q :=
 ⟨_,_,qfj hi,qfj hj,qit,by show Q (.bool (PyData.eqvAll _ _)) H;rw [qho];exact q⟩
noncomputable def fdD (F:List Int):List (Int×AV):=F.map fun q=>(q,.bool true)
theorem qoa {F:List Int}{q:Int}:(dget (fdD F) q).isSome=F.contains q:=by
 rw [Bool.eq_iff_iff,Option.isSome_iff_exists,←qrc]
 simp [fdD,Function.comp_def]
theorem qul {F:List Int}{q:Int}(h:q∉F):dset (fdD F) q (.bool true)=fdD (F++[q]):=by
 rw [qeb]
 ·simp [fdD]
 ·cases e:dget (fdD F) q with
  | none=>rfl
  | some v =>
   have:=@qoa F q
   rw [e] at this
   exact absurd (by simpa using this.symm) h
theorem qmj (cn:qef "needs" Φ){rs:List Row}{n:Int}{sl:AV}{o5:Option AV}{H0:Hp}{R:PF}{ib fi wi:Nat}{F W:List Int}(hrs:RR rs) (hn:n∈rs.map Prod.fst) (i1:H0.length<=fi) (i2:H0.length<=wi) (ne1:fi≠wi) (ne2:ib≠fi) (ne3:ib≠wi)
  (sk:Seek rs n F W) (hW:W≠[]) (p:H0<+:H) (gb:H[ib]?=some (.dict (byR rs))) (gf:H[fi]?=some (.dict (fdD F))) (gw:H[wi]?=some (.list (W.map .int))) (wl:W.length<=100)
  (h:∀ F' W' o5' H',Seek rs n F' W'->rs.length-F'.length+W'.length<rs.length-F.length+W.length->H0<+:H'->H'[ib]?=some (.dict (byR rs))->H'[fi]?=some (.dict (fdD F'))->H'[wi]?=some (.list (W'.map .int))->R .next [some sl,some (.int n),some (.ref ib),some (.ref fi),some (.ref wi),o5'] H') :
  wpS Φ (.forr false [5] .plain [.call "needs" [.idx (.loc 2) (.meth .pop (.loc 4) [])]] [.ite (.and2 (.cmp .notIn (.loc 5) (.loc 3)) (.cmp .isin (.loc 5) (.loc 2))) [.sto (.loc 3) (.loc 5) (.cst (.bool true)),
    .expr (.meth .append (.loc 4) [.loc 5])] []]) [some sl,some (.int n),some (.ref ib),some (.ref fi),some (.ref wi),o5] H R:=by
 obtain ⟨W',x,rfl⟩:∃ W' x,W=W'++[x]:=⟨W.dropLast,W.getLast hW,(List.dropLast_concat_getLast hW).symm⟩
 obtain ⟨r,hr,rfl,si⟩:=sk.pop hrs hn
 have hl:=hrs.len
 have fl:=sk.len
 have gw':H[wi]?=some (.list (W'.map .int++[.int r.1])):=by rw [gw];simp
 rw [List.length_append,List.length_singleton] at wl
 walk_at "wp"
 refine ⟨qa0 gw',?_⟩
 refine qm9 gw' (by rw [ya];exact z294 wl) ?_
 generalize hH1:H.set wi (.list (W'.map .int))=H1
 have gb1:H1[ib]?=some (.dict (byR rs)):=by rw [←hH1,qaf (Ne.symm ne3)];exact gb
 have gf1:H1[fi]?=some (.dict (fdD F)):=by rw [←hH1,qaf (Ne.symm ne1)];exact gf
 have gw1:H1[wi]?=some (.list (W'.map .int)):=by rw [←hH1];exact qak gw
 have p1:H0<+:H1:=by rw [←hH1];exact qav p i2
 have wlt:wi<H1.length:=(yl gw1).1
 have flt:fi<H1.length:=(yl gf1).1
 walk_at "wp"
 rw [qgy gb1]
 refine ⟨_,qx0 hrs.inc hr,?_⟩
 walk_at "wp"
 refine cn 1 r.1 r.2 H1 _ (hrs.ok r hr) ?_
 walk_at "wp"
 rw [qca qab]
 refine qao (fun t loc H'=>∃ (F' W'':List Int) (o5':Option AV),SeekIn rs n r t F' W''/\F'.length+W'.length=F.length+W''.length/\H0<+:H'/\H'[ib]?=some (.dict (byR rs))/\H'[fi]?=some (.dict (fdD F'))/\H'[wi]?=some (.list (W''.map .int))/\H'[H1.length]?=some (.list (r.2.needs.map .int)) /\
  loc=[some sl,some (.int n),some (.ref ib),some (.ref fi),some (.ref wi),o5']) ⟨F,W',o5,si,rfl,p1.trans qaa,qac qaa gb1,qac qaa gf1,qac qaa gw1,qab,rfl⟩ ?_
 rintro t loc H' ⟨F',W'',o5',s',ec,p',gb',gf',gw',gn',rfl⟩
 have fl':=s'.len
 refine ⟨gn',fun y hy=>?_,fun ht=>?_⟩
 ·rw [List.getElem?_map] at hy
  obtain ⟨q,hq,rfl⟩:=yf hy
  have qn:q∈rs.map Prod.fst:=by
   obtain ⟨s,hs,e⟩:=hrs.cl r hr q (yc hq)
   exact yn ⟨s,hs,e⟩
  refine ⟨[.int q],rfl,?_⟩
  walk_at "wp"
  refine qcc gf' ?_
  rw [qoa]
  walk_at "wp"
  refine qa5 (K:=fun b=>qjq Φ _ _ _ _ (!b)) (fun e=>?_) (fun e=>?_)
  ·simp only [Bool.not_true]
   walk_at "wp"
   exact qaj ⟨F',W'',_,s'.old hq (by simpa using e),ec,p',gb',gf',gw',gn',rfl⟩
  ·simp only [Bool.not_false]
   have hf:q∉F':=by simpa using e
   walk_at "wp"
   refine qw1 (K:=fun b=>kIte Φ _ _ _ _ (.bool b) _) gb' ?_
   rw [qsl.mpr qn]
   walk_at "wp"
   refine qem gf' (by simp [fdD];exact z295 hl fl') ?_
   rw [qul hf]
   have g1:(H'.set fi (.dict (fdD (F'++[q]))))[wi]?=some (.list (W''.map .int)):=by rw [qaf ne1];exact gw'
   walk_at "wp"
   refine ⟨qa0 g1,?_⟩
   refine qf7 g1 (by rw [ya];exact z296 wl hl ec fl') ?_
   walk_at "wp"
   refine qaj ⟨F'++[q],W''++[q],_,s'.new hrs hq hf,by simp;exact z297 ec,qav (qav p' i1) i2,?_,?_,?_,?_,rfl⟩
   ·rw [qaf (Ne.symm ne3),qaf (Ne.symm ne2)];exact gb'
   ·rw [qaf (Ne.symm ne1)];exact qak gf'
   ·rw [qak g1];simp
   ·rw [qaf (by exact Nat.ne_of_lt wlt),qaf (by exact Nat.ne_of_lt flt)];exact gn'
 ·refine h F' W'' _ H' (s'.fin (by rw [ht];simp)) ?_ p' gb' gf' gw'
  simp only [List.length_append,List.length_singleton]
  exact z298 ec fl'
def Und (rs:List Row) (n:Int) (ms:List Int):Prop:=∃ F,Seek rs n F []/\ms.Perm F/\ms.Pairwise (·<=·)
def qo7 (Φ:Fun):Prop:=∀ (rs:List Row) (n:Int) (H:Hp) (Q:PQ),RR rs->n∈rs.map Prod.fst->(∀ ms H' j,Und rs n ms->H<+:H'->H.length<=j->H'[j]?=some (.list (ms.map .int))->Q (.ref j) H')->Φ "stands_on" [.tup (rs.map roP),.int n] H Q
theorem stands_on (cb:SByT Φ) (cn:qef "needs" Φ){rs:List Row}{n:Int}{Q:PQ}(hrs:RR rs) (hn:n∈rs.map Prod.fst) (h:∀ ms H' j,Und rs n ms->H<+:H'->H.length<=j->H'[j]?=some (.list (ms.map .int))->Q (.ref j) H') :
  wpF Φ qdi [.tup (rs.map roP),.int n] H Q:=by
 have hl:=hrs.len
 refine ⟨rfl,?_⟩
 show wpSs Φ (qdi.body.drop 0) [some (.tup (rs.map roP)),some (.int n),none,none,none,none] H (qa8 Q)
 refine qam 0 rfl fun R rr rn=>?_
 walk_at "wp"
 refine cb rs H _ (by exact z299 hl) ?_
 rw [qn9 hrs.nd]
 walk_at "wp"
 refine rn _ _ (qam 1 rfl fun R rr rn=>?_)
 walk_at "wp"
 refine qcc qab ?_
 rw [qsl.mpr hn]
 simp only [Bool.not_true]
 walk_at "wp"
 refine rn _ _ (qam 2 rfl fun R rr rn=>?_)
 walk_at "go"
 refine rn _ _ (qam 3 rfl fun R rr rn=>?_)
 walk_at "go"
 generalize hH1:H++[AObj.dict (byR rs)]=H1
 have l1:H1.length=H.length+1:=by rw [←hH1];simp
 have gb1:H1[H.length]?=some (.dict (byR rs)):=by rw [←hH1];exact qab
 have p1:H<+:H1:=by rw [←hH1];exact qaa
 generalize hH2:H1++[AObj.dict []]=H2
 have l2:H2.length=H1.length+1:=by rw [←hH2];simp
 have gf2:H2[H1.length]?=some (.dict (fdD [])):=by rw [←hH2];exact qab
 have p2:H1<+:H2:=by rw [←hH2];exact qaa
 refine rn _ _ (qam 4 rfl fun R rr rn=>?_)
 refine qen (fun t loc H'=>∃ (F W:List Int) (o5:Option AV),Seek rs n F W/\rs.length-F.length+W.length=t/\t<=rs.length+1/\H<+:H'/\H'[H.length]?=some (.dict (byR rs))/\H'[H1.length]?=some (.dict (fdD F))/\H'[H2.length]?=some (.list (W.map .int)) /\
  loc=[some (.tup (rs.map roP)),some (.int n),some (.ref H.length),some (.ref H1.length),some (.ref H2.length),o5]) _ ⟨[],[n],none,Seek.start,rfl,by simp,(p1.trans p2).trans qaa,qac (p2.trans qaa) gb1,qac qaa gf2,qab,rfl⟩ ?_
 rintro t loc H' ⟨F,W,o5,sk,et,wl,p,gb,gf,gw,rfl⟩
 have fl:=sk.len
 walk_at "go"
 refine qts (b:=[]) (qac qaa gw) qab ?_
 refine qpy (K:=fun b=>kWhl Φ _ _ _ _ _ (.bool b) _) (fun hW=>?_) (fun hW=>?_)
 ·simp only [k_whl,k_whlt,ss_cons]
  refine qmj (H0:=H) cn hrs hn (by exact Nat.le.intro (id (Eq.symm l1))) (by exact z300 l1 l2) (by exact z301 l2) (by exact z301 l1) (by exact z302 l1 l2) sk hW (p.trans qaa) (qac qaa gb) (qac qaa gf) (qac qaa gw) (by exact z303 hl et wl) fun F' W' o5' H2' sk' lt p' gb' gf' gw'=>?_
  have fl':=sk'.len
  simp only [thenS_next,ss_nil]
  exact qaq _ (by exact Nat.lt_of_lt_of_eq lt et) ⟨F',W',_,sk',rfl,by exact z304 et wl lt,p',gb',gf',gw',rfl⟩
 ·subst hW
  walk_at "wp"
  refine rn _ _ (qam 5 rfl fun R rr rn=>?_)
  walk_at "wp"
  refine qnm (qac qaa gf) (by simp [fdD];exact z295 hl fl) ?_
  have ek:(fdD F).map (·.1)=F:=by simp [fdD,Function.comp_def]
  rw [ek]
  walk_at "wp"
  refine ⟨F,.inl (by simp [seqL]),by exact z305 hl fl,fun ms hp hs=>?_⟩
  walk_at "wp"
  refine rr _ _ _ (h ms _ _ ⟨F,sk,hp,hs⟩ (p.trans (qaa.trans (qaa.trans qaa))) ?_ qab)
  have:=p.length_le
  simp;exact Nat.le_add_right_of_le this
noncomputable def inL (l:List Int) (y:AV):Bool:=match y with|.tup (.int q::_)=>l.contains q|_=>false
theorem qse (l:List Int) (r:Row):inL l (roP r)=l.contains r.1:=rfl
theorem quk {l:List Int}(rs:List Row):(rs.map roP).filterMap (fun y=>if inL l y then some y else none)=(rs.filter fun r=>l.contains r.1).map roP:=by
 induction rs with
 | nil=>rfl
 | cons r rs ih =>
  rw [List.map_cons,List.filterMap_cons,qse,List.filter_cons]
  cases l.contains r.1 with
  | true=>simp only [if_true,ih,List.map_cons]
  | false=>simp only [Bool.false_eq_true,if_false,ih]
def SCut (Φ:Fun):Prop:=∀ (rs:List Row) (n:Int) (H:Hp) (Q:PQ),RR rs->n∈rs.map Prod.fst->(∀ ms H',Und rs n ms->H<+:H'->Q (slA (rs.filter fun r=>(ms++[n]).contains r.1)) H')->Φ "cut" [slA rs,.int n] H Q
theorem cut (cs:qo7 Φ){rs:List Row}{n:Int}{Q:PQ}(hrs:RR rs) (hn:n∈rs.map Prod.fst) (h:∀ ms H',Und rs n ms->H<+:H'->Q (slA (rs.filter fun r=>(ms++[n]).contains r.1)) H') :
  wpF Φ qtt [slA rs,.int n] H Q:=by
 have hl:=hrs.len
 refine ⟨rfl,?_⟩
 show wpSs Φ (qtt.body.drop 0) [some (.tup (rs.map roP)),some (.int n),none] H (qa8 Q)
 refine qam 0 rfl fun R' rr rn=>?_
 walk_at "wp"
 refine cs rs n H _ hrs hn fun ms H1 j hu p1 hj g1=>?_
 obtain ⟨F,sk,hp,hs⟩:=id hu
 have fl:=sk.len
 have ml:ms.length=F.length:=hp.length_eq
 walk_at "go"
 refine qc2 (qac qaa g1) qab (by simp;exact z306 hl fl ml) ?_
 walk_at "wp"
 refine rn _ _ (qam 1 rfl fun R' rr rn=>?_)
 generalize hH2:H1++[AObj.list [AV.int n]]=H2
 have p2:H<+:H2:=by rw [←hH2];exact p1.trans qaa
 have e2:ms.map AV.int++[AV.int n]=(ms++[n]).map .int:=by simp
 rw [e2]
 walk_at "wp"
 refine qed (fun y=>if inL (ms++[n]) y then some y else none) (by rw [ya];exact szL (by (first|lia|omega))) trivial (fun y hy=>?_) ?_
 ·obtain ⟨r,hr,rfl⟩:=yh hy
  refine ⟨[roP r],rfl,fun K k=>?_,fun v hv Q' q=>?_⟩
  ·walk_at "wp"
   refine qb2 ?_
   walk_at "wp"
   refine qhj (K:=fun b=>kCs Φ _ _ _ (.bool b) _) qab ?_
   rw [qse] at k
   refine qa5 (K:=fun b=>kCs Φ _ _ _ (.bool b) _) (fun e=>?_) (fun e=>?_)
   ·rw [e] at k;walk_at "wp";exact k
   ·rw [e] at k;walk_at "wp";exact k
  ·have:roP r=v:=by
    split at hv
    ·exact yj hv
    ·cases hv
   walk_at "wp"
   rw [this];exact q
 ·rw [quk]
  walk_at "wp"
  refine qe6 qab (by rw [ya];exact Nat.le_trans (List.length_filter_le _ _) (by (first|lia|omega))) ?_
  walk_at "wp"
  exact rr _ _ _ (h ms _ hu (p2.trans (qaa.trans qaa)))
end
section
open PySem
structure SG (rs:List Row):Prop where
 k:RsK 1 rs
 len:rs.length<=9
 num:∀ r∈rs,r.1<=30000
inductive It where
 | slip (rs:List Row)
 | junk (v:AV)
noncomputable def It.av:It->AV
 | .slip rs=>slA rs
 | .junk v=>v
def It.ok:It->Prop
 | .slip rs=>SG rs
 | .junk v=>∀ l,v=.tup l->l=[]
noncomputable def qbf (rs:List Row):Row:=rs.getLast?.getD (0,.first)
noncomputable def qdb (rs:List Row):Bool:=(wr 0 [] rs).isNone&&(qbf rs).2.tells
noncomputable def It.good:It->Bool
 | .slip rs=>qdb rs
 | .junk _=>false
structure ItsOK (its:List It):Prop where
 len:its.length<=6
 ok:∀ it∈its,it.ok
def IsPr (ss:List (List Row)) (ps:List Int):Prop:=ps.Pairwise (·<·)/\∀ q,q∈ps↔∃ s∈ss,(qbf s).1=q
noncomputable def qb3 (n:Int) (ps:List Int):List (Int×Int):=ps.map fun p=>(p,(vl p.toNat (n-1).toNat:Int))
noncomputable def rowG (n b:Int) (ps:List Int):Row:=(n,.prime b (qb3 n ps))
noncomputable def qhk (n b:Int) (ps:List Int):Bool:=(ps.all fun p=>decide ((n-1)%p=0))&&(rowG n b ps).2.holds n ps
def Cutd (ss:List (List Row)) (row:Row) (out:List Row):Prop:=∃ ms:List Int,ms.Pairwise (·<·)/\(∀ q,q∈ms↔Rch (qan ss.flatten++[row]) row.1 q)/\out=ms.map (qcs (qan ss.flatten))++[row]
theorem Cutd.uniq {ss:List (List Row)}{row:Row}{a b:List Row}(ha:Cutd ss row a) (hb:Cutd ss row b):a=b:=by
 obtain ⟨ms,h1,h2,rfl⟩:=ha
 obtain ⟨ms',h3,h4,rfl⟩:=hb
 rw [qkk h1 h3 fun q=>(h2 q).trans (h4 q).symm]
theorem IsPr.uniq {ss:List (List Row)}{a b:List Int}(ha:IsPr ss a) (hb:IsPr ss b):a=b:=qkk ha.1 hb.1 fun q=>(ha.2 q).trans (hb.2 q).symm
inductive Res where
 | word (w:Str)
 | rows (rs:List Row)
structure Fit (vn vb:AV) (its:List It) (n b:Int) (ss:List (List Row)) (ps:List Int):Prop where
 vn:vn=.int n
 vb:vb=.int b
 n3:3<=n
 n20:n<=10^20
 b1:1<=b
 b30:b<=10^30
 its:its=ss.map .slip
 ne:ss≠[]
 good:∀ s∈ss,qdb s=true
 pr:IsPr ss ps
noncomputable def numB (vn vb:AV):Bool:=whB vn 3 BIG&&whB vb 1 BIG
inductive Due (vn vb:AV) (its:List It):Res->Prop
 | num:numB vn vb=false->Due vn vb its (.word "NoNumber")
 | slip:numB vn vb=true->(its=[]\/∃ it∈its,it.good=false)->Due vn vb its (.word "NoSlip")
 | held {n b:Int}{ss:List (List Row)}{ps:List Int}:Fit vn vb its n b ss ps->qhk n b ps=false->Due vn vb its (.word "NotHeld")
 | made {n b:Int}{ss:List (List Row)}{ps:List Int}{out:List Row}:Fit vn vb its n b ss ps->qhk n b ps=true->Cutd ss (rowG n b ps) out->Due vn vb its (.rows out)
theorem Fit.nb {vn vb:AV}{its:List It}{n b:Int}{ss:List (List Row)}{ps:List Int}(f:Fit vn vb its n b ss ps):numB vn vb=true:=by
 rw [f.vn,f.vb]
 have:=f.n3;have:=f.n20;have:=f.b1;have:=f.b30
 show ((decide (3<=n)&&decide (n<=BIG))&&(decide (1<=b)&&decide (b<=BIG)))=true
 unfold BIG
 rw [decide_eq_true (by (first|lia|omega)),decide_eq_true (by (first|lia|omega)),decide_eq_true (by (first|lia|omega)),decide_eq_true (by exact Int.le_def.mpr this)];rfl
theorem qp1 {a b:List (List Row)}(h:a.map It.slip=b.map It.slip):a=b:=by
 induction a generalizing b with
 | nil=>cases b with|nil=>rfl|cons _ _=>cases h
 | cons x a ih =>
  cases b with
  | nil=>cases h
  | cons y b=>rw [List.map_cons,List.map_cons] at h;injection h with h1 h2;injection h1 with h1;rw [h1,ih h2]
theorem Fit.uniq {vn vb:AV}{its:List It}{n b n' b':Int}{ss ss':List (List Row)}{ps ps':List Int}(f:Fit vn vb its n b ss ps) (g:Fit vn vb its n' b' ss' ps'):n=n'/\b=b'/\ss=ss'/\ps=ps':=by
 have e1:=f.vn.symm.trans g.vn;injection e1 with e1
 have e2:=f.vb.symm.trans g.vb;injection e2 with e2
 have e3:=qp1 (f.its.symm.trans g.its)
 subst e3
 exact ⟨e1,e2,rfl,f.pr.uniq g.pr⟩
theorem Fit.no {vn vb:AV}{its:List It}{n b:Int}{ss:List (List Row)}{ps:List Int}(f:Fit vn vb its n b ss ps):¬ (its=[]\/∃ it∈its,it.good=false):=by
 rintro (h|⟨it,h1,h2⟩)
 ·rw [f.its] at h
  exact f.ne (List.map_eq_nil_iff.mp h)
 ·rw [f.its] at h1
  obtain ⟨s,hs,rfl⟩:=yh h1
  rw [show (It.slip s).good=qdb s from rfl,f.good s hs] at h2;cases h2
theorem Due.uniq {vn vb:AV}{its:List It}{r r':Res}(h:Due vn vb its r) (h':Due vn vb its r'):r=r':=by
 have no:numB vn vb=false->numB vn vb=true->False:=fun a b=>by rw [a] at b;cases b
 cases h with
 | num a=>cases h' with
  | num _=>rfl
  | slip b _=>exact (no a b).elim
  | held f _=>exact (no a f.nb).elim
  | made f _ _=>exact (no a f.nb).elim
 | slip a z=>cases h' with
  | num b=>exact (no b a).elim
  | slip _ _=>rfl
  | held f _=>exact (f.no z).elim
  | made f _ _=>exact (f.no z).elim
 | held f a=>cases h' with
  | num b=>exact (no b f.nb).elim
  | slip _ z=>exact (f.no z).elim
  | held _ _=>rfl
  | made g b _ =>
   obtain ⟨rfl,rfl,rfl,rfl⟩:=f.uniq g
   rw [a] at b;cases b
 | made f a c=>cases h' with
  | num b=>exact (no b f.nb).elim
  | slip _ z=>exact (f.no z).elim
  | held g b =>
   obtain ⟨rfl,rfl,rfl,rfl⟩:=f.uniq g
   rw [a] at b;cases b
  | made g b d =>
   obtain ⟨rfl,rfl,rfl,rfl⟩:=f.uniq g
   rw [c.uniq d]
theorem qqj {n:Int}{pr:List Int}{f:Fc}(h:f.holds n pr=true):∀ q∈f.needs,q∈pr:=by
 cases f with
 | prime b ps =>
  intro q hq
  simp only [Fc.holds,Bool.and_eq_true] at h
  obtain ⟨p,hp,rfl⟩:=yh hq
  simpa using yq h.1 p hp
 | _=>intro q hq;cases hq
theorem qvv:∀ (rs:List Row) (k:Nat) (pr:List Int),wr k pr rs=none->∀ r∈rs,∀ q∈r.2.needs,q∈pr\/∃ t∈rs,t.1=q
 | [],_,_,_,r,hr,_,_=>by cases hr
 | x::rs,k,pr,h,r,hr,q,hq=>by
  rw [wr] at h
  cases hx:x.2.holds x.1 pr with
  | false=>rw [hx,if_neg (by decide)] at h;cases h
  | true =>
   rw [hx,if_pos rfl] at h
   rcases yg hr with rfl|hr
   ·exact .inl (qqj hx q hq)
   ·rcases qvv rs _ _ h r hr q hq with z|⟨t,ht,e⟩
    ·split at z
     ·rcases yd z with z|z
      ·exact .inl z
      ·exact .inr ⟨x,List.mem_cons_self ..,(yb z).symm⟩
     ·exact .inl z
    ·exact .inr ⟨t,yi _ ht,e⟩
theorem que {s:List Row}(h:qdb s=true):∀ r∈s,∀ q∈r.2.needs,∃ t∈s,t.1=q:=fun r hr q hq=>by
 unfold qdb at h
 rw [Bool.and_eq_true] at h
 rcases qvv s 0 [] (Option.isNone_iff_eq_none.mp h.1) r hr q hq with z|z
 ·cases z
 ·exact z
theorem SG.last {s:List Row}(h:SG s):s.getLast?=some (qbf s)/\qbf s∈s:=by
 have e:s.getLast?=some (s.getLast h.k.1):=List.getLast?_eq_some_getLast h.k.1
 have e2:qbf s=s.getLast h.k.1:=by unfold qbf;rw [e];rfl
 rw [e2];exact ⟨e,List.getLast_mem _⟩
theorem SG.top {s:List Row}(h:SG s){r:Row}(hr:r∈s):r.1<=(qbf s).1:=by
 obtain ⟨I,e⟩:=List.getLast?_eq_some_iff.mp h.last.1
 have inc:=h.k.2.2.2
 rw [e] at hr inc
 rcases yd hr with z|z
 ·rw [List.map_append,List.pairwise_append] at inc
  exact Int.le_of_lt (inc.2.2 r.1 (yn ⟨r,z,rfl⟩) _ (by simp))
 ·rw [yb z];exact Int.le_refl _
theorem qc8 {ss:List (List Row)}{r:Row}(h:r∈qan ss.flatten):∃ s∈ss,r∈s:=by
 rcases qhm h with z|z
 ·cases z
 ·exact List.mem_flatten.mp z
theorem qg0 {ss:List (List Row)}{s:List Row}{r:Row}(hs:s∈ss) (hr:r∈s):r.1∈(qan ss.flatten).map (·.1) :=
 qhn.mpr (.inr (yn ⟨r,List.mem_flatten.mpr ⟨s,hs,hr⟩,rfl⟩))
theorem qko:∀ {ss:List (List Row)},(∀ s∈ss,s.length<=9)->ss.flatten.length<=9*ss.length
 | [],_=>by simp
 | s::ss,h=>by
  have h1:=h s (by simp)
  have h2:=qko (ss:=ss) fun t ht=>h t (by simp [ht])
  rw [List.flatten_cons,List.length_append,List.length_cons];exact z307 h1 h2
structure Grw (n b:Int) (ss:List (List Row)) (ps:List Int):Prop where
 n3:3<=n
 n20:n<=10^20
 b1:1<=b
 b30:b<=10^30
 len:ss.length<=6
 sg:∀ s∈ss,SG s
 ne:ss≠[]
 good:∀ s∈ss,qdb s=true
 pr:IsPr ss ps
theorem Grw.ssb {n b:Int}{ss:List (List Row)}{ps:List Int}(g:Grw n b ss ps):SsB ss:=by
 have:=qko fun s hs=>(g.sg s hs).len
 have:=g.len
 show ss.flatten.length<=60;(first|lia|omega)
theorem Grw.p2 {n b:Int}{ss:List (List Row)}{ps:List Int}(g:Grw n b ss ps):∀ p∈ps,2<=p/\p<=30000:=fun p hp=>by
 obtain ⟨s,hs,rfl⟩:=(g.pr.2 p).mp hp
 have sg:=g.sg s hs
 exact ⟨(sg.k.2.2.1 _ sg.last.2).2.1,sg.num _ sg.last.2⟩
theorem Grw.plen {n b:Int}{ss:List (List Row)}{ps:List Int}(g:Grw n b ss ps):ps.length<=6:=by
 have h:=qc5 (F:=ps) (L:=ss.map fun s=>(qbf s).1) (g.pr.1.imp fun {a b} z=>Int.ne_of_lt z) fun q hq=>by
  obtain ⟨s,hs,e⟩:=(g.pr.2 q).mp hq
  exact yn ⟨s,hs,e⟩
 rw [ya] at h
 exact Nat.le_trans h g.len
theorem Grw.pne {n b:Int}{ss:List (List Row)}{ps:List Int}(g:Grw n b ss ps):ps≠[]:=by
 obtain ⟨s,hs⟩:=List.exists_mem_of_ne_nil ss g.ne
 exact List.ne_nil_of_mem ((g.pr.2 _).mpr ⟨s,hs,rfl⟩)
theorem Grw.rok {n b:Int}{ss:List (List Row)}{ps:List Int}(g:Grw n b ss ps) (hd:∀ p∈ps,(n-1)%p=0):RoK 1 n (rowG n b ps).2:=by
 have n3:=g.n3;have n20:=g.n20
 refine ⟨by decide,by exact Int.le_of_lt n3,by exact z308 n20,⟨g.b1,g.b30⟩,⟨?_,?_,?_⟩,?_⟩
 ·intro z;exact g.pne (List.map_eq_nil_iff.mp z)
 ·rw [qb3,ya];have:=g.plen;exact z309 this
 ·intro x hx
  obtain ⟨p,hp,rfl⟩:=yh hx
  obtain ⟨h1,h2⟩:=g.p2 p hp
  have hz:=hd p hp
  have h3:=(qr0 (d:=p.toNat) (n:=(n-1).toNat) (by exact z310 h1) (by exact z311 n3)).mpr (by
   have e1:((n-1).toNat:Int)=n-1:=Int.toNat_of_nonneg (by exact z312 n3)
   have e2:(p.toNat:Int)=p:=Int.toNat_of_nonneg (by exact z148 h1)
   have:(((n-1).toNat%p.toNat:Nat):Int)=0:=by rw [Int.natCast_emod,e1,e2];exact hz
   exact Int.ofNat_eq_zero.mp this)
  have h4:=qyf (d:=p.toNat) (n:=(n-1).toNat) (by exact z310 h1) (by exact z311 n3) (Nat.lt_of_lt_of_le (show (n-1).toNat<10^21 by exact z313 n20) (by decide))
  exact ⟨h1,by show p<=_;exact z314 h2,by show (1:Int)<=(vl _ _:Nat);exact Int.toNat_le.mp h3,by show ((vl _ _:Nat):Int)<=100;exact Nat.ToInt.of_le rfl rfl h4⟩
 ·show (qb3 n ps).Pairwise _
  rw [qb3,List.pairwise_map];exact g.pr.1
theorem Grw.top {n b:Int}{ss:List (List Row)}{ps:List Int}(g:Grw n b ss ps) (hd:∀ p∈ps,(n-1)%p=0){r:Row}(hr:r∈qan ss.flatten):r.1<n:=by
 obtain ⟨s,hs,hrs⟩:=qc8 hr
 have h1:=(g.sg s hs).top hrs
 have hp:(qbf s).1∈ps:=(g.pr.2 _).mpr ⟨s,hs,rfl⟩
 have h2:=g.p2 _ hp
 have h3:=hd _ hp
 have:=Int.le_of_dvd (by have:=g.n3;exact z315 this) (Int.dvd_of_emod_eq_zero h3)
 exact z316 h1 this
theorem Grw.needs {n b:Int}{ss:List (List Row)}{ps:List Int}(g:Grw n b ss ps):∀ r∈qan ss.flatten++[rowG n b ps],∀ q∈r.2.needs,q∈(qan ss.flatten).map (·.1):=fun r hr q hq=>by
 rcases yd hr with z|z
 ·obtain ⟨s,hs,hrs⟩:=qc8 z
  obtain ⟨t,ht,rfl⟩:=que (g.good s hs) r hrs q hq
  exact qg0 hs ht
 ·rw [yb z] at hq
  have:q∈ps:=by
   obtain ⟨x,hx,rfl⟩:=yh hq
   obtain ⟨p,hp,rfl⟩:=yh hx
   exact hp
  obtain ⟨s,hs,rfl⟩:=(g.pr.2 q).mp this
  exact qg0 hs (g.sg s hs).last.2
theorem Grw.rr {n b:Int}{ss:List (List Row)}{ps:List Int}(g:Grw n b ss ps) (hd:∀ p∈ps,(n-1)%p=0){M:List Row}(hm:qe3 ss M):RR (M++[rowG n b ps]):=by
 have mem:∀ {r},r∈M->r∈qan ss.flatten:=fun h=>hm.1.mem_iff.mp h
 refine ⟨?_,fun r hr=>?_,?_,fun r hr q hq=>?_⟩
 ·have h1:=hm.len;have h2:ss.flatten.length<=60:=g.ssb
  rw [List.length_append,List.length_singleton];exact z317 h1 h2
 ·rcases yd hr with z|z
  ·obtain ⟨s,hs,hrs⟩:=qc8 (mem z)
   exact (g.sg s hs).k.2.2.1 r hrs
  ·rw [yb z];exact g.rok hd
 ·rw [List.map_append,List.pairwise_append]
  refine ⟨hm.2,by simp,fun a ha b' hb=>?_⟩
  obtain ⟨r,hr,rfl⟩:=yh ha
  rw [show b'=n by simpa [rowG] using hb]
  exact g.top hd (mem hr)
 ·have:r∈qan ss.flatten++[rowG n b ps]:=by
   rcases yd hr with z|z
   ·exact List.mem_append_left _ (mem z)
   ·exact List.mem_append_right _ z
  obtain ⟨u,hu,rfl⟩:=yh (g.needs r this q hq)
  exact ⟨u,List.mem_append_left _ (hm.1.mem_iff.mpr hu),rfl⟩
theorem Rch.sub {a b:List Row}(h:∀ r∈a,r∈b){n q:Int}(z:Rch a n q):Rch b n q:=by
 induction z with
 | one hr hq=>exact .one (h _ hr) hq
 | more _ hr hq ih=>exact .more ih (h _ hr) hq
theorem Grw.key {n b:Int}{ss:List (List Row)}{ps:List Int}(g:Grw n b ss ps){m q:Int}(z:Rch (qan ss.flatten++[rowG n b ps]) m q):q∈(qan ss.flatten).map (·.1):=by
 cases z with
 | one hr hq=>exact g.needs _ hr _ hq
 | more _ hr hq=>exact g.needs _ hr _ hq
theorem Grw.cut {n b:Int}{ss:List (List Row)}{ps:List Int}(g:Grw n b ss ps) (hd:∀ p∈ps,(n-1)%p=0){M:List Row}(hm:qe3 ss M){ms:List Int}(u:Und (M++[rowG n b ps]) n ms):Cutd ss (rowG n b ps) ((M++[rowG n b ps]).filter fun r=>(ms++[n]).contains r.1):=by
 obtain ⟨F,sk,hp,hs⟩:=u
 have e1:∀ q,q∈ms↔Rch (qan ss.flatten++[rowG n b ps]) n q:=fun q=>by
  rw [hp.mem_iff]
  constructor
  ·intro z
   refine (sk.rch q z).sub fun r hr=>?_
   rcases yd hr with z|z
   ·exact List.mem_append_left _ (hm.1.mem_iff.mp z)
   ·exact List.mem_append_right _ z
  ·intro z
   refine sk.all (z.sub fun r hr=>?_)
   rcases yd hr with z|z
   ·exact List.mem_append_left _ (hm.1.mem_iff.mpr z)
   ·exact List.mem_append_right _ z
 have inc:=qgw hs (hp.nodup_iff.mpr sk.nd)
 have lt:∀ {r},r∈M->r.1≠n:=fun h=>Int.ne_of_lt (g.top hd (hm.1.mem_iff.mp h))
 refine ⟨ms,inc,e1,?_⟩
 rw [List.filter_append]
 have e2:[rowG n b ps].filter (fun r=>(ms++[n]).contains r.1)=[rowG n b ps]:=by
  rw [List.filter_cons,if_pos (by show (ms++[n]).contains n=true;simp)];rfl
 rw [e2]
 congr 1
 have e3:(M.filter fun r=>(ms++[n]).contains r.1).map (·.1)=ms:=by
  refine qkk (List.Pairwise.sublist (List.Sublist.map _ List.filter_sublist) hm.2) inc fun q=>?_
  constructor
  ·intro z
   obtain ⟨r,hr,rfl⟩:=yh z
   obtain ⟨h1,h2⟩:=List.mem_filter.mp hr
   rcases yd (show r.1∈ms++[n] by simpa using h2) with y|y
   ·exact y
   ·exact absurd (yb y) (lt h1)
  ·intro z
   obtain ⟨r,hr,rfl⟩:=yh (g.key ((e1 q).mp z))
   exact yn ⟨r,List.mem_filter.mpr ⟨hm.1.mem_iff.mpr hr,by simp [z]⟩,rfl⟩
 rw [←qd2 (qcg ss.flatten) (G:=M.filter fun r=>(ms++[n]).contains r.1) fun r hr=>hm.1.mem_iff.mp (List.mem_filter.mp hr).1,e3]
end
section
open PySem
theorem qiu {loc:Loc}{Q:PQ}{X:XP}{ss:List MS}(k:Nat){s:MS}(hs:ss[k]?=some s) (h:∀ R:PF,(∀ v loc H,Q v H->R (.ret v) loc H)->(∀ c loc H,X c H->R (.exc c) loc H)->(∀ loc H,wpSs Φ (ss.drop (k+1)) loc H (endX Q X)->R .next loc H)->wpS Φ s loc H R):wpSs Φ (ss.drop k) loc H (endX Q X):=by
 obtain ⟨hlt,e⟩:=yl hs
 rw [List.drop_eq_getElem_cons hlt,e,ss_cons]
 exact h _ (fun _ _ _ q=>q) (fun _ _ _ q=>q) (fun _ _ q=>q)
theorem ql1 {Q:PQ}{z:AV}(hn:l.length<=1000) (hz:l.getLast?=some z) (q:Q z H):qbm (.tup l) (.int (-1)) H Q:=by
 have h1:1<=l.length:=by
  cases l with
  | nil=>cases hz
  | cons=>simp
 rw [qqx]
 refine ⟨by exact z98 hn,l.length-1,z,?_,by rw [←List.getLast?_eq_getElem?];exact hz,q⟩
 unfold place
 rw [if_neg (by decide)]
 simp
 exact z224 h1
def qo9 (Φ:Fun):Prop:=∀ (rs:List (Int×Fc)) (r:Int×Fc) (H:Hp) (Q:PQ),rs.length<=63->rs.getLast?=some r->Q (.tup [.int r.1,.bool r.2.tells]) H->Φ "says" [.tup (rs.map roP)] H Q
theorem says (c:qfc "tells_prime" Φ){rs:List (Int×Fc)}{r:Int×Fc}{Q:PQ}(hl:rs.length<=63) (hr:rs.getLast?=some r) (h:Q (.tup [.int r.1,.bool r.2.tells]) H):wpF Φ qnk [.tup (rs.map roP)] H Q:=by
 have hm:(rs.map roP).length<=1000:=by rw [ya];exact z193 hl
 have hz:(rs.map roP).getLast?=some (roA r.1 r.2):=by rw [List.getLast?_map,hr];rfl
 ((refine ⟨rfl,?_⟩;simp only [lst,Nat.reduceSub,Nat.sub_self,List.replicate]))
 simp only [qnk]
 walk_at "wp"
 refine ql1 hm hz ?_
 walk_at "wp"
 refine qj6 ?_
 walk_at "wp"
 refine ql1 hm hz ?_
 walk_at "wp"
 refine c r.1 r.2 H _ ?_
 walk_at "go"
 exact h
def qhy (Φ:Fun):Prop:=∀ (k:Nat) (rs:List (Int×Fc)) (H:Hp) (Q:PQ),rs.length<=63->(∀ r∈rs,RoK k r.1 r.2)->(∀ H',H<+:H'->Q (optA (wr 0 [] rs)) H')->Φ "_law_wrong" [.tup (rs.map roP)] H Q
theorem qk5 (c1:qde "_law_holds" Φ) (c2:qfc "_law_tells" Φ){rs:List (Int×Fc)}{Q:PQ}(hl:rs.length<=63) (rok:∀ r∈rs,RoK k r.1 r.2) (h:∀ H',H<+:H'->Q (optA (wr 0 [] rs)) H'):wpF Φ qdj [.tup (rs.map roP)] H Q:=by
 have hm:(rs.map roP).length<=1000:=by rw [ya];exact z193 hl
 have e1:((rs.map roP).length:Int)=rs.length:=by simp
 ((refine ⟨rfl,?_⟩;simp only [lst,Nat.reduceSub,Nat.sub_self,List.replicate]))
 simp only [qdj]
 walk_at "go"
 rw [e1]
 refine qao (fun m loc H'=>∃ (pr:List Int) (o2:Option AV),H<+:H'/\H'[H.length]?=some (.list (pr.map .int))/\pr.length<=m/\wr m pr (rs.drop m)=wr 0 [] rs/\loc=[some (.tup (rs.map roP)),some (.ref H.length),o2]) ⟨[],none,qaa,qab,Nat.le_refl _,by simp,rfl⟩ ?_
 rintro m loc H' ⟨pr,o2,hp,hj,hpl,hw,rfl⟩
 refine ⟨trivial,fun y hy=>?_,fun hm'=>?_⟩
 ·obtain ⟨rfl,hlt⟩:=qmw hy
  have hlt:m<rs.length:=by simpa using hlt
  have hr:rs[m]?=some rs[m]:=List.getElem?_eq_getElem hlt
  generalize rs[m]=r at hr
  have e:=(yl hr).2
  rw [List.drop_eq_getElem_cons hlt,e,wr] at hw
  have hrk:=rok r (yc hr)
  have at_m:∀ {H2:Hp}{Q':PQ},Q' (roA r.1 r.2) H2->qbm (.tup (rs.map roP)) (.int m) H2 Q':=fun {H2 Q'} q=>qgx (l:=rs.map roP) rfl (by exact z98 hm) (by exact z71) (by rw [List.getElem?_map,Int.toNat_natCast,hr];rfl) q
  refine ⟨[.int m],rfl,?_⟩
  walk_at "wp"
  refine at_m ?_
  walk_at "wp"
  refine c1 k H.length r.1 r.2 pr H' _ hj hrk fun H2 p2=>?_
  have hj2:=qac p2 hj
  walk_at "wp"
  refine qa5 (K:=fun b=>qb5 Φ _ _ _ _ _ (!b)) (fun h1=>?_) (fun h1=>?_)
  ·simp only [Bool.not_true]
   walk_at "wp"
   rw [h1,if_pos rfl] at hw
   refine at_m ?_
   walk_at "wp"
   refine c2 r.1 r.2 H2 _ ?_
   walk_at "wp"
   refine qa5 (K:=fun b=>qb5 Φ _ _ _ _ _ b) (fun h2=>?_) (fun h2=>?_)
   ·walk_at "wp"
    rw [h2,if_pos rfl] at hw
    refine ⟨qa0 hj2,?_⟩
    refine at_m ?_
    walk_at "wp"
    refine qj6 ?_
    walk_at "wp"
    refine qf7 hj2 (by rw [ya];(first|lia|omega)) ?_
    walk_at "wp"
    refine qaj ⟨pr++[r.1],_,qav (hp.trans p2) (Nat.le_refl _),?_,by rw [List.length_append];simp;exact z273 hpl,hw,rfl⟩
    rw [qak hj2];simp
   ·walk_at "wp"
    rw [h2,if_neg (by decide)] at hw
    exact qaj ⟨pr,_,hp.trans p2,hj2,by exact Nat.le_add_right_of_le hpl,hw,rfl⟩
  ·simp only [Bool.not_false]
   walk_at "wp"
   rw [h1,if_neg (by decide)] at hw
   rw [←hw] at h
   exact h _ (hp.trans p2)
 ·walk_at "wp"
  have em:m=rs.length:=by simpa using hm'
  have:rs.drop m=[]:=List.drop_eq_nil_of_le (by exact Nat.le_of_eq (id (Eq.symm em)))
  rw [this] at hw
  rw [←hw] at h
  exact h _ hp
theorem qg9 {loc:Loc}{Q:PF}{c:Str}{as:List ME}:wpS Φ (.raise c as) loc H Q=wpEs Φ as loc H (qsc c loc Q):=rfl
end
section
open PySem
theorem qlb {v:AV}(h:∀ l,v=.tup l->l=[]):qel v=false:=by
 cases v with
 | tup l=>rw [h l rfl];rfl
 | _=>rfl
theorem qru {v:AV}(h:∀ l,v=.tup l->l=[]):SlG H v:=fun l e=>by
 rw [h l e];exact ⟨by simp,fun x hx=>by cases hx⟩
theorem qwd {loc:Loc}{Q:PF}{a:ME}:wpS Φ (.asgS i a) loc H Q=wpE Φ a loc H (kSrt i loc Q):=rfl
theorem qwa (h:H[i]?=some (.list l)):seqL H (.ref i)=some l:=by simp [seqL,h]
theorem qqm (cl:qrx Φ) (cs:qo9 Φ){its:List It}{loc:Loc}{Q:PQ}(hl:loc.length=5) (hi:H[i]?=some (.list (its.map It.av))) (ok:ItsOK its) (q:∀ H',H<+:H'->Q (.ref H'.length) (H'++[.list ((its.map It.good).map .bool)])) :
  qgp Φ false 1 (.and2 (.call "lets_by" [.loc 5]) (.idx (.call "says" [.loc 5]) (.cst (.int 1)))) [] loc Q (its.map It.av) (fun H'=>H'[i]?=some (.list (its.map It.av))) H:=by
 match loc,hl with
 | [a0,a1,a2,a3,a4],_ =>
 refine qbh It.av (fun it=>.bool it.good) its (szL (by have:=ok.len;exact z318 this)) (fun H' p=>qac p hi) (fun H' p it hit=>⟨[it.av],rfl,fun Q' q'=>?_⟩) fun H' p=>by have:=q H' p;rw [List.map_map] at this;exact this
 have iok:=ok.ok it hit
 simp only [lst]
 walk_at "wp"
 cases it with
 | junk v =>
  refine cl v H' _ (qru iok) (fun _=>?_) fun e=>by rw [qlb iok] at e;cases e
  walk_at "wp"
  exact q' H' List.prefix_rfl
 | slip rs =>
  have sg:SG rs:=iok
  have rl:rs.length<=63:=by have:=sg.len;exact z319 this
  refine cl (slA rs) H' _ (qv8 (by (first|lia|omega)) sg.k.2.2.1) (fun e=>by rw [show qel (slA rs)=true from qml sg.k] at e;cases e) fun _=>⟨1,rs,rfl,by (first|lia|omega),sg.k.2.2.1,fun H2 p2=>?_⟩
  walk_at "wp"
  refine qa5 (K:=fun b=>qjq Φ _ _ _ _ b) (fun e=>?_) (fun e=>?_)
  ·walk_at "wp"
   refine cs rs (qbf rs) H2 _ rl sg.last.1 ?_
   walk_at "go"
   have:(It.slip rs).good=(qbf rs).2.tells:=by show qdb rs=_;unfold qdb;rw [e,Bool.true_and]
   rw [this] at q'
   exact q' H2 p2
  ·walk_at "wp"
   have:(It.slip rs).good=false:=by show qdb rs=_;unfold qdb;rw [e,Bool.false_and]
   rw [this] at q'
   exact q' H2 p2
theorem qqi (cs:qo9 Φ){ss:List (List Row)}{loc:Loc}{Q:PQ}(hl:loc.length=5) (hi:H[i]?=some (.list (ss.map slA))) (len:ss.length<=6) (sg:∀ s∈ss,SG s) (q:∀ H',H<+:H'->Q (.ref H'.length) (H'++[.list ((ss.map fun s=>(qbf s).1).map .int)])) :
  qgp Φ false 1 (.idx (.call "says" [.loc 5]) (.cst (.int 0))) [] loc Q (ss.map slA) (fun H'=>H'[i]?=some (.list (ss.map slA))) H:=by
 match loc,hl with
 | [a0,a1,a2,a3,a4],_ =>
 refine qbh slA (fun s=>.int (qbf s).1) ss (szL (by exact z318 len)) (fun H' p=>qac p hi) (fun H' p s hs=>⟨[slA s],rfl,fun Q' q'=>?_⟩) fun H' p=>?_
 ·simp only [lst]
  walk_at "wp"
  refine cs s (qbf s) H' _ (by have:=(sg s hs).len;(first|lia|omega)) (sg s hs).last.1 ?_
  walk_at "go"
  exact q' H' List.prefix_rfl
 ·have:=q H' p
  rw [List.map_map] at this
  exact this
theorem qf8:∀ {its:List It},(∀ it∈its,it.ok)->(∀ it∈its,it.good=true)->∃ ss:List (List Row),its=ss.map It.slip/\(∀ s∈ss,SG s)/\∀ s∈ss,qdb s=true
 | [],_,_=>⟨[],rfl,(fun s h=>by cases h),fun s h=>by cases h⟩
 | it::its,h1,h2=>by
  obtain ⟨ss,e,h3,h4⟩:=qf8 (its:=its) (fun x hx=>h1 x (by simp [hx])) fun x hx=>h2 x (by simp [hx])
  cases it with
  | junk v=>have:=h2 (.junk v) (by simp);cases this
  | slip rs =>
   refine ⟨rs::ss,by rw [e,List.map_cons],fun s hs=>?_,fun s hs=>?_⟩
   ·rcases yg hs with rfl|hs
    ·exact h1 (.slip s) (by simp)
    ·exact h3 s hs
   ·rcases yg hs with rfl|hs
    ·exact h2 (.slip s) (by simp)
    ·exact h4 s hs
theorem qch (ss:List (List Row)):(ss.map It.slip).map It.av=ss.map slA:=by rw [List.map_map];rfl
theorem qny {n b:Int}{ps:List Int}(h:(ps.all fun p=>decide ((n-1)%p=0))=false):qhk n b ps=false:=by unfold qhk;rw [h,Bool.false_and]
theorem qnz {n b:Int}{ps:List Int}(h:(ps.all fun p=>decide ((n-1)%p=0))=true):qhk n b ps=(rowG n b ps).2.holds n ps:=by unfold qhk;rw [h,Bool.true_and]
theorem qo2 {n:Int}{ps:List Int}(h:(ps.all fun p=>decide ((n-1)%p=0))=true):∀ p∈ps,(n-1)%p=0:=fun p hp=>by simpa using yq h p hp
theorem qjd {n p:Int}(n3:3<=n) (p2:2<=p):((n-1).toNat:Int)=n-1/\(p.toNat:Int)=p:=⟨Int.toNat_of_nonneg (by exact z312 n3),Int.toNat_of_nonneg (by exact z148 p2)⟩
theorem qii {vn vb:AV}(hw:∀ n,vn=.int n->n<=10^20\/10^30<n) (h:numB vn vb=true):∃ n b,vn=.int n/\vb=.int b/\3<=n/\n<=10^20/\1<=b/\b<=10^30:=by
 unfold numB at h
 rw [Bool.and_eq_true] at h
 obtain ⟨n,rfl⟩:=qg7 h.1
 obtain ⟨b,rfl⟩:=qg7 h.2
 have h1:(decide (3<=n)&&decide (n<=BIG))=true:=h.1
 have h2:(decide (1<=b)&&decide (b<=BIG))=true:=h.2
 rw [Bool.and_eq_true,decide_eq_true_iff,decide_eq_true_iff] at h1 h2
 unfold BIG at h1 h2
 have:=hw n rfl
 exact ⟨n,b,rfl,rfl,h1.1,by exact z320 h1 this,h2.1,by exact z321 h2⟩
theorem quc (ct:qk2 Φ) (ch:qde "holds" Φ) (cm:SMer Φ) (cc:SCut Φ){n b:Int}{ss:List (List Row)}{ps:List Int}{Q:PQ}{X:XP}(g:Grw n b ss ps) (hi:H[i]?=some (.list (ss.map slA))) (hj:H[j]?=some (.list (ps.map .int)))
  (hx:∀ H',qhk n b ps=false->H<+:H'->X "NotHeld" H') (hq:∀ rs H',qhk n b ps=true->Cutd ss (rowG n b ps) rs->H<+:H'->Q (slA rs) H'):wpSs Φ (qeu.body.drop 3) [some (.int n),some (.int b),some (.ref i),some (.ref j),none] H (endX Q X):=by
 have pl:=g.plen
 have n3:=g.n3
 have n20:=g.n20
 refine qiu 3 rfl fun R rr rx rn=>?_
 walk_at "wp"
 rw [qca hj]
 refine qbh (α:=Int) AV.int (fun p=>.bool (decide ((n-1)%p=0))) ps (szL (by exact z318 pl)) (fun H' p=>qac p hj) (fun H' p x hx=>⟨[.int x],rfl,fun Q' q'=>?_⟩) fun H1 p1=>?_
 ·simp only [lst]
  walk_at "wp"
  have:=(g.p2 x hx).1
  refine ⟨by exact z146 this,?_⟩
  rw [qae (by exact z148 this)]
  exact q' H' List.prefix_rfl
 have e1:(ps.map fun p=>AV.bool (decide ((n-1)%p=0)))=(ps.map fun p=>decide ((n-1)%p=0)).map .bool:=by rw [List.map_map];rfl
 rw [e1]
 walk_at "wp"
 refine (qo5 qab).mpr ?_
 rw [List.all_map]
 walk_at "wp"
 refine qa5 (b:=ps.all fun p=>decide ((n-1)%p=0)) (K:=fun b=>qb5 Φ _ _ _ _ _ !b) (fun hd=>?_) (fun hd=>?_)
 ·simp only [Bool.not_true]
  walk_at "wp"
  refine rn _ _ (qiu 4 rfl fun R rr rx rn=>?_)
  generalize hH2:H1++[AObj.list _]=H2
  have p2:H<+:H2:=by rw [←hH2];exact p1.trans qaa
  walk_at "wp"
  rw [qca (qac p2 hj)]
  refine qbh (α:=Int) AV.int (fun p=>prAV (p,(vl p.toNat (n-1).toNat:Int))) ps (szL (by exact z318 pl)) (fun H' p=>qac p (qac p2 hj)) (fun H' p x hx=>⟨[.int x],rfl,fun Q' q'=>?_⟩) fun H3 p3=>?_
  ·simp only [lst]
   walk_at "wp"
   have x2:=g.p2 x hx
   obtain ⟨z1,z2⟩:=qjd n3 x2.1
   rw [←z1,←z2]
   refine ct (n-1).toNat x.toNat H' _ (by exact z311 n3) (by exact z322 n20) (by exact z323 x2) (by exact z324 x2) ?_
   walk_at "go"
   rw [z2]
   exact q' H' List.prefix_rfl
  walk_at "wp"
  refine qe6 qab (by rw [ya];exact z318 pl) ?_
  have e2:(ps.map fun p=>prAV (p,(vl p.toNat (n-1).toNat:Int)))=(qb3 n ps).map prAV:=by rw [qb3,List.map_map];rfl
  rw [e2]
  generalize hH4:H3++[AObj.list ((qb3 n ps).map prAV)]=H4
  have p4:H<+:H4:=by rw [←hH4];exact p2.trans (p3.trans qaa)
  walk_at "go"
  refine rn _ _ (qiu 5 rfl fun R rr rx rn=>?_)
  have dv:=qo2 hd
  walk_at "wp"
  refine ch 1 j n (rowG n b ps).2 ps H4 _ (qac p4 hj) (g.rok dv) fun H5 p5=>?_
  rw [←qnz hd]
  walk_at "wp"
  refine qa5 (K:=fun b=>qb5 Φ _ _ _ _ _ !b) (fun hh=>?_) (fun hh=>?_)
  ·simp only [Bool.not_true]
   walk_at "wp"
   refine rn _ _ (qiu 6 rfl fun R rr rx rn=>?_)
   walk_at "wp"
   refine cm i ss H5 _ (qac (p4.trans p5) hi) g.ssb fun H6 M p6 hm=>?_
   have rr6:=g.rr dv hm
   have ml:=rr6.len
   rw [List.length_append,List.length_singleton] at ml
   unfold slA
   walk_at "wp"
   refine ⟨ye rfl,szL (by simp only [ya,List.length_singleton];(first|lia|omega)),?_⟩
   have e3:AV.tup (M.map roP++[.tup [.int n,.str "prime",.tup [.int b,.tup ((qb3 n ps).map prAV)]]])=slA (M++[rowG n b ps]):=by unfold slA;rw [List.map_append];rfl
   rw [e3]
   refine cc (M++[rowG n b ps]) n H6 _ rr6 (by rw [List.map_append];exact List.mem_append_right _ (by simp [rowG])) fun ms H7 u p7=>?_
   walk_at "wp"
   exact rr _ _ _ (hq _ _ hh (g.cut dv hm u) (p4.trans (p5.trans (p6.trans p7))))
  ·simp only [Bool.not_false]
   walk_at "wp"
   rw [qg9]
   walk_at "wp"
   exact ⟨ye rfl,rx _ _ _ (hx _ hh (p4.trans p5))⟩
 ·simp only [Bool.not_false]
  walk_at "wp"
  rw [qg9]
  walk_at "wp"
  exact ⟨ye rfl,rx _ _ _ (hx _ (qny hd) (p1.trans qaa))⟩
theorem qud (cl:qrx Φ) (cs:qo9 Φ) (ct:qk2 Φ) (ch:qde "holds" Φ) (cm:SMer Φ) (cc:SCut Φ){vn vb:AV}{its:List It}{Q:PQ}{X:XP}(hi:H[i]?=some (.list (its.map It.av))) (ok:ItsOK its) (hw:∀ n,vn=.int n->n<=10^20\/10^30<n) (hn:numB vn vb=true)
  (hx:∀ w H',Due vn vb its (.word w)->H<+:H'->X w H') (hq:∀ rs H',Due vn vb its (.rows rs)->H<+:H'->Q (slA rs) H'):wpSs Φ (qeu.body.drop 1) [some vn,some vb,some (.ref i),none,none] H (endX Q X):=by
 have il:=ok.len
 refine qiu 1 rfl fun R rr rx rn=>?_
 have noslip:(its=[]\/∃ it∈its,it.good=false)->∀ (loc:Loc) (H':Hp),H<+:H'->wpSs Φ [.raise "NoSlip" [.cst (.str "no slips of primes")]] loc H' R:=fun z loc H' p=>by
  walk_at "wp"
  rw [qg9]
  walk_at "wp"
  exact ⟨ye rfl,rx _ _ _ (hx _ _ (.slip hn z) p)⟩
 walk_at "wp"
 refine qc1 hi (by rw [ya];exact z318 il) ?_
 walk_at "wp"
 refine qa7 (fun h0=>?_) (fun h0=>?_)
 ·exact noslip (.inl (by cases its with|nil=>rfl|cons x r=>simp at h0;(first|lia|omega))) _ _ List.prefix_rfl
 have ne:its≠[]:=fun z=>h0 (by rw [z];rfl)
 walk_at "wp"
 rw [qca hi]
 refine qqm cl cs rfl hi ok fun H1 p1=>?_
 walk_at "wp"
 refine (qo5 qab).mpr ?_
 rw [List.all_map]
 walk_at "wp"
 refine qa5 (b:=its.all It.good) (K:=fun b=>qb5 Φ _ _ _ _ _ !b) (fun hg=>?_) (fun hg=>?_)
 ·simp only [Bool.not_true]
  walk_at "wp"
  obtain ⟨ss,rfl,sg,good⟩:=qf8 ok.ok (yq hg)
  rw [qch] at hi
  rw [ya] at il
  have ssn:ss≠[]:=fun z=>ne (by rw [z];rfl)
  obtain ⟨n,b,rfl,rfl,n3,n20,b1,b30⟩:=qii hw hn
  refine rn _ _ (qiu 2 rfl fun R rr rx rn=>?_)
  generalize hH2:H1++[AObj.list _]=H2
  have p2:H<+:H2:=by rw [←hH2];exact p1.trans qaa
  rw [qwd]
  walk_at "wp"
  rw [qca (qac p2 hi)]
  refine qqi cs rfl (qac p2 hi) (by exact z325 il) sg fun H3 p3=>?_
  refine ⟨ss.map fun s=>(qbf s).1,qwa qab,by rw [ya];exact z326 il,fun ms nd pw mem=>?_⟩
  have pr:IsPr ss ms:=⟨qgw pw nd,fun q=>(mem q).trans ⟨fun z=>by
   obtain ⟨s,hs,e⟩:=yh z
   exact ⟨s,hs,e⟩,fun ⟨s,hs,e⟩=>yn ⟨s,hs,e⟩⟩⟩
  have fit:Fit (.int n) (.int b) (ss.map .slip) n b ss ms:=⟨rfl,rfl,n3,n20,b1,b30,rfl,ssn,good,pr⟩
  have p4:H<+:H3++[AObj.list ((ss.map fun s=>(qbf s).1).map AV.int)]++[AObj.list (ms.map AV.int)]:=p2.trans (p3.trans (qaa.trans qaa))
  exact rn _ _ (quc ct ch cm cc ⟨n3,n20,b1,b30,by exact z325 il,sg,ssn,good,pr⟩ (qac p4 hi) qab (fun H' hh p=>hx _ _ (.held fit hh) (p4.trans p)) fun rs H' hh hc p=>hq _ _ (.made fit hh hc) (p4.trans p))
 ·simp only [Bool.not_false]
  refine noslip (.inr ?_) _ _ (p1.trans qaa)
  obtain ⟨it,h1,h2⟩:=List.all_eq_false.mp hg
  exact ⟨it,h1,by simpa using h2⟩
theorem grown (cw:SWh "is_whole" Φ) (cl:qrx Φ) (cs:qo9 Φ) (ct:qk2 Φ) (ch:qde "holds" Φ) (cm:SMer Φ) (cc:SCut Φ){vn vb:AV}{its:List It}{Q:PQ}{X:XP}(hi:H[i]?=some (.list (its.map It.av))) (ok:ItsOK its) (hw:∀ n,vn=.int n->n<=10^20\/10^30<n)
  (hx:∀ w H',Due vn vb its (.word w)->H<+:H'->X w H') (hq:∀ rs H',Due vn vb its (.rows rs)->H<+:H'->Q (slA rs) H'):wpFX Φ qeu [vn,vb,.ref i] H Q X:=by
 have il:=ok.len
 refine ⟨rfl,?_⟩
 show wpSs Φ (qeu.body.drop 0) [some vn,some vb,some (.ref i),none,none] H (endX Q X)
 refine qiu 0 rfl fun R rr rx rn=>?_
 walk_at "wp"
 refine cw vn 3 _ H _ ?_
 walk_at "wp"
 have nonum:numB vn vb=false->∀ (loc:Loc),wpSs Φ [.raise "NoNumber" [.cst (.str "no number, or no base")]] loc H R:=fun z loc=>by
  walk_at "wp"
  rw [qg9]
  walk_at "wp"
  exact ⟨ye rfl,rx _ _ _ (hx _ _ (.num z) List.prefix_rfl)⟩
 have numT:numB vn vb=true->wpSs Φ (qeu.body.drop 1) [some vn,some vb,some (.ref i),none,none] H (endX Q X):=?rest
 ·refine qa5 (K:=fun b=>kOrB Φ _ _ _ _ !b) (fun h1=>?_) (fun h1=>?_)
  ·simp only [Bool.not_true]
   walk_at "wp"
   refine cw vb 1 _ H _ ?_
   walk_at "wp"
   refine qa5 (K:=fun b=>qb5 Φ _ _ _ _ _ !b) (fun h2=>?_) (fun h2=>?_)
   ·simp only [Bool.not_true]
    walk_at "wp"
    exact rn _ _ (numT (by unfold numB;rw [show whB vn 3 BIG=true from h1,show whB vb 1 BIG=true from h2];rfl))
   ·simp only [Bool.not_false]
    exact nonum (by unfold numB;rw [show whB vb 1 BIG=false from h2,Bool.and_false]) _
  ·simp only [Bool.not_false]
   exact nonum (by unfold numB;rw [show whB vn 3 BIG=false from h1,Bool.false_and]) _
 exact fun hn=>qud cl cs ct ch cm cc hi ok hw hn hx hq
end
section
open PySem
noncomputable def ws3:List Str:=["NoNumber", "NoSlip", "NotHeld"]
theorem Due.in3 {vn vb:AV}{its:List It}{w:Str}(h:Due vn vb its (.word w)):w∈ws3:=by
 generalize hr:Res.word w=r at h
 cases h with
 | num _=>injection hr with e;rw [e];exact .head _
 | slip _ _=>injection hr with e;rw [e];exact .tail _ (.head _)
 | held _ _=>injection hr with e;rw [e];exact .tail _ (.tail _ (.head _))
 | made _ _ _=>cases hr
noncomputable def RGr:qpe:=fun args H Q X=>∃ vn vb its i,args=[vn,vb,.ref i]/\H[i]?=some (.list (its.map It.av))/\ItsOK its/\(∀ n,vn=.int n->n<=10^20\/10^30<n)/\(∀ w H',Due vn vb its (.word w)->H<+:H'->X w H')/\∀ rs H',Due vn vb its (.rows rs)->H<+:H'->Q (slA rs) H'
noncomputable def hdG (c:Str):Option (List Str):=if ws3.contains c then some [c] else none
def ResV (H:Hp) (r:Res) (v:AV):Prop:=match r with
 | .rows rs=>v=.tup [slA rs]
 | .word w=>∃ j,v=.ref j/\H[j]?=some (.list [.str w])
def SAns (nm:Str) (Φ:Fun):Prop:=∀ (vn vb:AV) (its:List It) (i:Nat) (H:Hp) (Q:PQ),H[i]?=some (.list (its.map It.av))->ItsOK its->(∀ n,vn=.int n->n<=10^20\/10^30<n)->(∀ r H' v,Due vn vb its r->H<+:H'->ResV H' r v->Q v H')->Φ nm [vn,vb,.ref i] H Q
theorem told {vn vb:AV}{its:List It}{Q:PQ}(hi:H[i]?=some (.list (its.map It.av))) (ok:ItsOK its) (hw:∀ n,vn=.int n->n<=10^20\/10^30<n) (h:∀ r H' v,Due vn vb its r->H<+:H'->ResV H' r v->Q v H') :
  wpFX Φ (qer RGr hdG) [vn,vb,.ref i] H Q XF:=by
 refine ⟨rfl,?_⟩
 show wpSs Φ ((qer RGr hdG).body.drop 0) [some vn,some vb,some (.ref i),none,none] H (endX Q XF)
 refine qiu 0 rfl fun R rr rx rn=>?_
 refine ⟨fun i hi=>?_,?_⟩
 ·rcases yg hi with rfl|hi
  ·rfl
  ·rw [yb hi];rfl
 walk_at "wp"
 refine ⟨vn,vb,its,i,rfl,hi,ok,hw,fun w H' d p=>⟨[w],?_,?_⟩,fun rs H' d p=>?_⟩
 ·unfold hdG;rw [if_pos (by simpa using d.in3)]
 ·exact rr _ _ _ (h _ _ _ d (p.trans qaa) ⟨_,rfl,qab⟩)
 ·exact rr _ _ _ (h _ _ _ d p rfl)
noncomputable def qln (c:Str):List (Str×Bool):=[("Needed",false),("NoRow",false),("NoText",false),("ValueError",true),("NoNumber",c == "NoNumber"),("NoSlip",c == "NoSlip"),("NotHeld",c == "NotHeld")]
noncomputable def qlo (c:Str):List (Str×Bool):=[("Needed",false),("NoRow",false),("NoText",false),("NoNumber",c == "NoNumber"),("NoSlip",c == "NoSlip"),("NotHeld",c == "NotHeld")]
noncomputable def qza:List ClsQ:=[⟨"NoNumber",qlo "NoNumber",[("ValueError",true)],["SlipError"]⟩,⟨"NoSlip",qlo "NoSlip",[("ValueError",true)],["SlipError"]⟩,⟨"NotHeld",qlo "NotHeld",[("ValueError",true)],["SlipError"]⟩]
noncomputable def bmV:List Value:=[.type "ValueError",.type "Exception",.type "BaseException",.type "object"]
structure XiG (P:PEnv) (d:Nat):Prop where
 own:∀ c∈ws3,∃ D,PyProof.Rows.OwnCls c D bmV "ValueError.__new__" P.mg P.B
 set:qrw P
structure XiT (P:PEnv) (d:Nat):Prop where
 gr:∀ args H Q X,RGr args H Q X->qa2 P d "grown" args H Q X
 ct:∀ c∈ws3,qe4 P c "SlipError"
 is:∀ c∈ws3,∃ D,P.mg c=some (.ref D)/\IsF P D (qln c)
 gi:Glob P "int" (.type "int")
noncomputable def wOne (b:Bool) (w:Str):List Str:=if b then [w] else []
theorem qdv {b:Bool}{w:Str}:(wOne b w).length<=1:=by cases b<;>simp [wOne]
theorem qvq {P:PEnv}{C:Ctx}{x:Str}{D:Addr}{e1 e2:Expr}{b1 b2:Bool}{w1 w2:Str}{p:Pos}(h1:XLv P C d x D e1 (wOne b1 w1)) (h2:XLv P C d x D e2 (wOne b2 w2)):XLv P C d x D (.BinOp e1 .Add e2 p) (wOne b1 w1++wOne b2 w2) :=
 qvr h1 h2 (Nat.le_trans (Nat.add_le_add qdv qdv) (by decide))
theorem tryG {P:PEnv}{d:Nat}{C:Ctx}{c:Str}{l:List Str}{t e1 e2:Expr}{a:List Stmt}{p1 p2 p3 p4 p5 p6:Pos}(ξ:XiT P d) (e:hdG c=some l)
  (ht:∀ {D},IsF P D (qln c)->XT P C d "e" D t false) (h1:∀ {D},IsF P D (qln c)->XLv P C d "e" D e1 (wOne (c == "NoNumber") "NoNumber" ++ wOne (c == "NoSlip") "NoSlip")) (h2:∀ {D},IsF P D (qln c)->XLv P C d "e" D e2 (wOne (c == "NotHeld") "NotHeld"))
  (hw:C.names.lookup ("_law_words" : Str)=some .local) (hsw:∀ env,swapsWith e1 (some (.Name "_law_words" p2)) p3.line env=pure false) :
  qe4 P c "SlipError" /\ qhx P C d "e" ["_law_words"] [.If t a [] p1,.Assign [.Name "_law_words" p2] e1 p3,.Return (some (.BinOp (.Name "_law_words" p4) .Add e2 p5)) p6] c (fun fl H H2=>fl=.ret (.ref H.length)/\H2=H++[.list (l.map .str)]):=by
 have hc:c∈ws3:=by
  unfold hdG at e
  split at e
  ·rename_i z;simpa using z
  ·cases e
 have el:l=(wOne (c == "NoNumber") "NoNumber" ++ wOne (c == "NoSlip") "NoSlip")++wOne (c == "NotHeld") "NotHeld" := by
  unfold hdG at e
  rw [if_pos (by simpa using hc)] at e
  injection e with e
  rw [←e]
  clear e ht h1 h2
  rcases yg hc with rfl|hc
  ·decide +kernel
  ·rcases yg hc with rfl|hc
   ·decide +kernel
   ·rw [yb hc];decide +kernel
 refine ⟨ξ.ct c hc,?_⟩
 obtain ⟨D,hD,f⟩:=ξ.is c hc
 rw [el]
 exact qi6 hD (ht f) (h1 f) (h2 f) (by
  have:=@qdv (c == "NoNumber") "NoNumber";have:=@qdv (c == "NoSlip") "NoSlip";have:=@qdv (c == "NotHeld") "NotHeld"
  rw [List.length_append];(first|lia|omega)) hw (by decide +kernel) (by decide +kernel) hsw
end
section
open PySem
theorem qh1 {loc:Loc}{Q:PQ}{e:ME}{v:AV}{a:Int}(he:∀ Q:PQ,Q v H->wpE Φ e loc H Q) (q:Q (.bool !(whB v a BIG)) H) :
  wpE Φ (.or2 (.isi e .bool) (.or2 (.not (.isi e .int)) (.not (.cmp2 .le .le (.cst (.int a)) e (.bin .pow (.cst (.int 10)) (.cst (.int 30))))))) loc H Q:=by
 walk_at "wp"
 refine he _ ?_
 cases v with
 | int k =>
  simp only [k_isi,isi]
  walk_at "wp"
  refine he _ ?_
  simp only [k_isi,isi]
  walk_at "wp"
  refine he _ ?_
  walk_at "wp"
  refine qa7 (fun h1=>?_) (fun h1=>?_)
  ·walk_at "go"
   have e1:whB (.int k) a BIG=decide (k<=BIG):=by show (decide (a<=k)&&decide (k<=BIG))=_;rw [decide_eq_true h1,Bool.true_and]
   rw [e1] at q
   exact q
  ·walk_at "wp"
   have e1:whB (.int k) a BIG=false:=by show (decide (a<=k)&&decide (k<=BIG))=_;rw [decide_eq_false h1,Bool.false_and]
   rw [e1] at q
   exact q
 | bool k =>
  simp only [k_isi,isi]
  walk_at "wp"
  exact q
 | _ =>
  simp only [k_isi,isi]
  walk_at "wp"
  refine he _ ?_
  simp only [k_isi,isi]
  walk_at "wp"
  exact q
theorem qmk (cw:qhy Φ) (ct:qfc "_law_tells" Φ){loc:Loc}{Q:PQ}{e:ME}{it:It}(he:∀ H (Q:PQ),Q it.av H->wpE Φ e loc H Q) (ok:it.ok) (q:∀ H',H<+:H'->Q (.bool !it.good) H') :
  wpE Φ (.or2 (.not (.isi e .tuple)) (.or2 (.cmp .eq (.bi .len [e]) (.cst (.int 0))) (.or2 (.cmp .isNot (.call "_law_wrong" [e]) (.cst .none)) (.not (.call "_law_tells" [.idx e (.neg (.cst (.int 1)))]))))) loc H Q:=by
 walk_at "wp"
 refine he _ _ ?_
 cases it with
 | junk v =>
  have q0:Q (.bool true) H:=q H List.prefix_rfl
  cases v with
  | tup l =>
   have:l=[]:=ok l rfl
   subst this
   simp only [It.av,k_isi,isi]
   walk_at "wp"
   refine he _ _ ?_
   simp only [It.av]
   walk_at "go"
   exact q0
  | _ =>
   simp only [It.av,k_isi,isi]
   walk_at "wp"
   exact q0
 | slip rs =>
  have sg:SG rs:=ok
  have rl:rs.length<=63:=by have:=sg.len;exact z319 this
  have hm:(rs.map roP).length<=1000:=by rw [ya];(first|lia|omega)
  have hz:(rs.map roP).getLast?=some (roP (qbf rs)):=by rw [List.getLast?_map,sg.last.1];rfl
  simp only [It.av,slA,k_isi,isi]
  walk_at "wp"
  refine he _ _ ?_
  simp only [It.av,slA]
  walk_at "wp"
  refine ⟨by exact z98 hm,?_⟩
  rw [decide_eq_false (by rw [ya];have:=List.length_pos_iff.mpr sg.k.1;(first|lia|omega))]
  walk_at "wp"
  refine he _ _ ?_
  simp only [It.av,slA]
  walk_at "wp"
  refine cw 1 rs H _ rl sg.k.2.2.1 fun H2 p2=>?_
  walk_at "wp"
  refine qnt ?_
  refine qa5 (K:=fun b=>kOr Φ _ _ _ (.bool !b) _) (fun e1=>?_) (fun e1=>?_)
  ·simp only [Bool.not_true]
   walk_at "wp"
   refine he _ _ ?_
   simp only [It.av,slA]
   walk_at "wp"
   refine ql1 hm hz ?_
   walk_at "wp"
   refine ct (qbf rs).1 (qbf rs).2 H2 _ ?_
   walk_at "wp"
   have:(It.slip rs).good=(qbf rs).2.tells:=by show qdb rs=_;unfold qdb;rw [e1,Bool.true_and]
   rw [this] at q
   exact q H2 p2
  ·simp only [Bool.not_false]
   walk_at "wp"
   have:(It.slip rs).good=false:=by show qdb rs=_;unfold qdb;rw [e1,Bool.false_and]
   rw [this] at q
   exact q H2 p2
theorem qnx {n:Int}{f:Fc}{a b:List Int}(h:∀ q,q∈a↔q∈b):f.holds n a=f.holds n b:=by
 cases f with
 | prime x ps =>
  have:(fun p:Int×Int=>a.contains p.1)=fun p=>b.contains p.1:=by
   funext p;rw [Bool.eq_iff_iff];simp [h]
  simp only [Fc.holds,this]
 | _=>rfl
end
section
open PySem
theorem qgt {Q:PQ}{l:List Int}{q:Int}(hj:H[j]?=some (.list (l.map .int))) (h:Q (.bool !(l.contains q)) H):qbk .notIn (.int q) (.ref j) H Q:=qhj (K:=fun b=>Q (.bool !b) H) hj h
structure Sk (R:List Row) (n:Int) (nd0 U W:List Int):Prop where
 rch:∀ u∈U,Rch R n u
 wch:∀ w∈W,Rch R n w
 fst:∀ q∈nd0,q∈U\/q∈W
 done:∀ r∈R,r.1∈U->∀ q∈r.2.needs,q∈U\/q∈W
 nd:U.Nodup
theorem Sk.all {R:List Row}{row:Row}{U:List Int}(h:Sk R row.1 row.2.needs U []) (un:∀ r∈R,r.1=row.1->r=row){m q:Int}(z:Rch R m q) (hm:m=row.1):q∈U:=by
 have no:∀ {x:Int},x∈U\/x∈([]:List Int)->x∈U:=fun y=>y.resolve_right fun y=>by cases y
 induction z with
 | one hr hq=>rw [un _ hr hm] at hq;exact no (h.fst _ hq)
 | more _ hr hq ih=>exact no (h.done _ hr (ih hm) _ hq)
theorem Sk.old {R:List Row}{n:Int}{nd0 U W:List Int}{x:Int}(h:Sk R n nd0 U (W++[x])) (hx:x∈U):Sk R n nd0 U W:=by
 have mv:∀ {q:Int},q∈U\/q∈W++[x]->q∈U\/q∈W:=fun y=>y.elim .inl fun y=>(yd y).elim .inr fun y=>.inl (yb y▸hx)
 exact ⟨h.rch,fun w hw=>h.wch w (List.mem_append_left _ hw),fun q hq=>mv (h.fst q hq),fun r hr z q hq=>mv (h.done r hr z q hq),h.nd⟩
theorem Sk.new {R:List Row}{n:Int}{nd0 U W:List Int}{r:Row}(h:Sk R n nd0 U (W++[r.1])) (hr:r∈R) (un:∀ s∈R,s.1=r.1->s=r) (hx:r.1∉U):Sk R n nd0 (U++[r.1]) (W++r.2.needs):=by
 have hc:=h.wch r.1 (by simp)
 have mv:∀ {q:Int},q∈U\/q∈W++[r.1]->q∈U++[r.1]\/q∈W++r.2.needs:=fun y=>y.elim (fun y=>.inl (List.mem_append_left _ y)) fun y=>(yd y).elim (fun y=>.inr (List.mem_append_left _ y)) fun y=>.inl (List.mem_append_right _ y)
 refine ⟨fun u hu=>?_,fun w hw=>?_,fun q hq=>mv (h.fst q hq),fun s hs z q hq=>?_,?_⟩
 ·rcases yd hu with z|z
  ·exact h.rch u z
  ·rw [yb z];exact hc
 ·rcases yd hw with z|z
  ·exact h.wch w (List.mem_append_left _ z)
  ·exact .more hc hr z
 ·rcases yd z with z|z
  ·exact mv (h.done s hs z q hq)
  ·rw [un s hs (yb z)] at hq
   exact .inr (List.mem_append_right _ hq)
 ·rw [List.nodup_append]
  exact ⟨h.nd,by simp,fun a ha b hb e=>hx (by rw [←yb hb,←e];exact ha)⟩
theorem qnh {n:Int}{f:Fc}(h:RoK 1 n f):f.needs.length<=11:=by
 cases f with
 | prime b ps=>have:ps.length<=10+1:=h.2.2.2.2.1.2.1;simp only [Fc.needs,ya];exact z327 this
 | _=>simp [Fc.needs]
noncomputable def qwc:MS:=.whl (.cmp .gt (.bi .len [.loc 9]) (.cst (.int 0))) [.asg 10 (.meth .pop (.loc 9) []),
  .ite (.cmp .notIn (.loc 10) (.loc 8)) [.expr (.meth .append (.loc 8) [.loc 10]),
   .expr (.meth .extend (.loc 9) [.call "_law_needs" [.idx (.loc 7) (.loc 10)]])] []]
theorem qwb {Φ:Fun}(cn:qef "_law_needs" Φ){F:List Row}{row:Row}{a0 a1 a2 a3 a4 a5 a6 a10:Option AV}{i7 i8 i9:Nat}{W:List Int}{H0 H:Hp}{R:PF}(nf:(F.map (·.1)).Nodup) (fl:F.length<=60) (fok:∀ r∈F,RoK 1 r.1 r.2) (fn:∀ r∈F,r.1≠row.1)
  (key:∀ {q},Rch (F++[row]) row.1 q->q∈F.map (·.1)) (sk:Sk (F++[row]) row.1 row.2.needs [] W) (wl:W.length<=6) (p:H0<+:H) (g7:H[i7]?=some (.dict (byR F))) (g8:H[i8]?=some (.list [])) (g9:H[i9]?=some (.list (W.map .int))) (h8:H0.length<=i8) (h9:H0.length<=i9) (n78:i7≠i8) (n79:i7≠i9) (n89:i8≠i9)
  (h:∀ (U:List Int) (o10:Option AV) (H':Hp),U.Nodup->(∀ q,q∈U↔Rch (F++[row]) row.1 q)->U.length<=60->H0<+:H'->H'[i7]?=some (.dict (byR F))->H'[i8]?=some (.list (U.map .int))->R .next [a0,a1,a2,a3,a4,a5,a6,some (.ref i7),some (.ref i8),some (.ref i9),o10] H') :
  wpS Φ qwc [a0,a1,a2,a3,a4,a5,a6,some (.ref i7),some (.ref i8),some (.ref i9),a10] H R:=by
 have un:∀ {r s:Row},r∈F->s∈F++[row]->s.1=r.1->s=r:=fun {r s} hr hs e=>by
  rcases yd hs with z|z
  ·rw [←qb9 nf z,←qb9 nf hr,e]
  ·rw [yb z] at e;exact absurd e.symm (fn r hr)
 have unr:∀ r∈F++[row],r.1=row.1->r=row:=fun r hr e=>by
  rcases yd hr with z|z
  ·exact absurd e (fn r z)
  ·exact yb z
 unfold qwc
 refine qen (fun t loc H'=>∃ (U W:List Int) (o10:Option AV),Sk (F++[row]) row.1 row.2.needs U W/\(F.length-U.length)*20+W.length=t/\W.length<=6+11*U.length/\U.length<=F.length/\H0<+:H'/\H'[i7]?=some (.dict (byR F))/\H'[i8]?=some (.list (U.map .int))/\H'[i9]?=some (.list (W.map .int)) /\
  loc=[a0,a1,a2,a3,a4,a5,a6,some (.ref i7),some (.ref i8),some (.ref i9),o10]) _ ⟨[],W,a10,sk,rfl,by simpa using wl,by simp,p,g7,g8,g9,rfl⟩ ?_
 clear sk wl p g7 g8 g9 W H
 rintro t loc H ⟨U,W,o10,sk,et,wl,ul,p,g7,g8,g9,rfl⟩
 walk_at "wp"
 refine qc1 g9 (by rw [ya];exact z328 fl wl ul) ?_
 rw [ya]
 walk_at "wp"
 refine qa7 (fun h1=>?_) (fun h1=>?_)
 ·have hW:W≠[]:=by rintro rfl;simp at h1
  obtain ⟨W',x,rfl⟩:∃ W' x,W=W'++[x]:=⟨W.dropLast,W.getLast hW,(List.dropLast_concat_getLast hW).symm⟩
  rw [List.length_append,List.length_singleton] at wl et
  obtain ⟨r,hr,rfl⟩:=yh (key (sk.wch x (by simp)))
  have g9':H[i9]?=some (.list (W'.map .int++[.int r.1])):=by rw [g9];simp
  walk_at "wp"
  refine ⟨qa0 g9',?_⟩
  refine qm9 g9' (by rw [ya];exact z329 fl ul wl) ?_
  generalize hH1:H.set i9 (.list (W'.map .int))=H1
  have k7:H1[i7]?=some (.dict (byR F)):=by rw [←hH1,qaf (Ne.symm n79)];exact g7
  have k8:H1[i8]?=some (.list (U.map .int)):=by rw [←hH1,qaf (Ne.symm n89)];exact g8
  have k9:H1[i9]?=some (.list (W'.map .int)):=by rw [←hH1];exact qak g9
  have p1:H0<+:H1:=by rw [←hH1];exact qav p h9
  walk_at "wp"
  refine qgt k8 ?_
  walk_at "wp"
  refine qa5 (K:=fun b=>qb5 Φ _ _ _ _ _ !b) (fun e=>?_) (fun e=>?_)
  ·simp only [Bool.not_true]
   walk_at "wp"
   exact qaq _ (by exact z330 et) ⟨U,W',_,sk.old (by simpa using e),rfl,by exact Nat.le_of_succ_le wl,ul,p1,k7,k8,k9,rfl⟩
  ·simp only [Bool.not_false]
   have hu:r.1∉U:=by simpa using e
   have hrF:r∈F++[row]:=List.mem_append_left _ hr
   have sk':=sk.new hrF (fun s hs e=>un hr hs e) hu
   have ul':(U++[r.1]).length<=F.length:=by
    have:=qc5 sk'.nd fun q hq=>key (sk'.rch q hq)
    rwa [ya] at this
   rw [List.length_append,List.length_singleton] at ul'
   have nl:=qnh (fok r hr)
   walk_at "wp"
   refine ⟨qa0 k8,?_⟩
   refine qf7 k8 (by rw [ya];exact z331 fl ul) ?_
   generalize hH2:H1.set i8 (.list (U.map .int++[.int r.1]))=H2
   have m7:H2[i7]?=some (.dict (byR F)):=by rw [←hH2,qaf (Ne.symm n78)];exact k7
   have m8:H2[i8]?=some (.list ((U++[r.1]).map .int)):=by rw [←hH2,qak k8];simp
   have m9:H2[i9]?=some (.list (W'.map .int)):=by rw [←hH2,qaf n89];exact k9
   have p2:H0<+:H2:=by rw [←hH2];exact qav p1 h8
   walk_at "wp"
   refine ⟨qa0 m9,?_⟩
   rw [qgy m7]
   refine ⟨roP r,by rw [(qcv nf (yn ⟨r,hr,rfl⟩)).1,qb9 nf hr],?_⟩
   walk_at "wp"
   refine cn 1 r.1 r.2 H2 _ (fok r hr) ?_
   walk_at "wp"
   have l9:i9<H2.length:=(yl m9).1
   refine qsf (qac qaa m9) qab (by rw [ya,ya];exact z332 fl wl ul' nl) ?_
   walk_at "wp"
   refine qaq ((F.length-(U++[r.1]).length)*20+(W'++r.2.needs).length) (by rw [List.length_append,List.length_append,List.length_singleton];exact z333 et ul' nl) ⟨U++[r.1],W'++r.2.needs,_,sk',rfl,by rw [List.length_append,List.length_append,List.length_singleton];exact z334 wl nl,by rw [List.length_append,List.length_singleton];exact z335 ul',qav (p2.trans qaa) h9,?_,?_,?_,rfl⟩
   ·rw [qaf (Ne.symm n79)];exact qac qaa m7
   ·rw [qaf (Ne.symm n89)];exact qac qaa m8
   ·rw [qak (qac qaa m9)];simp
 ·have hW:W=[]:=by
   cases W with
   | nil=>rfl
   | cons w W=>exact absurd (by simp;try (first|lia|omega)) h1
  subst hW
  walk_at "wp"
  exact h U o10 H sk.nd (fun q=>⟨fun z=>sk.rch q z,fun z=>sk.all unr z rfl⟩) (by exact Nat.le_trans ul fl) p g7 g8
end
section
open PySem
theorem quz {Q:PQ}{a:List Int}(hi:H[i]?=some (.list (a.map .int))) (hj:H[j]?=some (.list [])) (q:Q (.bool (decide (a=[]))) H):qbk .eq (.ref i) (.ref j) H Q:=qu0 (b:=[]) hi hj q
theorem qsa {Q:PQ}(h:H[i]?=some (.list l)) (hn:l.length<=1000) (q:Q (.ref H.length) (H++[.list l])):wpBi .list [.ref i] H Q:=by
 rw [qw3 h];exact ⟨szL hn,q⟩
theorem qtb {loc:Loc}{Q:PQ}{F:List Row}{ms:List Int}{elt:ME}(hj:H[j]?=some (.dict (byR F))) (nd:(F.map (·.1)).Nodup) (hp:∀ x∈ms,x∈F.map (·.1)) (ml:ms.length<=1000) (hk:H[k]?=some (.list (ms.map .int)))
  (he:∀ (H':Hp) (x:Int) (Q:PQ),qbm (.ref j) (.int x) H' Q->wpE Φ elt (loc++[some (.int x)]) H' Q)
  (q:∀ H',H<+:H'->Q (.ref H'.length) (H'++[.list ((ms.map (qcs F)).map roP)])):qgp Φ false 1 elt [] loc Q (ms.map .int) (fun H'=>H'[k]?=some (.list (ms.map .int))) H:=by
 refine qbh AV.int (fun x=>roP (qcs F x)) ms (szL ml) (fun H' p=>qac p hk) (fun H' p x hx=>?_) fun H' p=>?_
 ·refine ⟨[.int x],rfl,fun Q' q'=>he H' x Q' ?_⟩
  rw [qgy (qac p hj)]
  exact ⟨_,(qcv nd (hp x hx)).1,q' H' List.prefix_rfl⟩
 ·have:=q H' p
  rw [List.map_map] at this
  exact this
theorem qy6 (cl:qpc Φ) (cn:qef "_law_needs" Φ){n b:Int}{ss:List (List Row)}{ps pr:List Int}{a4 a5:Option AV}{Q:PQ}(g:Grw n b ss ps) (dv:∀ p∈ps,(n-1)%p=0) (hi:H[i]?=some (.list (ss.map slA))) (hj:H[j]?=some (.list (pr.map .int))) (pl:pr.length<=6) (pm:∀ q,q∈pr↔q∈ps)
  (hq:∀ rs H',Cutd ss (rowG n b ps) rs->H<+:H'->Q (.tup [slA rs]) H'):wpSs Φ (qcd.body.drop 8) [some (.int n),some (.int b),some (.ref i),some (.ref j),a4,a5,some (roP (rowG n b ps)),none,none,none,none] H (qa8 Q):=by
 have ssb:ss.flatten.length<=60:=g.ssb
 have fl:=qc9 ss.flatten
 refine qam 8 rfl fun R rr rn=>?_
 walk_at "wp"
 refine cl i ss H _ hi g.ssb ?_
 walk_at "wp"
 refine rn _ _ (qam 9 rfl fun R rr rn=>?_)
 generalize hH1:H++[AObj.dict (byR (qan ss.flatten))]=H1
 have l1:H1.length=H.length+1:=by rw [←hH1];simp
 have p1:H<+:H1:=by rw [←hH1];exact qaa
 have g7:H1[H.length]?=some (.dict (byR (qan ss.flatten))):=by rw [←hH1];exact qab
 walk_at "go"
 refine rn _ _ (qam 10 rfl fun R rr rn=>?_)
 generalize hH2:H1++[AObj.list []]=H2
 have l2:H2.length=H1.length+1:=by rw [←hH2];simp
 have p2:H1<+:H2:=by rw [←hH2];exact qaa
 have g8:H2[H1.length]?=some (.list []):=by rw [←hH2];exact qab
 walk_at "wp"
 refine qsa (qac (p1.trans p2) hj) (by rw [ya];exact z318 pl) ?_
 walk_at "wp"
 refine rn _ _ (qam 11 rfl fun R rr rn=>?_)
 have nds:(rowG n b ps).2.needs=ps:=by
  show (qb3 n ps).map (·.1)=ps
  rw [qb3,List.map_map]
  exact List.map_id' ps
 refine qwb (H0:=H) (row:=rowG n b ps) (F:=qan ss.flatten) (W:=pr) cn (qcg _) (by exact Nat.le_trans fl ssb) (fun r hr=>?_) (fun r hr=>Int.ne_of_lt (g.top dv hr)) (fun z=>g.key z) ⟨(fun u hu=>by cases hu),fun w hw=>?_,fun q hq=>.inr ?_,(fun r hr z=>by cases z),List.nodup_nil⟩ pl (p1.trans (p2.trans qaa)) (qac (p2.trans qaa) g7) (qac qaa g8) qab (by exact Nat.le.intro (id (Eq.symm l1))) (by exact z300 l1 l2) (by exact z301 l1) (by exact z302 l1 l2) (by exact z301 l2) fun U o10 H' nd um ul p' k7 k8=>?_
 ·obtain ⟨s,hs,hrs⟩:=qc8 hr
  exact (g.sg s hs).k.2.2.1 r hrs
 ·exact .one (r:=rowG n b ps) (List.mem_append_right _ (by simp)) (by rw [nds];exact (pm w).mp hw)
 ·rw [nds] at hq;exact (pm q).mpr hq
 refine rn _ _ (qam 12 rfl fun R rr rn=>?_)
 walk_at "wp"
 refine qi9 k8 (by exact z284 ul) fun ms hp hs=>?_
 walk_at "wp"
 rw [qca qab]
 have ml:ms.length=U.length:=hp.length_eq
 refine qtb (F:=qan ss.flatten) (qac qaa k7) (qcg _) (fun x hx=>g.key ((um x).mp (hp.mem_iff.mp hx))) (by exact z336 ul ml) qab (fun H2 x Q' q=>by walk_at "wp";exact q) fun H3 p3=>?_
 walk_at "go"
 refine qc2 (qac qaa qab) qab (by rw [ya,ya];simp;exact z337 ul ml) ?_
 walk_at "wp"
 refine qe6 qab (by rw [List.length_append,ya,ya];simp;exact z337 ul ml) ?_
 walk_at "go"
 have e:AV.tup (((ms.map (qcs (qan ss.flatten))).map roP)++[roP (rowG n b ps)])=slA (ms.map (qcs (qan ss.flatten))++[rowG n b ps]):=by unfold slA;rw [List.map_append];rfl
 rw [e]
 exact rr _ _ _ (hq _ _ ⟨ms,qgw hs (hp.nodup_iff.mpr nd),fun q=>hp.mem_iff.trans (um q),rfl⟩ (p'.trans (qaa.trans (p3.trans (qaa.trans (qaa.trans qaa))))))
end
section
open PySem
theorem qtm {n:Int}{ps:List Int}(n3:3<=n) (p2:∀ p∈ps,2<=p/\p<=30000):((qb3 n ps).all fun p=>decide (p.2>0))=ps.all fun p=>decide ((n-1)%p=0):=by
 unfold qb3
 rw [List.all_map]
 have all_congr:∀ {l:List Int}{f g:Int->Bool},(∀ p∈l,f p=g p)->l.all f=l.all g:=fun {l f g} h=>by
  induction l with
  | nil=>rfl
  | cons x l ih=>rw [List.all_cons,List.all_cons,h x (by simp),ih fun p hp=>h p (by simp [hp])]
 refine all_congr fun p hp=>?_
 obtain ⟨z1,z2⟩:=qjd n3 (p2 p hp).1
 have h:=qr0 (d:=p.toNat) (n:=(n-1).toNat) (by have:=(p2 p hp).1;exact z310 this) (by exact z311 n3)
 show decide ((vl p.toNat (n-1).toNat:Int)>0)=_
 have e:(n-1)%p=(((n-1).toNat%p.toNat:Nat):Int):=by rw [Int.natCast_emod,z1,z2]
 rw [decide_eq_decide,e]
 exact z338 h
theorem qy7 (ct:qhz Φ) (ch:qde "_law_holds" Φ) (cl:qpc Φ) (cn:qef "_law_needs" Φ){n b:Int}{ss:List (List Row)}{pr:List Int}{a4:Option AV}{Q:PQ}(n3:3<=n) (n20:n<=10^20) (b1:1<=b) (b30:b<=10^30) (sl:ss.length<=6) (sg:∀ s∈ss,SG s) (good:∀ s∈ss,qdb s=true)
  (hi:H[i]?=some (.list (ss.map slA))) (hj:H[j]?=some (.list (pr.map .int))) (pn:pr.Nodup) (pm:∀ q,q∈pr↔∃ s∈ss,(qbf s).1=q)
  (hq:∀ r H' v,Due (.int n) (.int b) (ss.map .slip) r->H<+:H'->ResV H' r v->Q v H'):wpSs Φ (qcd.body.drop 4) [some (.int n),some (.int b),some (.ref i),some (.ref j),a4,none,none,none,none,none,none] H (qa8 Q):=by
 have pl:pr.length<=6:=by
  have h:=qc5 (F:=pr) (L:=ss.map fun s=>(qbf s).1) pn fun q hq=>by
   obtain ⟨s,hs,e⟩:=(pm q).mp hq
   exact yn ⟨s,hs,e⟩
  rw [ya] at h;exact Nat.le_trans h sl
 have nb:numB (.int n) (.int b)=true:=by
  show ((decide (3<=n)&&decide (n<=BIG))&&(decide (1<=b)&&decide (b<=BIG)))=true
  unfold BIG
  rw [decide_eq_true (by exact z339 n3),decide_eq_true (by exact z340 n20),decide_eq_true (by exact z209 b1),decide_eq_true (by exact Int.le_def.mpr b30)];rfl
 refine qam 4 rfl fun R rr rn=>?_
 walk_at "go"
 refine quz (qac qaa hj) qab ?_
 walk_at "wp"
 refine qa7 (fun h0=>?_) (fun h0=>?_)
 ·walk_at "go"
  have:ss=[]:=by
   cases ss with
   | nil=>rfl
   | cons s r=>have:=(pm _).mpr ⟨s,by simp,rfl⟩;rw [h0] at this;cases this
  exact rr _ _ _ (hq _ _ _ (.slip nb (.inl (by rw [this];rfl))) (qaa.trans qaa) ⟨_,rfl,qab⟩)
 have ssn:ss≠[]:=fun z=>h0 (List.eq_nil_iff_forall_not_mem.mpr fun q hq=>by
  obtain ⟨s,hs,_⟩:=(pm q).mp hq
  rw [z] at hs;cases hs)
 walk_at "wp"
 refine rn _ _ (qam 5 rfl fun R rr rn=>?_)
 generalize hH1:H++[AObj.list []]=H1
 have p1:H<+:H1:=by rw [←hH1];exact qaa
 walk_at "wp"
 refine qi9 (qac p1 hj) (by exact z326 pl) fun ps hp hs=>?_
 have il:ps.length=pr.length:=hp.length_eq
 have prr:IsPr ss ps:=⟨qgw hs (hp.nodup_iff.mpr pn),fun q=>hp.mem_iff.trans (pm q)⟩
 have g:Grw n b ss ps:=⟨n3,n20,b1,b30,sl,sg,ssn,good,prr⟩
 have fit:Fit (.int n) (.int b) (ss.map .slip) n b ss ps:=⟨rfl,rfl,n3,n20,b1,b30,rfl,ssn,good,prr⟩
 walk_at "wp"
 rw [qca qab]
 refine qbh (α:=Int) AV.int (fun p=>prAV (p,(vl p.toNat (n-1).toNat:Int))) ps (szL (by exact z341 pl il)) (fun H' p=>qac p qab) (fun H' p x hx=>⟨[.int x],rfl,fun Q' q'=>?_⟩) fun H3 p3=>?_
 ·simp only [lst]
  walk_at "wp"
  have x2:=g.p2 x hx
  obtain ⟨z1,z2⟩:=qjd n3 x2.1
  rw [←z1,←z2]
  refine ct (n-1).toNat x.toNat H' _ (by exact z311 n3) (by exact z322 n20) (by exact z323 x2) (by exact z324 x2) ?_
  walk_at "go"
  rw [z2]
  exact q' H' List.prefix_rfl
 walk_at "wp"
 refine qe6 qab (by rw [ya];exact z341 pl il) ?_
 have e2:(ps.map fun p=>prAV (p,(vl p.toNat (n-1).toNat:Int)))=(qb3 n ps).map prAV:=by rw [qb3,List.map_map];rfl
 rw [e2]
 generalize hH4:H3++[AObj.list ((qb3 n ps).map prAV)]=H4
 have p4:H<+:H4:=by rw [←hH4];exact p1.trans (qaa.trans (p3.trans qaa))
 walk_at "wp"
 refine rn _ _ (qam 6 rfl fun R rr rn=>?_)
 walk_at "go"
 refine rn _ _ (qam 7 rfl fun R rr rn=>?_)
 have pwl:(qb3 n ps).length<=6:=by rw [qb3,ya];exact le_of_eq_of_le il pl
 walk_at "wp"
 refine qbh (α:=Int×Int) prAV (fun p=>.bool (decide (p.2>0))) (qb3 n ps) (szL (by exact z318 pwl)) (fun H' p=>trivial) (fun H' p x hx=>⟨[.int x.1,.int x.2],rfl,fun Q' q'=>?_⟩) fun H5 p5=>?_
 ·simp only [lst]
  walk_at "wp"
  exact q' H' List.prefix_rfl
 have e1:((qb3 n ps).map fun p=>AV.bool (decide (p.2>0)))=((qb3 n ps).map fun p=>decide (p.2>0)).map .bool:=by rw [List.map_map];rfl
 rw [e1]
 walk_at "wp"
 refine (qo5 qab).mpr ?_
 rw [List.all_map]
 have e3:(qb3 n ps).all ((fun b=>b)∘fun p=>decide (p.2>0))=ps.all fun p=>decide ((n-1)%p=0):=qtm n3 g.p2
 rw [e3]
 generalize hH6:H5++[AObj.list _]=H6
 have p6:H<+:H6:=by rw [←hH6];exact p4.trans (p5.trans qaa)
 have notheld:∀ (H':Hp) (loc:Loc),qhk n b ps=false->H<+:H'->wpSs Φ [.ret (.lst [.cst (.str "NotHeld")])] loc H' R:=fun H' loc hh p=>by
  walk_at "go"
  exact rr _ _ _ (hq _ _ _ (.held fit hh) (p.trans qaa) ⟨_,rfl,qab⟩)
 walk_at "wp"
 refine qa5 (K:=fun b=>kOr Φ _ _ _ (.bool !b) _) (fun hd=>?_) (fun hd=>?_)
 ·simp only [Bool.not_true]
  walk_at "wp"
  have dv:=qo2 hd
  refine ch 1 j n (rowG n b ps).2 pr H6 _ (qac p6 hj) (g.rok dv) fun H7 p7=>?_
  rw [qnx (fun q=>(hp.mem_iff (a:=q)).symm),←qnz hd]
  walk_at "wp"
  refine qa5 (K:=fun b=>qb5 Φ _ _ _ _ _ !b) (fun hh=>?_) (fun hh=>?_)
  ·simp only [Bool.not_true]
   walk_at "wp"
   exact rn _ _ (qy6 cl cn g dv (qac (p6.trans p7) hi) (qac (p6.trans p7) hj) pl (fun q=>(hp.mem_iff (a:=q)).symm) fun rs H' hc p=>hq _ _ _ (.made fit hh hc) (p6.trans (p7.trans p)) rfl)
  ·simp only [Bool.not_false]
   exact notheld _ _ hh (p6.trans p7)
 ·simp only [Bool.not_false]
  exact notheld _ _ (qny hd) p6
end
section
open PySem
noncomputable def It.num:It->Int
 | .slip rs=>(qbf rs).1
 | .junk _=>0
theorem qy8 (cw:qhy Φ) (ce:qfc "_law_tells" Φ) (ct:qhz Φ) (ch:qde "_law_holds" Φ) (cl:qpc Φ) (cn:qef "_law_needs" Φ){vn vb:AV}{its:List It}{Q:PQ}(hi:H[i]?=some (.list (its.map It.av))) (ok:ItsOK its) (hw:∀ n,vn=.int n->n<=10^20\/10^30<n) (hn:numB vn vb=true)
  (hq:∀ r H' v,Due vn vb its r->H<+:H'->ResV H' r v->Q v H'):wpSs Φ (qcd.body.drop 2) [some vn,some vb,some (.ref i),none,none,none,none,none,none,none,none] H (qa8 Q):=by
 have il:=ok.len
 refine qam 2 rfl fun R rr rn=>?_
 walk_at "go"
 refine rn _ _ (qam 3 rfl fun R rr rn=>?_)
 walk_at "wp"
 rw [qca (qac qaa hi)]
 refine qao (fun t loc H'=>∃ (pr:List Int) (o4:Option AV),H<+:H'/\H'[H.length]?=some (.list (pr.map .int))/\pr.Nodup/\pr.length<=t/\t<=its.length/\(∀ it∈its.take t,it.good=true)/\(∀ q,q∈pr↔∃ it∈its.take t,it.num=q) /\
  loc=[some vn,some vb,some (.ref i),some (.ref H.length),o4,none,none,none,none,none,none]) ⟨[],none,qaa,qab,List.nodup_nil,Nat.le_refl _,Nat.zero_le _,(fun it h=>by simp at h),(fun q=>by simp),rfl⟩ ?_
 rintro t loc H' ⟨pr,o4,p,hj,pn,pl,tl,gd,pm,rfl⟩
 refine ⟨qac p hi,fun y hy=>?_,fun ht=>?_⟩
 ·rw [List.getElem?_map] at hy
  obtain ⟨it,hit,rfl⟩:=yf hy
  have hmem:=yc hit
  have iok:=ok.ok it hmem
  have tk:its.take (t+1)=its.take t++[it]:=by rw [List.take_add_one,hit];rfl
  have tl':t+1<=its.length:=(yl hit).1
  refine ⟨[it.av],rfl,?_⟩
  simp only [lst]
  rw [ss_cons,s_ite]
  refine qmk (e:=.loc 4) (it:=it) cw ce (fun H Q q=>by walk_at "wp";exact q) iok fun H2 p2=>?_
  refine qa5 (K:=fun b=>kIte Φ _ _ _ _ (.bool !b) _) (fun hg=>?_) (fun hg=>?_)
  ·simp only [Bool.not_true]
   walk_at "wp"
   cases it with
   | junk v=>cases hg
   | slip rs =>
    have sg:SG rs:=iok
    have rl:=sg.len
    have hm:(rs.map roP).length<=1000:=by rw [ya];(first|lia|omega)
    have hz:(rs.map roP).getLast?=some (roP (qbf rs)):=by rw [List.getLast?_map,sg.last.1];rfl
    have gd':∀ it∈its.take (t+1),it.good=true:=fun x hx=>by
     rw [tk] at hx
     rcases yd hx with z|z
     ·exact gd x z
     ·rw [yb z];exact hg
    have num':∀ q,(∃ it∈its.take (t+1),it.num=q)↔(q∈pr\/q=(qbf rs).1):=fun q=>by
     rw [tk,pm q]
     constructor
     ·rintro ⟨x,hx,e⟩
      rcases yd hx with z|z
      ·exact .inl ⟨x,z,e⟩
      ·rw [yb z] at e;exact .inr e.symm
     ·rintro (⟨x,hx,e⟩|e)
      ·exact ⟨x,List.mem_append_left _ hx,e⟩
      ·exact ⟨.slip rs,List.mem_append_right _ (by simp),e.symm⟩
    have hj2:=qac p2 hj
    simp only [It.av,slA]
    refine ql1 hm hz ?_
    walk_at "wp"
    refine qb2 ?_
    walk_at "wp"
    refine qgt hj2 ?_
    walk_at "wp"
    refine qa5 (K:=fun b=>qb5 Φ _ _ _ _ _ !b) (fun e=>?_) (fun e=>?_)
    ·simp only [Bool.not_true]
     walk_at "wp"
     have hin:(qbf rs).1∈pr:=by simpa using e
     exact qaj ⟨pr,_,p.trans p2,hj2,pn,by exact Nat.le_add_right_of_le pl,tl',gd',fun q=>by
      rw [num' q]
      exact ⟨.inl,fun z=>z.elim id fun z=>z▸hin⟩,rfl⟩
    ·simp only [Bool.not_false]
     have hni:(qbf rs).1∉pr:=by simpa using e
     walk_at "wp"
     refine ⟨qa0 hj2,?_⟩
     refine ql1 hm hz ?_
     walk_at "wp"
     refine qb2 ?_
     walk_at "wp"
     refine qf7 hj2 (by rw [ya];exact z342 il pl tl') ?_
     walk_at "wp"
     refine qaj ⟨pr++[(qbf rs).1],_,qav (p.trans p2) (Nat.le_refl _),by rw [qak hj2];simp,?_,by rw [List.length_append,List.length_singleton];exact Nat.add_le_add_right pl 1,tl',gd',fun q=>?_,rfl⟩
     ·rw [List.nodup_append]
      exact ⟨pn,by simp,fun a ha b hb e=>hni (by rw [←yb hb,←e];exact ha)⟩
     ·rw [num' q,List.mem_append,List.mem_singleton]
  ·simp only [Bool.not_false]
   walk_at "go"
   exact rr _ _ _ (hq _ _ _ (.slip hn (.inr ⟨it,hmem,hg⟩)) ((p.trans p2).trans qaa) ⟨_,rfl,qab⟩)
 ·have et:its.take t=its:=List.take_of_length_le (by rw [ht];simp)
  rw [et] at gd pm
  obtain ⟨ss,rfl,sg,good⟩:=qf8 ok.ok gd
  rw [qch] at hi
  rw [ya] at il
  obtain ⟨n,b,rfl,rfl,n3,n20,b1,b30⟩:=qii hw hn
  exact rn _ _ (qy7 ct ch cl cn n3 n20 b1 b30 il sg good (qac p hi) hj pn (fun q=>(pm q).trans ⟨fun ⟨x,hx,e⟩=>by
   obtain ⟨s,hs,rfl⟩:=yh hx
   exact ⟨s,hs,e⟩,fun ⟨s,hs,e⟩=>⟨.slip s,yn ⟨s,hs,rfl⟩,e⟩⟩) fun r H2 v d p2 hv=>hq r H2 v d (p.trans p2) hv)
theorem due (cw:qhy Φ) (ce:qfc "_law_tells" Φ) (ct:qhz Φ) (ch:qde "_law_holds" Φ) (cl:qpc Φ) (cn:qef "_law_needs" Φ){vn vb:AV}{its:List It}{Q:PQ}(hi:H[i]?=some (.list (its.map It.av))) (ok:ItsOK its) (hw:∀ n,vn=.int n->n<=10^20\/10^30<n)
  (hq:∀ r H' v,Due vn vb its r->H<+:H'->ResV H' r v->Q v H'):wpF Φ qcd [vn,vb,.ref i] H Q:=by
 ((refine ⟨rfl,?_⟩;simp only [lst,Nat.reduceSub,Nat.sub_self,List.replicate]))
 show wpSs Φ (qcd.body.drop 0) [some vn,some vb,some (.ref i),none,none,none,none,none,none,none,none] H (qa8 Q)
 refine qam 0 rfl fun R rr rn=>?_
 rw [s_ite]
 refine qh1 (v:=vn) (fun Q q=>by walk_at "wp";exact q) ?_
 refine qa5 (K:=fun b=>kIte Φ _ _ _ _ (.bool !b) _) (fun h1=>?_) (fun h1=>?_)
 ·simp only [Bool.not_true]
  walk_at "wp"
  refine rn _ _ (qam 1 rfl fun R rr rn=>?_)
  rw [s_ite]
  refine qh1 (v:=vb) (fun Q q=>by walk_at "wp";exact q) ?_
  refine qa5 (K:=fun b=>kIte Φ _ _ _ _ (.bool !b) _) (fun h2=>?_) (fun h2=>?_)
  ·simp only [Bool.not_true]
   walk_at "wp"
   exact rn _ _ (qy8 cw ce ct ch cl cn hi ok hw (by unfold numB;rw [h1,h2];rfl) hq)
  ·simp only [Bool.not_false]
   walk_at "go"
   exact rr _ _ _ (hq _ _ _ (.num (by unfold numB;rw [h2,Bool.and_false])) qaa ⟨_,rfl,qab⟩)
 ·simp only [Bool.not_false]
  walk_at "go"
  exact rr _ _ _ (hq _ _ _ (.num (by unfold numB;rw [h1,Bool.false_and])) qaa ⟨_,rfl,qab⟩)
end
section
open PySem
structure SC (rs:List Row):Prop where
 k:RsK 0 rs
 len:rs.length<=9
 num:∀ r∈rs,r.1<=20000
 wg:∀ r∈rs,∃ w:Nat,WG w/\r.1=w
theorem RsK.up1 {s:List Row}(h:RsK 0 s):RsK 1 s:=⟨h.1,h.2.1,fun r hr=>(h.2.2.1 r hr).up (by decide),h.2.2.2⟩
theorem SC.sg {rs:List Row}(h:SC rs):SG rs:=⟨h.k.up1,h.len,fun r hr=>by have:=h.num r hr;exact z343 this⟩
def qe2 (Φ:Fun):Prop:=∀ (w k n:Nat) (cs:List Int) (H:Hp) (Q:PQ),WG w->H[k]?=some (.list (cs.map .int))->qdu cs n->1<=n->n<=1000->(∀ rs H',SC rs->H<+:H'->Q (slA rs) H')->Φ "_law_slip_of" [.int w,.ref k] H Q
theorem qs9 (c:qpd Φ){w:Nat}{cs:List Int}{Q:PQ}(hw:WG w) (hk:H[k]?=some (.list (cs.map .int))) (hc:qdu cs n) (n1:1<=n) (hn:n<=1000) (h:∀ rs H',SC rs->H<+:H'->Q (slA rs) H'):wpF Φ qci [.int w,.ref k] H Q:=by
 have kl:k<H.length:=(yl hk).1
 obtain ⟨t1,t2,t3,t4,_⟩:=qvk hw
 ((refine ⟨rfl,?_⟩;simp only [lst,Nat.reduceSub,Nat.sub_self,List.replicate]))
 simp only [qci]
 walk_at "go"
 generalize hH1:H++[AObj.dict []]=H1
 have l1:H1.length=H.length+1:=by rw [←hH1];simp
 have p1:H<+:H1:=by rw [←hH1];exact qaa
 have g1:H1[H.length]?=some (.dict []):=by rw [←hH1];exact qab
 refine c (fun r=>r.tru/\∃ w:Nat,WG w/\r.num=w) 7 H.length H1.length k n [] [w] cs _ H _ (fun r _ t e=>⟨t,e⟩) (by decide) (qac qaa g1) qab (qac (p1.trans qaa) hk) hc n1 hn (by exact z301 l1) (by exact Ne.symm (Nat.ne_of_lt kl)) (by exact z344 kl l1) (p1.trans qaa) (Nat.le_refl _) (by exact Nat.le.intro (id (Eq.symm l1))) ⟨(fun e he=>by cases he),by simp [o2],fun x hx=>by rw [yb hx];exact hw,by simpa [n2] using t4,.inr (by simp),List.nodup_nil,fun _ r hr=>by cases hr⟩ (by simp;exact z345 t3) fun m rs H' D' p2 p3 p4 p5 _ _ _=>?_
 have rl:=p5.len
 walk_at "wp"
 refine qe6 p4 (by rw [ya];exact z346 rl) ?_
 rw [←qwg]
 walk_at "wp"
 refine h (rs.map Rw.ro) H' ⟨qwf (by decide) p5,by rw [ya];exact Nat.le_succ_of_le rl,fun r hr=>?_,fun r hr=>?_⟩ p2
 ·obtain ⟨x,hx,rfl⟩:=yh hr
  obtain ⟨_,w',g,e⟩:=p5.p x hx
  rw [qmv,e]
  have:=g.2;(first|lia|omega)
 ·obtain ⟨x,hx,rfl⟩:=yh hr
  obtain ⟨_,w',g,e⟩:=p5.p x hx
  exact ⟨w',g,by rw [qmv,e]⟩
theorem qre {loc:Loc}{Q:PQ}{t:Bool}{elt:ME}{items:List AV}{Cnd:Hp->Prop}(V:List Row->Prop) (hs:items.length<=sizeLine) (hc:∀ H',H<+:H'->Cnd H')
  (turn:∀ H',H<+:H'->∀ y∈items,∃ ws,qcr t n y=some ws/\∀ Q:PQ,(∀ rs H2,V rs->H'<+:H2->Q (slA rs) H2)->wpE Φ elt (loc++ws.map some) H' Q)
  (q:∀ (ss:List (List Row)) (H':Hp),(∀ s∈ss,V s)->ss.length=items.length->H<+:H'->Q (.ref H'.length) (H'++[.list (ss.map slA)])):qgp Φ t n elt [] loc Q items Cnd H:=by
 refine ⟨hs,fun i l H'=>H<+:H'/\∃ ss:List (List Row),l=ss.map slA/\ss.length=i/\∀ s∈ss,V s,⟨List.prefix_rfl,[],rfl,rfl,fun s h=>by cases h⟩,?_⟩
 rintro i l H' ⟨hp,ss,rfl,hl,hv⟩
 refine ⟨hc H' hp,fun y hy=>?_,fun e=>q ss H' hv (hl.trans e) hp⟩
 obtain ⟨ws,hu,h2⟩:=turn H' hp y (yc hy)
 refine ⟨ws,hu,?_⟩
 rw [cs_nil]
 show wpE Φ elt (loc++ws.map some) H' _
 refine h2 _ fun rs H2 v p2=>⟨hp.trans p2,ss++[rs],by rw [List.map_append];rfl,by rw [List.length_append,List.length_singleton,hl],fun s hs=>?_⟩
 rcases yd hs with z|z
 ·exact hv s z
 ·rw [yb z];exact v
theorem qq9 {y:AV}(h:y∈qds l):∃ (k:Nat) (x:AV),y=.tup [.int k,x]/\l[k]?=some x:=by
 obtain ⟨k,hk⟩:=List.getElem?_of_mem h
 rw [qhp] at hk
 obtain ⟨x,h1,h2⟩:=yf hk
 exact ⟨k,x,h2.symm,h1⟩
theorem qe1 {B:Int}{cs:List Int}(h:CellsB B cs n):CellsB B (cs.drop k) (n-k):=⟨by rw [List.length_drop,h.len],fun c hc=>h.bd c (List.mem_of_mem_drop hc)⟩
end
section
open PySem
def It.jk (H:Hp):It->Prop
 | .slip _=>True
 | .junk v=>v=.tup []\/v=.none\/v=.str "2 first" \/ v=.int 2\/∃ j rs,v=.ref j/\(H[j]?=some (.list (rs.map roP))\/H[j]?=some (.list [slA rs]))
structure Stt (ds cs:List Int) (ic is:Nat) (a way:Int) (H0 H:Hp):Prop where
 pre:H0<+:H
 cel:H[ic]?=some (.list (cs.map .int))
 ex:∃ its:List It,H[is]?=some (.list (its.map It.av))/\(∀ it∈its,it.ok)/\its.length<=5/\(∀ it∈its,it.jk H)/\(way∈ds\/∃ ss:List (List Row),its=ss.map It.slip/\(∀ s∈ss,SC s)/\ss.length<=4/\0<=a/\a<ss.length)
theorem qek {ds cs:List Int}{ic is:Nat}{a way v:Int}{a1:Option AV}{H0:Hp}{body:List MS}{R:PF}(hv:v∉ds) (st:Stt ds cs ic is a way H0 H)
  (fresh:∀ ss:List (List Row),way=v->H[is]?=some (.list (ss.map slA))->(∀ s∈ss,SC s)->ss.length<=4->0<=a->a<ss.length->(∀ H',Stt [v] cs ic is a way H0 H'->R .next [some (.ref ic),a1,some (.ref is),some (.int way),some (.int a),none] H')->wpSs Φ body [some (.ref ic),a1,some (.ref is),some (.int way),some (.int a),none] H R)
  (next:∀ H',Stt (v::ds) cs ic is a way H0 H'->R .next [some (.ref ic),a1,some (.ref is),some (.int way),some (.int a),none] H') :
  wpS Φ (.ite (.cmp .eq (.loc 3) (.cst (.int v))) body []) [some (.ref ic),a1,some (.ref is),some (.int way),some (.int a),none] H R:=by
 walk_at "wp"
 refine qa7 (fun e=>?_) (fun e=>?_)
 ·simp only [k_itet]
  obtain ⟨its,h1,h2,h3,h4,h5|⟨ss,rfl,h6,h7,h8,h9⟩⟩:=st.ex
  ·rw [e] at h5;exact absurd h5 hv
  ·rw [qch] at h1
   refine fresh ss e h1 h6 h7 h8 h9 fun H' s=>next H' ⟨s.pre,s.cel,?_⟩
   obtain ⟨its',k1,k2,k3,k4,k5⟩:=s.ex
   exact ⟨its',k1,k2,k3,k4,k5.imp (fun z=>by rw [yb z];exact List.mem_cons_self ..) id⟩
 ·walk_at "wp"
  refine next H ⟨st.pre,st.cel,?_⟩
  obtain ⟨its,h1,h2,h3,h4,h5⟩:=st.ex
  exact ⟨its,h1,h2,h3,h4,h5.imp (fun z=>yi _ z) id⟩
theorem qym {ss:List (List Row)}(h:∀ s∈ss,SC s):∀ it∈ss.map It.slip,it.ok:=fun it hi=>by
 obtain ⟨s,hs,rfl⟩:=yh hi
 exact (h s hs).sg
theorem qv7 {ss:List (List Row)}:∀ it∈ss.map It.slip,it.jk H:=fun it hi=>by
 obtain ⟨s,hs,rfl⟩:=yh hi
 exact trivial
theorem Stt.of {cs:List Int}{ic is:Nat}{a way:Int}{H0:Hp}{ss:List (List Row)}(pre:H0<+:H) (cel:H[ic]?=some (.list (cs.map .int))) (hs:H[is]?=some (.list (ss.map slA))) (sg:∀ s∈ss,SG s) (len:ss.length<=5):Stt [way] cs ic is a way H0 H :=
 ⟨pre,cel,ss.map .slip,by rw [qch];exact hs,fun it hi=>by
  obtain ⟨s,hs,rfl⟩:=yh hi
  exact sg s hs,by rw [ya];exact len,qv7,.inl (by simp)⟩
theorem qil {α β:Type}{f:α->β}:∀ {l:List α}{k:Nat},(l.map f).eraseIdx k=(l.eraseIdx k).map f
 | [],_=>rfl
 | x::l,0=>rfl
 | x::l,k+1=>by rw [List.map_cons,List.eraseIdx_cons_succ,List.eraseIdx_cons_succ,List.map_cons,qil]
theorem qhi {cs:List Int}(h:k<=cs.length):qag (cs.map AV.int) (some (k:Int)) none=(cs.drop k).map .int:=by
 rw [qai,qbz]
 congr 2
 exact Nat.min_eq_left h
theorem qtn {Q:PQ}{k:Int}(h:H[i]?=some (.list l)) (hn:l.length<=1000) (h0:0<=k) (h1:k<l.length) (q:∀ x,Q x (H.set i (.list (l.eraseIdx k.toNat)))):wpMt .pop (.ref i) [.int k] H Q:=by
 show onL (.ref i) H _
 rw [qdg h]
 exact ⟨szL hn,h0,by exact z347 hn h1,l[k.toNat]'(by exact (Int.toNat_lt h0).mpr h1),List.getElem?_eq_getElem _,q _⟩
theorem qsd {Q:PQ}{k:Int}{x:AV}(h:H[i]?=some (.list l)) (hn:l.length<=1000) (h0:0<=k) (h1:k<=l.length) (q:Q .none (H.set i (.list (l.take k.toNat++x::l.drop k.toNat)))):wpMt .insert (.ref i) [.int k,x] H Q:=by
 show onL (.ref i) H _
 rw [qdg h]
 exact ⟨szL hn,h0,h1,q⟩
theorem qyl {cs:List Int}{ic is:Nat}{a way:Int}{a1:Option AV}{H0:Hp}{R:PF}(hic:ic≠is) (h0:H0.length<=is) (st:Stt [] cs ic is a way H0 H) (next:∀ H',Stt [1] cs ic is a way H0 H'->R .next [some (.ref ic),a1,some (.ref is),some (.int way),some (.int a),none] H') :
  wpS Φ (.ite (.cmp .eq (.loc 3) (.cst (.int 1))) [.expr (.meth .pop (.loc 2) [.loc 4])] []) [some (.ref ic),a1,some (.ref is),some (.int way),some (.int a),none] H R:=by
 refine qek (by decide) st (fun ss e hs sc sl a0 a2 nx=>?_) next
 subst e
 walk_at "wp"
 refine ⟨qa0 hs,?_⟩
 refine qtn hs (by rw [ya];exact z348 sl) a0 (by rw [ya];exact a2) fun x=>?_
 rw [qil]
 walk_at "wp"
 have:=List.length_eraseIdx_le ss a.toNat
 exact nx _ (.of (qav st.pre h0) (by rw [qaf (Ne.symm hic)];exact st.cel) (qak hs) (fun s h=>(sc s (List.mem_of_mem_eraseIdx h)).sg) (by exact z349 sl this))
theorem qyk (co:qe2 Φ){cs:List Int}{ic is:Nat}{a way:Int}{a1:Option AV}{H0:Hp}{R:PF}(hc:qdu cs 13) (hic:ic≠is) (h0:H0.length<=is) (st:Stt [1] cs ic is a way H0 H) (next:∀ H',Stt [2,1] cs ic is a way H0 H'->R .next [some (.ref ic),a1,some (.ref is),some (.int way),some (.int a),none] H') :
  wpS Φ (.ite (.cmp .eq (.loc 3) (.cst (.int 2))) [.expr (.meth .append (.loc 2) [.call "_law_slip_of" [.idx (.lst [.cst (.int 2),.cst (.int 3),.cst (.int 5),.cst (.int 7),.cst (.int 11)]) (.bin .mod (.idx (.loc 0) (.cst (.int 9))) (.cst (.int 5))),.slc (.loc 0) [.cst (.int 2)] []]])] []) [some (.ref ic),a1,some (.ref is),some (.int way),some (.int a),none] H R:=by
 refine qek (by decide) st (fun ss e hs sc sl a0 a2 nx=>?_) next
 subst e
 have hl:=hc.len
 walk_at "go"
 refine ⟨qa0 hs,ye rfl,?_⟩
 refine qa9 (qac qaa st.cel) hc (by decide) (by decide) (by decide) fun c c0 c1=>?_
 walk_at "go"
 (simp only [qae,qal,Int.reduceLE])
 refine qbo qab (by (first|exact ye rfl|simp)) (by walk_at "om") (by (first|exact yk _ (by decide)|(simp;(first|lia|omega)))) fun z hz=>?_
 obtain ⟨w,rfl,wg⟩:∃ w:Nat,z=.int w/\WG w:=by
  simp only [List.mem_cons,List.not_mem_nil,or_false] at hz
  rcases hz with rfl|rfl|rfl|rfl|rfl
  ·exact ⟨2,rfl,by decide,.inl (by decide)⟩
  ·exact ⟨3,rfl,by decide,.inl (by decide)⟩
  ·exact ⟨5,rfl,by decide,.inl (by decide)⟩
  ·exact ⟨7,rfl,by decide,.inl (by decide)⟩
  ·exact ⟨11,rfl,by decide,.inl (by decide)⟩
 walk_at "wp"
 refine ⟨by decide,qei (qac qaa st.cel) ?_⟩
 walk_at "wp"
 refine ⟨szL (by rw [ya];exact z350 hl),?_⟩
 rw [show qag (cs.map AV.int) (some 2) none=(cs.drop 2).map .int from qhi (k:=2) (by exact z351 hl)]
 walk_at "wp"
 refine co w _ 11 (cs.drop 2) _ _ wg qab (qe1 (k:=2) hc) (by decide) (by decide) fun rs H' sc' p'=>?_
 have p1:H<+:H':=(qaa.trans qaa).trans p'
 walk_at "wp"
 refine qf7 (qac p1 hs) (by rw [ya];exact z348 sl) ?_
 walk_at "wp"
 refine nx _ (.of (ss:=ss++[rs]) (qav (st.pre.trans p1) h0) (by rw [qaf (Ne.symm hic)];exact qac p1 st.cel) (by rw [qak (qac p1 hs),List.map_append];rfl) (fun s h=>?_) (by rw [List.length_append,List.length_singleton];exact Nat.succ_le_succ sl))
 rcases yd h with z|z
 ·exact (sc s z).sg
 ·rw [yb z];exact sc'.sg
theorem qp3 {Q:PQ}{is:Nat}{ss:List (List Row)}{a:Int}(hs:H[is]?=some (.list (ss.map slA))) (sl:ss.length<=4) (a0:0<=a) (a2:a<ss.length) (q:∀ s∈ss,ss[a.toNat]?=some s->Q (slA s) H):qbm (.ref is) (.int a) H Q:=by
 have hz:ss[a.toNat]?=some (ss[a.toNat]'(by exact (Int.toNat_lt a0).mpr a2)):=List.getElem?_eq_getElem _
 refine qgx (l:=ss.map slA) (z:=slA (ss[a.toNat]'(by (first|lia|omega)))) (by simp [anyL,seqL,hs]) (by rw [ya];exact z352 sl) a0 (by rw [List.getElem?_map,hz];rfl) (q _ (List.getElem_mem _) hz)
theorem qyj (cp:qjw Φ){cs:List Int}{ic is:Nat}{a way:Int}{a1:Option AV}{H0:Hp}{R:PF}(hc:qdu cs 13) (hic:ic≠is) (h0:H0.length<=is) (st:Stt [2,1] cs ic is a way H0 H) (next:∀ H',Stt [3,2,1] cs ic is a way H0 H'->R .next [some (.ref ic),a1,some (.ref is),some (.int way),some (.int a),none] H') :
  wpS Φ (.ite (.cmp .eq (.loc 3) (.cst (.int 3))) [.sto (.loc 2) (.loc 4) (.bi .tuple [.call "_law_spoilt" [.bi .list [.idx (.loc 2) (.loc 4)],.idx (.loc 0) (.cst (.int 9)),.idx (.loc 0) (.cst (.int 10))]])] []) [some (.ref ic),a1,some (.ref is),some (.int way),some (.int a),none] H R:=by
 refine qek (by decide) st (fun ss e hs sc sl a0 a2 nx=>?_) next
 subst e
 have hl:=hc.len
 walk_at "wp"
 refine qp3 hs sl a0 a2 fun s hm hz=>?_
 have scs:=sc s hm
 have sl9:=scs.len
 unfold slA
 walk_at "wp"
 refine ⟨szL (by rw [ya];(first|lia|omega)),?_⟩
 walk_at "wp"
 refine qa9 (qac qaa st.cel) hc (by decide) (by decide) (by decide) fun c c0 c1=>?_
 walk_at "wp"
 refine qa9 (qac qaa st.cel) hc (by decide) (by decide) (by decide) fun d d0 d1=>?_
 walk_at "wp"
 refine cp 0 _ s c d _ _ qab scs.k (by decide) c0 d0 fun j rs' H' p' hj' rk nb=>?_
 have p1:H<+:H':=qaa.trans p'
 have l1:=nb.1
 walk_at "wp"
 refine qe6 hj' (by rw [ya];(first|lia|omega)) ?_
 walk_at "wp"
 have hs1:=qac p1 hs
 have sg':SG rs':=⟨rk,by (first|lia|omega),fun r hr=>by
  obtain ⟨y,hy,e⟩:=nb.2 r hr
  have:=scs.num y hy
  exact z353 e this⟩
 refine qmp hs1 (by rw [ya];exact z348 sl) a0 (by rw [ya];exact a2) ?_
 walk_at "wp"
 refine nx _ (.of (ss:=ss.set a.toNat rs') (qav (st.pre.trans p1) h0) (by rw [qaf (Ne.symm hic)];exact qac p1 st.cel) (by rw [qak hs1,List.map_set];rfl) (fun x hx=>?_) (by rw [List.length_set];exact Nat.le_succ_of_le sl))
 rcases List.mem_or_eq_of_mem_set hx with z|z
 ·exact (sc x z).sg
 ·rw [z];exact sg'
end
section
open PySem
theorem qur (h:k<40):WG (4+2*k):=by
 refine ⟨by exact z354,.inl (by exact z355 h)⟩
theorem qyi (co:qe2 Φ){cs:List Int}{ic is:Nat}{a way:Int}{a1:Option AV}{H0:Hp}{R:PF}(hc:qdu cs 13) (hic:ic≠is) (h0:H0.length<=is) (st:Stt [3,2,1] cs ic is a way H0 H) (next:∀ H',Stt [4,3,2,1] cs ic is a way H0 H'->R .next [some (.ref ic),a1,some (.ref is),some (.int way),some (.int a),none] H') :
  wpS Φ (.ite (.cmp .eq (.loc 3) (.cst (.int 4))) [.expr (.meth .insert (.loc 2) [.loc 4,.call "_law_slip_of" [.bin .add (.cst (.int 4)) (.bin .mul (.cst (.int 2)) (.bin .mod (.idx (.loc 0) (.cst (.int 9))) (.cst (.int 40)))),.loc 0]])] []) [some (.ref ic),a1,some (.ref is),some (.int way),some (.int a),none] H R:=by
 refine qek (by decide) st (fun ss e hs sc sl a0 a2 nx=>?_) next
 subst e
 have hl:=hc.len
 walk_at "wp"
 refine ⟨qa0 hs,?_⟩
 refine qa9 st.cel hc (by decide) (by decide) (by decide) fun c c0 c1=>?_
 walk_at "go"
 (simp only [qae,qal,Int.reduceLE])
 have c2:=Int.emod_nonneg c (show (40:Int)≠0 by decide)
 have c3:=yk c (show (0:Int)<40 by decide)
 generalize c%40=d at c2 c3
 obtain ⟨k,rfl⟩:=Int.eq_ofNat_of_zero_le c2
 have k40:k<40:=by exact Int.ofNat_lt.mp c3
 refine ⟨qdh (by exact z356 k40),?_⟩
 walk_at "go"
 have e4:(4:Int)+2*(k:Int)=((4+2*k:Nat):Int):=by exact z357
 rw [e4]
 refine co (4+2*k) ic 13 cs H _ (qur k40) st.cel hc (by decide) (by decide) fun rs H' sc' p1=>?_
 walk_at "wp"
 have hs1:=qac p1 hs
 refine qsd hs1 (by rw [ya];exact z348 sl) a0 (by rw [ya];exact Int.le_of_lt a2) ?_
 walk_at "wp"
 refine nx _ (.of (ss:=ss.take a.toNat++rs::ss.drop a.toNat) (qav (st.pre.trans p1) h0) (by rw [qaf (Ne.symm hic)];exact qac p1 st.cel) (by rw [qak hs1,List.map_append,List.map_cons,List.map_take,List.map_drop]) (fun x hx=>?_) (by rw [List.length_append,List.length_cons,List.length_take,List.length_drop];exact z358 sl))
 rcases yd hx with z|z
 ·exact (sc x (List.mem_of_mem_take z)).sg
 ·rcases yg z with z|z
  ·rw [z];exact sc'.sg
  ·exact (sc x (List.mem_of_mem_drop z)).sg
theorem qyh (co:qe2 Φ){cs:List Int}{ic is:Nat}{a way:Int}{a1:Option AV}{H0:Hp}{R:PF}(hc:qdu cs 13) (hic:ic≠is) (h0:H0.length<=is) (st:Stt [6,4,3,2,1] cs ic is a way H0 H) (next:∀ H',Stt [5,6,4,3,2,1] cs ic is a way H0 H'->R .next [some (.ref ic),a1,some (.ref is),some (.int way),some (.int a),none] H') :
  wpS Φ (.ite (.cmp .eq (.loc 3) (.cst (.int 5))) [.expr (.meth .append (.loc 2) [.call "_law_slip_of" [.idx (.idx (.idx (.loc 2) (.loc 4)) (.neg (.cst (.int 1)))) (.cst (.int 0)),.slc (.loc 0) [.cst (.int 1)] []]])] []) [some (.ref ic),a1,some (.ref is),some (.int way),some (.int a),none] H R:=by
 refine qek (by decide) st (fun ss e hs sc sl a0 a2 nx=>?_) next
 subst e
 have hl:=hc.len
 walk_at "wp"
 refine ⟨qa0 hs,?_⟩
 refine qp3 hs sl a0 a2 fun s hm hz=>?_
 have scs:=sc s hm
 have sl9:=scs.len
 have hzl:(s.map roP).getLast?=some (roP (qbf s)):=by rw [List.getLast?_map,scs.sg.last.1];rfl
 unfold slA
 walk_at "wp"
 refine ql1 (by rw [ya];(first|lia|omega)) hzl ?_
 walk_at "wp"
 refine qb2 ?_
 walk_at "wp"
 refine ⟨by decide,qei st.cel ?_⟩
 walk_at "wp"
 refine ⟨szL (by rw [ya];exact z350 hl),?_⟩
 rw [show qag (cs.map AV.int) (some 1) none=(cs.drop 1).map .int from qhi (k:=1) (by exact z359 hl)]
 walk_at "wp"
 obtain ⟨w,wg,ew⟩:=scs.wg _ scs.sg.last.2
 rw [ew]
 refine co w _ 12 (cs.drop 1) _ _ wg qab (qe1 (k:=1) hc) (by decide) (by decide) fun rs H' sc' p'=>?_
 have p1:H<+:H':=qaa.trans p'
 walk_at "wp"
 refine qf7 (qac p1 hs) (by rw [ya];exact z348 sl) ?_
 walk_at "wp"
 refine nx _ (.of (ss:=ss++[rs]) (qav (st.pre.trans p1) h0) (by rw [qaf (Ne.symm hic)];exact qac p1 st.cel) (by rw [qak (qac p1 hs),List.map_append];rfl) (fun s h=>?_) (by rw [List.length_append,List.length_singleton];exact Nat.succ_le_succ sl))
 rcases yd h with z|z
 ·exact (sc s z).sg
 ·rw [yb z];exact sc'.sg
theorem qyg {cs:List Int}{ic is:Nat}{a way:Int}{a1:Option AV}{H0:Hp}{R:PF}(hc:qdu cs 13) (hic:ic≠is) (h0:H0.length<=is) (st:Stt [4,3,2,1] cs ic is a way H0 H) (next:∀ H',Stt [6,4,3,2,1] cs ic is a way H0 H'->R .next [some (.ref ic),a1,some (.ref is),some (.int way),some (.int a),none] H') :
  wpS Φ (.ite (.cmp .eq (.loc 3) (.cst (.int 6))) [.expr (.meth .insert (.loc 2) [.loc 4,.idx (.lst [.tup [],.cst .none,.bi .list [.idx (.loc 2) (.loc 4)],.cst (.str "2 first"),.cst (.int 2),.lst [.idx (.loc 2) (.loc 4)]]) (.bin .mod (.idx (.loc 0) (.cst (.int 9))) (.cst (.int 6)))])] []) [some (.ref ic),a1,some (.ref is),some (.int way),some (.int a),none] H R:=by
 refine qek (by decide) st (fun ss e hs sc sl a0 a2 nx=>?_) next
 subst e
 have hl:=hc.len
 walk_at "go"
 refine ⟨qa0 hs,ye rfl,?_⟩
 refine qp3 hs sl a0 a2 fun s hm hz=>?_
 have sl9:=(sc s hm).len
 unfold slA
 walk_at "wp"
 refine ⟨szL (by rw [ya];(first|lia|omega)),?_⟩
 generalize hH1:H++[AObj.list (s.map roP)]=H1
 have p1:H<+:H1:=by rw [←hH1];exact qaa
 have g1:H1[H.length]?=some (.list (s.map roP)):=by rw [←hH1];exact qab
 have isl:is<H.length:=(yl hs).1
 refine qp3 (qac p1 hs) sl a0 a2 fun s' hm' hz'=>?_
 walk_at "go"
 generalize hH2:H1++[AObj.list [slA s']]=H2
 have p2:H1<+:H2:=by rw [←hH2];exact qaa
 have g2:H2[H1.length]?=some (.list [slA s']):=by rw [←hH2];exact qab
 have l1:H1.length=H.length+1:=by rw [←hH1];simp
 refine qa9 (qac ((p1.trans p2).trans qaa) st.cel) hc (by decide) (by decide) (by decide) fun c c0 c1=>?_
 walk_at "go"
 (simp only [qae,qal,Int.reduceLE])
 refine qbo qab (by (first|exact ye rfl|simp)) (by walk_at "om") (by (first|exact yk _ (by decide)|(simp;(first|lia|omega)))) fun z hz=>?_
 generalize hH3:H2++[AObj.list _]=H3
 have p3:H<+:H3:=by rw [←hH3];exact (p1.trans p2).trans qaa
 have hs3:=qac p3 hs
 have k1:H3[H.length]?=some (.list (s.map roP)):=by rw [←hH3];exact qac (p2.trans qaa) g1
 have k2:H3[H1.length]?=some (.list [slA s']):=by rw [←hH3];exact qac qaa g2
 walk_at "wp"
 refine qsd hs3 (by rw [ya];exact z348 sl) a0 (by rw [ya];exact Int.le_of_lt a2) ?_
 walk_at "wp"
 have jz:(It.junk z).ok/\∀ o,(It.junk z).jk (H3.set is o):=by
  simp only [List.mem_cons,List.not_mem_nil,or_false] at hz
  rcases hz with rfl|rfl|rfl|rfl|rfl|rfl
  ·exact ⟨fun l e=>by injection e with e;exact e.symm,fun o=>.inl rfl⟩
  ·exact ⟨(fun l e=>by cases e),fun o=>.inr (.inl rfl)⟩
  ·exact ⟨(fun l e=>by cases e),fun o=>.inr (.inr (.inr (.inr ⟨_,s,rfl,.inl (by rw [qaf (by exact Nat.ne_of_lt isl)];exact k1)⟩)))⟩
  ·exact ⟨(fun l e=>by cases e),fun o=>.inr (.inr (.inl rfl))⟩
  ·exact ⟨(fun l e=>by cases e),fun o=>.inr (.inr (.inr (.inl rfl)))⟩
  ·exact ⟨(fun l e=>by cases e),fun o=>.inr (.inr (.inr (.inr ⟨_,s',rfl,.inr (by rw [qaf (by exact z360 isl l1)];exact k2)⟩)))⟩
 have mem:∀ {it},it∈(ss.take a.toNat).map It.slip++It.junk z::(ss.drop a.toNat).map It.slip->it=.junk z\/∃ x∈ss,it=.slip x:=fun {it} hi=>by
  rcases yd hi with y|y
  ·obtain ⟨x,hx,rfl⟩:=yh y
   exact .inr ⟨x,List.mem_of_mem_take hx,rfl⟩
  ·rcases yg y with y|y
   ·exact .inl y
   ·obtain ⟨x,hx,rfl⟩:=yh y
    exact .inr ⟨x,List.mem_of_mem_drop hx,rfl⟩
 refine nx _ ⟨qav (st.pre.trans p3) h0,by rw [qaf (Ne.symm hic)];exact qac p3 st.cel,(ss.take a.toNat).map It.slip++It.junk z::(ss.drop a.toNat).map It.slip,?_,fun it hi=>?_,?_,fun it hi=>?_,.inl (by simp)⟩
 ·rw [qak hs3,List.map_append,List.map_cons,qch,qch,List.map_take,List.map_drop];rfl
 ·rcases mem hi with rfl|⟨x,hx,rfl⟩
  ·exact jz.1
  ·exact (sc x hx).sg
 ·rw [List.length_append,List.length_cons,ya,ya,List.length_take,List.length_drop];exact z358 sl
 ·rcases mem hi with rfl|⟨x,hx,rfl⟩
  ·exact jz.2 _
  ·exact trivial
end
section
open PySem
theorem qjr {H':Hp}(p:H<+:H'){it:It}(h:it.jk H):it.jk H':=by
 cases it with
 | slip _=>trivial
 | junk v=>exact h.imp id (.imp id (.imp id (.imp id fun ⟨j,rs,e,z⟩=>⟨j,rs,e,z.imp (qac p) (qac p)⟩)))
theorem qp0 (co:qe2 Φ){ic:Nat}{cs:List Int}{ps:List (Int×Int)}{Q:PQ}(hc:H[ic]?=some (.list (cs.map .int))) (cel:qdu cs 13) (pl:ps.length<=4) (pb:∀ p∈ps,2<=p.1/\p.1<=401)
  (h:∀ (ss:List (List Row)) (H':Hp),(∀ s∈ss,SC s)->ss.length=ps.length->H<+:H'->Q (.ref H'.length) (H'++[.list (ss.map slA)])) :
  wpE Φ (.comp true 2 (.call "_law_slip_of" [.loc 7,.slc (.loc 0) [.bin .mod (.loc 6) (.cst (.int 3))] []]) .enum [.comp true 2 (.loc 6) .plain [.loc 1] []] []) [some (.ref ic),some (psT ps),none,none,none,none] H Q:=by
 have hl:=cel.len
 unfold psT
 walk_at "wp"
 refine qbh (α:=Int×Int) prAV (fun p=>.int p.1) ps (szL (by exact z348 pl)) (fun H' p=>trivial) (fun H' p x hx=>⟨[.int x.1,.int x.2],rfl,fun Q' q'=>?_⟩) fun H1 p1=>?_
 ·simp only [lst]
  walk_at "wp"
  exact q' H' List.prefix_rfl
 walk_at "wp"
 rw [qti qab]
 have p2:H<+:H1++[AObj.list (ps.map fun p=>AV.int p.1)]:=p1.trans qaa
 refine qre SC (by rw [qea,ya];exact szL (by exact z348 pl)) (fun H' p=>qac p qab) (fun H' p' y hy=>?_) fun ss H' v sl p'=>h ss H' v (by rw [sl,qea,ya]) (p2.trans p')
 obtain ⟨k,x,rfl,hk⟩:=qq9 hy
 rw [List.getElem?_map] at hk
 obtain ⟨q,hq,rfl⟩:=yf hk
 have qb:=pb q (yc hq)
 refine ⟨[.int k,.int q.1],rfl,fun Q' q'=>?_⟩
 simp only [lst]
 walk_at "go"
 (simp only [qae,qal,Int.reduceLE])
 refine ⟨by exact z361,qei (qac (p2.trans p') hc) ?_⟩
 walk_at "wp"
 refine ⟨szL (by rw [ya];exact z350 hl),?_⟩
 have e3:(k:Int)%3=((k%3:Nat):Int):=by exact z362
 have k3:k%3<3:=Nat.mod_lt _ (by decide)
 rw [e3,qhi (by exact z363 hl)]
 walk_at "wp"
 have eq1:q.1=(q.1.toNat:Int):=(Int.toNat_of_nonneg (by exact z364 qb)).symm
 rw [eq1]
 exact co q.1.toNat _ (13-k%3) (cs.drop (k%3)) _ _ ⟨by exact z365 qb,.inl (by exact z366 qb)⟩ qab (qe1 cel) (by exact z367) (by exact z368) fun rs H2 sc p3=>q' rs H2 sc (qaa.trans p3)
def qo8 (Φ:Fun):Prop:=∀ (ic:Nat) (cs:List Int) (ps:List (Int×Int)) (H:Hp) (Q:PQ),H[ic]?=some (.list (cs.map .int))->qdu cs 13->ps≠[]->ps.length<=4->(∀ p∈ps,2<=p.1/\p.1<=401)->(∀ its H' j,H<+:H'->H'[j]?=some (.list (its.map It.av))->ItsOK its->(∀ it∈its,it.jk H')->Q (.ref j) H')->Φ "_law_slips" [.ref ic,psT ps] H Q
theorem slips (co:qe2 Φ) (cp:qjw Φ){ic:Nat}{cs:List Int}{ps:List (Int×Int)}{Q:PQ}(hc:H[ic]?=some (.list (cs.map .int))) (cel:qdu cs 13) (pn:ps≠[]) (pl:ps.length<=4) (pb:∀ p∈ps,2<=p.1/\p.1<=401)
  (h:∀ its H' j,H<+:H'->H'[j]?=some (.list (its.map It.av))->ItsOK its->(∀ it∈its,it.jk H')->Q (.ref j) H'):wpF Φ qdm [.ref ic,psT ps] H Q:=by
 have hl:=cel.len
 have p1:1<=ps.length:=List.length_pos_iff.mpr pn
 have icl:ic<H.length:=(yl hc).1
 ((refine ⟨rfl,?_⟩;simp only [lst,Nat.reduceSub,Nat.sub_self,List.replicate]))
 show wpSs Φ (qdm.body.drop 0) [some (.ref ic),some (psT ps),none,none,none,none] H (qa8 Q)
 refine qam 0 rfl fun R rr rn=>?_
 rw [s_asg]
 refine qp0 co hc cel pl pb fun ss H1 sc sl pp=>?_
 walk_at "wp"
 have q1:H<+:H1++[AObj.list (ss.map slA)]:=pp.trans qaa
 have hle:=pp.length_le
 refine rn _ _ (qam 1 rfl fun R rr rn=>?_)
 walk_at "wp"
 refine qa9 (qac q1 hc) cel (by decide) (by decide) (by decide) fun c c0 c1=>?_
 walk_at "go"
 refine rn _ _ (qam 2 rfl fun R rr rn=>?_)
 walk_at "wp"
 refine qa9 (qac q1 hc) cel (by decide) (by decide) (by decide) fun d d0 d1=>?_
 walk_at "go"
 refine qc1 qab (by rw [ya];exact z369 pl sl) ?_
 rw [ya,sl]
 walk_at "wp"
 refine ⟨by exact Int.natCast_ne_zero_iff_pos.mpr p1,?_⟩
 simp only [qae (show (0:Int)<=ps.length by exact z71),qae (show (0:Int)<=12 by decide),qal (show (0:Int)<=12 by decide)]
 have a0:=Int.emod_nonneg (d/12) (show (ps.length:Int)≠0 by exact Int.natCast_ne_zero_iff_pos.mpr p1)
 have a1:=yk (d/12) (show (0:Int)<ps.length by exact Int.natCast_pos.mpr p1)
 generalize d/12%ps.length=a at a0 a1
 generalize c%12=way
 have st:Stt [] cs ic H1.length a way H (H1++[AObj.list (ss.map slA)]):=⟨q1,qac q1 hc,ss.map .slip,by rw [qch];exact qab,qym sc,by rw [ya];exact z370 pl sl,qv7,.inr ⟨ss,rfl,sc,by exact le_of_eq_of_le sl pl,a0,by exact lt_of_lt_of_eq a1 (congrArg Nat.cast (id (Eq.symm sl)))⟩⟩
 refine rn _ _ (qam 3 rfl fun R rr rn=>?_)
 refine qyl (by exact z371 icl hle) hle st fun H3 st=>rn _ _ (qam 4 rfl fun R rr rn=>?_)
 refine qyk co cel (by exact z371 icl hle) hle st fun H3 st=>rn _ _ (qam 5 rfl fun R rr rn=>?_)
 refine qyj cp cel (by exact z371 icl hle) hle st fun H3 st=>rn _ _ (qam 6 rfl fun R rr rn=>?_)
 refine qyi co cel (by exact z371 icl hle) hle st fun H3 st=>rn _ _ (qam 7 rfl fun R rr rn=>?_)
 refine qyg cel (by exact z371 icl hle) hle st fun H3 st=>rn _ _ (qam 8 rfl fun R rr rn=>?_)
 refine qyh co cel (by exact z371 icl hle) hle st fun H3 st=>rn _ _ (qam 9 rfl fun R rr rn=>?_)
 obtain ⟨its,hi,iok,il,ij,_⟩:=st.ex
 have il2:(its.map It.av).length<=1000:=by rw [ya];exact z372 il
 walk_at "wp"
 refine qa9 st.cel cel (by decide) (by decide) (by decide) fun e e0 e1=>?_
 walk_at "wp"
 refine qc1 hi il2 ?_
 rw [ya]
 walk_at "go"
 have n0:(0:Int)<=1+its.length:=by exact z374
 simp only [qae n0]
 have t0:=Int.emod_nonneg e (show (1+its.length:Int)≠0 by exact z373)
 have t1:=yk e (show (0:Int)<1+its.length by exact z375)
 generalize e%(1+(its.length:Int))=t at t0 t1
 refine rn _ _ (qam 10 rfl fun R rr rn=>?_)
 walk_at "wp"
 refine ⟨by exact z376 t0,qei hi ?_⟩
 walk_at "wp"
 refine ⟨szL il2,?_⟩
 walk_at "wp"
 refine ⟨by exact z376 t0,qei (qac qaa hi) ?_⟩
 walk_at "wp"
 refine ⟨szL il2,?_⟩
 rw [qai,qai,qbz,qkh]
 refine qc2 (qac qaa qab) qab (by rw [ya,ya,List.length_drop,List.length_take];exact z377 il) ?_
 walk_at "wp"
 have mem:∀ {it},it∈its.drop (min t.toNat its.length)++its.take (min t.toNat its.length)->it∈its:=fun {it} hm=>(yd hm).elim List.mem_of_mem_drop List.mem_of_mem_take
 refine rr _ _ _ (h (its.drop (min t.toNat its.length)++its.take (min t.toNat its.length)) _ _ (st.pre.trans (qaa.trans (qaa.trans qaa))) (by rw [qab,List.map_append]) ⟨?_,fun it hm=>iok it (mem hm)⟩ fun it hm=>qjr (qaa.trans (qaa.trans qaa)) (ij it (mem hm)))
 rw [List.length_append,List.length_drop,List.length_take];exact z378 il
end
section
open PySem
noncomputable def prD (p:Int×Int):PyData:=.tuple [.int p.1,.int p.2]
theorem qm6 {ρ:Nat->Option PyData}:∀ {ps:List (Int×Int)},datRs ρ (ps.map prAV)=some (ps.map prD)/\PyData.eqvAll (ps.map prD) (ps.map prD)=true/\PyData.depthAll (ps.map prD)<=3
 | []=>⟨rfl,rfl,by simp [PyData.depthAll]⟩
 | p::ps=>by
  obtain ⟨h1,h2,h3⟩:=qm6 (ρ:=ρ) (ps:=ps)
  refine ⟨?_,?_,?_⟩
  ·simp only [List.map_cons,datRs,h1,prAV,datR,Option.bind_some,Option.map_some,prD]
  ·simp only [List.map_cons,PyData.eqvAll,h2,prD,PyData.eqv,beq_self_eq_true,Bool.and_self]
  ·simp only [List.map_cons,PyData.depthAll,prD,PyData.depth];exact z379 h3
theorem qr6 {ρ:Nat->Option PyData}(n:Int) (f:Fc):∃ d,datR ρ (roA n f)=some d/\PyData.eqv d d=true/\d.depth<=8:=by
 cases f with
 | prime b ps =>
  obtain ⟨h1,h2,h3⟩:=qm6 (ρ:=ρ) (ps:=ps)
  refine ⟨.tuple [.int n,.str "prime",.tuple [.int b,.tuple (ps.map prD)]],?_,?_,?_⟩
  ·simp only [roA,Fc.word,Fc.facts,psT,datR,datRs,h1,Option.bind_some,Option.map_some]
  ·simp only [PyData.eqv,PyData.eqvAll,h2,beq_self_eq_true,Bool.and_self]
  ·simp only [PyData.depth,PyData.depthAll];exact z380 h3
 | first=>exact ⟨.tuple [.int n,.str "first",.tuple []],rfl,by simp [PyData.eqv,PyData.eqvAll],by simp [PyData.depth,PyData.depthAll]⟩
 | split a b=>exact ⟨.tuple [.int n,.str "split",.tuple [.int a,.int b]],rfl,by simp [PyData.eqv,PyData.eqvAll],by simp [PyData.depth,PyData.depthAll]⟩
 | power b=>exact ⟨.tuple [.int n,.str "power",.tuple [.int b]],rfl,by simp [PyData.eqv,PyData.eqvAll],by simp [PyData.depth,PyData.depthAll]⟩
 | root b=>exact ⟨.tuple [.int n,.str "root",.tuple [.int b]],rfl,by simp [PyData.eqv,PyData.eqvAll],by simp [PyData.depth,PyData.depthAll]⟩
theorem qhw {α:Type}{f:α->AV}{ρ:Nat->Option PyData}{n:Nat}:∀ {l:List α},(∀ x∈l,∃ d,datR ρ (f x)=some d/\PyData.eqv d d=true/\d.depth<=n)->∃ ds,datRs ρ (l.map f)=some ds/\PyData.eqvAll ds ds=true/\PyData.depthAll ds<=n+1
 | [],_=>⟨[],rfl,rfl,by simp [PyData.depthAll]⟩
 | r::l,hf=>by
  obtain ⟨ds,h1,h2,h3⟩:=qhw (l:=l) fun x hx=>hf x (yi _ hx)
  obtain ⟨d,k1,k2,k3⟩:=hf r (List.mem_cons_self ..)
  refine ⟨d::ds,?_,?_,?_⟩
  ·simp only [List.map_cons,datRs,h1,k1,Option.bind_some,Option.map_some]
  ·simp only [PyData.eqvAll,h2,k2,Bool.and_self]
  ·simp only [PyData.depthAll];exact z381 h3 k3
theorem qmm {ρ:Nat->Option PyData}(s:List Row):∃ d,datR ρ (slA s)=some d/\PyData.eqv d d=true/\d.depth<=10:=by
 obtain ⟨ds,h1,h2,h3⟩:=qhw (f:=roP) (l:=s) fun r _=>qr6 (ρ:=ρ) r.1 r.2
 refine ⟨.tuple ds,?_,?_,?_⟩
 ·show (datRs ρ (s.map roP)).map PyData.tuple=_
  rw [h1];rfl
 ·show PyData.eqvAll ds ds=true
  exact h2
 ·simp only [PyData.depth];exact Nat.succ_le_succ h3
theorem qka (h:H[i]?=some (.list l)):rho H (k+1) i=(datRs (rho H k) l).map .list:=by
 show (match H[i]? with|some (.list l)=>(datRs (rho H k) l).map PyData.list|_=>none)=_
 rw [h]
theorem qwz {it:It}(h:it.jk H):∃ d,datR (rho H 3) it.av=some d/\PyData.eqv d d=true/\d.depth<=20:=by
 cases it with
 | slip rs =>
  obtain ⟨d,h1,h2,h3⟩:=qmm (ρ:=rho H 3) rs
  exact ⟨d,h1,h2,by exact z382 h3⟩
 | junk v =>
  rcases h with rfl|rfl|rfl|rfl|⟨j,rs,rfl,z|z⟩
  ·exact ⟨.tuple [],rfl,rfl,by simp [PyData.depth,PyData.depthAll]⟩
  ·exact ⟨.none,rfl,rfl,by simp [PyData.depth]⟩
  ·exact ⟨.str "2 first",rfl,by simp [PyData.eqv],by simp [PyData.depth]⟩
  ·exact ⟨.int 2,rfl,by simp [PyData.eqv],by simp [PyData.depth]⟩
  ·obtain ⟨ds,h1,h2,h3⟩:=qhw (f:=roP) (ρ:=rho H 2) (l:=rs) fun r _=>qr6 r.1 r.2
   refine ⟨.list ds,?_,h2,by simp only [PyData.depth];exact z383 h3⟩
   show rho H 3 j=_
   rw [qka z,h1];rfl
  ·obtain ⟨d,h1,h2,h3⟩:=qmm (ρ:=rho H 2) rs
   refine ⟨.list [d],?_,by simp [PyData.eqv,PyData.eqvAll,h2],by simp only [PyData.depth,PyData.depthAll];exact z384 h3⟩
   show rho H 3 j=_
   rw [qka z]
   simp only [datRs,h1,Option.bind_some,Option.map_some]
theorem qwn {Q:PQ}{its:List It}(hi:H[i]?=some (.list (its.map It.av))) (hj:H[j]?=some (.list (its.map It.av))) (jk:∀ it∈its,it.jk H) (q:Q (.bool false) H):qbk .ne (.ref i) (.ref j) H Q:=by
 obtain ⟨ds,h1,h2,h3⟩:=qhw (f:=It.av) (ρ:=rho H 3) (l:=its) fun it h=>qwz (jk it h)
 have e:∀ {k:Nat},H[k]?=some (.list (its.map It.av))->dat H (.ref k)=some (.list ds):=fun {k} hk=>by
  show rho H 4 k=_
  rw [qka hk,h1];rfl
 exact ⟨_,_,e hi,e hj,by simp only [PyData.depth];exact z385 h3,by show Q (.bool !PyData.eqvAll ds ds) H;rw [h2];exact q⟩
theorem qmz {r:Res}{v:AV}(h:ResV H r v):∃ d,(∀ v',ResV H r v'->dat H v'=some d)/\PyData.eqv d d=true/\d.depth<=20:=by
 cases r with
 | rows rs =>
  obtain ⟨d,h1,h2,h3⟩:=qmm (ρ:=rho H 4) rs
  refine ⟨.tuple [d],fun v' e=>?_,by simp [PyData.eqv,PyData.eqvAll,h2],by simp only [PyData.depth,PyData.depthAll];exact z384 h3⟩
  rw [show v'=.tup [slA rs] from e]
  show (datRs (rho H 4) [slA rs]).map PyData.tuple=_
  simp only [datRs,h1,Option.bind_some,Option.map_some]
 | word w =>
  refine ⟨.list [.str w],fun v' e=>?_,by simp [PyData.eqv,PyData.eqvAll],by simp [PyData.depth,PyData.depthAll]⟩
  obtain ⟨j,rfl,hj⟩:=e
  show rho H 4 j=_
  rw [qka hj];rfl
theorem qr9 {Q:PQ}{r:Res}{v v':AV}(h:ResV H r v) (h':ResV H r v') (q:Q (.bool false) H):qbk .ne v v' H Q:=by
 obtain ⟨d,h1,h2,h3⟩:=qmz h
 have k1:=h1 v h
 have k2:=h1 v' h'
 cases r with
 | rows rs =>
  have e:v=.tup [slA rs]:=h
  have e':v'=.tup [slA rs]:=h'
  subst e;subst e'
  exact ⟨d,d,k1,k2,by exact z386 h3,by rw [h2];exact q⟩
 | word w =>
  obtain ⟨j,rfl,_⟩:=h
  obtain ⟨j',rfl,_⟩:=h'
  exact ⟨d,d,k1,k2,by exact z386 h3,by rw [h2];exact q⟩
theorem qxo {Q:PQ}{r:Res}{v v':AV}(h:ResV H r v) (h':ResV H r v') (q:Q (.bool true) H):qbk .eq v v' H Q:=by
 obtain ⟨d,h1,h2,h3⟩:=qmz h
 have k1:=h1 v h
 have k2:=h1 v' h'
 cases r with
 | rows rs =>
  have e:v=.tup [slA rs]:=h
  have e':v'=.tup [slA rs]:=h'
  subst e;subst e'
  exact ⟨d,d,k1,k2,by exact z386 h3,by rw [h2];exact q⟩
 | word w =>
  obtain ⟨j,rfl,_⟩:=h
  obtain ⟨j',rfl,_⟩:=h'
  exact ⟨d,d,k1,k2,by exact z386 h3,by rw [h2];exact q⟩
theorem qha {H':Hp}(p:H<+:H'){r:Res}{v:AV}(h:ResV H r v):ResV H' r v:=by
 cases r with
 | rows rs=>exact h
 | word w=>obtain ⟨j,e,hj⟩:=h;exact ⟨j,e,qac p hj⟩
theorem ItsOK.rev {its:List It}(h:ItsOK its):ItsOK its.reverse:=⟨by rw [List.length_reverse];exact h.len,fun it hi=>h.ok it (List.mem_reverse.mp hi)⟩
theorem qyx (cd:SAns "_law_due" Φ) (cto:SAns "_law_told" Φ){vn vb:AV}{its:List It}{i5:Nat}{a0 a1 a3 a6:Option AV}{Q:PQ}(hi:H[i5]?=some (.list (its.map It.av))) (ok:ItsOK its) (jk:∀ it∈its,it.jk H) (hw:∀ n,vn=.int n->n<=10^20\/10^30<n) (h:∀ H',Q (.bool true) H') :
  wpSs Φ (qin.body.drop 10) [a0,a1,some vn,a3,some vb,some (.ref i5),a6,none,none,none] H (qa8 Q):=by
 have il:=ok.len
 refine qam 10 rfl fun R rr rn=>?_
 walk_at "wp"
 refine cd vn vb its i5 H _ hi ok hw fun r H1 v7 d1 p1 r7=>?_
 walk_at "wp"
 refine rn _ _ (qam 11 rfl fun R rr rn=>?_)
 walk_at "wp"
 refine qsa (qac p1 hi) (by rw [ya];exact z318 il) ?_
 walk_at "wp"
 refine rn _ _ (qam 12 rfl fun R rr rn=>?_)
 walk_at "wp"
 refine cto vn vb its _ _ _ qab ok hw fun r' H3 v9 d2 p3 r9=>?_
 have er:=d1.uniq d2
 subst er
 have p2:H1<+:H3:=qaa.trans p3
 have h8:=qac p3 (qab (H:=H1) (o:=AObj.list (its.map It.av)))
 have h5:=qac (p1.trans p2) hi
 have j3:∀ it∈its,it.jk H3:=fun it hm=>qjr (p1.trans p2) (jk it hm)
 walk_at "wp"
 refine rn _ _ (qam 13 rfl fun R rr rn=>?_)
 walk_at "wp"
 refine qr9 r9 (qha p2 r7) ?_
 walk_at "wp"
 refine qwn h8 h5 j3 ?_
 walk_at "wp"
 refine rn _ _ (qam 14 rfl fun R rr rn=>?_)
 walk_at "wp"
 rw [qwt h8,←List.map_reverse]
 refine ⟨szL (by rw [ya];exact z318 il),?_⟩
 walk_at "wp"
 refine cto vn vb its.reverse _ _ _ qab ok.rev hw fun r2 H4 w9 e1 q1 s9=>?_
 walk_at "wp"
 rw [qwt (qac (qaa.trans q1) h5),←List.map_reverse]
 refine ⟨szL (by rw [ya];exact z318 il),?_⟩
 walk_at "wp"
 refine cd vn vb its.reverse _ _ _ qab ok.rev hw fun r3 H5 w7 e2 q2 s7=>?_
 have er:=e1.uniq e2
 subst er
 walk_at "wp"
 refine qr9 (qha (qaa.trans q2) s9) s7 ?_
 walk_at "wp"
 refine rn _ _ (qam 15 rfl fun R rr rn=>?_)
 have p5:H3<+:H5:=(qaa.trans q1).trans (qaa.trans q2)
 walk_at "wp"
 refine cto vn vb its i5 H5 _ (qac p5 h5) ok hw fun r4 H6 w d3 q3 s=>?_
 have er:=d1.uniq d3
 subst er
 walk_at "wp"
 refine qxo s (qha (p2.trans (p5.trans q3)) r7) ?_
 walk_at "wp"
 exact rr _ _ _ (h _)
end
section
open PySem
structure NdF (q:List Int):Prop where
 ne:q≠[]
 len:q.length<=4
 bd:∀ x∈q,2<=x/\x<=401
noncomputable def pfB (q:List Int):Bool:=!q.isEmpty&&(Nat.ble q.length 4&&q.all fun x=>decide (2<=x)&&decide (x<=401))
theorem qys {q:List Int}(h:pfB q=true):NdF q:=by
 unfold pfB at h
 rw [Bool.and_eq_true,Bool.and_eq_true] at h
 refine ⟨fun z=>by rw [z] at h;exact absurd h.1 (by decide),ye h.2.1,fun x hx=>?_⟩
 have:=yq h.2.2 x hx
 simpa using this
theorem qun:((List.range 402).all fun n=>Nat.ble n 2||pfB ((facF (n-1)).map (·.1)))=true:=by decide +kernel
theorem qob (h3:3<=n) (h4:n<=401):NdF ((facF (n-1)).map (·.1)):=by
 have:=yq qun n (List.mem_range.mpr (by exact Nat.lt_succ_of_le h4))
 rw [Bool.or_eq_true] at this
 rcases this with z|z
 ·have:=ye z;(first|lia|omega)
 ·exact qys z
inductive RwS:AV->Prop
 | mk {n b:Int}{ps:List (Int×Int)}:n<=10^20->NdF (ps.map (·.1))->RwS (.tup [.int n,.str "prime",.tup [.int b,psT ps]])
theorem qr5 {r:Rw}{n b:Int}{ps:List (Int×Int)}(e:r=.prime n b ps) (hn:r.num<=10^20) (hp:NdF r.needs):RwS r.av:=by
 subst e
 exact .mk hn hp
theorem qjn {r:Rw}(h:r.needs≠[]):∃ n b ps,r=.prime n b ps:=by
 cases r with
 | prime n b ps=>exact ⟨n,b,ps,rfl⟩
 | _=>exact absurd rfl h
theorem qqn (cs':qo8 Φ) (cd:SAns "_law_due" Φ) (cto:SAns "_law_told" Φ){ic:Nat}{cs:List Int}{v:AV}{a0 a2:Option AV}{Q:PQ}(hc:H[ic]?=some (.list (cs.map .int))) (cel:qdu cs 13) (hv:RwS v) (h:∀ H',Q (.bool true) H') :
  wpSs Φ (qin.body.drop 5) [a0,some (.ref ic),a2,some v,none,none,none,none,none,none] H (qa8 Q):=by
 cases hv with
 | @mk n b ps hn pf =>
 have l4:=pf.len
 rw [ya] at l4
 refine qam 5 rfl fun R rr rn=>?_
 walk_at "go"
 refine rn _ _ (qam 6 rfl fun R rr rn=>?_)
 walk_at "go"
 refine rn _ _ (qam 7 rfl fun R rr rn=>?_)
 walk_at "go"
 refine cs' ic cs ps H _ hc cel (fun z=>pf.ne (by rw [z];rfl)) l4 (fun p hp=>pf.bd p.1 (yn ⟨p,hp,rfl⟩)) fun its H1 i5 p1 h5 iok ij=>?_
 walk_at "wp"
 refine rn _ _ (qam 8 rfl fun R rr rn=>?_)
 have nine:∀ (vn:AV) (a6:Option AV) (H2:Hp),H1<+:H2->(∀ n,vn=.int n->n<=10^20\/10^30<n)->wpSs Φ (qin.body.drop 9) [a0,some (.ref ic),some vn,some (.tup [.int n,.str "prime",.tup [.int b,psT ps]]),some (.int b),some (.ref i5),a6,none,none,none] H2 (qa8 Q):=fun vn a6 H2 p2 hw=>by
  have fin:∀ (vb:AV) (H3:Hp),H2<+:H3->wpSs Φ (qin.body.drop 10) [a0,some (.ref ic),some vn,some (.tup [.int n,.str "prime",.tup [.int b,psT ps]]),some vb,some (.ref i5),a6,none,none,none] H3 (qa8 Q):=fun vb H3 p3 =>
   qyx cd cto (qac (p2.trans p3) h5) iok (fun it hm=>qjr (p2.trans p3) (ij it hm)) hw h
  refine qam 9 rfl fun R rr rn=>?_
  walk_at "wp"
  refine qa9 (qac (p1.trans p2) hc) cel (by decide) (by decide) (by decide) fun c c0 c1=>?_
  walk_at "go"
  refine qa7 (fun _=>?_) (fun _=>?_)
  ·walk_at "go"
   refine qa9 (qac ((p1.trans p2).trans qaa) hc) cel (by decide) (by decide) (by decide) fun d d0 d1=>?_
   walk_at "go"
   (simp only [qae,qal,Int.reduceLE])
   refine qbo qab (by (first|exact ye rfl|simp)) (by walk_at "om") (by (first|exact yk _ (by decide)|(simp;(first|lia|omega)))) fun z hz=>?_
   walk_at "wp"
   exact rn _ _ (fin z _ qaa)
  ·walk_at "wp"
   exact rn _ _ (fin _ _ List.prefix_rfl)
 walk_at "wp"
 refine qa9 (qac p1 hc) cel (by decide) (by decide) (by decide) fun c c0 c1=>?_
 walk_at "go"
 refine qa7 (fun _=>?_) (fun _=>?_)
 ·walk_at "go"
  refine qa9 (qac (p1.trans qaa) hc) cel (by decide) (by decide) (by decide) fun d d0 d1=>?_
  walk_at "go"
  (simp only [qae,qal,Int.reduceLE])
  refine qbo qab (by (first|exact ye rfl|simp)) (by walk_at "om") (by (first|exact yk _ (by decide)|(simp;(first|lia|omega)))) fun z hz=>?_
  walk_at "wp"
  refine rn _ _ (nine z _ _ qaa fun m e=>?_)
  subst e
  simp only [List.mem_cons,List.not_mem_nil,or_false,AV.int.injEq,reduceCtorEq,false_or] at hz
  have e30:(10:Int)^Int.toNat 30=1000000000000000000000000000000:=rfl
  rw [e30] at hz
  exact z387 hz
 ·walk_at "wp"
  exact rn _ _ (nine _ _ _ List.prefix_rfl fun m e=>by injection e with e;exact z388 hn e)
theorem qyy {Φ:Fun}(cm:qpb Φ) (cp:SIsP Φ) (cf:qvm Φ) (cb:SBig Φ) (cr:qvl Φ) (cs':qo8 Φ) (cd:SAns "_law_due" Φ) (cto:SAns "_law_told" Φ){l:List Int}{H:Hp}{Q:PQ}(hl:l.length<=63) (h:∀ H',Q (.bool true) H'):wpF Φ qin [.fro (l.map .int)] H Q:=by
 ((refine ⟨rfl,?_⟩;simp only [lst,Nat.reduceSub,Nat.sub_self,List.replicate]))
 show wpSs Φ (qin.body.drop 0) [some (.fro (l.map .int)),none,none,none,none,none,none,none,none,none] H (qa8 Q)
 refine qam 0 rfl fun R rr rn=>?_
 walk_at "wp"
 refine cm l 0 13 H _ (by decide) hl (by decide) fun cs cb0=>?_
 have cel:=cb0.up
 generalize hH1:H++[AObj.list (cs.map .int)]=H1
 have hc:H1[H.length]?=some (.list (cs.map .int)):=by rw [←hH1];exact qab
 generalize H.length=ic at hc
 clear hH1 cb0
 walk_at "wp"
 refine rn _ _ (qam 1 rfl fun R rr rn=>?_)
 walk_at "wp"
 refine qa9 hc cel (by decide) (by decide) (by decide) fun c c0 c1=>?_
 walk_at "go"
 (simp only [qae,qal,Int.reduceLE])
 refine rn _ _ (qam 2 rfl fun R rr rn=>?_)
 have n0:0<=c/8%398:=by exact z389
 have n1:c/8%398<398:=by exact z390
 generalize c/8%398=m at n0 n1
 refine qen (fun t loc H'=>∃ n:Nat,H'=H1/\3<=n/\n<=401/\t=401-n/\loc=[some (.fro (l.map .int)),some (.ref ic),some (.int n),none,none,none,none,none,none,none]) _ ⟨(3+m).toNat,rfl,by exact z391 n0,by exact z392 n1,rfl,by rw [Int.toNat_of_nonneg (by exact z393 n0)]⟩ ?_
 rintro t loc H' ⟨n,rfl,n3,n4,et,rfl⟩
 have rest:wpSs Φ (qin.body.drop 3) [some (.fro (l.map .int)),some (.ref ic),some (.int n),none,none,none,none,none,none,none] H' (qa8 Q):=by
  have en:(n:Int)-1=((n-1:Nat):Int):=by exact z107 n3
  refine qam 3 rfl fun R rr rn=>?_
  walk_at "wp"
  refine qa9 hc cel (by decide) (by decide) (by decide) fun d d0 d1=>?_
  walk_at "wp"
  refine ⟨by exact z394 en,?_⟩
  simp only [qae (show (0:Int)<=n by exact z71)]
  rw [en]
  refine cf (n-1) H' _ (by exact z395 n3) (by exact z109 n4) ?_
  walk_at "go"
  have rw1:RwS (.tup [.int n,.str "prime",.tup [.int (1+d%n),psT (facF (n-1))]]):=.mk (by exact z396 n4) (qob n3 n4)
  generalize AV.tup [.int n,.str "prime",.tup [.int (1+d%n),psT (facF (n-1))]]=v1 at rw1
  refine rn _ _ (qam 4 rfl fun R rr rn=>?_)
  walk_at "wp"
  refine qa9 hc cel (by decide) (by decide) (by decide) fun e e0 e1=>?_
  walk_at "go"
  refine qa7 (fun _=>?_) (fun _=>?_)
  ·walk_at "wp"
   refine qa9 hc cel (by decide) (by decide) (by decide) fun g g0 g1=>?_
   walk_at "go"
   (simp only [qae,qal,Int.reduceLE])
   refine cb (g/8) H' _ (by exact z397 g0) fun r hr rt r3 nok=>?_
   walk_at "wp"
   obtain ⟨k1,_,_,⟨x,b,ps,rfl⟩,k3,k4⟩:=nok
   exact rn _ _ (qqn cs' cd cto hc cel (qr5 rfl k3 ⟨fun z=>hr.2.2.2.2.1 (List.map_eq_nil_iff.mp z),k4,k1⟩) h)
  ·walk_at "wp"
   refine qa9 hc cel (by decide) (by decide) (by decide) fun g g0 g1=>?_
   walk_at "go"
   refine qa7 (fun _=>?_) (fun _=>?_)
   ·walk_at "wp"
    refine cp n H' _ (by exact Nat.le_of_add_left_le n3) (by exact z398 n4) ?_
    walk_at "wp"
    refine qa5 (K:=fun b=>qb5 Φ _ _ _ _ _ b) (fun hp=>?_) (fun hp=>?_)
    ·walk_at "wp"
     refine qa9 hc cel (by decide) (by decide) (by decide) fun f f0 f1=>?_
     walk_at "wp"
     refine cr n f H' _ (by exact Nat.le_of_add_left_le n3) n4 hp f0 fun r hr rt r2 r3=>?_
     walk_at "wp"
     have e1:r.needs=(facF (n-1)).map (·.1):=by
      rw [r3];unfold nx;rw [if_pos (by rw [hp];simpa using n3)]
     have pf:=qob n3 n4
     rw [←e1] at pf
     obtain ⟨x,b,ps,er⟩:=qjn pf.ne
     exact rn _ _ (qqn cs' cd cto hc cel (qr5 er (by exact z399 n4 r2) pf) h)
    ·walk_at "wp"
     exact rn _ _ (qqn cs' cd cto hc cel rw1 h)
   ·walk_at "wp"
    exact rn _ _ (qqn cs' cd cto hc cel rw1 h)
 walk_at "wp"
 refine qa9 hc cel (by decide) (by decide) (by decide) fun d d0 d1=>?_
 walk_at "go"
 refine qa7 (fun _=>?_) (fun _=>?_)
 ·walk_at "wp"
  refine cp n H' _ (by exact Nat.le_of_add_left_le n3) (by exact z398 n4) ?_
  walk_at "wp"
  refine qa5 (K:=fun b=>kWhl Φ _ _ _ _ _ (.bool !b) _) (fun hp=>?_) (fun hp=>?_)
  ·simp only [Bool.not_true]
   walk_at "wp"
   exact rn _ _ rest
  ·simp only [Bool.not_false]
   walk_at "wp"
   have:n≠401:=fun z=>by rw [z] at hp;exact absurd hp (by decide +kernel)
   exact qaq (401-(n+1)) (by exact z400 n4 et this) ⟨n+1,rfl,by exact Nat.le_add_right_of_le n3,by exact z401 n4 this,rfl,by simp⟩
 ·walk_at "wp"
  exact rn _ _ rest
end
section
open PySem PySem.W PyProof.Rows
set_option Elab.async false
noncomputable def Q:Program:=view PySem.Challenge.pw_uf030003_13 [1,2,3,4,5,6,7,9,10,12,13,14,15,16,17,18,19,20,21,22,24,25,26,27,29,30,31,32,33,35,36,38,39,40,41,42,43,44,45,46,47,48,49,50,51,52,53,54,55,56,57,58,59,60,61,62]
noncomputable def clsN:List Str:=[Str.ofString "SlipError",Str.ofString "NoNumber",Str.ofString "NoSlip",Str.ofString "NoRow",Str.ofString "NotHeld",Str.ofString "Needed",Str.ofString "NoText"]
noncomputable def clsQ:List ClsQ:=qza
noncomputable def Xt (s:Shared):Bool:=(xlAt Q [(Str.ofString "BOUND",.int 1000000000000000000000000000000)] s&&recOk [] s)&&cfAt clsN clsQ s
theorem said:OpenLaw.wellSaid PySem.Challenge.rw_uf030003_13=true:=by
 rw [PySem.W.Fast.te9446332074065402090];kernel_rfl
theorem run (w:World) (os:OsState):headOf PySem.Challenge.pw_uf030003_13 Q [Str.ofString "BOUND"] Xt 3000 w os=some (true,openGood Q [Str.ofString "BOUND"]):=by
 rw [PySem.W.Fast.te12803096626720038307];kernel_rfl
theorem left:LeftO PySem.Challenge.pw_uf030003_13 Q [Str.ofString "BOUND"] Xt (Hook.obs Hook.none) (Hook.val Hook.none) 3000 :=
 left_of_head (by kernel_rfl) rfl (fun _=>by kernel_rfl) rfl run
noncomputable def gt:GT:=⟨[Str.ofString "powered",Str.ofString "is_whole",Str.ofString "are_powers",Str.ofString "are_facts",Str.ofString "is_row",Str.ofString "tells_prime",Str.ofString "needs",Str.ofString "comes_to",Str.ofString "holds_prime",Str.ofString "holds",Str.ofString "by_numbers",Str.ofString "stands_on",Str.ofString "cut",Str.ofString "merged",Str.ofString "is_slip",Str.ofString "says",Str.ofString "wrong_at",Str.ofString "lets_by",Str.ofString "times_in",Str.ofString "grown",Str.ofString "_law_cell_at",Str.ofString "_law_mixed",Str.ofString "_law_power",Str.ofString "_law_round",Str.ofString "_law_is_prime",Str.ofString "_law_factors",Str.ofString "_law_prime_row",Str.ofString "_law_parted_row",Str.ofString "_law_big_row",Str.ofString "_law_great_row",Str.ofString "_law_needs",Str.ofString "_law_closed",Str.ofString "_law_rows_by",Str.ofString "_law_holds",Str.ofString "_law_tells",Str.ofString "_law_wrong",Str.ofString "_law_other_facts",Str.ofString "_law_spoilt",Str.ofString "_law_slip_of",Str.ofString "_law_laid",Str.ofString "_law_times",Str.ofString "_law_due",Str.ofString "_law_told",Str.ofString "_law_slips",Str.ofString "law"],[("BOUND",qcq),("WORDS",qht),("MOST_TIMES",qfb),("MOST_ROWS",qf3)]⟩
theorem qlg:FnOK Q gt "powered" ["base", "exponent", "by", "found"] ["base", "exponent", "by"] qfw :=
 ⟨⟨_,yc (i:=0) rfl,rfl,rfl,rfl,rfl,rfl,
 (.cons (.asg (Slot.of rfl) (.bin .int (.loc rfl rfl rfl)) (fun _=>rfl))
 (.cons (.asg (Slot.of rfl) (.bin (.loc rfl rfl rfl) (.loc rfl rfl rfl)) (fun _=>rfl))
 (.cons (.whl (.cmp (.loc rfl rfl rfl) .int) (.cons (.ite (.cmp (.bin (.loc rfl rfl rfl) .int) .int) (.cons (.asg (Slot.of rfl) (.bin (.bin (.loc rfl rfl rfl) (.loc rfl rfl rfl)) (.loc rfl rfl rfl)) (fun _=>rfl))
   .nil) .nil)
  (.cons (.asg (Slot.of rfl) (.bin (.bin (.loc rfl rfl rfl) (.loc rfl rfl rfl)) (.loc rfl rfl rfl)) (fun _=>rfl))
  (.cons (.asg (Slot.of rfl) (.bin (.loc rfl rfl rfl) .int) (fun _=>rfl))
  .nil))))
 (.cons (.ret (.loc rfl rfl rfl))
 .nil)))),
 rfl,rfl,fun _ _ _=>all3 fun _ _ _=>rfl⟩⟩
theorem qjk:FnOK Q gt "is_whole" ["thing", "least", "most"] ["thing", "least", "most"] qet :=
 ⟨⟨_,yc (i:=1) rfl,rfl,rfl,rfl,rfl,rfl,
 (.cons (.ret (.and3 (.isi ⟨rfl,rfl⟩ ⟨rfl,rfl⟩ (.loc rfl rfl rfl)) (.and2 (.not (.isi ⟨rfl,rfl⟩ ⟨rfl,rfl⟩ (.loc rfl rfl rfl))) (.cmp2 (.loc rfl rfl rfl) (.loc rfl rfl rfl) (.loc rfl rfl rfl)))))
 .nil),
 rfl,rfl,fun _ _ _=>all3 fun _ _ _=>rfl⟩⟩
theorem qhd:FnOK Q gt "are_powers" ["thing", "ahead", "pair"] ["thing"] qc0 :=
 ⟨⟨_,yc (i:=2) rfl,rfl,rfl,rfl,rfl,rfl,
 (.cons (.ite (.or2 (.not (.isi ⟨rfl,rfl⟩ ⟨rfl,rfl⟩ (.loc rfl rfl rfl))) (.cmp (.bi ⟨rfl,rfl⟩ (.loc rfl rfl rfl) .nil) .int)) (.cons (.ret .bool)
  .nil) .nil)
 (.cons (.asg (Slot.of rfl) .int (fun _=>rfl))
 (.cons (.for1 (Slot.of rfl) (.plain (.loc rfl rfl rfl)) (.cons (.ite (.or2 (.not (.isi ⟨rfl,rfl⟩ ⟨rfl,rfl⟩ (.loc rfl rfl rfl))) (.cmp (.bi ⟨rfl,rfl⟩ (.loc rfl rfl rfl) .nil) .int)) (.cons (.ret .bool)
   .nil) .nil)
  (.cons (.ite (.or2 (.not (.call rfl ⟨rfl,rfl⟩ (.idx (.loc rfl rfl rfl) .int) (.cons (.bin (.loc rfl rfl rfl) .int) (.cons (.glob rfl ⟨rfl,rfl⟩) .nil)))) (.not (.call rfl ⟨rfl,rfl⟩ (.idx (.loc rfl rfl rfl) .int) (.cons .int (.cons (.glob rfl ⟨rfl,rfl⟩) .nil))))) (.cons (.ret .bool)
   .nil) .nil)
  (.cons (.asg (Slot.of rfl) (.idx (.loc rfl rfl rfl) .int) (fun _=>rfl))
  .nil))) rfl)
 (.cons (.ret .bool)
 .nil)))),
 rfl,rfl,fun _ _ _=>all1 fun _=>rfl⟩⟩
theorem qih:FnOK Q gt "are_facts" ["word", "facts"] ["word", "facts"] qdr :=
 ⟨⟨_,yc (i:=3) rfl,rfl,rfl,rfl,rfl,rfl,
 (.cons (.ite (.cmp (.loc rfl rfl rfl) (.str (by decide +kernel))) (.cons (.ret (.cmp (.bi ⟨rfl,rfl⟩ (.loc rfl rfl rfl) .nil) .int))
  .nil) .nil)
 (.cons (.ite (.cmp (.loc rfl rfl rfl) (.str (by decide +kernel))) (.cons (.ret (.and3 (.cmp (.bi ⟨rfl,rfl⟩ (.loc rfl rfl rfl) .nil) .int) (.and2 (.call rfl ⟨rfl,rfl⟩ (.idx (.loc rfl rfl rfl) .int) (.cons .int (.cons (.glob rfl ⟨rfl,rfl⟩) .nil))) (.call rfl ⟨rfl,rfl⟩ (.idx (.loc rfl rfl rfl) .int) .nil))))
  .nil) .nil)
 (.cons (.ite (.cmp (.loc rfl rfl rfl) (.str (by decide +kernel))) (.cons (.ret (.and3 (.cmp (.bi ⟨rfl,rfl⟩ (.loc rfl rfl rfl) .nil) .int) (.and2 (.call rfl ⟨rfl,rfl⟩ (.idx (.loc rfl rfl rfl) .int) (.cons .int (.cons (.glob rfl ⟨rfl,rfl⟩) .nil))) (.call rfl ⟨rfl,rfl⟩ (.idx (.loc rfl rfl rfl) .int) (.cons .int (.cons (.glob rfl ⟨rfl,rfl⟩) .nil))))))
  .nil) .nil)
 (.cons (.ret (.and2 (.cmp (.bi ⟨rfl,rfl⟩ (.loc rfl rfl rfl) .nil) .int) (.call rfl ⟨rfl,rfl⟩ (.idx (.loc rfl rfl rfl) .int) (.cons .int (.cons (.glob rfl ⟨rfl,rfl⟩) .nil)))))
 .nil)))),
 rfl,rfl,fun _ _ _=>all2 fun _ _=>rfl⟩⟩
theorem qne:FnOK Q gt "is_row" ["thing"] ["thing"] qhg :=
 ⟨⟨_,yc (i:=4) rfl,rfl,rfl,rfl,rfl,rfl,
 (.cons (.ite (.or3 (.not (.isi ⟨rfl,rfl⟩ ⟨rfl,rfl⟩ (.loc rfl rfl rfl))) (.or2 (.cmp (.bi ⟨rfl,rfl⟩ (.loc rfl rfl rfl) .nil) .int) (.not (.call rfl ⟨rfl,rfl⟩ (.idx (.loc rfl rfl rfl) .int) (.cons .int (.cons (.glob rfl ⟨rfl,rfl⟩) .nil)))))) (.cons (.ret .bool)
  .nil) .nil)
 (.cons (.ite (.or3 (.not (.isi ⟨rfl,rfl⟩ ⟨rfl,rfl⟩ (.idx (.loc rfl rfl rfl) .int))) (.or2 (.cmp (.idx (.loc rfl rfl rfl) .int) (.glob rfl ⟨rfl,rfl⟩)) (.not (.isi ⟨rfl,rfl⟩ ⟨rfl,rfl⟩ (.idx (.loc rfl rfl rfl) .int))))) (.cons (.ret .bool)
  .nil) .nil)
 (.cons (.ret (.call rfl ⟨rfl,rfl⟩ (.idx (.loc rfl rfl rfl) .int) (.cons (.idx (.loc rfl rfl rfl) .int) .nil)))
 .nil))),
 rfl,rfl,fun _ _ _=>all1 fun _=>rfl⟩⟩
theorem qge:FnOK Q gt "tells_prime" ["row"] ["row"] qd3 :=
 ⟨⟨_,yc (i:=5) rfl,rfl,rfl,rfl,rfl,rfl,
 (.cons (.ret (.or2 (.cmp (.idx (.loc rfl rfl rfl) .int) (.str (by decide +kernel))) (.cmp (.idx (.loc rfl rfl rfl) .int) (.str (by decide +kernel)))))
 .nil),
 rfl,rfl,fun _ _ _=>all1 fun _=>rfl⟩⟩
theorem qqf:FnOK Q gt "needs" ["row"] ["row"] qnl :=
 ⟨⟨_,yc (i:=6) rfl,rfl,rfl,rfl,rfl,rfl,
 (.cons (.ite (.cmp (.idx (.loc rfl rfl rfl) .int) (.str (by decide +kernel))) (.cons (.ret (.comp (locals:=["q", "times"]) ⟨qah rfl,(.plain (.idx (.idx (.loc rfl rfl rfl) .int) .int)),(.loc rfl rfl rfl),.nil,.tup rfl (.cons (Slot.of rfl) (.cons (Slot.of rfl) .nil))⟩ (fun h=>nomatch h)))
  .nil) .nil)
 (.cons (.ret (.lst .nil))
 .nil)),
 rfl,rfl,fun _ _ _=>all1 fun _=>rfl⟩⟩
theorem qjl:FnOK Q gt "comes_to" ["powers", "number", "product", "q", "times", "turn"] ["powers", "number"] qev :=
 ⟨⟨_,yc (i:=7) rfl,rfl,rfl,rfl,rfl,rfl,
 (.cons (.asg (Slot.of rfl) .int (fun _=>rfl))
 (.cons (.forT (.cons (Slot.of rfl) (.cons (Slot.of rfl) .nil)) (.plain (.loc rfl rfl rfl)) (.cons (.for1 (Slot.of rfl) (.ty (t:=.range) ⟨rfl,rfl⟩ (.loc rfl rfl rfl) .nil) (.cons (.asg (Slot.of rfl) (.bin (.loc rfl rfl rfl) (.loc rfl rfl rfl)) (fun _=>rfl))
   (.cons (.ite (.cmp (.loc rfl rfl rfl) (.loc rfl rfl rfl)) (.cons (.ret .bool)
    .nil) .nil)
   .nil)) rfl)
  .nil))
 (.cons (.ret (.cmp (.loc rfl rfl rfl) (.loc rfl rfl rfl)))
 .nil))),
 rfl,rfl,fun _ _ _=>all2 fun _ _=>rfl⟩⟩
theorem qgj:FnOK Q gt "holds_prime" ["number", "base", "powers", "primes"] ["number", "base", "powers", "primes"] qcm :=
 ⟨⟨_,yc (i:=8) rfl,rfl,rfl,rfl,rfl,rfl,
 (.cons (.ite (.or2 (.not (.bi ⟨rfl,rfl⟩ (.comp (locals:=["q", "times"]) ⟨qah rfl,(.plain (.loc rfl rfl rfl)),(.cmp (.loc rfl rfl rfl) (.loc rfl rfl rfl)),.nil,.tup rfl (.cons (Slot.of rfl) (.cons (Slot.of rfl) .nil))⟩ (fun h=>nomatch h)) .nil)) (.not (.call rfl ⟨rfl,rfl⟩ (.loc rfl rfl rfl) (.cons (.bin (.loc rfl rfl rfl) .int) .nil)))) (.cons (.ret .bool)
  .nil) .nil)
 (.cons (.ite (.or2 (.cmp (.loc rfl rfl rfl) (.loc rfl rfl rfl)) (.cmp (.call rfl ⟨rfl,rfl⟩ (.loc rfl rfl rfl) (.cons (.bin (.loc rfl rfl rfl) .int) (.cons (.loc rfl rfl rfl) .nil))) .int)) (.cons (.ret .bool)
  .nil) .nil)
 (.cons (.ret (.bi ⟨rfl,rfl⟩ (.comp (locals:=["q", "times"]) ⟨qah rfl,(.plain (.loc rfl rfl rfl)),(.cmp (.call rfl ⟨rfl,rfl⟩ (.loc rfl rfl rfl) (.cons (.bin (.bin (.loc rfl rfl rfl) .int) (.loc rfl rfl rfl)) (.cons (.loc rfl rfl rfl) .nil))) .int),.nil,.tup rfl (.cons (Slot.of rfl) (.cons (Slot.of rfl) .nil))⟩ (fun h=>nomatch h)) .nil))
 .nil))),
 rfl,rfl,fun _ _ _=>all4 fun _ _ _ _=>rfl⟩⟩
theorem qqg:FnOK Q gt "holds" ["row", "primes", "number", "word", "facts", "base"] ["row", "primes"] qjo :=
 ⟨⟨_,yc (i:=9) rfl,rfl,rfl,rfl,rfl,rfl,
 (.cons (.asgT (.cons (Slot.of rfl) (.cons (Slot.of rfl) (.cons (Slot.of rfl) .nil))) (.loc rfl rfl rfl) (fun _=>rfl) (fun _=>rfl))
 (.cons (.ite (.cmp (.loc rfl rfl rfl) (.str (by decide +kernel))) (.cons (.ret (.cmp (.loc rfl rfl rfl) .int))
  .nil) .nil)
 (.cons (.ite (.cmp (.loc rfl rfl rfl) (.str (by decide +kernel))) (.cons (.ret (.call rfl ⟨rfl,rfl⟩ (.loc rfl rfl rfl) (.cons (.idx (.loc rfl rfl rfl) .int) (.cons (.idx (.loc rfl rfl rfl) .int) (.cons (.loc rfl rfl rfl) .nil)))))
  .nil) .nil)
 (.cons (.ite (.cmp (.loc rfl rfl rfl) (.str (by decide +kernel))) (.cons (.ret (.cmp (.bin (.idx (.loc rfl rfl rfl) .int) (.idx (.loc rfl rfl rfl) .int)) (.loc rfl rfl rfl)))
  .nil) .nil)
 (.cons (.asg (Slot.of rfl) (.idx (.loc rfl rfl rfl) .int) (fun _=>rfl))
 (.cons (.ite (.cmp (.loc rfl rfl rfl) (.str (by decide +kernel))) (.cons (.ret (.and2 (.cmp (.loc rfl rfl rfl) (.loc rfl rfl rfl)) (.cmp (.call rfl ⟨rfl,rfl⟩ (.loc rfl rfl rfl) (.cons (.bin (.loc rfl rfl rfl) .int) (.cons (.loc rfl rfl rfl) .nil))) .int)))
  .nil) .nil)
 (.cons (.ret (.and2 (.cmp2 .int (.loc rfl rfl rfl) (.bin (.loc rfl rfl rfl) .int)) (.cmp (.bin (.bin (.loc rfl rfl rfl) (.loc rfl rfl rfl)) (.loc rfl rfl rfl)) .int)))
 .nil))))))),
 rfl,rfl,fun _ _ _=>all2 fun _ _=>rfl⟩⟩
theorem qd0:FnOK Q gt "by_numbers" ["rows", "found", "row"] ["rows"] qbl :=
 ⟨⟨_,yc (i:=10) rfl,rfl,rfl,rfl,rfl,rfl,
 (.cons (.asg (Slot.of rfl) .dic0 (fun _=>rfl))
 (.cons (.for1 (Slot.of rfl) (.plain (.loc rfl rfl rfl)) (.cons (.ite (.cmp (.idx (.loc rfl rfl rfl) .int) (.loc rfl rfl rfl)) (.cons (.sto (.loc rfl rfl rfl) (.loc rfl rfl rfl) (.idx (.loc rfl rfl rfl) .int) (fun _=>rfl))
   .nil) .nil)
  .nil) rfl)
 (.cons (.ret (.loc rfl rfl rfl))
 .nil))),
 rfl,rfl,fun _ _ _=>all1 fun _=>rfl⟩⟩
theorem qh8:FnOK Q gt "stands_on" ["slip", "number", "rows", "found", "waiting", "other"] ["slip", "number"] qdi :=
 ⟨⟨_,yc (i:=11) rfl,rfl,rfl,rfl,rfl,rfl,
 (.cons (.asg (Slot.of rfl) (.call rfl ⟨rfl,rfl⟩ (.loc rfl rfl rfl) .nil) (fun _=>rfl))
 (.cons (.ite (.cmp (.loc rfl rfl rfl) (.loc rfl rfl rfl)) (.cons .never
  .nil) .nil)
 (.cons (.asg (Slot.of rfl) .dic0 (fun _=>rfl))
 (.cons (.asg (Slot.of rfl) (.lst (.cons (.loc rfl rfl rfl) .nil)) (fun _=>rfl))
 (.cons (.whl (.cmp (.loc rfl rfl rfl) (.lst .nil)) (.cons (.for1 (Slot.of rfl) (.plain (.call rfl ⟨rfl,rfl⟩ (.idx (.loc rfl rfl rfl) (.meth0 (.loc rfl rfl rfl) ⟨fun _=>rfl⟩)) .nil)) (.cons (.ite (.and2 (.cmp (.loc rfl rfl rfl) (.loc rfl rfl rfl)) (.cmp (.loc rfl rfl rfl) (.loc rfl rfl rfl))) (.cons (.sto .bool (.loc rfl rfl rfl) (.loc rfl rfl rfl) (fun _=>rfl))
    (.cons (.expr (.meth (.loc rfl rfl rfl) (.loc rfl rfl rfl) .nil ⟨fun _=>rfl⟩) (fun _=>rfl))
    .nil)) .nil)
   .nil) rfl)
  .nil))
 (.cons (.ret (.bi ⟨rfl,rfl⟩ (.bi ⟨rfl,rfl⟩ (.loc rfl rfl rfl) .nil) .nil))
 .nil)))))),
 rfl,rfl,fun _ _ _=>all2 fun _ _=>rfl⟩⟩
theorem qwi:FnOK Q gt "cut" ["slip", "number", "wanted"] ["slip", "number"] qtt :=
 ⟨⟨_,yc (i:=12) rfl,rfl,rfl,rfl,rfl,rfl,
 (.cons (.asg (Slot.of rfl) (.bin (.call rfl ⟨rfl,rfl⟩ (.loc rfl rfl rfl) (.cons (.loc rfl rfl rfl) .nil)) (.lst (.cons (.loc rfl rfl rfl) .nil))) (fun _=>rfl))
 (.cons (.ret (.bi ⟨rfl,rfl⟩ (.comp (locals:=["row"]) ⟨qah rfl,(.plain (.loc rfl rfl rfl)),(.loc rfl rfl rfl),(.one (.cmp (.idx (.loc rfl rfl rfl) .int) (.loc rfl rfl rfl))),.one (Slot.of rfl)⟩ (fun h=>nomatch h)) .nil))
 .nil)),
 rfl,rfl,fun _ _ _=>all2 fun _ _=>rfl⟩⟩
theorem qnd:FnOK Q gt "merged" ["slips", "rows", "slip", "found"] ["slips"] qhf :=
 ⟨⟨_,yc (i:=13) rfl,rfl,rfl,rfl,rfl,rfl,
 (.cons (.asg (Slot.of rfl) (.lst .nil) (fun _=>rfl))
 (.cons (.for1 (Slot.of rfl) (.plain (.loc rfl rfl rfl)) (.cons (.asg (Slot.of rfl) (.bin (.loc rfl rfl rfl) (.bi ⟨rfl,rfl⟩ (.loc rfl rfl rfl) .nil)) (fun _=>rfl))
  .nil) rfl)
 (.cons (.asg (Slot.of rfl) (.call rfl ⟨rfl,rfl⟩ (.loc rfl rfl rfl) .nil) (fun _=>rfl))
 (.cons (.ret (.bi ⟨rfl,rfl⟩ (.comp (locals:=["number"]) ⟨qah rfl,(.plain (.bi ⟨rfl,rfl⟩ (.bi ⟨rfl,rfl⟩ (.loc rfl rfl rfl) .nil) .nil)),(.idx (.loc rfl rfl rfl) (.loc rfl rfl rfl)),.nil,.one (Slot.of rfl)⟩ (fun h=>nomatch h)) .nil))
 .nil)))),
 rfl,rfl,fun _ _ _=>all1 fun _=>rfl⟩⟩
theorem qlj:FnOK Q gt "is_slip" ["thing", "ahead", "row"] ["thing"] qcz :=
 ⟨⟨_,yc (i:=14) rfl,rfl,rfl,rfl,rfl,rfl,
 (.cons (.ite (.or2 (.not (.isi ⟨rfl,rfl⟩ ⟨rfl,rfl⟩ (.loc rfl rfl rfl))) (.not (.cmp2 .int (.bi ⟨rfl,rfl⟩ (.loc rfl rfl rfl) .nil) (.glob rfl ⟨rfl,rfl⟩)))) (.cons (.ret .bool)
  .nil) .nil)
 (.cons (.asg (Slot.of rfl) .int (fun _=>rfl))
 (.cons (.for1 (Slot.of rfl) (.plain (.loc rfl rfl rfl)) (.cons (.ite (.or2 (.not (.call rfl ⟨rfl,rfl⟩ (.loc rfl rfl rfl) .nil)) (.cmp (.idx (.loc rfl rfl rfl) .int) (.loc rfl rfl rfl))) (.cons (.ret .bool)
   .nil) .nil)
  (.cons (.asg (Slot.of rfl) (.idx (.loc rfl rfl rfl) .int) (fun _=>rfl))
  .nil)) rfl)
 (.cons (.ret .bool)
 .nil)))),
 rfl,rfl,fun _ _ _=>all1 fun _=>rfl⟩⟩
theorem qtq:FnOK Q gt "says" ["slip"] ["slip"] qnk :=
 ⟨⟨_,yc (i:=15) rfl,rfl,rfl,rfl,rfl,rfl,
 (.cons (.ret (.tup (.cons (.idx (.idx (.loc rfl rfl rfl) (.neg .int)) .int) (.cons (.call rfl ⟨rfl,rfl⟩ (.idx (.loc rfl rfl rfl) (.neg .int)) .nil) .nil))))
 .nil),
 rfl,rfl,fun _ _ _=>all1 fun _=>rfl⟩⟩
theorem qjg:FnOK Q gt "wrong_at" ["slip", "primes", "place", "row"] ["slip"] qep :=
 ⟨⟨_,yc (i:=16) rfl,rfl,rfl,rfl,rfl,rfl,
 (.cons (.asg (Slot.of rfl) (.lst .nil) (fun _=>rfl))
 (.cons (.forT (.cons (Slot.of rfl) (.cons (Slot.of rfl) .nil)) (.ty (t:=.enum) ⟨rfl,rfl⟩ (.loc rfl rfl rfl) .nil) (.cons (.ite (.not (.call rfl ⟨rfl,rfl⟩ (.loc rfl rfl rfl) (.cons (.loc rfl rfl rfl) .nil))) (.cons (.ret (.loc rfl rfl rfl))
   .nil) .nil)
  (.cons (.ite (.call rfl ⟨rfl,rfl⟩ (.loc rfl rfl rfl) .nil) (.cons (.expr (.meth (.loc rfl rfl rfl) (.idx (.loc rfl rfl rfl) .int) .nil ⟨fun _=>rfl⟩) (fun _=>rfl))
   .nil) .nil)
  .nil)))
 (.cons (.ret .none)
 .nil))),
 rfl,rfl,fun _ _ _=>all1 fun _=>rfl⟩⟩
theorem qlh:FnOK Q gt "lets_by" ["thing"] ["thing"] qfx :=
 ⟨⟨_,yc (i:=17) rfl,rfl,rfl,rfl,rfl,rfl,
 (.cons (.ret (.and2 (.call rfl ⟨rfl,rfl⟩ (.loc rfl rfl rfl) .nil) (.cmp (.call rfl ⟨rfl,rfl⟩ (.loc rfl rfl rfl) .nil) .none)))
 .nil),
 rfl,rfl,fun _ _ _=>all1 fun _=>rfl⟩⟩
theorem qjh:FnOK Q gt "times_in" ["number", "divisor", "times"] ["number", "divisor"] qeq :=
 ⟨⟨_,yc (i:=18) rfl,rfl,rfl,rfl,rfl,rfl,
 (.cons (.asg (Slot.of rfl) .int (fun _=>rfl))
 (.cons (.whl (.cmp (.bin (.loc rfl rfl rfl) (.loc rfl rfl rfl)) .int) (.cons (.asg (Slot.of rfl) (.bin (.loc rfl rfl rfl) (.loc rfl rfl rfl)) (fun _=>rfl))
  (.cons (.asg (Slot.of rfl) (.bin (.loc rfl rfl rfl) .int) (fun _=>rfl))
  .nil)))
 (.cons (.ret (.loc rfl rfl rfl))
 .nil))),
 rfl,rfl,fun _ _ _=>all2 fun _ _=>rfl⟩⟩
theorem qqh:FnX XiG Q gt "grown" ["number", "base", "slips", "primes", "row"] ["number", "base", "slips"] qeu :=
 ⟨⟨_,yc (i:=19) rfl,rfl,rfl,rfl,rfl,rfl,
 (.cons (.ite (.or2 (.not (.call rfl ⟨rfl,rfl⟩ (.loc rfl rfl rfl) (.cons .int (.cons (.glob rfl ⟨rfl,rfl⟩) .nil)))) (.not (.call rfl ⟨rfl,rfl⟩ (.loc rfl rfl rfl) (.cons .int (.cons (.glob rfl ⟨rfl,rfl⟩) .nil))))) (.cons (.raise ⟨rfl,rfl⟩ PySem.F.excBase_ValueError (.str (by decide +kernel)) .nil (fun ξ=>ξ.own _ (by decide)))
  .nil) .nil)
 (.cons (.ite (.or2 (.cmp (.bi ⟨rfl,rfl⟩ (.loc rfl rfl rfl) .nil) .int) (.not (.bi ⟨rfl,rfl⟩ (.comp (locals:=["slip"]) ⟨qah rfl,(.plain (.loc rfl rfl rfl)),(.and2 (.call rfl ⟨rfl,rfl⟩ (.loc rfl rfl rfl) .nil) (.idx (.call rfl ⟨rfl,rfl⟩ (.loc rfl rfl rfl) .nil) .int)),.nil,.one (Slot.of rfl)⟩ (fun h=>nomatch h)) .nil))) (.cons (.raise ⟨rfl,rfl⟩ PySem.F.excBase_ValueError (.str (by decide +kernel)) .nil (fun ξ=>ξ.own _ (by decide)))
  .nil) .nil)
 (.cons (.asgS (Slot.of rfl) (.comp (locals:=["slip"]) ⟨qah rfl,(.plain (.loc rfl rfl rfl)),(.idx (.call rfl ⟨rfl,rfl⟩ (.loc rfl rfl rfl) .nil) .int),.nil,.one (Slot.of rfl)⟩ (fun h=>nomatch h)) ⟨rfl,rfl⟩ ⟨rfl,rfl⟩ (fun ξ=>ξ.set) (fun _=>rfl))
 (.cons (.ite (.not (.bi ⟨rfl,rfl⟩ (.comp (locals:=["prime"]) ⟨qah rfl,(.plain (.loc rfl rfl rfl)),(.cmp (.bin (.bin (.loc rfl rfl rfl) .int) (.loc rfl rfl rfl)) .int),.nil,.one (Slot.of rfl)⟩ (fun h=>nomatch h)) .nil)) (.cons (.raise ⟨rfl,rfl⟩ PySem.F.excBase_ValueError (.str (by decide +kernel)) .nil (fun ξ=>ξ.own _ (by decide)))
  .nil) .nil)
 (.cons (.of (.asg (Slot.of rfl) (.tup (.cons (.loc rfl rfl rfl) (.cons (.str (by decide +kernel)) (.cons (.tup (.cons (.loc rfl rfl rfl) (.cons (.bi ⟨rfl,rfl⟩ (.comp (locals:=["prime"]) ⟨qah rfl,(.plain (.loc rfl rfl rfl)),(.tup (.cons (.loc rfl rfl rfl) (.cons (.call rfl ⟨rfl,rfl⟩ (.bin (.loc rfl rfl rfl) .int) (.cons (.loc rfl rfl rfl) .nil)) .nil))),.nil,.one (Slot.of rfl)⟩ (fun h=>nomatch h)) .nil) .nil))) .nil)))) (fun _=>rfl)))
 (.cons (.ite (.not (.call rfl ⟨rfl,rfl⟩ (.loc rfl rfl rfl) (.cons (.loc rfl rfl rfl) .nil))) (.cons (.raise ⟨rfl,rfl⟩ PySem.F.excBase_ValueError (.str (by decide +kernel)) .nil (fun ξ=>ξ.own _ (by decide)))
  .nil) .nil)
 (.cons (.of (.ret (.call rfl ⟨rfl,rfl⟩ (.bin (.call rfl ⟨rfl,rfl⟩ (.loc rfl rfl rfl) .nil) (.tup (.cons (.loc rfl rfl rfl) .nil))) (.cons (.loc rfl rfl rfl) .nil))))
 .nil))))))),
 rfl,rfl,fun _ _ _=>all3 fun _ _ _=>rfl⟩⟩
theorem qgh:FnOK Q gt "_law_cell_at" ["_law_script", "_law_k"] ["_law_script", "_law_k"] qck :=
 ⟨⟨_,yc (i:=20) rfl,rfl,rfl,rfl,rfl,rfl,
 (.cons (.ite (.cmp (.loc rfl rfl rfl) (.bi ⟨rfl,rfl⟩ (.loc rfl rfl rfl) .nil)) (.cons (.ret (.idx (.loc rfl rfl rfl) (.loc rfl rfl rfl)))
  .nil) .nil)
 (.cons (.ret .int)
 .nil)),
 rfl,rfl,fun _ _ _=>all2 fun _ _=>rfl⟩⟩
theorem qif:FnOK Q gt "_law_mixed" ["_law_script", "_law_start", "_law_many", "_law_found", "_law_more", "_law_k"] ["_law_script", "_law_start", "_law_many"] qdp :=
 ⟨⟨_,yc (i:=21) rfl,rfl,rfl,rfl,rfl,rfl,
 (.cons (.asg (Slot.of rfl) (.lst .nil) (fun _=>rfl))
 (.cons (.asg (Slot.of rfl) .int (fun _=>rfl))
 (.cons (.for1 (Slot.of rfl) (.ty (t:=.range) ⟨rfl,rfl⟩ (.loc rfl rfl rfl) .nil) (.cons (.asg (Slot.of rfl) (.bin (.bin (.bin (.bin (.bin (.loc rfl rfl rfl) .int) (.call rfl ⟨rfl,rfl⟩ (.loc rfl rfl rfl) (.cons (.bin (.loc rfl rfl rfl) (.loc rfl rfl rfl)) .nil))) (.bin .int (.loc rfl rfl rfl))) .int) .int) (fun _=>rfl))
  (.cons (.expr (.meth (.loc rfl rfl rfl) (.loc rfl rfl rfl) .nil ⟨fun _=>rfl⟩) (fun _=>rfl))
  .nil)) rfl)
 (.cons (.ret (.loc rfl rfl rfl))
 .nil)))),
 rfl,rfl,fun _ _ _=>all3 fun _ _ _=>rfl⟩⟩
theorem qie:FnOK Q gt "_law_power" ["_law_base", "_law_exponent", "_law_by", "_law_bits", "_law_found", "_law_bit"] ["_law_base", "_law_exponent", "_law_by"] qdo :=
 ⟨⟨_,yc (i:=22) rfl,rfl,rfl,rfl,rfl,rfl,
 (.cons (.asg (Slot.of rfl) (.lst .nil) (fun _=>rfl))
 (.cons (.whl (.cmp (.loc rfl rfl rfl) .int) (.cons (.expr (.meth (.loc rfl rfl rfl) (.bin (.loc rfl rfl rfl) .int) .nil ⟨fun _=>rfl⟩) (fun _=>rfl))
  (.cons (.asg (Slot.of rfl) (.bin (.loc rfl rfl rfl) .int) (fun _=>rfl))
  .nil)))
 (.cons (.asg (Slot.of rfl) (.bin .int (.loc rfl rfl rfl)) (fun _=>rfl))
 (.cons (.for1 (Slot.of rfl) (.ty (t:=.revd) ⟨rfl,rfl⟩ (.loc rfl rfl rfl) .nil) (.cons (.asg (Slot.of rfl) (.bin (.bin (.loc rfl rfl rfl) (.loc rfl rfl rfl)) (.loc rfl rfl rfl)) (fun _=>rfl))
  (.cons (.ite (.cmp (.loc rfl rfl rfl) .int) (.cons (.asg (Slot.of rfl) (.bin (.bin (.loc rfl rfl rfl) (.loc rfl rfl rfl)) (.loc rfl rfl rfl)) (fun _=>rfl))
   .nil) .nil)
  .nil)) rfl)
 (.cons (.ret (.loc rfl rfl rfl))
 .nil))))),
 rfl,rfl,fun _ _ _=>all3 fun _ _ _=>rfl⟩⟩
theorem qid:FnOK Q gt "_law_round" ["_law_number", "_law_base", "_law_powers", "_law_q", "_law_times_here"] ["_law_number", "_law_base", "_law_powers"] qdn :=
 ⟨⟨_,yc (i:=23) rfl,rfl,rfl,rfl,rfl,rfl,
 (.cons (.ite (.cmp (.call rfl ⟨rfl,rfl⟩ (.loc rfl rfl rfl) (.cons (.bin (.loc rfl rfl rfl) .int) (.cons (.loc rfl rfl rfl) .nil))) .int) (.cons (.ret .bool)
  .nil) .nil)
 (.cons (.forT (.cons (Slot.of rfl) (.cons (Slot.of rfl) .nil)) (.plain (.loc rfl rfl rfl)) (.cons (.ite (.cmp (.call rfl ⟨rfl,rfl⟩ (.loc rfl rfl rfl) (.cons (.bin (.bin (.loc rfl rfl rfl) .int) (.loc rfl rfl rfl)) (.cons (.loc rfl rfl rfl) .nil))) .int) (.cons (.ret .bool)
   .nil) .nil)
  .nil))
 (.cons (.ret .bool)
 .nil))),
 rfl,rfl,fun _ _ _=>all3 fun _ _ _=>rfl⟩⟩
theorem qfu:FnOK Q gt "_law_is_prime" ["_law_number", "_law_at"] ["_law_number"] qb4 :=
 ⟨⟨_,yc (i:=24) rfl,rfl,rfl,rfl,rfl,rfl,
 (.cons (.asg (Slot.of rfl) .int (fun _=>rfl))
 (.cons (.whl (.cmp (.bin (.loc rfl rfl rfl) (.loc rfl rfl rfl)) (.loc rfl rfl rfl)) (.cons (.ite (.cmp (.bin (.loc rfl rfl rfl) (.loc rfl rfl rfl)) .int) (.cons (.ret .bool)
   .nil) .nil)
  (.cons (.asg (Slot.of rfl) (.bin (.loc rfl rfl rfl) .int) (fun _=>rfl))
  .nil)))
 (.cons (.ret (.cmp (.loc rfl rfl rfl) .int))
 .nil))),
 rfl,rfl,fun _ _ _=>all1 fun _=>rfl⟩⟩
theorem qgg:FnOK Q gt "_law_factors" ["_law_number", "_law_found", "_law_at", "_law_times_here"] ["_law_number"] qcj :=
 ⟨⟨_,yc (i:=25) rfl,rfl,rfl,rfl,rfl,rfl,
 (.cons (.asg (Slot.of rfl) (.lst .nil) (fun _=>rfl))
 (.cons (.asg (Slot.of rfl) .int (fun _=>rfl))
 (.cons (.whl (.cmp (.loc rfl rfl rfl) .int) (.cons (.asg (Slot.of rfl) .int (fun _=>rfl))
  (.cons (.whl (.cmp (.bin (.loc rfl rfl rfl) (.loc rfl rfl rfl)) .int) (.cons (.asg (Slot.of rfl) (.bin (.loc rfl rfl rfl) (.loc rfl rfl rfl)) (fun _=>rfl))
   (.cons (.asg (Slot.of rfl) (.bin (.loc rfl rfl rfl) .int) (fun _=>rfl))
   .nil)))
  (.cons (.ite (.cmp (.loc rfl rfl rfl) .int) (.cons (.expr (.meth (.loc rfl rfl rfl) (.tup (.cons (.loc rfl rfl rfl) (.cons (.loc rfl rfl rfl) .nil))) .nil ⟨fun _=>rfl⟩) (fun _=>rfl))
   .nil) .nil)
  (.cons (.asg (Slot.of rfl) (.bin (.loc rfl rfl rfl) .int) (fun _=>rfl))
  .nil)))))
 (.cons (.ret (.bi ⟨rfl,rfl⟩ (.loc rfl rfl rfl) .nil))
 .nil)))),
 rfl,rfl,fun _ _ _=>all1 fun _=>rfl⟩⟩
theorem qfd:FnOK Q gt "_law_prime_row" ["_law_number", "_law_cell", "_law_powers", "_law_base"] ["_law_number", "_law_cell"] qbt :=
 ⟨⟨_,yc (i:=26) rfl,rfl,rfl,rfl,rfl,rfl,
 (.cons (.ite (.cmp (.loc rfl rfl rfl) .int) (.cons (.ret (.tup (.cons .int (.cons (.str (by decide +kernel)) (.cons (.tup .nil) .nil)))))
  .nil) .nil)
 (.cons (.asg (Slot.of rfl) (.call rfl ⟨rfl,rfl⟩ (.bin (.loc rfl rfl rfl) .int) .nil) (fun _=>rfl))
 (.cons (.asg (Slot.of rfl) (.bin .int (.bin (.loc rfl rfl rfl) (.bin (.loc rfl rfl rfl) .int))) (fun _=>rfl))
 (.cons (.whl (.not (.call rfl ⟨rfl,rfl⟩ (.loc rfl rfl rfl) (.cons (.loc rfl rfl rfl) (.cons (.loc rfl rfl rfl) .nil)))) (.cons (.asg (Slot.of rfl) (.bin (.bin (.loc rfl rfl rfl) (.bin (.loc rfl rfl rfl) .int)) .int) (fun _=>rfl))
  .nil))
 (.cons (.ret (.tup (.cons (.loc rfl rfl rfl) (.cons (.str (by decide +kernel)) (.cons (.tup (.cons (.loc rfl rfl rfl) (.cons (.loc rfl rfl rfl) .nil))) .nil)))))
 .nil))))),
 rfl,rfl,fun _ _ _=>all2 fun _ _=>rfl⟩⟩
theorem qeo:FnOK Q gt "_law_parted_row" ["_law_number", "_law_cell", "_law_parts", "_law_roots", "_law_a", "_law_base"] ["_law_number", "_law_cell"] qaz :=
 ⟨⟨_,yc (i:=27) rfl,rfl,rfl,rfl,rfl,rfl,
 (.cons (.asgC (locals:=["_law_at"]) (Slot.of rfl) ⟨qah rfl,(.ty (t:=.range) ⟨rfl,rfl⟩ .int (.cons (.loc rfl rfl rfl) .nil)),(.loc rfl rfl rfl),(.one (.cmp (.bin (.loc rfl rfl rfl) (.loc rfl rfl rfl)) .int)),.one (Slot.of rfl)⟩ (fun h=>nomatch h))
 (.cons (.asgC (locals:=["_law_at"]) (Slot.of rfl) ⟨qah rfl,(.ty (t:=.range) ⟨rfl,rfl⟩ .int (.cons (.bin (.loc rfl rfl rfl) .int) .nil)),(.loc rfl rfl rfl),(.one (.cmp (.bin (.bin (.loc rfl rfl rfl) (.loc rfl rfl rfl)) (.loc rfl rfl rfl)) .int)),.one (Slot.of rfl)⟩ (fun h=>nomatch h))
 (.cons (.asg (Slot.of rfl) (.idx (.loc rfl rfl rfl) (.bin (.bin (.loc rfl rfl rfl) .int) (.bi ⟨rfl,rfl⟩ (.loc rfl rfl rfl) .nil))) (fun _=>rfl))
 (.cons (.ite (.and2 (.cmp (.bin (.loc rfl rfl rfl) .int) .int) (.cmp (.bi ⟨rfl,rfl⟩ (.loc rfl rfl rfl) .nil) .int)) (.cons (.ret (.tup (.cons (.loc rfl rfl rfl) (.cons (.str (by decide +kernel)) (.cons (.tup (.cons (.idx (.loc rfl rfl rfl) (.bin (.bin (.loc rfl rfl rfl) .int) (.bi ⟨rfl,rfl⟩ (.loc rfl rfl rfl) .nil))) .nil)) .nil)))))
  .nil) .nil)
 (.cons (.ite (.cmp (.bin (.loc rfl rfl rfl) .int) .int) (.cons (.ret (.tup (.cons (.loc rfl rfl rfl) (.cons (.str (by decide +kernel)) (.cons (.tup (.cons (.loc rfl rfl rfl) (.cons (.bin (.loc rfl rfl rfl) (.loc rfl rfl rfl)) .nil))) .nil)))))
  .nil) .nil)
 (.cons (.asg (Slot.of rfl) (.bin .int (.bin (.bin (.loc rfl rfl rfl) .int) (.bin (.loc rfl rfl rfl) .int))) (fun _=>rfl))
 (.cons (.whl (.cmp (.call rfl ⟨rfl,rfl⟩ (.loc rfl rfl rfl) (.cons (.bin (.loc rfl rfl rfl) .int) (.cons (.loc rfl rfl rfl) .nil))) .int) (.cons (.asg (Slot.of rfl) (.bin (.bin (.loc rfl rfl rfl) (.bin (.loc rfl rfl rfl) .int)) .int) (fun _=>rfl))
  .nil))
 (.cons (.ret (.tup (.cons (.loc rfl rfl rfl) (.cons (.str (by decide +kernel)) (.cons (.tup (.cons (.loc rfl rfl rfl) .nil)) .nil)))))
 .nil)))))))),
 rfl,rfl,fun _ _ _=>all2 fun _ _=>rfl⟩⟩
theorem qgi:FnOK Q gt "_law_big_row" ["_law_cell", "_law_some", "_law_number", "_law_base", "_law_powers"] ["_law_cell"] qcl :=
 ⟨⟨_,yc (i:=28) rfl,rfl,rfl,rfl,rfl,rfl,
 (.cons (.asg (Slot.of rfl) (.lst (.cons (.tup (.cons .int (.cons .int (.cons (.tup (.cons (.tup (.cons .int (.cons .int .nil))) .nil)) .nil)))) (.cons (.tup (.cons .int (.cons .int (.cons (.tup (.cons (.tup (.cons .int (.cons .int .nil))) (.cons (.tup (.cons .int (.cons .int .nil))) (.cons (.tup (.cons .int (.cons .int .nil))) .nil)))) .nil)))) .nil))) (fun _=>rfl))
 (.cons (.asg (Slot.of rfl) (.bin (.loc rfl rfl rfl) (.lst (.cons (.tup (.cons .int (.cons .int (.cons (.tup (.cons (.tup (.cons .int (.cons .int .nil))) (.cons (.tup (.cons .int (.cons .int .nil))) (.cons (.tup (.cons .int (.cons .int .nil))) .nil)))) .nil)))) (.cons (.tup (.cons .int (.cons .int (.cons (.tup (.cons (.tup (.cons .int (.cons .int .nil))) (.cons (.tup (.cons .int (.cons .int .nil))) .nil))) .nil)))) .nil)))) (fun _=>rfl))
 (.cons (.asgT (.cons (Slot.of rfl) (.cons (Slot.of rfl) (.cons (Slot.of rfl) .nil))) (.idx (.loc rfl rfl rfl) (.bin (.loc rfl rfl rfl) .int)) (fun _=>rfl) (fun _=>rfl))
 (.cons (.asg (Slot.of rfl) (.call rfl ⟨rfl,rfl⟩ (.loc rfl rfl rfl) (.cons (.idx (.lst (.cons .int (.cons .int (.cons .int (.cons .int (.cons .int .nil)))))) (.bin (.bin (.loc rfl rfl rfl) .int) .int)) (.cons (.loc rfl rfl rfl) .nil))) (fun _=>rfl))
 (.cons (.ret (.tup (.cons (.loc rfl rfl rfl) (.cons (.str (by decide +kernel)) (.cons (.tup (.cons (.loc rfl rfl rfl) (.cons (.loc rfl rfl rfl) .nil))) .nil)))))
 .nil))))),
 rfl,rfl,fun _ _ _=>all1 fun _=>rfl⟩⟩
theorem qe8:FnOK Q gt "_law_needs" ["_law_row"] ["_law_row"] qaw :=
 ⟨⟨_,yc (i:=30) rfl,rfl,rfl,rfl,rfl,rfl,
 (.cons (.ite (.cmp (.idx (.loc rfl rfl rfl) .int) (.str (by decide +kernel))) (.cons (.ret (.comp (locals:=["_law_q", "_law_times_here"]) ⟨qah rfl,(.plain (.idx (.idx (.loc rfl rfl rfl) .int) .int)),(.loc rfl rfl rfl),.nil,.tup rfl (.cons (Slot.of rfl) (.cons (Slot.of rfl) .nil))⟩ (fun h=>nomatch h)))
  .nil) .nil)
 (.cons (.ret (.lst .nil))
 .nil)),
 rfl,rfl,fun _ _ _=>all1 fun _=>rfl⟩⟩
theorem qhc:FnOK Q gt "_law_closed" ["_law_rows", "_law_waiting", "_law_cells", "_law_here", "_law_cell"] ["_law_rows", "_law_waiting", "_law_cells"] qcy :=
 ⟨⟨_,yc (i:=31) rfl,rfl,rfl,rfl,rfl,rfl,
 (.cons (.whl (.cmp (.bi ⟨rfl,rfl⟩ (.loc rfl rfl rfl) .nil) .int) (.cons (.asg (Slot.of rfl) (.meth0 (.loc rfl rfl rfl) ⟨fun _=>rfl⟩) (fun _=>rfl))
  (.cons (.ite (.cmp (.loc rfl rfl rfl) (.loc rfl rfl rfl)) (.cons (.asg (Slot.of rfl) (.idx (.loc rfl rfl rfl) (.bin (.bin (.loc rfl rfl rfl) (.bi ⟨rfl,rfl⟩ (.loc rfl rfl rfl) .nil)) (.bi ⟨rfl,rfl⟩ (.loc rfl rfl rfl) .nil))) (fun _=>rfl))
   (.cons (.ite (.call rfl ⟨rfl,rfl⟩ (.loc rfl rfl rfl) .nil) (.cons (.sto (.call rfl ⟨rfl,rfl⟩ (.loc rfl rfl rfl) (.cons (.loc rfl rfl rfl) .nil)) (.loc rfl rfl rfl) (.loc rfl rfl rfl) (fun _=>rfl))
    .nil) (.cons (.sto (.call rfl ⟨rfl,rfl⟩ (.loc rfl rfl rfl) (.cons (.loc rfl rfl rfl) .nil)) (.loc rfl rfl rfl) (.loc rfl rfl rfl) (fun _=>rfl))
    .nil))
   (.cons (.expr (.meth (.loc rfl rfl rfl) (.call rfl ⟨rfl,rfl⟩ (.idx (.loc rfl rfl rfl) (.loc rfl rfl rfl)) .nil) .nil ⟨fun _=>rfl⟩) (fun _=>rfl))
   .nil))) .nil)
  .nil)))
 (.cons (.ret (.comp (locals:=["_law_number"]) ⟨qah rfl,(.plain (.bi ⟨rfl,rfl⟩ (.loc rfl rfl rfl) .nil)),(.idx (.loc rfl rfl rfl) (.loc rfl rfl rfl)),.nil,.one (Slot.of rfl)⟩ (fun h=>nomatch h)))
 .nil)),
 rfl,rfl,fun _ _ _=>all3 fun _ _ _=>rfl⟩⟩
theorem qig:FnOK Q gt "_law_holds" ["_law_row", "_law_primes", "_law_number", "_law_word", "_law_facts", "_law_base", "_law_total", "_law_q", "_law_times_here", "_law_turn"] ["_law_row", "_law_primes"] qdq :=
 ⟨⟨_,yc (i:=33) rfl,rfl,rfl,rfl,rfl,rfl,
 (.cons (.asgT (.cons (Slot.of rfl) (.cons (Slot.of rfl) (.cons (Slot.of rfl) .nil))) (.loc rfl rfl rfl) (fun _=>rfl) (fun _=>rfl))
 (.cons (.ite (.cmp (.loc rfl rfl rfl) (.str (by decide +kernel))) (.cons (.ret (.cmp (.loc rfl rfl rfl) .int))
  .nil) .nil)
 (.cons (.ite (.cmp (.loc rfl rfl rfl) (.str (by decide +kernel))) (.cons (.ret (.cmp (.bin (.idx (.loc rfl rfl rfl) .int) (.idx (.loc rfl rfl rfl) .int)) (.loc rfl rfl rfl)))
  .nil) .nil)
 (.cons (.asg (Slot.of rfl) (.idx (.loc rfl rfl rfl) .int) (fun _=>rfl))
 (.cons (.ite (.cmp (.loc rfl rfl rfl) (.str (by decide +kernel))) (.cons (.ret (.and2 (.cmp2 .int (.loc rfl rfl rfl) (.bin (.loc rfl rfl rfl) .int)) (.cmp (.bin (.bin (.loc rfl rfl rfl) (.loc rfl rfl rfl)) (.loc rfl rfl rfl)) .int)))
  .nil) .nil)
 (.cons (.ite (.cmp (.loc rfl rfl rfl) (.str (by decide +kernel))) (.cons (.ret (.and2 (.cmp (.loc rfl rfl rfl) (.loc rfl rfl rfl)) (.cmp (.call rfl ⟨rfl,rfl⟩ (.loc rfl rfl rfl) (.cons (.bin (.loc rfl rfl rfl) .int) (.cons (.loc rfl rfl rfl) .nil))) .int)))
  .nil) .nil)
 (.cons (.asg (Slot.of rfl) .int (fun _=>rfl))
 (.cons (.forT (.cons (Slot.of rfl) (.cons (Slot.of rfl) .nil)) (.plain (.idx (.loc rfl rfl rfl) .int)) (.cons (.ite (.cmp (.loc rfl rfl rfl) (.loc rfl rfl rfl)) (.cons (.ret .bool)
   .nil) .nil)
  (.cons (.for1 (Slot.of rfl) (.ty (t:=.range) ⟨rfl,rfl⟩ (.loc rfl rfl rfl) .nil) (.cons (.asg (Slot.of rfl) (.bin (.loc rfl rfl rfl) (.loc rfl rfl rfl)) (fun _=>rfl))
   .nil) rfl)
  .nil)))
 (.cons (.ret (.and3 (.cmp (.loc rfl rfl rfl) (.bin (.loc rfl rfl rfl) .int)) (.and2 (.cmp (.loc rfl rfl rfl) (.loc rfl rfl rfl)) (.call rfl ⟨rfl,rfl⟩ (.loc rfl rfl rfl) (.cons (.loc rfl rfl rfl) (.cons (.idx (.loc rfl rfl rfl) .int) .nil))))))
 .nil))))))))),
 rfl,rfl,fun _ _ _=>all2 fun _ _=>rfl⟩⟩
theorem qib:FnOK Q gt "_law_tells" ["_law_row"] ["_law_row"] qdl :=
 ⟨⟨_,yc (i:=34) rfl,rfl,rfl,rfl,rfl,rfl,
 (.cons (.ret (.or2 (.cmp (.idx (.loc rfl rfl rfl) .int) (.str (by decide +kernel))) (.cmp (.idx (.loc rfl rfl rfl) .int) (.str (by decide +kernel)))))
 .nil),
 rfl,rfl,fun _ _ _=>all1 fun _=>rfl⟩⟩
theorem qh9:FnOK Q gt "_law_wrong" ["_law_rows", "_law_primes", "_law_k"] ["_law_rows"] qdj :=
 ⟨⟨_,yc (i:=35) rfl,rfl,rfl,rfl,rfl,rfl,
 (.cons (.asg (Slot.of rfl) (.lst .nil) (fun _=>rfl))
 (.cons (.for1 (Slot.of rfl) (.ty (t:=.range) ⟨rfl,rfl⟩ (.bi ⟨rfl,rfl⟩ (.loc rfl rfl rfl) .nil) .nil) (.cons (.ite (.not (.call rfl ⟨rfl,rfl⟩ (.idx (.loc rfl rfl rfl) (.loc rfl rfl rfl)) (.cons (.loc rfl rfl rfl) .nil))) (.cons (.ret (.loc rfl rfl rfl))
   .nil) .nil)
  (.cons (.ite (.call rfl ⟨rfl,rfl⟩ (.idx (.loc rfl rfl rfl) (.loc rfl rfl rfl)) .nil) (.cons (.expr (.meth (.loc rfl rfl rfl) (.idx (.idx (.loc rfl rfl rfl) (.loc rfl rfl rfl)) .int) .nil ⟨fun _=>rfl⟩) (fun _=>rfl))
   .nil) .nil)
  .nil)) rfl)
 (.cons (.ret .none)
 .nil))),
 rfl,rfl,fun _ _ _=>all1 fun _=>rfl⟩⟩
theorem qdz:FnOK Q gt "_law_other_facts" ["_law_row", "_law_kind", "_law_more", "_law_number", "_law_word", "_law_facts", "_law_base", "_law_powers", "_law_at"] ["_law_row", "_law_kind", "_law_more"] qap :=
 ⟨⟨_,yc (i:=36) rfl,rfl,rfl,rfl,rfl,rfl,
 (.cons (.asgT (.cons (Slot.of rfl) (.cons (Slot.of rfl) (.cons (Slot.of rfl) .nil))) (.loc rfl rfl rfl) (fun _=>rfl) (fun _=>rfl))
 (.cons (.ite (.cmp (.loc rfl rfl rfl) (.str (by decide +kernel))) (.cons (.ret (.tup (.cons (.loc rfl rfl rfl) (.cons (.loc rfl rfl rfl) (.cons (.tup (.cons (.bin (.bin (.idx (.loc rfl rfl rfl) .int) .int) (.bin (.loc rfl rfl rfl) .int)) (.cons (.bin (.idx (.loc rfl rfl rfl) .int) (.bin (.loc rfl rfl rfl) .int)) .nil))) .nil)))))
  .nil) .nil)
 (.cons (.ite (.cmp (.loc rfl rfl rfl) (.str (by decide +kernel))) (.cons (.ret (.tup (.cons (.loc rfl rfl rfl) (.cons (.str (by decide +kernel)) (.cons (.tup (.cons (.bin .int (.bin (.loc rfl rfl rfl) .int)) .nil)) .nil)))))
  .nil) .nil)
 (.cons (.asg (Slot.of rfl) (.idx (.loc rfl rfl rfl) .int) (fun _=>rfl))
 (.cons (.ite (.cmp (.loc rfl rfl rfl) .int) (.cons (.asg (Slot.of rfl) (.idx (.lst (.cons (.bin (.loc rfl rfl rfl) .int) (.cons .int (.cons (.loc rfl rfl rfl) (.cons (.bi ⟨rfl,rfl⟩ (.bin (.loc rfl rfl rfl) (.loc rfl rfl rfl)) (.cons (.bin .int .int) .nil)) .nil))))) (.loc rfl rfl rfl)) (fun _=>rfl))
  (.cons (.ret (.tup (.cons (.loc rfl rfl rfl) (.cons (.loc rfl rfl rfl) (.cons (.bin (.tup (.cons (.loc rfl rfl rfl) .nil)) (.slcT (.loc rfl rfl rfl) (.some .int) .none)) .nil)))))
  .nil)) .nil)
 (.cons (.ite (.or2 (.cmp (.loc rfl rfl rfl) (.str (by decide +kernel))) (.cmp (.loc rfl rfl rfl) (.str (by decide +kernel)))) (.cons (.ret (.tup (.cons (.loc rfl rfl rfl) (.cons (.idx (.lst (.cons (.str (by decide +kernel)) (.cons (.str (by decide +kernel)) .nil))) (.bi ⟨rfl,rfl⟩ (.cmp (.loc rfl rfl rfl) (.str (by decide +kernel))) .nil)) (.cons (.loc rfl rfl rfl) .nil)))))
  .nil) .nil)
 (.cons (.asg (Slot.of rfl) (.bi ⟨rfl,rfl⟩ (.idx (.loc rfl rfl rfl) .int) .nil) (fun _=>rfl))
 (.cons (.asg (Slot.of rfl) (.bin (.loc rfl rfl rfl) (.bi ⟨rfl,rfl⟩ (.loc rfl rfl rfl) .nil)) (fun _=>rfl))
 (.cons (.ite (.cmp (.loc rfl rfl rfl) .int) (.cons (.sto (.tup (.cons (.idx (.idx (.loc rfl rfl rfl) (.loc rfl rfl rfl)) .int) (.cons (.bin (.bin (.idx (.idx (.loc rfl rfl rfl) (.loc rfl rfl rfl)) .int) .int) .int) .nil))) (.loc rfl rfl rfl) (.loc rfl rfl rfl) (fun _=>rfl))
  .nil) (.cons (.ite (.and2 (.cmp (.loc rfl rfl rfl) .int) (.cmp (.bi ⟨rfl,rfl⟩ (.loc rfl rfl rfl) .nil) .int)) (.cons (.asg (Slot.of rfl) (.bin (.slc (.loc rfl rfl rfl) .none (.some (.loc rfl rfl rfl))) (.slc (.loc rfl rfl rfl) (.some (.bin (.loc rfl rfl rfl) .int)) .none)) (fun _=>rfl))
   .nil) (.cons (.ite (.cmp (.loc rfl rfl rfl) .int) (.cons (.asg (Slot.of rfl) (.bin (.loc rfl rfl rfl) (.lst (.cons (.tup (.cons (.bin (.bin (.idx (.idx (.loc rfl rfl rfl) (.neg .int)) .int) .int) (.bin (.loc rfl rfl rfl) .int)) (.cons .int .nil))) .nil))) (fun _=>rfl))
    .nil) (.cons (.ite (.cmp (.bin (.loc rfl rfl rfl) .int) .int) (.cons (.ret (.tup (.cons (.loc rfl rfl rfl) (.cons (.str (by decide +kernel)) (.cons (.tup (.cons (.loc rfl rfl rfl) .nil)) .nil)))))
     .nil) (.cons (.asg (Slot.of rfl) (.call rfl ⟨rfl,rfl⟩ (.loc rfl rfl rfl) (.cons (.idx (.idx (.loc rfl rfl rfl) (.loc rfl rfl rfl)) .int) (.cons (.loc rfl rfl rfl) .nil))) (fun _=>rfl))
     .nil))
    .nil))
   .nil))
  .nil))
 (.cons (.ret (.tup (.cons (.loc rfl rfl rfl) (.cons (.loc rfl rfl rfl) (.cons (.tup (.cons (.bi ⟨rfl,rfl⟩ .int (.cons (.loc rfl rfl rfl) .nil)) (.cons (.bi ⟨rfl,rfl⟩ (.loc rfl rfl rfl) .nil) .nil))) .nil)))))
 .nil)))))))))),
 rfl,rfl,fun _ _ _=>all3 fun _ _ _=>rfl⟩⟩
theorem qhb:FnOK Q gt "_law_spoilt" ["_law_rows", "_law_cell", "_law_more", "_law_at", "_law_kind", "_law_row"] ["_law_rows", "_law_cell", "_law_more"] qau :=
 ⟨⟨_,yc (i:=37) rfl,rfl,rfl,rfl,rfl,rfl,
 (.cons (.asg (Slot.of rfl) (.bin (.loc rfl rfl rfl) (.bi ⟨rfl,rfl⟩ (.loc rfl rfl rfl) .nil)) (fun _=>rfl))
 (.cons (.asg (Slot.of rfl) (.bin (.bin (.loc rfl rfl rfl) .int) .int) (fun _=>rfl))
 (.cons (.asg (Slot.of rfl) (.idx (.loc rfl rfl rfl) (.loc rfl rfl rfl)) (fun _=>rfl))
 (.cons (.ite (.and2 (.cmp (.loc rfl rfl rfl) .int) (.cmp (.bi ⟨rfl,rfl⟩ (.loc rfl rfl rfl) .nil) .int)) (.cons (.ret (.bin (.slc (.loc rfl rfl rfl) .none (.some (.loc rfl rfl rfl))) (.slc (.loc rfl rfl rfl) (.some (.bin (.loc rfl rfl rfl) .int)) .none)))
  .nil) .nil)
 (.cons (.ite (.and2 (.cmp (.loc rfl rfl rfl) .int) (.or2 (.cmp (.loc rfl rfl rfl) (.bin (.bi ⟨rfl,rfl⟩ (.loc rfl rfl rfl) .nil) .int)) (.cmp (.idx (.idx (.loc rfl rfl rfl) (.bin (.loc rfl rfl rfl) .int)) .int) (.bin (.idx (.loc rfl rfl rfl) .int) .int)))) (.cons (.ret (.bin (.bin (.slc (.loc rfl rfl rfl) .none (.some (.loc rfl rfl rfl))) (.lst (.cons (.tup (.cons (.bin (.idx (.loc rfl rfl rfl) .int) .int) (.cons (.idx (.loc rfl rfl rfl) .int) (.cons (.idx (.loc rfl rfl rfl) .int) .nil)))) .nil))) (.slc (.loc rfl rfl rfl) (.some (.bin (.loc rfl rfl rfl) .int)) .none)))
  .nil) .nil)
 (.cons (.ret (.bin (.bin (.slc (.loc rfl rfl rfl) .none (.some (.loc rfl rfl rfl))) (.lst (.cons (.call rfl ⟨rfl,rfl⟩ (.loc rfl rfl rfl) (.cons (.bin (.loc rfl rfl rfl) .int) (.cons (.loc rfl rfl rfl) .nil))) .nil))) (.slc (.loc rfl rfl rfl) (.some (.bin (.loc rfl rfl rfl) .int)) .none)))
 .nil)))))),
 rfl,rfl,fun _ _ _=>all3 fun _ _ _=>rfl⟩⟩
theorem qgf:FnOK Q gt "_law_slip_of" ["_law_q", "_law_cells"] ["_law_q", "_law_cells"] qci :=
 ⟨⟨_,yc (i:=38) rfl,rfl,rfl,rfl,rfl,rfl,
 (.cons (.ret (.bi ⟨rfl,rfl⟩ (.call rfl ⟨rfl,rfl⟩ .dic0 (.cons (.lst (.cons (.loc rfl rfl rfl) .nil)) (.cons (.loc rfl rfl rfl) .nil))) .nil))
 .nil),
 rfl,rfl,fun _ _ _=>all2 fun _ _=>rfl⟩⟩
theorem qjj:FnOK Q gt "_law_laid" ["_law_slips_here", "_law_by", "_law_slip", "_law_row"] ["_law_slips_here"] qes :=
 ⟨⟨_,yc (i:=39) rfl,rfl,rfl,rfl,rfl,rfl,
 (.cons (.asg (Slot.of rfl) .dic0 (fun _=>rfl))
 (.cons (.for1 (Slot.of rfl) (.plain (.loc rfl rfl rfl)) (.cons (.for1 (Slot.of rfl) (.plain (.loc rfl rfl rfl)) (.cons (.ite (.cmp (.idx (.loc rfl rfl rfl) .int) (.loc rfl rfl rfl)) (.cons (.sto (.loc rfl rfl rfl) (.loc rfl rfl rfl) (.idx (.loc rfl rfl rfl) .int) (fun _=>rfl))
    .nil) .nil)
   .nil) rfl)
  .nil) rfl)
 (.cons (.ret (.loc rfl rfl rfl))
 .nil))),
 rfl,rfl,fun _ _ _=>all1 fun _=>rfl⟩⟩
theorem qia:FnOK Q gt "_law_times" ["_law_q", "_law_number", "_law_times_here"] ["_law_q", "_law_number"] qdk :=
 ⟨⟨_,yc (i:=40) rfl,rfl,rfl,rfl,rfl,rfl,
 (.cons (.asg (Slot.of rfl) .int (fun _=>rfl))
 (.cons (.whl (.cmp (.bin (.loc rfl rfl rfl) (.loc rfl rfl rfl)) .int) (.cons (.asg (Slot.of rfl) (.bin (.loc rfl rfl rfl) (.loc rfl rfl rfl)) (fun _=>rfl))
  (.cons (.asg (Slot.of rfl) (.bin (.loc rfl rfl rfl) .int) (fun _=>rfl))
  .nil)))
 (.cons (.ret (.loc rfl rfl rfl))
 .nil))),
 rfl,rfl,fun _ _ _=>all2 fun _ _=>rfl⟩⟩
theorem qli:FnOK Q gt "_law_due" ["_law_number", "_law_base", "_law_slips_here", "_law_primes", "_law_slip", "_law_powers", "_law_row", "_law_by", "_law_under", "_law_waiting", "_law_q"] ["_law_number", "_law_base", "_law_slips_here"] qcd :=
 ⟨⟨_,yc (i:=41) rfl,rfl,rfl,rfl,rfl,rfl,
 (.cons (.ite (.or3 (.isi ⟨rfl,rfl⟩ ⟨rfl,rfl⟩ (.loc rfl rfl rfl)) (.or2 (.not (.isi ⟨rfl,rfl⟩ ⟨rfl,rfl⟩ (.loc rfl rfl rfl))) (.not (.cmp2 .int (.loc rfl rfl rfl) (.bin .int .int))))) (.cons (.ret (.lst (.cons (.str (by decide +kernel)) .nil)))
  .nil) .nil)
 (.cons (.ite (.or3 (.isi ⟨rfl,rfl⟩ ⟨rfl,rfl⟩ (.loc rfl rfl rfl)) (.or2 (.not (.isi ⟨rfl,rfl⟩ ⟨rfl,rfl⟩ (.loc rfl rfl rfl))) (.not (.cmp2 .int (.loc rfl rfl rfl) (.bin .int .int))))) (.cons (.ret (.lst (.cons (.str (by decide +kernel)) .nil)))
  .nil) .nil)
 (.cons (.asg (Slot.of rfl) (.lst .nil) (fun _=>rfl))
 (.cons (.for1 (Slot.of rfl) (.plain (.loc rfl rfl rfl)) (.cons (.ite (.or3 (.not (.isi ⟨rfl,rfl⟩ ⟨rfl,rfl⟩ (.loc rfl rfl rfl))) (.or3 (.cmp (.bi ⟨rfl,rfl⟩ (.loc rfl rfl rfl) .nil) .int) (.or2 (.cmp (.call rfl ⟨rfl,rfl⟩ (.loc rfl rfl rfl) .nil) .none) (.not (.call rfl ⟨rfl,rfl⟩ (.idx (.loc rfl rfl rfl) (.neg .int)) .nil))))) (.cons (.ret (.lst (.cons (.str (by decide +kernel)) .nil)))
   .nil) .nil)
  (.cons (.ite (.cmp (.idx (.idx (.loc rfl rfl rfl) (.neg .int)) .int) (.loc rfl rfl rfl)) (.cons (.expr (.meth (.loc rfl rfl rfl) (.idx (.idx (.loc rfl rfl rfl) (.neg .int)) .int) .nil ⟨fun _=>rfl⟩) (fun _=>rfl))
   .nil) .nil)
  .nil)) rfl)
 (.cons (.ite (.cmp (.loc rfl rfl rfl) (.lst .nil)) (.cons (.ret (.lst (.cons (.str (by decide +kernel)) .nil)))
  .nil) .nil)
 (.cons (.asg (Slot.of rfl) (.bi ⟨rfl,rfl⟩ (.comp (locals:=["_law_q"]) ⟨qah rfl,(.plain (.bi ⟨rfl,rfl⟩ (.loc rfl rfl rfl) .nil)),(.tup (.cons (.loc rfl rfl rfl) (.cons (.call rfl ⟨rfl,rfl⟩ (.loc rfl rfl rfl) (.cons (.bin (.loc rfl rfl rfl) .int) .nil)) .nil))),.nil,.one (Slot.of rfl)⟩ (fun h=>nomatch h)) .nil) (fun _=>rfl))
 (.cons (.asg (Slot.of rfl) (.tup (.cons (.loc rfl rfl rfl) (.cons (.str (by decide +kernel)) (.cons (.tup (.cons (.loc rfl rfl rfl) (.cons (.loc rfl rfl rfl) .nil))) .nil)))) (fun _=>rfl))
 (.cons (.ite (.or2 (.not (.bi ⟨rfl,rfl⟩ (.comp (locals:=["_law_q", "_law_times_here"]) ⟨qah rfl,(.plain (.loc rfl rfl rfl)),(.cmp (.loc rfl rfl rfl) .int),.nil,.tup rfl (.cons (Slot.of rfl) (.cons (Slot.of rfl) .nil))⟩ (fun h=>nomatch h)) .nil)) (.not (.call rfl ⟨rfl,rfl⟩ (.loc rfl rfl rfl) (.cons (.loc rfl rfl rfl) .nil)))) (.cons (.ret (.lst (.cons (.str (by decide +kernel)) .nil)))
  .nil) .nil)
 (.cons (.asg (Slot.of rfl) (.call rfl ⟨rfl,rfl⟩ (.loc rfl rfl rfl) .nil) (fun _=>rfl))
 (.cons (.asg (Slot.of rfl) (.lst .nil) (fun _=>rfl))
 (.cons (.asg (Slot.of rfl) (.bi ⟨rfl,rfl⟩ (.loc rfl rfl rfl) .nil) (fun _=>rfl))
 (.cons (.whl (.cmp (.bi ⟨rfl,rfl⟩ (.loc rfl rfl rfl) .nil) .int) (.cons (.asg (Slot.of rfl) (.meth0 (.loc rfl rfl rfl) ⟨fun _=>rfl⟩) (fun _=>rfl))
  (.cons (.ite (.cmp (.loc rfl rfl rfl) (.loc rfl rfl rfl)) (.cons (.expr (.meth (.loc rfl rfl rfl) (.loc rfl rfl rfl) .nil ⟨fun _=>rfl⟩) (fun _=>rfl))
   (.cons (.expr (.meth (.loc rfl rfl rfl) (.call rfl ⟨rfl,rfl⟩ (.idx (.loc rfl rfl rfl) (.loc rfl rfl rfl)) .nil) .nil ⟨fun _=>rfl⟩) (fun _=>rfl))
   .nil)) .nil)
  .nil)))
 (.cons (.ret (.tup (.cons (.bi ⟨rfl,rfl⟩ (.bin (.comp (locals:=["_law_q"]) ⟨qah rfl,(.plain (.bi ⟨rfl,rfl⟩ (.loc rfl rfl rfl) .nil)),(.idx (.loc rfl rfl rfl) (.loc rfl rfl rfl)),.nil,.one (Slot.of rfl)⟩ (fun h=>nomatch h)) (.lst (.cons (.loc rfl rfl rfl) .nil))) .nil) .nil)))
 .nil))))))))))))),
 rfl,rfl,fun _ _ _=>all3 fun _ _ _=>rfl⟩⟩
theorem qji:FnX XiT Q gt "_law_told" ["_law_number", "_law_base", "_law_slips_here", "e", "_law_words"] ["_law_number", "_law_base", "_law_slips_here"] (qer RGr hdG) :=
 ⟨⟨_,yc (i:=42) rfl,rfl,rfl,rfl,rfl,rfl,
 (.cons (.tryC rfl ⟨rfl,rfl⟩ (.loc rfl rfl rfl) (.cons (.loc rfl rfl rfl) (.cons (.loc rfl rfl rfl) .nil)) (fun ξ=>ξ.gr) ⟨rfl,rfl⟩ (.cons (Slot.of rfl) (.cons (Slot.of rfl) .nil)) (by decide +kernel) rfl (fun _=>rfl) (fun ξ _ _ e=>tryG ξ e (fun f=>qph (qff (f.isi (.head _) rfl rfl rfl rfl rfl) (fun _ _=>rfl)) (qph (qff (f.isi (.tail _ (.head _)) rfl rfl rfl rfl rfl) (fun _ _=>rfl)) (qph (qff (f.isi (.tail _ (.tail _ (.head _))) rfl rfl rfl rfl rfl) (fun _ _=>rfl)) (qph (qvp (qff (f.isi (.tail _ (.tail _ (.tail _ (.head _)))) rfl rfl rfl rfl rfl) (fun _ _=>rfl))) ql4)))) (fun f=>qvq (ql5 f.ok (by decide +kernel) (f.isi (.tail _ (.tail _ (.tail _ (.tail _ (.head _))))) rfl rfl rfl rfl rfl) ξ.gi rfl (fun _=>rfl)) (ql5 f.ok (by decide +kernel) (f.isi (.tail _ (.tail _ (.tail _ (.tail _ (.tail _ (.head _)))))) rfl rfl rfl rfl rfl) ξ.gi rfl (fun _=>rfl))) (fun f=>(ql5 f.ok (by decide +kernel) (f.isi (.tail _ (.tail _ (.tail _ (.tail _ (.tail _ (.tail _ (.head _))))))) rfl rfl rfl rfl rfl) ξ.gi rfl (fun _=>rfl))) rfl (fun _=>rfl)))
 .nil),
 rfl,rfl,fun _ _ _=>all3 fun _ _ _=>rfl⟩⟩
theorem qic:FnOK Q gt "_law_slips" ["_law_cells", "_law_powers", "_law_slips_here", "_law_way", "_law_at", "_law_turn"] ["_law_cells", "_law_powers"] qdm :=
 ⟨⟨_,yc (i:=43) rfl,rfl,rfl,rfl,rfl,rfl,
 (.cons (.asgC (locals:=["_law_k", "_law_q"]) (Slot.of rfl) ⟨qah rfl,(.ty (t:=.enum) ⟨rfl,rfl⟩ (.comp (locals:=["_law_q", "_law_times_here"]) ⟨qah rfl,(.plain (.loc rfl rfl rfl)),(.loc rfl rfl rfl),.nil,.tup rfl (.cons (Slot.of rfl) (.cons (Slot.of rfl) .nil))⟩ (fun h=>nomatch h)) .nil),(.call rfl ⟨rfl,rfl⟩ (.loc rfl rfl rfl) (.cons (.slc (.loc rfl rfl rfl) (.some (.bin (.loc rfl rfl rfl) .int)) .none) .nil)),.nil,.tup rfl (.cons (Slot.of rfl) (.cons (Slot.of rfl) .nil))⟩ (fun _=>rfl))
 (.cons (.asg (Slot.of rfl) (.bin (.idx (.loc rfl rfl rfl) .int) .int) (fun _=>rfl))
 (.cons (.asg (Slot.of rfl) (.bin (.bin (.idx (.loc rfl rfl rfl) .int) .int) (.bi ⟨rfl,rfl⟩ (.loc rfl rfl rfl) .nil)) (fun _=>rfl))
 (.cons (.ite (.cmp (.loc rfl rfl rfl) .int) (.cons (.expr (.meth (.loc rfl rfl rfl) (.loc rfl rfl rfl) .nil ⟨fun _=>rfl⟩) (fun _=>rfl))
  .nil) .nil)
 (.cons (.ite (.cmp (.loc rfl rfl rfl) .int) (.cons (.expr (.meth (.loc rfl rfl rfl) (.call rfl ⟨rfl,rfl⟩ (.idx (.lst (.cons .int (.cons .int (.cons .int (.cons .int (.cons .int .nil)))))) (.bin (.idx (.loc rfl rfl rfl) .int) .int)) (.cons (.slc (.loc rfl rfl rfl) (.some .int) .none) .nil)) .nil ⟨fun _=>rfl⟩) (fun _=>rfl))
  .nil) .nil)
 (.cons (.ite (.cmp (.loc rfl rfl rfl) .int) (.cons (.sto (.bi ⟨rfl,rfl⟩ (.call rfl ⟨rfl,rfl⟩ (.bi ⟨rfl,rfl⟩ (.idx (.loc rfl rfl rfl) (.loc rfl rfl rfl)) .nil) (.cons (.idx (.loc rfl rfl rfl) .int) (.cons (.idx (.loc rfl rfl rfl) .int) .nil))) .nil) (.loc rfl rfl rfl) (.loc rfl rfl rfl) (fun _=>rfl))
  .nil) .nil)
 (.cons (.ite (.cmp (.loc rfl rfl rfl) .int) (.cons (.expr (.meth (.loc rfl rfl rfl) (.loc rfl rfl rfl) (.cons (.call rfl ⟨rfl,rfl⟩ (.bin .int (.bin .int (.bin (.idx (.loc rfl rfl rfl) .int) .int))) (.cons (.loc rfl rfl rfl) .nil)) .nil) ⟨fun _=>rfl⟩) (fun _=>rfl))
  .nil) .nil)
 (.cons (.ite (.cmp (.loc rfl rfl rfl) .int) (.cons (.expr (.meth (.loc rfl rfl rfl) (.loc rfl rfl rfl) (.cons (.idx (.lst (.cons (.tup .nil) (.cons .none (.cons (.bi ⟨rfl,rfl⟩ (.idx (.loc rfl rfl rfl) (.loc rfl rfl rfl)) .nil) (.cons (.str (by decide +kernel)) (.cons .int (.cons (.lst (.cons (.idx (.loc rfl rfl rfl) (.loc rfl rfl rfl)) .nil)) .nil))))))) (.bin (.idx (.loc rfl rfl rfl) .int) .int)) .nil) ⟨fun _=>rfl⟩) (fun _=>rfl))
  .nil) .nil)
 (.cons (.ite (.cmp (.loc rfl rfl rfl) .int) (.cons (.expr (.meth (.loc rfl rfl rfl) (.call rfl ⟨rfl,rfl⟩ (.idx (.idx (.idx (.loc rfl rfl rfl) (.loc rfl rfl rfl)) (.neg .int)) .int) (.cons (.slc (.loc rfl rfl rfl) (.some .int) .none) .nil)) .nil ⟨fun _=>rfl⟩) (fun _=>rfl))
  .nil) .nil)
 (.cons (.asg (Slot.of rfl) (.bin (.idx (.loc rfl rfl rfl) .int) (.bin .int (.bi ⟨rfl,rfl⟩ (.loc rfl rfl rfl) .nil))) (fun _=>rfl))
 (.cons (.ret (.bin (.slc (.loc rfl rfl rfl) (.some (.loc rfl rfl rfl)) .none) (.slc (.loc rfl rfl rfl) .none (.some (.loc rfl rfl rfl)))))
 .nil))))))))))),
 rfl,rfl,fun _ _ _=>all2 fun _ _=>rfl⟩⟩
theorem qwh:FnOK Q gt "law" ["_law_script", "_law_cells", "_law_number", "_law_row", "_law_base", "_law_slips_here", "_law_some", "_law_due_here", "_law_handed", "_law_found"] ["_law_script"] qin :=
 ⟨⟨_,yc (i:=44) rfl,rfl,rfl,rfl,rfl,rfl,
 (.cons (.asg (Slot.of rfl) (.call rfl ⟨rfl,rfl⟩ (.loc rfl rfl rfl) (.cons .int (.cons .int .nil))) (fun _=>rfl))
 (.cons (.asg (Slot.of rfl) (.bin .int (.bin (.bin (.idx (.loc rfl rfl rfl) .int) .int) .int)) (fun _=>rfl))
 (.cons (.whl (.and2 (.cmp (.bin (.idx (.loc rfl rfl rfl) .int) .int) .int) (.not (.call rfl ⟨rfl,rfl⟩ (.loc rfl rfl rfl) .nil))) (.cons (.asg (Slot.of rfl) (.bin (.loc rfl rfl rfl) .int) (fun _=>rfl))
  .nil))
 (.cons (.asg (Slot.of rfl) (.tup (.cons (.loc rfl rfl rfl) (.cons (.str (by decide +kernel)) (.cons (.tup (.cons (.bin .int (.bin (.idx (.loc rfl rfl rfl) .int) (.loc rfl rfl rfl))) (.cons (.call rfl ⟨rfl,rfl⟩ (.bin (.loc rfl rfl rfl) .int) .nil) .nil))) .nil)))) (fun _=>rfl))
 (.cons (.ite (.cmp (.bin (.idx (.loc rfl rfl rfl) .int) .int) .int) (.cons (.asg (Slot.of rfl) (.call rfl ⟨rfl,rfl⟩ (.bin (.idx (.loc rfl rfl rfl) .int) .int) .nil) (fun _=>rfl))
  .nil) (.cons (.ite (.and2 (.cmp (.bin (.idx (.loc rfl rfl rfl) .int) .int) .int) (.call rfl ⟨rfl,rfl⟩ (.loc rfl rfl rfl) .nil)) (.cons (.asg (Slot.of rfl) (.call rfl ⟨rfl,rfl⟩ (.loc rfl rfl rfl) (.cons (.idx (.loc rfl rfl rfl) .int) .nil)) (fun _=>rfl))
   .nil) .nil)
  .nil))
 (.cons (.asg (Slot.of rfl) (.idx (.loc rfl rfl rfl) .int) (fun _=>rfl))
 (.cons (.asg (Slot.of rfl) (.idx (.idx (.loc rfl rfl rfl) .int) .int) (fun _=>rfl))
 (.cons (.asg (Slot.of rfl) (.call rfl ⟨rfl,rfl⟩ (.loc rfl rfl rfl) (.cons (.idx (.idx (.loc rfl rfl rfl) .int) .int) .nil)) (fun _=>rfl))
 (.cons (.ite (.cmp (.bin (.idx (.loc rfl rfl rfl) .int) .int) .int) (.cons (.asg (Slot.of rfl) (.lst (.cons .int (.cons .int (.cons .int (.cons (.bin (.bin .int .int) .int) (.cons .bool (.cons .none (.cons (.str (by decide +kernel)) (.cons .int (.cons .int .nil)))))))))) (fun _=>rfl))
  (.cons (.asg (Slot.of rfl) (.idx (.loc rfl rfl rfl) (.bin (.bin (.idx (.loc rfl rfl rfl) .int) .int) .int)) (fun _=>rfl))
  .nil)) .nil)
 (.cons (.ite (.cmp (.bin (.idx (.loc rfl rfl rfl) .int) .int) .int) (.cons (.asg (Slot.of rfl) (.idx (.lst (.cons .int (.cons (.bin (.bin .int .int) .int) (.cons .bool (.cons .none (.cons (.bin .int .int) .nil)))))) (.bin (.bin (.idx (.loc rfl rfl rfl) .int) .int) .int)) (fun _=>rfl))
  .nil) .nil)
 (.cons (.asg (Slot.of rfl) (.call rfl ⟨rfl,rfl⟩ (.loc rfl rfl rfl) (.cons (.loc rfl rfl rfl) (.cons (.loc rfl rfl rfl) .nil))) (fun _=>rfl))
 (.cons (.asg (Slot.of rfl) (.bi ⟨rfl,rfl⟩ (.loc rfl rfl rfl) .nil) (fun _=>rfl))
 (.cons (.asg (Slot.of rfl) (.call rfl ⟨rfl,rfl⟩ (.loc rfl rfl rfl) (.cons (.loc rfl rfl rfl) (.cons (.loc rfl rfl rfl) .nil))) (fun _=>rfl))
 (.cons (.ite (.or2 (.cmp (.loc rfl rfl rfl) (.loc rfl rfl rfl)) (.cmp (.loc rfl rfl rfl) (.loc rfl rfl rfl))) (.cons (.ret .bool)
  .nil) .nil)
 (.cons (.ite (.cmp (.call rfl ⟨rfl,rfl⟩ (.loc rfl rfl rfl) (.cons (.loc rfl rfl rfl) (.cons (.rev (.loc rfl rfl rfl)) .nil))) (.call rfl ⟨rfl,rfl⟩ (.loc rfl rfl rfl) (.cons (.loc rfl rfl rfl) (.cons (.rev (.loc rfl rfl rfl)) .nil)))) (.cons (.ret .bool)
  .nil) .nil)
 (.cons (.ret (.cmp (.call rfl ⟨rfl,rfl⟩ (.loc rfl rfl rfl) (.cons (.loc rfl rfl rfl) (.cons (.loc rfl rfl rfl) .nil))) (.loc rfl rfl rfl)))
 .nil)))))))))))))))),
 rfl,rfl,fun _ _ _=>all1 fun _=>rfl⟩⟩
theorem qw4:qf4.all (fun x=>qqy Q [Str.ofString "BOUND"] x)=true:=by decide +kernel
theorem qy4:gt.fns.all (fun x=>((recsOf Q).map (·.name)).contains x)=true:=by decide +kernel
end
section
open PySem PySem.W PyProof.Rows
theorem VRs.strs {ss:List Str}(q:StrsAre vs ss) (ok:ss.all PyData.strOk=true):VRs B h ι (ss.map .str) vs:=by
 induction q with
 | nil=>rfl
 | cons _ t r ih =>
  simp only [List.all_cons,Bool.and_eq_true] at ok
  exact ⟨_,_,rfl,VR.mkStr _ _ ok.1,ih ok.2⟩
theorem qpr:qbb.all PyData.strOk=true:=by decide +kernel
theorem qps:tupStrsOf Q "WORDS" = some qbb:=by decide +kernel
theorem main13 {prog:Program}{R:WRecords}{w:World}{s0:Shared}{mg mb:Str->Option Value}(G:Ground Q [Str.ofString "BOUND"] R (XC Q [(Str.ofString "BOUND",.int 1000000000000000000000000000000)] clsQ) w s0 mg mb h){ns:List Int}(hl:ns.length<=63) :
  qa2 (PEnv.mk prog w h mg mb) 9 "law" [.fro (ns.map .int)] [] (fun v _=>v=.bool true) XF:=by
 have ok:GOK (PEnv.mk prog w h mg mb) gt:=qw2 G qw4 qy4 (fun x v e=>by
  simp only [gt,List.lookup_cons] at e
  split at e
  ·rename_i hx
   have hx:=beq_iff_eq.mp hx
   subst hx
   cases e
   obtain ⟨u,h1,h2⟩:=G.X.1.2.val (Str.ofString "BOUND",.int 1000000000000000000000000000000) (ym rfl)
   cases h2
   exact ⟨_,h1,fun _ _ _=>VR.mkInt _ _⟩
  split at e
  ·rename_i hx
   have hx:=beq_iff_eq.mp hx
   subst hx
   cases e
   obtain ⟨a,vs,h1,h2,h3⟩:=G.B.tupS (Str.ofString "WORDS") qbb qps
   refine ⟨_,h1,fun h' ι st=>?_⟩
   show VR h h' ι (.tup (qbb.map .str)) _
   unfold VR
   exact ⟨_,vs,rfl,PTup.of (h2.keeps st),VRs.strs h3 qpr⟩
  split at e
  ·rename_i hx
   have hx:=beq_iff_eq.mp hx
   subst hx
   cases e
   obtain ⟨u,h1,h2⟩:=G.T.const (Str.ofString "MOST_TIMES") (.int 100) rfl
   cases h2 default
   exact ⟨_,h1,fun _ _ _=>VR.mkInt _ _⟩
  split at e
  ·rename_i hx
   have hx:=beq_iff_eq.mp hx
   subst hx
   cases e
   obtain ⟨u,h1,h2⟩:=G.T.const (Str.ofString "MOST_ROWS") (.int 200) rfl
   cases h2 default
   exact ⟨_,h1,fun _ _ _=>VR.mkInt _ _⟩
  ·simp at e)
 have cell:∀ n,qx6 (CK (PEnv.mk prog w h mg mb) (n+1)):=fun n l k H Q h1 h2 h3=>qgh.call (n:=n) G ok (Φ:=CK _ n) (fun _ _ _ _ h=>h) (qu7 h1 h2 h3)
 have wh:∀ n,SWh "is_whole" (CK (PEnv.mk prog w h mg mb) (n+1)):=fun n v a b H Q h1=>qjk.call (n:=n) G ok (Φ:=CK _ n) (fun _ _ _ _ h=>h) (is_whole h1)
 have pws:∀ n,SPw "are_powers" (CK (PEnv.mk prog w h mg mb) (n+2)):=fun n v m H Q h1 h2=>qhd.call (n:=n+1) G ok (Φ:=CK _ (n+1)) (fun _ _ _ _ h=>h) (are_powers (wh n) h1 h2)
 have fac:∀ n,SFac (CK (PEnv.mk prog w h mg mb) (n+3)):=fun n w f m H Q h1 h2=>qih.call (n:=n+2) G ok (Φ:=CK _ (n+2)) (fun _ _ _ _ h=>h) (are_facts (wh (n+1)) (pws n) h1 h2)
 have isrow:∀ n,SRow "is_row" (CK (PEnv.mk prog w h mg mb) (n+4)):=fun n v H Q h1 h2=>qne.call (n:=n+3) G ok (Φ:=CK _ (n+3)) (fun _ _ _ _ h=>h) (is_row (wh (n+2)) (fac n) h1 h2)
 have slip:∀ n,qx4 (CK (PEnv.mk prog w h mg mb) (n+5)):=fun n v H Q h1 h2=>qlj.call (n:=n+4) G ok (Φ:=CK _ (n+4)) (fun _ _ _ _ h=>h) (is_slip (isrow n) h1 h2)
 have pow:∀ n,SPow (CK (PEnv.mk prog w h mg mb) (n+1)):=fun n b e m H Q h1 h2 h3 h4=>qlg.call (n:=n) G ok (Φ:=CK _ n) (fun _ _ _ _ h=>h) (powered h1 h2 h3 h4)
 have comes:∀ n,qsp (CK (PEnv.mk prog w h mg mb) (n+1)):=fun n k ps m H Q h1 h2 h3 h4 h5=>qjl.call (n:=n) G ok (Φ:=CK _ n) (fun _ _ _ _ h=>h) (comes_to h1 h2 h3 h4 h5)
 have hp:∀ n,SHp (CK (PEnv.mk prog w h mg mb) (n+2)):=fun n k j m b ps pr H Q h1 h2 h3=>qgj.call (n:=n+1) G ok (Φ:=CK _ (n+1)) (fun _ _ _ _ h=>h) (holds_prime (comes n) (pow n) h1 h2 h3)
 have ho:∀ n,qde "holds" (CK (PEnv.mk prog w h mg mb) (n+3)):=fun n k j m f pr H Q h1 h2 h3=>qqg.call (n:=n+2) G ok (Φ:=CK _ (n+2)) (fun _ _ _ _ h=>h) (holds (hp n) (pow (n+1)) h1 h2 h3)
 have tp:∀ n,qfc "tells_prime" (CK (PEnv.mk prog w h mg mb) (n+1)):=fun n m f H Q h1=>qge.call (n:=n) G ok (Φ:=CK _ n) (fun _ _ _ _ h=>h) (qv2 h1)
 have wt:∀ n,qo6 (CK (PEnv.mk prog w h mg mb) (n+4)):=fun n k rs H Q h1 h2 h3=>qjg.call (n:=n+3) G ok (Φ:=CK _ (n+3)) (fun _ _ _ _ h=>h) (wrong_at (ho n) (tp (n+2)) h1 h2 h3)
 have lb:∀ n,qrx (CK (PEnv.mk prog w h mg mb) (n+6)):=fun n v H Q h1 h2 h3=>qlh.call (n:=n+5) G ok (Φ:=CK _ (n+5)) (fun _ _ _ _ h=>h) (lets_by (slip n) (wt (n+1)) h1 h2 h3)
 have p1:∀ n,qg5 (CK (PEnv.mk prog w h mg mb) (n+1)):=fun n b e m H Q h1 h2 h3 h4 h5 h6=>qhs (qie.call (n:=n) G ok (Φ:=CK _ n) (fun _ _ _ _ h=>h) (power h1 h2 h3 h4 h5 fun H' p=>⟨p,rfl,h6⟩))
 have p2:∀ n,qpa (CK (PEnv.mk prog w h mg mb) (n+2)):=fun n m b ps H Q h1 h2 h3 h4 h5=>qid.call (n:=n+1) G ok (Φ:=CK _ (n+1)) (fun _ _ _ _ h=>h) (qyn (p1 n) h1 h2 h3 h4 h5)
 have lh:∀ n,qde "_law_holds" (CK (PEnv.mk prog w h mg mb) (n+3)):=fun n k j m f pr H Q h1 h2 h3=>qig.call (n:=n+2) G ok (Φ:=CK _ (n+2)) (fun _ _ _ _ h=>h) (qnp (p2 n) (p1 (n+1)) h1 h2 (h3 H (List.prefix_refl _)))
 have lt:∀ n,qfc "_law_tells" (CK (PEnv.mk prog w h mg mb) (n+1)):=fun n m f H Q h1=>qib.call (n:=n) G ok (Φ:=CK _ n) (fun _ _ _ _ h=>h) (tells h1)
 have isp:∀ n,SIsP (CK (PEnv.mk prog w h mg mb) (n+1)):=fun n m H Q h1 h2 h3=>qfu.call (n:=n) G ok (Φ:=CK _ n) (fun _ _ _ _ h=>h) (qqs h1 h2 h3)
 have fct:∀ n,qvm (CK (PEnv.mk prog w h mg mb) (n+1)):=fun n m H Q h1 h2 h3=>qhs (qgg.call (n:=n) G ok (Φ:=CK _ n) (fun _ _ _ _ h=>h) (qum h1 h2 fun H' p=>⟨p,qm4 _,h3⟩))
 have prow:∀ n,qvl (CK (PEnv.mk prog w h mg mb) (n+3)):=fun n m c H Q h1 h2 h3 h4 h5=>qfd.call (n:=n+2) G ok (Φ:=CK _ (n+2)) (fun _ _ _ _ h=>h) (qm8 (fct (n+1)) (p2 n) h1 h2 h3 h4 h5)
 have part:∀ n,qx5 (CK (PEnv.mk prog w h mg mb) (n+2)):=fun n m c H Q h1 h2 h3 h4 h5=>qhs (qeo.call (n:=n+1) G ok (Φ:=CK _ (n+1)) (fun _ _ _ _ h=>h) (qlf (p1 n) h1 h2 h3 h4 fun r a t b c H' p=>⟨p,qk0 r,h5 r a t b c⟩))
 have big:∀ n,SBig (CK (PEnv.mk prog w h mg mb) (n+2)):=fun n c H Q h1 h2=>qhs (qgi.call (n:=n+1) G ok (Φ:=CK _ (n+1)) (fun _ _ _ _ h=>h) (qvg (p1 n) h1 fun r a t b c H' p=>⟨p,qk0 r,h2 r a t b c⟩))
 have nds:∀ n,qso (CK (PEnv.mk prog w h mg mb) (n+1)):=fun n r H Q h1 h2=>qe8.call (n:=n) G ok (Φ:=CK _ n) (fun _ _ _ _ h=>h) (needs h1 h2)
 have cls:∀ n,qpd (CK (PEnv.mk prog w h mg mb) (n+4)):=fun n P N i j k m D W cs H H0 Q a1 a2 h1 h2 h3 h4 h5 h6 h7 h8 h9 h10 h11 h12 h13 h14 h15=>qhc.call (n:=n+3) G ok (Φ:=CK _ (n+3)) (fun _ _ _ _ h=>h) (qxx (isp (n+2)) (prow n) (part (n+1)) (nds (n+2)) a1 a2 h1 h2 h3 h4 h5 h6 h7 h8 h9 h10 h11 h12 h13 h14 h15)
 have nl:∀ n,qef "_law_needs" (CK (PEnv.mk prog w h mg mb) (n+1)):=fun n k m f H Q h1 h2=>qe8.call (n:=n) G ok (Φ:=CK _ n) (fun _ _ _ _ h=>h) (qwm h1 h2)
 have np:∀ n,qef "needs" (CK (PEnv.mk prog w h mg mb) (n+1)):=fun n k m f H Q h1 h2=>qqf.call (n:=n) G ok (Φ:=CK _ n) (fun _ _ _ _ h=>h) (qyv h1 h2)
 have oth:∀ n,qsn (CK (PEnv.mk prog w h mg mb) (n+2)):=fun n k m f kd mm H Q h1 h2 h3 h4 h5 h6=>qdz.call (n:=n+1) G ok (Φ:=CK _ (n+1)) (fun _ _ _ _ h=>h) (qjf (p1 n) h1 h2 h3 h4 h5 h6)
 have spo:∀ n,qjw (CK (PEnv.mk prog w h mg mb) (n+3)):=fun n k i rs c m H Q h1 h2 h3 h4 h5 h6=>qhb.call (n:=n+2) G ok (Φ:=CK _ (n+2)) (fun _ _ _ _ h=>h) (qv4 (oth n) h1 h2 h3 h4 h5 h6)
 -- clsQ
 have own:∀ c∈ws3,∃ D,PyProof.Rows.OwnCls c D bmV "ValueError.__new__" mg h:=fun c hc=>by
  rcases yg hc with rfl|hc
  ·obtain ⟨C,O,_⟩:=G.T.ownAt (x := "NoNumber") (newId := "ValueError.__new__") (bm:=[.type "ValueError",.type "Exception",.type "BaseException",.type "object"]) (by decide +kernel)
   exact ⟨C,O.own⟩
  ·rcases yg hc with rfl|hc
   ·obtain ⟨C,O,_⟩:=G.T.ownAt (x := "NoSlip") (newId := "ValueError.__new__") (bm:=[.type "ValueError",.type "Exception",.type "BaseException",.type "object"]) (by decide +kernel)
    exact ⟨C,O.own⟩
   ·rw [yb hc]
    obtain ⟨C,O,_⟩:=G.T.ownAt (x := "NotHeld") (newId := "ValueError.__new__") (bm:=[.type "ValueError",.type "Exception",.type "BaseException",.type "object"]) (by decide +kernel)
    exact ⟨C,O.own⟩
 have sets:qrw (PEnv.mk prog w h mg mb):=⟨qjs G (by decide +kernel),(G.T.builtins _ (by decide +kernel)).trans (by decide +kernel)⟩
 obtain ⟨K,hK,hq⟩:=G.X.2
 have cf:∀ c∈ws3,qe4 (PEnv.mk prog w h mg mb) c "SlipError" /\ ∃ D,mg c=some (.ref D)/\IsF (PEnv.mk prog w h mg mb) D (qln c):=fun c hc=>by
  have hm:(⟨c,qlo c,[("ValueError",true)],["SlipError"]⟩:ClsQ)∈clsQ:=by
   rcases yg hc with rfl|hc
   ·exact .head _
   ·rcases yg hc with rfl|hc
    ·exact .tail _ (.head _)
    ·rw [yb hc];exact .tail _ (.tail _ (.head _))
  obtain ⟨D,F⟩:=hq _ hm
  refine ⟨by obtain ⟨v,h1,h2⟩:=F.ct "SlipError" (.head _);exact ql0 hK F.at_ h1 h2,D,F.at_,ok.toOK,.inr ok.isi,K,hK,F.exc,fun p hp=>?_⟩
  have hp:p∈qlo c\/p=((Str.ofString "ValueError"),true):=by
   simp only [qln,List.mem_cons,List.not_mem_nil,or_false] at hp
   simp only [qlo,List.mem_cons,List.not_mem_nil,or_false]
   rcases hp with z|z|z|z|z|z|z
   ·exact .inl (.inl z)
   ·exact .inl (.inr (.inl z))
   ·exact .inl (.inr (.inr (.inl z)))
   ·exact .inr z
   ·exact .inl (.inr (.inr (.inr (.inl z))))
   ·exact .inl (.inr (.inr (.inr (.inr (.inl z)))))
   ·exact .inl (.inr (.inr (.inr (.inr (.inr z)))))
  rcases hp with z|z
  ·obtain ⟨v,h1,h2⟩:=F.kit p z
   exact ⟨v,.inl h1,h2⟩
  ·rw [z]
   exact ⟨.type "ValueError",.inr ⟨qjs G (by decide +kernel),(G.T.builtins _ (by decide +kernel)).trans (by decide +kernel)⟩,F.ty ("ValueError",true) (.head _)⟩
 have mixA:∀ n,qpb (CK (PEnv.mk prog w h mg mb) (n+2)):=fun n l a m H Q h0 h1 h2 h3=>qif.call (n:=n+1) G ok (Φ:=CK _ (n+1)) (fun _ _ _ _ h=>h) (qwo (cell n) h0 h1 h2 h3)
 have tmi:∀ n,qk2 (CK (PEnv.mk prog w h mg mb) (n+1)):=fun n m e H Q h1 h2 h3 h4 h5=>qjh.call (n:=n) G ok (Φ:=CK _ n) (fun _ _ _ _ h=>h) (times_in h1 h2 h3 h4 h5)
 have tml:∀ n,qhz (CK (PEnv.mk prog w h mg mb) (n+1)):=fun n m e H Q h1 h2 h3 h4 h5=>qia.call (n:=n) G ok (Φ:=CK _ n) (fun _ _ _ _ h=>h) (qme h1 h2 h3 h4 h5)
 have say:∀ n,qo9 (CK (PEnv.mk prog w h mg mb) (n+2)):=fun n rs r H Q h1 h2 h3=>qtq.call (n:=n+1) G ok (Φ:=CK _ (n+1)) (fun _ _ _ _ h=>h) (says (tp n) h1 h2 h3)
 have byr:∀ n,SByR (CK (PEnv.mk prog w h mg mb) (n+1)):=fun n i l H Q h1 h2 h3=>qd0.call (n:=n) G ok (Φ:=CK _ n) (fun _ _ _ _ h=>h) (by_numbers h1 h2 h3)
 have byt:∀ n,SByT (CK (PEnv.mk prog w h mg mb) (n+1)):=fun n l H Q h1 h2=>qd0.call (n:=n) G ok (Φ:=CK _ n) (fun _ _ _ _ h=>h) (qju h1 h2)
 have mer:∀ n,SMer (CK (PEnv.mk prog w h mg mb) (n+2)):=fun n i ss H Q h1 h2 h3=>qnd.call (n:=n+1) G ok (Φ:=CK _ (n+1)) (fun _ _ _ _ h=>h) (merged (byr n) h1 h2 h3)
 have sto:∀ n,qo7 (CK (PEnv.mk prog w h mg mb) (n+2)):=fun n rs m H Q h1 h2 h3=>qh8.call (n:=n+1) G ok (Φ:=CK _ (n+1)) (fun _ _ _ _ h=>h) (stands_on (byt n) (np n) h1 h2 h3)
 have cutc:∀ n,SCut (CK (PEnv.mk prog w h mg mb) (n+3)):=fun n rs m H Q h1 h2 h3=>qwi.call (n:=n+2) G ok (Φ:=CK _ (n+2)) (fun _ _ _ _ h=>h) (cut (sto n) h1 h2 h3)
 have gr:∀ args H Q X,RGr args H Q X->qa2 (PEnv.mk prog w h mg mb) 7 "grown" args H Q X:=fun args H Q X ⟨vn,vb,its,i,e,h1,h2,h3,h4,h5⟩=>e▸qqh.call (n:=6) G ok ⟨own,sets⟩ (Φ:=CK _ 6) (fun _ _ _ _ h=>h) (grown (wh 5) (lb 0) (say 4) (tmi 5) (ho 3) (mer 4) (cutc 3) h1 h2 h3 h4 h5)
 have xit:XiT (PEnv.mk prog w h mg mb) 7:=⟨gr,fun c hc=>(cf c hc).1,fun c hc=>(cf c hc).2,.inr (ok.ty .int)⟩
 have tld:SAns "_law_told" (CK (PEnv.mk prog w h mg mb) 8):=fun vn vb its i H Q h1 h2 h3 h4=>qji.call (n:=7) G ok xit (Φ:=CK _ 7) (fun _ _ _ _ h=>h) (told h1 h2 h3 h4)
 have wru:∀ n,qhy (CK (PEnv.mk prog w h mg mb) (n+4)):=fun n k rs H Q h1 h2 h3=>qh9.call (n:=n+3) G ok (Φ:=CK _ (n+3)) (fun _ _ _ _ h=>h) (qk5 (lh n) (lt (n+2)) h1 h2 h3)
 have lai:∀ n,qpc (CK (PEnv.mk prog w h mg mb) (n+1)):=fun n i ss H Q h1 h2 h3=>qjj.call (n:=n) G ok (Φ:=CK _ n) (fun _ _ _ _ h=>h) (laid h1 h2 h3)
 have dues:SAns "_law_due" (CK (PEnv.mk prog w h mg mb) 8):=fun vn vb its i H Q h1 h2 h3 h4=>qli.call (n:=7) G ok (Φ:=CK _ 7) (fun _ _ _ _ h=>h) (due (wru 3) (lt 6) (tml 6) (lh 4) (lai 6) (nl 6) h1 h2 h3 h4)
 have sof:∀ n,qe2 (CK (PEnv.mk prog w h mg mb) (n+5)):=fun n w' k m cs H Q h1 h2 h3 h4 h5 h6=>qgf.call (n:=n+4) G ok (Φ:=CK _ (n+4)) (fun _ _ _ _ h=>h) (qs9 (cls n) h1 h2 h3 h4 h5 h6)
 have sls:∀ n,qo8 (CK (PEnv.mk prog w h mg mb) (n+6)):=fun n ic cs ps H Q h1 h2 h3 h4 h5 h6=>qic.call (n:=n+5) G ok (Φ:=CK _ (n+5)) (fun _ _ _ _ h=>h) (slips (sof n) (spo (n+2)) h1 h2 h3 h4 h5 h6)
 exact qwh.call (n:=8) G ok (Φ:=CK _ 8) (fun _ _ _ _ h=>h) (qyy (mixA 6) (isp 7) (fct 7) (big 6) (prow 5) (sls 2) dues tld hl fun H'=>rfl)
end
end Mine
end
open PySem PySem.W PyProof.Rows
theorem PySem.Challenge.cw_uf030003_13_holds : PySem.Challenge.rw_uf030003_13.Holds := by
 w_on
 refine holds_law Mine.said fun k=>?_
 refine holds_open (q:=Mine.Q) (loose:=[Str.ofString "BOUND"]) (Xt:=Mine.Xt) (XP:=Mine.XC Mine.Q [(Str.ofString "BOUND",.int 1000000000000000000000000000000)] Mine.clsQ) (Yf:=Hook.obs Hook.none) (Ya:=Hook.val Hook.none) (YP:=Hook.says Hook.none) (N:=3000) Mine.left (Hook.of Hook.none) (Hook.keeps Hook.none) (fun s e=>⟨xl_of s (Bool.and_eq_true_iff.mp (Bool.and_eq_true_iff.mp e).1).1,Mine.cf_of s (Bool.and_eq_true_iff.mp e).2⟩) Mine.XC.keeps (by rfl) (by rfl) (by rfl) (fun s e=>recFacts_of (Bool.and_eq_true_iff.mp (Bool.and_eq_true_iff.mp e).1).2) rfl k (by decide +kernel) ⟨rfl,rfl,rfl,rfl,rfl,by decide +kernel⟩ ?hw ?hc
 case hw=>w_witness2
 intro w s0 s1 mg mb G Y fa o pm cd doc dV kV ho hd hcd hD hmg hg args vals as hpre hlay hrd hwl hlo
 have hm:mg (Str.ofString "law")=some (.ref fa):=hmg
 clear ho hd hcd hD Y hmg
 have T:=G.T
 wrow_args hpre hlay hrd hwl hlo
 rename_i hI hr h63 ht
 refine enter_call ?_
 exact Mine.finish (n:=9) hm hg (by decide) (by assumption) hI (fun _=>rfl) (Mine.post_true _ _) (Mine.main13 G (by exact Mine.z402 h63))
