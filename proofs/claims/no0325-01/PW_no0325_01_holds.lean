import PyProof.Rows.All
import Wide.All
import OpenK.AllK
import Wide.FinOn
import KE.KSuper
import PySem.Challenge.RW_no0325_01
open PySem PySem.W PySem.Calls PyProof.Rows
set_option Elab.async false
set_option linter.all false
set_option maxRecDepth 100000
namespace Mine.Internal
set_option bootstrap.genMatcherCode false
set_option genSizeOf false
set_option genInjectivity false
noncomputable section
@[elab_as_elim] theorem aAu {α β:Type} {f:α→β} {l:List α} {i:Nat} {v:β} {P:β→Prop} (hv:(l.map f)[i]?=some v) (k:∀ a,l[i]?=some a→P (f a)):P v:=by
  rw [List.getElem?_map,Option.map_eq_some_iff] at hv
  obtain ⟨a,ea,rfl⟩:=hv
  exact k a ea
@[elab_as_elim] theorem aCm {α β:Type} {f:α→β} {l:List α} {v:β} {P:β→Prop} (h:v∈l.map f) (k:∀ a,a∈l→P (f a)):P v:=by
  obtain ⟨a,m,rfl⟩:=List.mem_map.mp h
  exact k a m
theorem band {a b:Bool} (h:(a && b)=true):a=true∧b=true:=by
  cases a with
  | true=>exact ⟨rfl,h⟩
  | false=>cases h
theorem bnot {a:Bool} (h:(!a)=true):a=false:=by
  cases a with
  | true=>cases h
  | false=>rfl
theorem leL {a b c:Nat} (h:a≤b) (k:Nat.ble b c=true):a≤c:=Nat.le_trans h (Nat.le_of_ble_eq_true k)
theorem ltL {a b c:Nat} (h:a≤b) (k:Nat.blt b c=true):a < c:=Nat.lt_of_le_of_lt h (Nat.le_of_ble_eq_true k)
theorem eqLe {a b c:Nat} (h:a=b) (k:b≤c):a≤c:=h ▸ k
theorem eqLt {a b c:Nat} (h:a=b) (k:b < c):a < c:=h ▸ k
theorem leEq {a b c:Nat} (k:a≤b) (h:c=b):a≤c:=h ▸ k
theorem ltEq {a b c:Nat} (k:a < b) (h:c=b):a < c:=h ▸ k
theorem natI {a b:Nat} (h:a≤b):(a:Int)≤b:=Int.ofNat_le.mpr h
theorem natJ {a b:Nat} (h:a < b):(a:Int) < b:=Int.ofNat_lt.mpr h
theorem neZ {a:Nat} (h:1≤a):a≠0:=Nat.ne_of_gt h
theorem posN {a:Nat} (h:a≠0):1≤a:=Nat.pos_of_ne_zero h
theorem lf1 {l r p q:Nat} (h:p≤q) (k:l+q≤r+p):l≤r:=Nat.le_of_add_le_add_right (Nat.le_trans (Nat.le_trans (Nat.add_le_add_left h l) k) (Nat.le_refl _))
theorem lf2 {l r p q s t:Nat} (h:p≤q) (i:s≤t) (k:l+(q+t)≤r+(p+s)):l≤r:=lf1 (Nat.add_le_add h i) k
theorem lf3 {l r p q s t u v:Nat} (h:p≤q) (i:s≤t) (j:u≤v) (k:l+(q+(t+v))≤r+(p+(s+u))):l≤r:=lf2 h (Nat.add_le_add i j) k
theorem lf4 {l r p q s t u v w x:Nat} (h:p≤q) (i:s≤t) (j:u≤v) (m:w≤x) (k:l+(q+(t+(v+x)))≤r+(p+(s+(u+w)))):l≤r:=lf3 h i (Nat.add_le_add j m) k
theorem lf5 {l r p q s t u v w x y z:Nat} (h:p≤q) (i:s≤t) (j:u≤v) (m:w≤x) (n:y≤z) (k:l+(q+(t+(v+(x+z))))≤r+(p+(s+(u+(w+y))))):l≤r:=lf4 h i j (Nat.add_le_add m n) k
theorem lfn {p q:Nat} (h:q≤p) (k:p < q):False:=absurd k (Nat.not_lt.mpr h)
theorem lel {p q:Nat} (h:p=q):p≤q:=Nat.le_of_eq h
theorem leg {p q:Nat} (h:p=q):q≤p:=Nat.le_of_eq h.symm
theorem lfm {p q:Nat} (c:Nat) (h:p≤q):c * p≤c * q:=Nat.mul_le_mul_left c h
theorem om7 {a b:Nat}:b < a→a - (b+1) < a - b:=fun a_1=>Nat.sub_succ_lt_self a b a_1
theorem om16 {a:Nat}:0 < a→-(a:Int)≤-1:=fun h=>Int.neg_le_neg (natI h)
theorem om18 {a:Nat}:(-1+(a:Int)).toNat=a - 1:=by rw [Int.add_comm]; exact Int.toNat_sub a 1
theorem om94 {a b:Nat}:b < a→(a:Int) - 1 - (b:Int)=(↑(a - 1 - b):Int):=fun h=>by rw [Int.ofNat_sub (Nat.le_sub_one_of_lt h),Int.ofNat_sub (Nat.one_le_of_lt h)]; rfl
theorem om100 {a:Int}:-1000≤a→a≤1000→-2 ^ 63≤a∧a < 2 ^ 63:=fun h i=>⟨Int.le_trans (by decide) h,Int.lt_of_le_of_lt i (by decide)⟩
theorem om171 {a b:Nat}:b < a→a - 1 - b+1=a - b:=fun h=>by rw [Nat.sub_right_comm,Nat.sub_add_cancel (Nat.sub_pos_of_lt h)]
theorem om226 {a b:Nat}:(a:Int)≤(b:Int)↔a≤b:=Int.ofNat_le
theorem om227 {a:Nat}:1≤(a:Int)↔1≤a:={ mp:=fun a_1=>Int.ofNat_le.mp a_1,mpr:=fun a_1=>Int.toNat_le.mp a_1 }
theorem om261 {a b c:Nat}:a≤c→b < a→a - 1 - b < c:=fun h k=>lf3 (Nat.sub_le (a-1) b) (lel (Nat.sub_add_cancel (Nat.one_le_of_lt k))) h (by simp +arith)
theorem om5 {a:Nat}:a≤1000→a≤16777216:=fun h=>leL h rfl
theorem om6 {a b:Nat}:a≤b→¬a < b→a=b:=fun h i=>Nat.le_antisymm (lf1 h (by simp +arith)) (lf1 (Nat.le_of_not_lt i) (by simp +arith))
theorem om8 {a b:Nat}:a+1 < b→a≤b:=fun h=>lf1 h (by simp +arith)
theorem om9 {a b:Nat}:b < 1000000→b=a→a≤16777216:=fun h i=>lf2 h (leg i) (by simp +arith)
theorem om10 {a b c:Nat}:a+8 * (b+1)+8 < c→a+3+8 * b+8 < c:=fun h=>lf1 h (by simp +arith)
theorem om11 {a b c:Nat}:a+(b+1) < c→a+1+b < c:=fun h=>lf1 h (by simp +arith)
theorem om12 {a b c:Nat}:a+(c+1) < b→a < b:=fun a_1=>Nat.lt_of_add_right_lt a_1
theorem om13 {a b:Nat}:min a b - 0≤a:=Nat.min_le_left a b
theorem om14 {a b c:Nat}:a+8 * c+8 < b→a+1 < b:=fun h=>lf1 h (by simp +arith)
theorem om15  : -2 ^ 63≤-1:=by intros; constructor <;> simp_all
theorem om17  : -1 < 0:=by intros; constructor <;> simp_all
theorem om19 {a:Int} {b:Nat}:a < (b:Int)→b < 2 ^ 62→a < 2 ^ 63:=fun h k=>Int.lt_trans h (Int.lt_trans (natJ k) (by decide))
theorem om20 {a b:Nat}:b - 1 < b→a=b→-(a:Int)≤-1:=fun h e=>e ▸ om16 (Nat.zero_lt_of_lt h)
theorem om21 {a:Int} {b:Nat}:b < 2 ^ 62→a.toNat < b→a < 2 ^ 63:=fun k h=>Int.lt_of_le_of_lt (Int.self_le_toNat a) (Int.lt_trans (natJ h) (Int.lt_trans (natJ k) (by decide)))
theorem om25 {a:Int} {b c:Nat}:a.toNat < c→c=b→a < (b:Int):=fun a_1 a_2=>a_2 ▸ Int.lt_of_toNat_lt a_1
theorem om26 {a:Int} {b:Nat}:b≤1000→a.toNat < b→a < 2 ^ 63:=fun k h=>Int.lt_of_le_of_lt (Int.self_le_toNat a) (Int.lt_of_lt_of_le (natJ h) (Int.le_trans (natI k) (by decide)))
theorem om27 {a:Int}:0≤a→-2 ^ 63≤a:=fun h=>Int.le_trans (by decide) h
theorem om28 {a:Int} {b:Nat}:0≤a→a < (b:Int)→0≤a∧a < (b:Int):=fun a_1 a_2=>⟨a_1,a_2⟩
theorem om29 {a:Int}:0≤a→¬a < 0:=fun a_1=>Int.not_lt_of_ge a_1
theorem om30 {a b c d e:Nat}:b≤8→a+8 * e+8 < d→a+min b c < d:=fun h k=>lf3 (Nat.min_le_left b c) h k (by simp +arith)
theorem om31 {a:Int}:a≤1000→a≤16777216:=fun h=>Int.le_trans h (by decide)
theorem om32 {a:Int}:a≤1000→a < 2 ^ 63:=fun h=>Int.lt_of_le_of_lt h (by decide)
theorem om33 {a b c d:Nat}:c+d≤1000→c=a→d=b→a+b≤16777216:=fun h i j=>lf3 h (leg i) (leg j) (by simp +arith)
theorem om34 {a b c:Nat}:b≤900→c=a→c≤b+1→a≤1000:=fun h i j=>lf3 h (leg i) j (by simp +arith)
theorem om35 {a:Nat}:(a:Int) - (↑0:Int)=(a:Int):=Int.sub_zero ↑a
theorem om36 {a b c:Nat}:c=b→a < c→a < b:=fun a_1 a_2=>Nat.lt_of_lt_of_eq a_2 a_1
theorem om37 {a b c:Nat}:a < c→c=b→a < b:=fun a_1 a_2=>Nat.lt_of_lt_of_eq a_1 a_2
theorem om38 {a b:Nat}:¬b < a→a≤b:=fun a_1=>Nat.le_of_not_lt a_1
theorem om39 {a b c:Nat}:¬b < c→c=a→a≤b:=fun a_1 a_2=>a_2 ▸ Nat.le_of_not_lt a_1
theorem om40 {a:Nat}:a < 1000000→a≤16777216:=fun h=>leL (Nat.le_of_lt h) rfl
theorem om41 {a b:Nat}:b < 1000000→b+1=a→a≤16777216:=fun h i=>lf2 h (leg i) (by simp +arith)
theorem om42 {a b:Nat}:b+1=a→a - 1=b:=fun a_1=>Eq.symm (Nat.eq_sub_of_add_eq a_1)
theorem om43 {a b:Nat}:b+1=a→a≤b+1:=fun a_1=>Nat.le_of_eq (id (Eq.symm a_1))
theorem om44 {a b:Nat}:a+1=b→a < b:=fun a_1=>a_1 ▸ Nat.lt_add_one a
theorem om45 {a b:Nat}:b < 2 ^ 62→b=a→(a:Int) < 9223372036854775808:=fun h e=>e ▸ Int.lt_trans (natJ h) (by decide)
theorem om46 {a b:Nat}:b≤1000000→b=a→a≤1000000:=by intros; subst_vars; assumption
theorem om47 {a:Nat}:a≤1000000→a≤16777216:=fun h=>lf1 h (by simp +arith)
theorem om48 {a b c:Nat}:a < c→b=c→a < b:=by intros; subst_vars; assumption
theorem om49 {a b c d:Nat}:b≤3→a+8 * (c+1)+8 < d→a+b+8 * c+8 < d:=fun h i=>lf2 h i (by simp +arith)
theorem om50 {a:Nat}:a=1→a≤3:=fun a_1=>Eq.symm a_1 ▸ Nat.le_of_ble_eq_true rfl
theorem om51 {a:Nat}:0+a=a:=Nat.zero_add a
theorem om52 {a b c:Nat}:a+(b+1)=c→a+1+b=c:=fun a_1=>a_1 ▸ Nat.succ_add_eq_add_succ a b
theorem om53 {a b c:Nat}:a+(c+1)=b→a < b:=by intros; subst_vars; simp
theorem om54 {a b:Nat}:a+0=b→a=b:=by intros; assumption
theorem om55 {a:Nat}:a≤100000→a≤2 ^ 24:=fun h=>leL h rfl
theorem om56 {a b:Nat}:b≤100000→b=a→a≤100000:=by intros; subst_vars; assumption
theorem om57 {a b:Nat}:a+b - a=0+b:=by intros; simp [*]
theorem om58 {a b:Nat}:¬a+b < a:=by intros; simp_all
theorem om59 {a b:Nat}:a+(b+1)=a+1+b:=Eq.symm (Nat.succ_add_eq_add_succ a b)
theorem om60 {a b c d:Nat}:b=c+d→a < c→a < b:=fun a_1 a_2=>Eq.symm a_1 ▸ Nat.lt_add_right d a_2
theorem om61 {a:Nat}:a≤100000→a+1≤16777216:=fun h=>lf1 h (by simp +arith)
theorem om62 {a:Nat}:a≤100000→a≤16777216:=fun h=>leL h rfl
theorem om63 {a b:Nat}:a+b - a=b:=Nat.add_sub_self_left a b
theorem om64 {a b:Nat}:b≤100000→a≤100000→a+b≤16777216:=fun h i=>lf2 h i (by simp +arith)
theorem om65 {a b:Nat}:b≤a→a+1 - b=a - b+1:=fun a_1=>Nat.sub_add_comm a_1
theorem om66 {a b c:Nat}:a < b+c→b≤a→a - b < c:=fun a_1 a_2=>Nat.sub_lt_left_of_lt_add a_2 a_1
theorem om67 {a:Nat}:a≤1000→a≤100000:=fun h=>lf1 h (by simp +arith)
theorem om68 {a:Nat}:(a:Int) - 1 - (↑0:Int)=(a:Int) - 1:=Int.sub_zero (↑a - 1)
theorem om69 {a b c:Nat}:c=b→a < c→a≤b:=fun a_1 a_2=>a_1 ▸ Nat.le_of_succ_le a_2
theorem om70 {a:Nat}:¬(a:Int) < 0:=Int.not_ofNat_neg a
theorem om71 {a b:Nat}:0 < b→a=0→a < b:=fun a_1 a_2=>lt_of_eq_of_lt a_2 a_1
theorem om72 {a b:Nat}:b≤1000→a < b→(a:Int) < 2 ^ 63:=fun h k=>Int.lt_of_lt_of_le (natJ k) (Int.le_trans (natI h) (by decide))
theorem om73 {a:Nat}:-2 ^ 63≤(a:Int):=by intros; constructor <;> simp_all
theorem om74 {a:Nat}:a≤1000→(a:Int) < 2 ^ 63:=fun h=>Int.lt_of_le_of_lt (natI h) (by decide)
theorem om75 {a:Nat}:a≤5→a≤16777216:=fun h=>leL h rfl
theorem om76 {a b:Nat}:(a:Int)=(b:Int)→a=b:=fun a_1=>Int.ofNat_inj.mp a_1
theorem om77 {a:Nat}:a≤5→a < 4096:=fun h=>ltL h rfl
theorem om78 {a:Nat}:a - 0=a - 0:=Nat.sub_zero a
theorem om79 {a b c:Nat}:a - b=c+1→a - (b+1)=c:=fun h=>by rw [Nat.sub_add_eq,h]; rfl
theorem om80 {a b c:Nat}:b - a=c+1→a < b:=fun a_1=>Nat.lt_of_sub_eq_succ a_1
theorem om81 {a b:Nat}:b - a=0→a≤b→a=b:=fun h k=>Nat.le_antisymm k (Nat.le_of_sub_eq_zero h)
theorem om82 {a b:Nat}:a=b+1→a - 1=b:=fun a_1=>Eq.symm a_1 ▸ Nat.add_sub_self_right b 1
theorem om83 {a b:Nat}:a=b+1→0 < a:=fun a_1=>Nat.lt_of_sub_eq_succ a_1
theorem om84 {a b:Nat}:a < b→b≤5→a < 5:=fun a_1 a_2=>Nat.lt_of_lt_of_le a_1 a_2
theorem om85 {a b:Nat}:b≤5→a=b→a < 64:=fun h i=>lf2 h (lel i) (by simp +arith)
theorem om86 {a b c:Nat}:c≤b→a=c→a≤b:=fun a_1 a_2=>le_of_eq_of_le a_2 a_1
theorem om87 {a b:Nat}:a+1≤b→a≤b:=fun a_1=>Nat.le_of_succ_le a_1
theorem om88 {a:Nat}:a≤100→a≤1000:=fun h=>leL h rfl
theorem om89 {a b:Nat}:b≤100→b=a→a≤1000:=fun h i=>lf2 h (leg i) (by simp +arith)
theorem om90 {a b:Nat}:a=b→(a:Int) - 1 - (↑0:Int)=(b:Int) - 1:=fun a_1=>Eq.symm a_1 ▸ Int.sub_zero (↑b - 1)
theorem om91 {a:Nat}:(a:Int) - 1 - (a:Int)=-1:=Int.sub_eq_iff_eq_add'.mpr rfl
theorem om92 {a b:Nat}:b < a→(↑(a - 1 - b):Int) - 1=(a:Int) - 1 - (↑(b+1):Int):=fun h=>by rw [← om94 h]; exact Int.sub_sub _ _ _
theorem om93 {a b:Nat}:b≤1000→b=a→a≤1000:=by intros; subst_vars; assumption
theorem om95 {a b c:Nat}:a=b→a=c→min a b=c:=fun a_1 a_2=>Eq.ndrec (motive:=fun {a}=>a=c→min a b=c) (fun a=>Eq.symm a ▸ Nat.min_self c) (Eq.symm a_1) a_2
theorem om96 {a:Int}:a≤4→a.toNat < 5:=fun h=>Nat.lt_succ_of_le (Int.toNat_le_toNat h)
theorem om97 {a:Int}:0≤a→(↑a.toNat:Int)=a:=fun a_1=>Int.toNat_of_nonneg a_1
theorem om98 {a:Nat} {b:Int}:b.toNat=a→0≤b→(a:Int)=b:=fun a_1 a_2=>a_1 ▸ Int.toNat_of_nonneg a_2
theorem om99 {a:Int}:-1000≤a→a≤1000→-2 ^ 63≤a+(1 - 1)∧a+(1 - 1) < 2 ^ 63:=fun h i=>by rw [show (1:Int) - 1=0 from rfl,Int.add_zero]; exact om100 h i
theorem om101 {a b c:Nat}:c≤100→a≤c→b≤c→a+b≤1000:=fun h i j=>lf3 (lfm 2 h) i j (by simp +arith)
theorem om102 {a b c:Nat}:a≤41 * b→c≤20→b≤c→a≤100000:=fun h i j=>lf3 h (lfm 41 j) (lfm 41 i) (by simp +arith)
theorem om103 {a b:Int}:-20≤b→a≤20→(a+1 - b).toNat≤100000:=fun h i=>Int.toNat_le.mpr (Int.le_trans (Int.sub_le_sub (Int.add_le_add_right i 1) h) (by decide))
theorem om104 {a:Int}:a≤20→a+1≤1000:=fun h=>Int.le_trans (Int.add_le_add_right h 1) (by decide)
theorem om105 {a:Int}:-20≤a→-1000≤a+1:=fun h=>Int.le_trans (by decide) (Int.add_le_add_right h 1)
theorem om106 {a:Int}:a≤20→a≤1000:=fun h=>Int.le_trans h (by decide)
theorem om107 {a:Int}:-20≤a→-1000≤a:=fun h=>Int.le_trans (by decide) h
theorem om108 {a b:Int} {c d:Nat}:-20≤b→a≤20→c≤41 * d→(a+1 - b).toNat+c≤41 * (d+1):=fun h i k=>lf2 (q:=41) (Int.toNat_le.mpr (Int.le_trans (Int.sub_le_sub (Int.add_le_add_right i 1) h) (by decide))) k (by simp +arith)
theorem om109 {a b c:Nat}:a≤b+c→a≤b+c+1:=by intros; constructor <;> simp_all
theorem om110 {a b c d e:Nat}:b≤100→c≤100→a≤d+e→e≤c→d < b→a < 1000000:=fun h i j k l=>lf5 h i j k l (by simp +arith)
theorem om111 {a b:Nat}:a < b→a+1≤b:=by intros; assumption
theorem om112 {a b c:Nat}:a≤b+c+1→a≤b+(c+1):=by intros; assumption
theorem om113 {a b c d:Nat}:d < c→a - b+(c - (d+1)) < a - b+(c - d):=fun h=>Nat.add_lt_add_left (om7 h) _
theorem om114 {a b c d:Nat}:b < a→a - (b+1)+(c - d) < a - b+(c - d):=fun h=>Nat.add_lt_add_right (om7 h) _
theorem om115 {a b:Nat}:(a:Int) < (b:Int)→a < b:=by intros; simp_all
theorem om116 {a b:Nat}:a < b→¬(a:Int) < (b:Int)→False:=by intros; simp_all
theorem om117 {a b c d e:Nat}:b≤100→c≤100→a≤d+e→d≤b→e≤c→a≤1000:=fun h i j k l=>lf5 h i j k l (by simp +arith)
theorem om118 {a b c d:Nat}:¬(c < d∧b < a)→c < d→a≤b:=by intros; simp_all
theorem om119 {a b c:Nat}:b < 64→c=b→a≤c→a≤1000:=fun h i j=>lf3 h (lel i) j (by simp +arith)
theorem om120 {a b c d:Nat}:b < 64→c=b→a≤d→d≤c→a≤1000:=fun h i j k=>lf4 h (lel i) j k (by simp +arith)
theorem om121 {a b c d:Nat}:a≤d+c→d≤b+1→a≤b+(c+1):=fun h i=>lf2 h i (by simp +arith)
theorem om122 {a:Nat}:¬0 < (a:Int)→a=0:=by intros; simp_all
theorem om123 {a:Nat}:0 < (a:Int)→0 < a:=fun a_1=>Int.natCast_pos.mp a_1
theorem om124 {a:Int}:a < 3→a.toNat < 3:=by intros; simp_all
theorem om125 {a b:Int}:¬a=b→0≤a∧a < 3→0≤b→¬a.toNat=b.toNat:=fun n h k e=>n ((Int.toNat_of_nonneg h.1).symm.trans ((congrArg Int.ofNat e).trans (Int.toNat_of_nonneg k)))
theorem om126 {a b:Nat}:a - 1≤b→a≤b+1:=fun a_1=>Nat.le_add_of_sub_le a_1
theorem om127 {a b:Nat}:¬(b:Int) < (↑(b+a):Int)→a=0:=fun h=>Nat.eq_zero_of_not_pos fun p=>h (natJ (Nat.lt_add_of_pos_right p))
theorem om128 {a b c:Nat}:a+b≤c→a - 1+b≤c:=fun h=>lf2 (Nat.sub_le a 1) h (by simp +arith)
theorem om129 {a:Nat}:0 < a→a - 1 < a:=fun a_1=>Nat.sub_one_lt_of_lt a_1
theorem om130 {a b:Nat}:b≤100→a=b→a < 2 ^ 62:=fun h i=>lf2 h (lel i) (by simp +arith)
theorem om131 {a:Int} {b c:Nat}:b=c→a.toNat < c→a < (b:Int):=fun a_1 a_2=>Eq.symm a_1 ▸ Int.lt_of_toNat_lt a_2
theorem om132 {a b c:Nat}:c≤900→min (a+(b - 1)) c < 1000000:=fun h=>lf2 (Nat.min_le_right _ _) h (by simp +arith)
theorem om133 {a b:Nat}:0 < b→a+(b - 1)+1=a+b:=fun h=>congrArg (a + ·) (Nat.sub_add_cancel h)
theorem om134 {a b c:Nat}:b+a≤c→0 < b→a+(b - 1) < c:=fun h i=>lf2 (lel (Nat.sub_add_cancel i)) h (by simp +arith)
theorem om135 {a b:Nat}:0 < b→a+b=a+(b - 1)+1:=fun h=>(congrArg (a + ·) (Nat.sub_add_cancel h)).symm
theorem om136 {a b:Nat}:(b:Int) < (↑(b+a):Int)→0 < a:=fun h=>Nat.lt_add_right_iff_pos.mp (Int.ofNat_lt.mp h)
theorem om137 {a b c:Nat}:b+a≤c→min (a+b) c=a+b:=fun h=>Nat.min_eq_left (Nat.add_comm b a ▸ h)
theorem om138 {a b:Nat}:a≤b→a+(b - a)=b:=fun a_1=>Nat.add_sub_of_le a_1
theorem om139 {a b:Nat}:a=b+1→((a:Int) - 1).toNat=b:=by intros; subst_vars; simp
theorem om140 {a:Nat}:(↑(a+1):Int) - 1=(a:Int):=Int.sub_eq_iff_eq_add.mpr rfl
theorem om141 {a b:Nat}:b≤100→a=b+1→a < 2 ^ 62:=fun h i=>lf2 h (lel i) (by simp +arith)
theorem om142 {a b:Nat}:a=b+1→0≤(a:Int) - 1:=by intros; subst_vars; simp
theorem om143 {a:Int} {b:Nat}:a.toNat < b→a < (b:Int):=fun a_1=>Int.lt_of_toNat_lt a_1
theorem om144 {a:Nat}:a≤1→max (max 0 (max 0 0)+1) a≤1:=fun h=>Nat.max_le.mpr ⟨by decide,h⟩
theorem om145 {a:Nat}:(a:Int)=0→a=0:=fun a_1=>Int.ofNat_eq_zero.mp a_1
theorem om146 {a:Int} {b:Nat}:a≤(b:Int)→a.toNat≤b:=fun a_1=>Int.toNat_le.mpr a_1
theorem om147 {a:Int}:1≤a→1≤a.toNat:=fun h=>Int.toNat_le_toNat h
theorem om148 {a:Nat}:¬a=0→1≤(a:Int).toNat:=fun a_1=>Nat.one_le_iff_ne_zero.mpr a_1
theorem om149 {a:Int}:(a - 1).toNat=a.toNat - 1:=Int.pred_toNat a
theorem om150 {a:Int}:1≤a→0≤a - 1:=fun a_1=>Int.sub_nonneg_of_le a_1
theorem om151 {a b:Nat}:a=b→b≤3→a≤1000:=fun h i=>lf2 (lel h) i (by simp +arith)
theorem om152 {a b c:Nat}:b=c→1≤a→a≤c→a - 1 < b:=fun a_1 a_2 a_3=>Eq.symm a_1 ▸ Nat.sub_one_lt_of_le a_2 a_3
theorem om153 {a b:Nat}:1≤a→a≤b→a - 1 < b:=fun a_1 a_2=>Nat.sub_one_lt_of_le a_1 a_2
theorem om154 {a b c:Nat}:b≤10→a=c→c < b→a+1 < 1000000:=fun h i j=>lf3 h (lel i) j (by simp +arith)
theorem om155 {a b:Nat}:a < b→1+(a:Int)≤(b:Int):=fun h=>Int.add_comm a 1 ▸ (natI h:(a:Int)+1≤b)
theorem om156 {a:Nat}:1≤1+(a:Int):=Int.le.intro a rfl
theorem om157 {a:Nat}:0≤1+(a:Int):=Int.zero_le_ofNat (1+a)
theorem om158 {a:Nat}:(1+(a:Int)).toNat=a+1:=by intros; simp_all +arith
theorem om159 {a:Nat}:((a:Int)+1).toNat=a+1:=Int.toNat_natCast_add_one
theorem om160 {a b:Nat}:¬a=b→¬0+(a:Int)=(b:Int):=fun n e=>n (Int.ofNat.inj ((Int.zero_add _).symm.trans e))
theorem om161 {a b:Nat}:b≤3→a < ((b:Int)+1).toNat→a < 1000000:=fun h (k:a < b+1)=>lf2 h k (by simp +arith)
theorem om162 {a:Nat}:a≤3→0≤(a:Int)+1∧(a:Int)+1≤1000:=fun h=>⟨natI (Nat.zero_le (a+1)),Int.le_trans (natI (Nat.add_le_add_right h 1)) (by decide)⟩
theorem om163 {a:Nat}:a≤3→(a:Int)+1≤1000:=fun h=>Int.le_trans (natI (Nat.add_le_add_right h 1)) (by decide)
theorem om164 {a:Nat}:0≤(a:Int)+1:=Int.zero_le_ofNat (a+1)
theorem om165 {a:Nat}:((a:Int)+1 - 1).toNat=a:=by intros; simp_all
theorem om167 {a:Int}:0≤a→-1000≤a:=fun h=>Int.le_trans (by decide) h
theorem om168 {a b:Nat}:b≤10→a=b→a+1 < 1000000:=fun h i=>lf2 h (lel i) (by simp +arith)
theorem om169 {a b:Nat}:¬a=b+1→¬a≤b→¬a≤b+1:=fun n m k=>(Nat.lt_or_eq_of_le k).elim (fun l=>m (Nat.le_of_lt_succ l)) n
theorem om170 {a b:Nat}:a < b→1+(a:Int) < (↑(b+1):Int):=fun h=>Int.add_comm a 1 ▸ (natJ (Nat.succ_lt_succ h):(a:Int)+1 < (b+1:Nat))
theorem om172 {a b:Nat}:a - (b+1)=a - 1 - b:=by rw [Nat.add_comm,Nat.sub_add_eq]
theorem om173 {a b c:Nat}:c=b→a≤c→a+(b - a)=c:=fun a_1 a_2=>a_1 ▸ Nat.add_sub_of_le a_2
theorem om174 {a b c:Nat}:a+b < a+(c+1)→¬b=c→a+b < a+c:=fun h n=>Nat.add_lt_add_left (Nat.lt_of_le_of_ne (Nat.le_of_lt_succ (Nat.lt_of_add_lt_add_left h)) n) a
theorem om175 {a b:Nat}:a+b < a+(b+1):=Nat.lt_add_one (a+b)
theorem om176 {a b c:Nat}:a+b < a+c→a+b < a+(c+1):=fun a_1=>Nat.lt_succ_of_lt a_1
theorem om177 {a b:Nat}:b≤4→a≤3 * b→a≤200:=fun h i=>lf2 (lfm 3 h) i (by simp +arith)
theorem om178 {a b:Nat}:b≤3→a≤b→a≤4:=fun h i=>lf2 h i (by simp +arith)
theorem om179 {a:Nat}:¬a=0→1≤a:=fun a_1=>Nat.one_le_iff_ne_zero.mpr a_1
theorem om180 {a b c:Nat}:c≤3→a≤3 * b+c→a≤3 * (b+1):=fun h i=>lf2 h i (by simp +arith)
theorem om181 {a b c:Nat}:a≤3 * b+c→a≤3 * b+(c+1):=by intros; constructor <;> simp_all
theorem om182 {a b:Nat}:b≤3→a < b→a+1≤3:=fun a_1 a_2=>Nat.le_trans a_2 a_1
theorem om183 {a:Nat}:1≤a+1:=Nat.le_add_left 1 a
theorem om184 {a b c:Nat}:c≤3→b < c - a→a+b < 3:=fun h k=>Nat.lt_of_lt_of_le (Nat.lt_sub_iff_add_lt'.mp k) h
theorem om185 {a b c:Nat}:b < c - a→a+b < c:=fun a_1=>Nat.add_lt_of_lt_sub' a_1
theorem om186 {a b c d e:Nat}:b≤3→c≤4→d < c→e < b→a≤3 * d+e→a < 1000000:=fun h i j k l=>lf5 h (lfm 3 i) (lfm 3 j) k l (by simp +arith)
theorem om187 {a b c:Nat}:b=c→a=b+1→c≤3→a≤10:=fun h i j=>lf3 (lel h) (lel i) j (by simp +arith)
theorem om188 {a b:Nat}:((↑(a+b):Int)+1).toNat=a+b+1:=Int.toNat_natCast_add_one
theorem om189 {a b:Nat}:0≤(↑(a+b):Int)+1:=Int.zero_le_ofNat (a+b+1)
theorem om190 {a:Nat}:1+(a:Int)=(↑(a+1):Int):=by intros; simp_all +arith
theorem om191 {a b c d e:Nat}:d=e→c=d+1→b < e - a→a+b+1 < c:=fun h i j=>i ▸ Nat.succ_lt_succ (Nat.lt_sub_iff_add_lt'.mp (h.symm ▸ j))
theorem om192 {a b:Nat}:a+b < a+0→False:=by simp
theorem om193 {a b:Nat}:((a:Int) - (b:Int)).toNat=a - b:=Int.toNat_sub a b
theorem om194 {a b c:Nat}:b=c→a≤b→c≤3→-1000≤(a:Int)∧(a:Int)≤1000∧-1000≤(b:Int)∧(b:Int)≤1000:=fun h i j=>⟨Int.le_trans (by decide) (Int.natCast_nonneg a),Int.le_trans (natI (Nat.le_trans i (Nat.le_trans (lel h) j))) (by decide),Int.le_trans (by decide) (Int.natCast_nonneg b),Int.le_trans (natI (Nat.le_trans (lel h) j)) (by decide)⟩
theorem om195 {a:Int} {b:Nat}:0≤a→a < (b:Int)→a.toNat < b:=by intros; simp [*]
theorem om196 {a b:Int}:a < b→0≤a→a.toNat < b.toNat:=fun h i=>(Int.toNat_lt_toNat (Int.lt_of_le_of_lt i h)).mpr h
theorem om197 {a b:Nat} {c:Int}:c.toNat=b→(a:Int)=c→a=b:=by intros; subst_vars; rfl
theorem om198 {a:Int}:0≤a→a=(↑a.toNat:Int):=fun a_1=>Int.eq_natCast_toNat.mpr a_1
theorem om199 {a:Int} {b:Nat}:(b:Int)=a→0≤a:=fun a_1=>a_1 ▸ Int.natCast_nonneg b
theorem om200 {a b:Nat}:1≤a∧a≤b→b≤3→a < 4:=fun h i=>Nat.lt_succ_of_le (Nat.le_trans h.2 i)
theorem om201 {a b:Nat}:a < 3→b≤3→4 * a+b < 12:=fun h i=>lf2 (lfm 4 h) i (by simp +arith)
theorem div4 {x y:Nat} (h:y≤3):(4 * x+y) / 4=x:=by rw [Nat.mul_add_div (by decide),Nat.div_eq_of_lt (Nat.lt_succ_of_le h),Nat.add_zero]
theorem om202 {a b c d:Nat}:c≤3→d≤3→4 * a+c=4 * b+d→a=b∧c=d:=fun h i e =>
  have ab:a=b:=(div4 h).symm.trans ((congrArg (· / 4) e).trans (div4 i))
  ⟨ab,Nat.add_left_cancel ((congrArg (4 * · + c) ab).symm.trans e)⟩
theorem om203 {a b c d:Nat}:(a:Int)=(b:Int)→(c:Int)=(d:Int)→a=b∧c=d:=fun a_1 a_2=>⟨Int.ofNat_inj.mp a_1,Int.ofNat_inj.mp a_2⟩
theorem om204 {a b:Nat}:a < b+1→¬a=b→a < b:=fun h n=>Nat.lt_of_le_of_ne (Nat.le_of_lt_succ h) n
theorem om205 {a:Nat}:a < a+1:=Nat.lt_add_one a
theorem om206 {a b:Nat}:a < b→a < b+1:=fun a_1=>Nat.lt_add_right 1 a_1
theorem om207 {a b:Nat}:b≤3→a≤3 * b→a≤200:=fun h i=>lf2 (lfm 3 h) i (by simp +arith)
theorem om208 {a b c d e:Nat}:b≤3→c≤3→d < c→e < b→a≤3 * d+e→a < 1000000:=fun h i j k l=>lf5 h (lfm 3 i) (lfm 3 j) k l (by simp +arith)
theorem om209 {a:Nat}:1≤a→a≤0→False:=fun a_1 a_2=>lfn a_2 a_1
theorem om210 {a b c d:Nat}:c=d+1→a < d→a - 1 - b < c:=fun h i=>lf4 (Nat.sub_le (a-1) b) (Nat.sub_le a 1) i (leg h) (by simp +arith)
theorem om211 {a b:Nat}:b < a→(a:Int) - 1+(b:Int) * -1=(↑(a - 1 - b):Int):=fun h=>by rw [← om94 h,Int.mul_neg_one]; rfl
theorem om212 {a:Nat}:a < 0→False:=fun a_1=>Nat.not_succ_le_zero a a_1
theorem om213 {a b:Nat}:b≤12→a=b→a < 64:=fun h i=>lf2 h (lel i) (by simp +arith)
theorem om214 {a:Nat}:a < 64→a≤16777216:=fun h=>lf1 h (by simp +arith)
theorem om215 {a b:Nat}:2≤b→a=b→0 < a:=fun a_1 a_2=>Eq.symm a_2 ▸ Nat.zero_lt_of_lt a_1
theorem om216 {a:Nat}:¬a < 2→0 < a:=fun h=>lf1 (Nat.le_of_not_lt h) (by simp +arith)
theorem om217 {a:Nat}:¬a < 2→2≤a:=fun a_1=>Nat.le_of_not_lt a_1
theorem om218 {a:Nat}:a < 64→a≤16777216+1:=fun h=>leL (Nat.le_of_lt h) rfl
theorem om219 {a b c d:Nat}:b≤12→c=b→a≤d→d < c→a < 1000000:=fun h i j k=>lf4 h (lel i) j k (by simp +arith)
theorem om220 {a b c d e:Nat}:c < d→b=d→a=c - 1 - e→a < b:=fun h i j=>lf5 (lel j) (Nat.sub_le (c-1) e) (Nat.sub_le c 1) h (leg i) (by simp +arith)
theorem om221 {a b c:Nat}:b=c→a=c+1→a=b+1:=by intros; subst_vars; rfl
theorem om222 {a b:Nat}:b < a→¬a≤b:=fun a_1=>Nat.not_le_of_lt a_1
theorem om223 {a b:Nat}:b≤3→a≤2 * b→a≤6:=fun h i=>lf2 (lfm 2 h) i (by simp +arith)
theorem om224 {a b:Nat}:¬a=b→¬(a:Int)=(b:Int):=fun a_1=>Nat.ToInt.of_diseq rfl rfl a_1
theorem om225 {a b:Nat}:¬b=a→(a≤b↔a+1≤b):=fun n=>⟨fun h=>Nat.lt_of_le_of_ne h (Ne.symm n),Nat.le_of_lt⟩
theorem om228 {a:Nat}:¬a+1≤a:=Nat.not_succ_le_self a
theorem om229 {a b c d:Nat}:c≤2 * b→d≤c+1→a≤d+1→a≤2 * (b+1):=fun h i j=>lf3 h i j (by simp +arith)
theorem om230 {a b c d:Nat}:b≤3→c≤2 * d→d < b→a≤c+1→a≤6:=fun h i j k=>lf4 (lfm 2 h) i (lfm 2 j) k (by simp +arith)
theorem om231 {a b c d e:Nat}:a≤800→c≤3→d≤2 * e→e < c→b≤d+1→a+b≤900:=fun h i j k l=>lf5 h (lfm 2 i) j (lfm 2 k) l (by simp +arith)
theorem om232 {a b c:Nat}:b≤3→a≤2 * c→c < b→a≤6:=fun h i j=>lf3 (lfm 2 h) i (lfm 2 j) (by simp +arith)
theorem om233 {a b c d:Nat}:a≤800→c≤3→b≤2 * d→d < c→a+b≤900:=fun h i j k=>lf4 h (lfm 2 i) j (lfm 2 k) (by simp +arith)
theorem om234 {a:Int} {b c:Nat}:b≤3→a=(c:Int)→c < b→0≤a∧a < 3:=fun h e k=>e ▸ ⟨Int.natCast_nonneg _,natJ (Nat.lt_of_lt_of_le k h)⟩
theorem om235 {a:Nat} {b:Int} {c:Nat}:b=(c:Int)→¬a=c→¬(a:Int)=b:=fun a_1 a_2=>Nat.ToInt.of_diseq rfl (id (Eq.symm a_1)) a_2
theorem om236 {a:Nat}:1≤a→a - 1+1=a:=fun a_1=>Nat.sub_add_cancel a_1
theorem om237 {a b:Nat}:b≤3→a≤5 * b→a≤15:=fun h i=>lf2 (lfm 5 h) i (by simp +arith)
theorem om238 {a b c:Nat}:a≤5 * b+c→c≤5→a≤5 * (b+1):=fun h i=>lf2 h i (by simp +arith)
theorem om239 {a b c:Nat}:a≤5 * b+c→a≤5 * b+(c+1):=by intros; constructor <;> simp_all
theorem om240 {a b c d:Nat}:d≤5 * b+c→a≤d+1→a≤5 * b+(c+1):=fun h i=>lf2 h i (by simp +arith)
theorem om241 {a b c d e f:Nat}:a≤800→c≤3→d < c→b≤5 * d+e→e < f→f≤5→a+b≤900:=fun h i j k l m=>lf5 h (lfm 5 (Nat.le_trans j i)) k l m (by simp +arith)
theorem om242 {a:Nat}:0+(a:Int)=(a:Int):=Int.zero_add ↑a
theorem om243 {a b:Nat}:b≤3→a=b→0≤(a:Int)∧(a:Int)≤1000:=fun h e=>⟨Int.natCast_nonneg _,Int.le_trans (natI (e ▸ h)) (by decide)⟩
theorem om244 {a b:Nat}:a≤700→b≤6→a+b≤800:=fun h i=>lf2 h i (by simp +arith)
theorem om245 {a:Nat}:a≤1000→(a:Int) < 2 ^ 64:=fun h=>Int.lt_of_le_of_lt (natI h) (by decide)
theorem om246 {a:Nat}:-2 ^ 64 < (a:Int):=Rat.intCast_lt_intCast.mp rfl
theorem om247 {a:Nat}:1≤a→¬(a:Int)=0:=fun a_1=>Int.natCast_ne_zero_iff_pos.mpr a_1
theorem om248 {a b:Nat}:(a:Int)≤(b:Int)→a≤b:=by intros; simp_all
theorem om249 {a:Nat}:1≤(a:Int)→1≤a:=fun a_1=>Int.ofNat_le.mp a_1
theorem om250 {a:Nat}:1≤a→¬¬1≤(a:Int):=fun h n=>n (natI h)
theorem om251 {a b c d e:Nat}:b≤500→c < b→d≤5→a≤5 * c+e→e < d→a < 1000000:=fun h i j k l=>lf5 (lfm 5 h) (lfm 5 i) j k l (by simp +arith)
theorem om252 {a b c:Nat}:c≤5→a≤125 * 5→a+min b c < 1000000:=fun h i=>lf3 (Nat.min_le_right b c) h i (by simp +arith)
theorem om253 {a b c:Nat}:b≤3→a=min c b→a+1≤1000:=fun h i=>lf3 (lel i) (Nat.min_le_right c b) h (by simp +arith)
theorem om254 {a b:Nat}:(a:Int)=(b:Int)↔a=b:=Int.ofNat_inj
theorem om255 {a b:Nat}:b≤1→a≤1→max a b≤1:=fun a_1 a_2=>Nat.max_le_of_le_of_le a_2 a_1
theorem om256 {a:Int} {b c:Nat}:a=(c:Int)→c < b→a.toNat < b:=by intros; subst_vars; assumption
theorem om257 {a:Int} {b:Nat}:a=(b:Int)→0≤a:=fun a_1=>Eq.symm a_1 ▸ Int.natCast_nonneg b
theorem om258  : 1≤0→False:=fun a=>Nat.not_succ_le_zero 0 a
theorem om259 {a b c:Nat}:a=0∨¬(1≤(b:Int)∧(b:Int)≤(c:Int))↔a=0∨¬(1≤b∧b≤c):=by rw [om226,om227]
theorem om260 {a b:Nat}:a - 1 - b=a - (b+1):=by rw [Nat.add_comm b,Nat.sub_add_eq]
theorem om262 {a:Nat}:¬a=0→a - 1+1=a:=fun a_1=>Nat.succ_pred_eq_of_ne_zero a_1
theorem om263 {a b:Nat}:¬a=0→a≤b→a - 1 < b:=fun h i=>Nat.lt_of_lt_of_le (Nat.sub_one_lt h) i
theorem om264 {a b:Nat}:b+1≤a→a - 1 - b+1=a - b:=fun h=>om171 h
theorem om265 {a b c d:Nat}:c=d→a≤d→b+1≤a→a - 1 - b < c:=fun h i j=>h ▸ om261 i j
theorem om266 {a b c:Nat}:a=c→a - (b+1)=c - (b+1):=by intros; subst_vars; rfl
theorem om267 {a b c:Nat}:a < c→b=c→min a b=a:=fun h e=>Nat.min_eq_left (e ▸ Nat.le_of_lt h)
theorem om268 {a b:Nat}:a < b→a+1+(b - a - 1)=b:=fun a_1=>Nat.add_sub_of_le a_1
theorem om269 {a b:Nat}:b < a→a - b=a - b - 1+1:=fun h=>(Nat.sub_add_cancel (Nat.sub_pos_of_lt h)).symm
theorem om270 {a b c d:Nat}:d < c→a=d→b=c - (d+1)→a+(b+1)=c:=fun h e f=>by rw [e,f,Nat.add_comm _ 1,← Nat.add_assoc]; exact Nat.add_sub_cancel' h
theorem om271 {a b:Nat}:a+1+b=a+(b+1):=Nat.succ_add_eq_add_succ a b
theorem om272 {a b:Int}:a=b↔¬¬a=b:=Iff.symm Decidable.not_not
theorem om273 {a b:Int}:a≤b - 1↔¬b≤a:=Int.le_sub_one_iff.trans Int.not_le.symm
theorem om274 {a b:Int}:a+1≤b↔¬b≤a:=Int.add_one_le_iff.trans Int.not_le.symm
theorem om275 {a b:Nat}:a≤6→b≤15→a+b≤21:=fun h i=>lf2 h i (by simp +arith)
theorem om276 {a b:Nat}:b≤1→a=0→max (a+1) b≤1:=fun h e=>Nat.max_le.mpr ⟨Nat.succ_le_succ (lel e),h⟩
theorem om277 {a b:Nat}:a < b→b < a→a=b:=fun h i=>Nat.le_antisymm (lf1 h (by simp +arith)) (lf1 i (by simp +arith))
theorem om278 {a b:Nat}:a≤600→b≤21→a+b≤700:=fun h i=>lf2 h i (by simp +arith)
theorem om279 {a b:Nat}:a≤600→b≤21→a+b≤1000000:=fun h i=>lf2 h i (by simp +arith)
theorem om280 {a b:Nat}:b≤2→a≤1→max (a+1) b≤2:=fun h i=>Nat.max_le.mpr ⟨Nat.succ_le_succ i,h⟩
theorem om281 {a b:Nat}:a≤100+3 * b→a+1+1+1≤100+3 * (b+1):=fun h=>lf1 h (by simp +arith)
theorem om282 {a:Nat}:a < Int.toNat 3→50+30 * (a+1)≤900:=fun (h:a < 3)=>lf1 (lfm 30 h) (by simp +arith)
theorem om283 {a b c:Nat}:a≤50+30 * c+1→b≤21→a+b≤50+30 * (c+1):=fun h i=>lf2 h i (by simp +arith)
theorem om284 {a b:Nat}:b < 3→a≤50+30 * b+1→a≤600:=fun h i=>lf2 (lfm 30 h) i (by simp +arith)
theorem om285 {a b:Nat}:b < 3→a≤50+30 * b+1→a≤900:=fun h i=>lf2 (lfm 30 h) i (by simp +arith)
theorem om286 {a b c:Nat}:a≤50+30 * c→b≤1→a+b≤50+30 * c+1:=fun a_1 a_2=>Nat.add_le_add a_1 a_2
theorem om287 {a b:Nat}:a≤50+30 * b→a≤50+30 * (b+1):=fun h=>lf1 h (by simp +arith)
theorem om288 {a b:Nat}:b < 3→a≤50+30 * b→a≤900:=fun h i=>lf2 (lfm 30 h) i (by simp +arith)
theorem om289 {a b:Nat}:b+2≤5→a < b+2→a < 5:=fun a_1 a_2=>Nat.lt_of_lt_of_le a_2 a_1
theorem om290 {a:Nat}:1≤a+2:=Nat.le_add_left 1 (a+1)
theorem om291 {a b:Nat}:b < Int.toNat 3→a≤100+3 * b→a+1+1≤1000:=fun (h:b < 3) i=>lf2 (lfm 3 h) i (by simp +arith)
theorem om292 {a:Nat}:(a:Int)+2=(↑(a+2):Int):=by intros; rfl
theorem om293 {a:Nat}:0≤(a:Int):=Int.natCast_nonneg a
theorem om294 {a b:Nat}:a≤100+3 * b→b < 3→a+1≤1000:=fun h i=>lf2 h (lfm 3 i) (by simp +arith)
theorem om295 {a b:Nat}:a≤100+3 * b→b < 3→a≤1000:=fun h i=>lf2 h (lfm 3 i) (by simp +arith)
theorem om296 {a b:Nat}:a≤50+30 * b→b < 3→a≤900:=fun h i=>lf2 h (lfm 30 i) (by simp +arith)
theorem om297 {a:Nat}:a≤3→a < 2 ^ 62:=fun h=>lf1 h (by simp +arith)
theorem om298 {a:Nat}:a≤3→a≤200:=fun h=>leL h rfl
theorem om299 {a b:Nat}:b≤3→a < b→a≤4:=fun h i=>lf2 h i (by simp +arith)
theorem om300 {a:Nat}:a≤4→0≤(a:Int)∧(a:Int)≤4:=fun a_1=>⟨Int.natCast_nonneg a,Nat.ToInt.of_le rfl rfl a_1⟩
theorem om301 {a b c:Nat}:a=0→c=0→b≤1→max 0 (max (a+1) (max 0 (max 0 (max (b+1) (max 0 (max (c+1) 0))))))+1≤8:=fun ha hc hb=>by cases ha; cases hc; exact (Nat.le_one_iff_eq_zero_or_eq_one.mp hb).elim (fun e=>by cases e; decide) (fun e=>by cases e; decide)
theorem om302 {a:Nat}:0+(a:Int) * 1=(a:Int):=by intros; simp [*]
theorem om303 {a:Nat}:a≤21→a≤50:=fun h=>leL h rfl
theorem om304 {a:Nat}:a≤21→a≤900:=fun h=>leL h rfl
theorem om305 {a b:Nat}:a≤b→a+1≤b+1:=fun a_1=>Nat.add_le_add_right a_1 1
theorem om306 {a b:Nat}:a≤b→a≤b+1:=by intros; constructor <;> simp_all
theorem om307 {a b c:Nat}:b≤125→a≤c→c < b→a < 1000000:=fun h i j=>lf3 h i j (by simp +arith)
theorem om308 {a:Nat}:a≤3→a≤10:=fun h=>leL h rfl
theorem om309 {a:Nat}:a≤3→a≤1000:=fun h=>leL h rfl
theorem om314 {a b:Nat}:a=b→b≤3→a≤3:=fun a_1 a_2=>le_of_eq_of_le a_1 a_2
theorem om315 {a b:Nat}:b≤3→a≤60+b→a≤100:=fun h i=>lf2 h i (by simp +arith)
theorem om316 {a:Nat}:a≤3→a+2≤5:=fun h=>Nat.add_le_add_right h 2
theorem om317 {a b:Nat}:a≤60+b→a+1≤60+(b+1):=fun a_1=>Nat.add_le_add_right a_1 1
theorem om318 {a b c:Nat}:b≤3→c < b→a=c→a≤10:=fun h i j=>lf3 h i (lel j) (by simp +arith)
theorem om319 {a:Nat}:a≤3→a < 4:=fun a_1=>Nat.lt_succ_of_le a_1
theorem om320 {a:Nat}:a≤5→a < 64:=fun h=>ltL h rfl
theorem om321 {a b c:Nat}:b≤3→c < b→a=c→a+1 < 2 ^ 62:=fun h i j=>lf3 h i (lel j) (by simp +arith)
theorem om322 {a b:Nat}:a=b→a≤b:=fun a_1=>Nat.le_of_eq a_1
theorem om323 {a b c:Nat}:b≤3→c < b→a=c→a < 1000000:=fun h i j=>lf3 h i (lel j) (by simp +arith)
theorem om324 {a b c:Nat}:b≤3→c < b+2→a≤c→a < 1000000:=fun h i j=>lf3 h i j (by simp +arith)
theorem om325 {a:Nat}:a≤3→0≤(a:Int)+2∧(a:Int)+2≤1000:=fun h=>⟨natI (Nat.zero_le (a+2)),Int.le_trans (natI (Nat.add_le_add_right h 2)) (by decide)⟩
theorem om326 {a b c:Nat}:b≤3→c < b→a≤60+c→a≤1000:=fun h i j=>lf3 h i j (by simp +arith)
theorem om327 {a:Nat}:a≤60→a≤60+0:=by intros; simp [*]
theorem om328 {a:Nat}:a≤3→0≤(a:Int)∧(a:Int)≤1000:=fun h=>⟨Int.natCast_nonneg _,Int.le_trans (natI h) (by decide)⟩
theorem om329 {a:Nat}:0≤(a:Int)+2:=Int.zero_le_ofNat (a+2)
theorem om330 {a:Nat}:((a:Int)+2).toNat=a+2:=by intros; rfl
theorem om334 {a:Nat}:a≤64→(a:Int)≤64:=fun a_1=>Nat.ToInt.of_le rfl rfl a_1
theorem om335 {a b:Nat}:a < b→(a:Int)≤(b:Int):=fun h=>natI (Nat.le_of_lt h)
theorem om336 {a b:Nat}:a < b→b≤2 ^ 5→a < 32:=fun a_1 a_2=>Nat.lt_of_lt_of_le a_1 a_2
theorem om337 {a:Nat}:a < 4→a+2≤5:=fun a_1=>Nat.succ_le_succ a_1
theorem om338 {a b c:Nat}:b≤3→c≤3+3 * b→a≤c+1+b→a≤60:=fun h i j=>lf3 (lfm 4 h) i j (by simp +arith)
theorem om339 {a b:Nat}:b≤3→a≤b→a≤3:=fun a_1 a_2=>Nat.le_trans a_2 a_1
theorem om340 {a b:Nat}:b≤3→a≤b→a≤1000:=fun h i=>lf2 h i (by simp +arith)
theorem om341 {a b:Nat}:1≤a→a≤b→1≤a∧a≤b+1:=fun a_1 a_2=>⟨Nat.one_le_of_lt a_1,Nat.le_add_right_of_le a_2⟩
theorem om342 {a:Nat}:1≤a+1∧a+1≤a+1:=⟨Nat.le_add_left 1 a,Nat.le_refl (a+1)⟩
theorem om343 {a b c:Nat}:a≤b+1+c→a+1≤b+1+(c+1):=fun a_1=>Nat.add_le_add_right a_1 1
theorem om344 {a b c:Nat}:b≤3→c < b→a≤c→a < 1000000:=fun h i j=>lf3 h i j (by simp +arith)
theorem om345 {a b c d:Nat}:b≤3→c≤3+3 * b→d < b→a≤c+1+d→a≤1000:=fun h i j k=>lf4 (lfm 4 h) i j k (by simp +arith)
theorem om346 {a:Nat}:a+1≤a+1+0:=by intros; constructor <;> simp_all
theorem om347 {a b:Nat}:b≤3→a≤3+3 * b→a≤1000:=fun h i=>lf2 (lfm 3 h) i (by simp +arith)
theorem om348 {a b:Nat}:b≤3→a=b→a≤1000:=fun h i=>lf2 h (lel i) (by simp +arith)
theorem om349 {a b c d:Nat}:c≤3→d≤3+3 * b→a≤d+c→a≤3+3 * (b+1):=fun h i j=>lf3 h i j (by simp +arith)
theorem om350 {a b c:Nat}:a≤b+c→a+1≤b+(c+1):=fun a_1=>Nat.add_le_add_right a_1 1
theorem om351 {a b c d e f:Nat}:b≤3→c≤3→d < b→e≤3+3 * d→f < c→a≤e+f→a≤1000:=fun h i j k l m=>lf5 i (lfm 3 (Nat.le_trans j h)) k l m (by simp +arith)
theorem om352 {a:Nat}:a≤a+0:=by intros; constructor <;> simp_all
theorem om353  : 3≤3+3 * 0:=by intros; constructor <;> simp_all
theorem om354 {a:Nat}:min 40 a≤40:=Nat.min_le_left 40 a
theorem om355 {a b c:Nat}:a≤b→b < min 40 c→a < 1000000:=fun h i=>lf3 h i (Nat.min_le_left 40 c) (by simp +arith)
theorem om356 {a:Nat}:a≤1000→a≤1000000:=fun h=>leL h rfl
theorem om357 {a b:Nat}:a < b+1→a≤b:=fun a_1=>Nat.le_of_lt_succ a_1
theorem om358 {a:Nat}:(a:Int)+1=(↑(a+1):Int):=Int.ofNat_add_one_out a
theorem om359 {a:Nat}:¬(↑63:Int) < (a:Int)→a≤1000:=fun h=>Nat.le_trans (Nat.le_of_not_lt fun k=>h (natJ k)) (by decide)
noncomputable abbrev vS (x:Str) (n:Nat):Value:=.str x n
noncomputable abbrev vI (x:Int) (n:Nat):Value:=.int x n
noncomputable abbrev vR (n:Nat):Value:=.ref n
noncomputable def tp (k:Nat):Stmt:=PySem.Challenge.pw_no0325_01.main.body.getD k (.Pass ⟨0,0,0,0⟩)
noncomputable def me (k j:Nat):Stmt:=if h:(tp k).ctorIdx=2 then @Stmt.ClassDef.elim (fun _=>Stmt) (tp k) h fun _ _ _ b _ _ _ _ _ _ _=>b.getD j (.Pass ⟨0,0,0,0⟩) else tp k
noncomputable def fx (t:Stmt) (q:Str) (m:Value) (c:Nat) (cl:List (Str × Addr)) (ct:Value):Obj:=⟨.type "function",none,if h:t.ctorIdx=0 then @Stmt.FunctionDef.elim (fun _=>Data) t h fun n a b _ _ _ sc _ _ _=>.func { name:=n,qualname:=q,params:=a,body:=.stmts b,scope:=sc,globals:=3,closure:=cl,defaults:=.none,kwdefaults:=.none,pyModule:=m,code:=.ref c,closureTuple:=ct } else .plain,#[]⟩
noncomputable def cx (x q:Str) (k:Nat) (l n:Int) (b:Nat) (k4:Nat) (X Y:Value) (z:Nat):Obj:=⟨.type "code",none,.fields #[vS x k,vS q (k+1),vS "/claim/cut.py" (k+2),vI l 0,vI n 0,vI 0 0,vI 0 0,vI 3 0,vR b,.bool true,vI 181 0,vR (b+1),.none,X,Y,vR z,vI k4 0,vI l 0,vS "/claim/cut.py" (k4+1)],#[]⟩
noncomputable abbrev kr (a:Addr) (o:Obj):Addr × Obj:=(a,o)
noncomputable def fN (a:Nat) (x q:Str) (t:Stmt) (m:Value) (k:Nat) (l n:Int) (k4:Nat) (R:Frag):Frag:=kr a (cx x q k l n (a - 3) k4 .none .none (a - 1)) :: kr (a+1) (fx t q m a [] .none) :: R
noncomputable def fW (a:Nat) (x q:Str) (t:Stmt) (m:Value) (k:Nat) (l n:Int) (k4:Nat) (R:Frag):Frag:=kr a (cx x q k l n (a - 5) k4 (vR (a - 3)) (vR (a - 2)) (a - 1)) :: kr (a+1) (fx t q m a [] .none) :: R
noncomputable abbrev de (P:Params) (x:Str) (n:Nat) (v:Value):DictEntry:=⟨PyData.keyHash P x,.str x n,v⟩
noncomputable abbrev mB:Value:=vS "fdsolve.domains" 194
noncomputable abbrev mC:Value:=vS "fdsolve.store" 319
noncomputable abbrev mD:Value:=vS "fdsolve.regular" 568
noncomputable abbrev mE:Value:=vS "law_no0325_01" 728
noncomputable def KFP (P:Params):Frag :=
  fW 27 "put_behind" "put_behind" (tp 2) mB 196 5 3 202 <|
  fW 34 "from_values" "from_values" (tp 3) mB 205 11 1 211 <|
  fW 55 "next_from" "next_from" (tp 6) mB 228 20 2 235 <|
  fW 62 "has" "has" (tp 7) mB 238 25 2 243 <|
  fW 69 "values" "values" (tp 9) mB 247 28 1 254 <|
  fN 74 "up_to" "up_to" (tp 10) mB 257 33 2 260 <|
  fN 79 "from_on" "from_on" (tp 11) mB 263 35 2 266 <|
  fW 86 "without" "without" (tp 12) mB 269 37 2 274 <|
  fW 93 "meet" "meet" (tp 13) mB 277 39 2 287 <|
  fW 100 "negation" "negation" (tp 14) mB 290 50 1 297 <|
  fW 107 "struck" "struck" (tp 15) mB 300 57 2 307 <|
  fW 128 "__init__" "Store.__init__" (me 18 0) mC 333 72 1 337 <|
  fW 135 "new_var" "Store.new_var" (me 18 1) mC 340 82 2 345 <|
  fW 142 "size" "Store.size" (me 18 2) mC 348 89 1 352 <|
  fW 149 "dom" "Store.dom" (me 18 3) mC 355 92 2 360 <|
  fW 156 "initial" "Store.initial" (me 18 4) mC 363 95 2 368 <|
  fW 212 "enter" "Store.enter" (me 18 12) mC 428 119 4 438 <|
  fW 219 "strike" "Store.strike" (me 18 13) mC 441 132 3 447 <|
  fW 226 "decide" "Store.decide" (me 18 14) mC 450 135 2 455 <|
  fW 233 "fail" "Store.fail" (me 18 15) mC 458 138 2 463 <|
  fW 240 "push" "Store.push" (me 18 16) mC 466 143 1 470 <|
  fW 247 "pop" "Store.pop" (me 18 17) mC 473 146 2 480 <|
  fW 282 "__init__" "Propagator.__init__" (me 19 0) mC 525 165 3 531 <|
  fW 333 "told" "Regular.told" (me 21 1) mD 596 190 1 600 <|
  fW 340 "check" "Regular.check" (me 21 2) mD 603 193 2 610 <|
  fN 345 "reached_of" "Regular.reached_of" (me 21 3) mD 613 201 2 616 <|
  fN 350 "alive_of" "Regular.alive_of" (me 21 4) mD 619 214 2 622 <|
  fW 357 "note_dead" "Regular.note_dead" (me 21 5) mD 625 227 6 639 <|
  fW 364 "note_unreached" "Regular.note_unreached" (me 21 6) mD 642 239 5 654 <|
  fN 369 "reasons_of" "Regular.reasons_of" (me 21 7) mD 657 251 3 660 <|
  fW 376 "why_not" "Regular.why_not" (me 21 8) mD 663 254 7 678 <|
  fW 383 "has_support" "Regular.has_support" (me 21 9) mD 681 266 5 690 <|
  fW 390 "keep_letters" "Regular.keep_letters" (me 21 10) mD 693 272 2 699 <|
  fN 395 "strike_round" "Regular.strike_round" (me 21 11) mD 702 278 2 705 <|
  fW 402 "propagate" "Regular.propagate" (me 21 12) mD 708 296 2 714 <|
  fW 414 "_law_draw" "_law_draw" (tp 23) mE 730 304 2 736 <|
  fN 419 "_law_goes" "_law_goes" (tp 24) mE 739 308 2 742 <|
  fN 424 "_law_words" "_law_words" (tp 25) mE 745 316 1 748 <|
  fW 431 "_law_says" "_law_says" (tp 26) mE 751 321 2 759 <|
  fN 436 "_law_hold" "_law_hold" (tp 27) mE 762 324 2 765 <|
  fN 441 "_law_follows" "_law_follows" (tp 28) mE 768 326 3 771 <|
  fN 446 "_law_are_strikes_right" "_law_are_strikes_right" (tp 29) mE 774 332 4 777 <|
  fN 451 "_law_is_asked" "_law_is_asked" (tp 30) mE 780 341 3 783 <|
  fN 456 "law" "law" (tp 31) mE 786 356 1 789 <| [
  kr 2 (⟨.none,none,.dict #[] 0,#[]⟩),
  kr 3 (⟨.type "dict",none,.dict #[de P "__name__" 165 (vS "law_no0325_01" 728),de P "__doc__" 166 .none,de P "__package__" 167 .none,de P "__loader__" 168 (.builtin "__main__.__loader__#opaque"),de P "__spec__" 169 .none,de P "__annotations__" 170 (vR 6),de P "__builtins__" 171 (vR 4),de P "__file__" 173 (vS "/claim/cut.py" 172),de P "__cached__" 174 .none,de P "_wall" 193 (vR 21),de P "put_behind" 204 (vR 28),de P "from_values" 213 (vR 35),de P "least" 220 (vR 42),de P "greatest" 227 (vR 49),de P "next_from" 237 (vR 56),de P "has" 245 (vR 63),de P "has_domains" 246 (vR 63),de P "values" 256 (vR 70),de P "up_to" 262 (vR 75),de P "from_on" 268 (vR 80),de P "without" 276 (vR 87),de P "meet" 289 (vR 94),de P "negation" 299 (vR 101),de P "struck" 309 (vR 108),de P "said_of" 318 (vR 115),de P "Store" 512 (vR 265),de P "Propagator" 567 (vR 307),de P "Regular" 727 (vR 406),de P "_law_draw" 738 (vR 415),de P "_law_goes" 744 (vR 420),de P "_law_words" 750 (vR 425),de P "_law_says" 761 (vR 432),de P "_law_hold" 767 (vR 437),de P "_law_follows" 773 (vR 442),de P "_law_are_strikes_right" 779 (vR 447),de P "_law_is_asked" 785 (vR 452),de P "law" 791 (vR 457)] 37,#[]⟩),
  kr 264 (⟨.type "dict",none,.dict #[de P "__module__" 328 (vS "fdsolve.store" 319),de P "__firstlineno__" 332 (vI 70 331),de P "__init__" 339 (vR 129),de P "new_var" 347 (vR 136),de P "size" 354 (vR 143),de P "dom" 362 (vR 150),de P "initial" 370 (vR 157),de P "low" 378 (vR 164),de P "high" 386 (vR 171),de P "has" 395 (vR 178),de P "is_fixed" 403 (vR 185),de P "value" 411 (vR 192),de P "width" 419 (vR 199),de P "holds" 427 (vR 206),de P "enter" 440 (vR 213),de P "strike" 449 (vR 220),de P "decide" 457 (vR 227),de P "fail" 465 (vR 234),de P "push" 472 (vR 241),de P "pop" 482 (vR 248),de P "depth" 489 (vR 255),de P "changed" 496 (vR 262),de P "__static_attributes__" 505 (vR 263),de P "__dict__" 507 (vR 266),de P "__weakref__" 509 (vR 267),de P "__doc__" 510 .none] 4,#[]⟩),
  kr 265 (⟨.type "type",none,.cls { name := "Store",bases:=[ .type "object"],mro:=[ .ref 265,  .type "object"],ns:=264,qualname := "Store" },#[none,none,some (vS "Store" 321),some (vS "Store" 329),some (.builtin "object.__new__"),some (.bool true)]⟩),
  kr 306 (⟨.type "dict",none,.dict #[de P "__module__" 520 (vS "fdsolve.store" 319),de P "__firstlineno__" 524 (vI 163 523),de P "__init__" 533 (vR 283),de P "propagate" 541 (vR 290),de P "check" 549 (vR 297),de P "told" 556 (vR 304),de P "__static_attributes__" 560 (vR 305),de P "__dict__" 562 (vR 308),de P "__weakref__" 564 (vR 309),de P "__doc__" 565 .none] 4,#[]⟩),
  kr 307 (⟨.type "type",none,.cls { name := "Propagator",bases:=[ .type "object"],mro:=[ .ref 307,  .type "object"],ns:=306,qualname := "Propagator",subclasses:=[ .ref 406] },#[none,none,some (vS "Propagator" 513),some (vS "Propagator" 521),some (.builtin "object.__new__"),some (.bool true)]⟩),
  kr 315 (⟨.type "cell",none,.cell (some (vR 406)),#[]⟩),
  kr 326 (cx "__init__" "Regular.__init__" 582 181 7 321 593 (vR 323) (vR 324) 325),
  kr 327 (fx (me 21 0) "Regular.__init__" mD 326 [("__class__",315)] (vR 320)),
  kr 405 (⟨.type "dict",none,.dict #[de P "__module__" 577 (vS "fdsolve.regular" 568),de P "__firstlineno__" 581 (vI 179 580),de P "__init__" 595 (vR 327),de P "told" 602 (vR 334),de P "check" 612 (vR 341),de P "reached_of" 618 (vR 346),de P "alive_of" 624 (vR 351),de P "note_dead" 641 (vR 358),de P "note_unreached" 656 (vR 365),de P "reasons_of" 662 (vR 370),de P "why_not" 680 (vR 377),de P "has_support" 692 (vR 384),de P "keep_letters" 701 (vR 391),de P "strike_round" 707 (vR 396),de P "propagate" 716 (vR 403),de P "__static_attributes__" 723 (vR 404),de P "__doc__" 725 .none] 3,#[]⟩),
  kr 406 (⟨.type "type",none,.cls { name := "Regular",bases:=[ .ref 307],mro:=[ .ref 406,  .ref 307,  .type "object"],ns:=405,qualname := "Regular" },#[some (vR 312),none,some (vS "Regular" 570),some (vS "Regular" 578),some (.builtin "object.__new__"),some (.bool true)]⟩)]
noncomputable abbrev KF (w:World):Frag:=KFP w.params
noncomputable def KFa:List Addr:=([27,34,55,62,69,74,79,86,93,100,107,128,135,142,149,156,212,219,226,233,240,247,282,333,340,345,350,357,364,369,376,383,390,395,402,414,419,424,431,436,441,446,451,456].flatMap fun a=>[a,a+1]) ++ [2,3,264,265,306,307,315,326,327,405,406]
section
inductive AV where
  | val (v:Value)
  | int (i:Int)
  | str (s:Str)
  | tup (l:List AV)
  | rng (a b c:Int)
  | lst (l:List AV)
noncomputable abbrev AV.none:AV:=.val .none
noncomputable abbrev AV.bool (b:Bool):AV:=.val (.bool b)
noncomputable abbrev AV.ref (a:Addr):AV:=.val (.ref a)
inductive AObj where
  | list (l:List AV)
  | sdict (l:List (Str × AV))
  | idict (l:List Int)
  | tdict (l:List (List (Int ⊕ Str)))
  | inst (C dx:Addr)
  | attrs (l:List (Str × AV))
  | frz (l:List AV)
  | pair
noncomputable def Fixd:AObj→Bool
  | .frz _=>true
  | .pair=>true
  | _=>false
noncomputable abbrev AHeap:=Addr→Option AObj
noncomputable abbrev Loc:=Str→Option AV
noncomputable def AHeap.set (H:AHeap) (a:Addr) (o:AObj):AHeap:=fun b=>if b=a then some o else H b
noncomputable def Loc.set (L:Loc) (x:Str) (v:AV):Loc:=fun y=>if y=x then some v else L y
theorem AHeap.set_same {H:AHeap} {a:Addr} {o:AObj}:H.set a o a=some o:=if_pos rfl
theorem AHeap.set_ne {H:AHeap} {a b:Addr} {o:AObj} (h:b≠a):H.set a o b=H b:=if_neg h
theorem Loc.set_same {L:Loc} {x:Str} {v:AV}:L.set x v x=some v:=if_pos rfl
theorem Loc.set_ne {L:Loc} {x y:Str} {v:AV} (h:y≠x):L.set x v y=L y:=if_neg h
noncomputable abbrev tupO (vs:List Value) (n:Nat):Obj:={ cls:=.type "tuple",data:=.seq vs.toArray n }
noncomputable abbrev lstO (vs:List Value) (n:Nat):Obj:={ cls:=.type "list",data:=.seq vs.toArray n }
mutual
inductive VR (H:AHeap) (h:Heap):AV→Value→Prop
  | val (v:Value):VR H h (.val v) v
  | int (i:Int) (t:Tok):VR H h (.int i) (.int i t)
  | str (s:Str) (t:Tok):VR H h (.str s) (.str s t)
  | tup {l:List AV} {a:Addr} {vs:List Value} {n:Nat}:h.get? a=some (tupO vs n)→H a=none→VRs H h l vs→VR H h (.tup l) (.ref a)
  | rng {a b c:Int} {r:Addr} {t u v:Tok}:IsRange h r a b c t u v→H r=none→VR H h (.rng a b c) (.ref r)
  | lst {l:List AV} {a:Addr}:H a=some (.frz l)→VR H h (.lst l) (.ref a)
inductive VRs (H:AHeap) (h:Heap):List AV→List Value→Prop
  | nil:VRs H h [] []
  | cons {a:AV} {v:Value} {l:List AV} {vs:List Value}:VR H h a v→VRs H h l vs→VRs H h (a :: l) (v :: vs)
end
noncomputable def aAz (o:Obj):Prop:=(o.cls=.type "tuple" ∧ ∃ xs n,o.data=.seq xs n)∨(o.cls=.type "range" ∧ ∃ vs,o.data=.fields vs)
structure Mon (H:AHeap) (h:Heap) (H':AHeap) (h':Heap):Prop where
  at_:∀ b o,h.get? b=some o→H b=none→aAz o→h'.get? b=some o∧H' b=none
  frz:∀ b o,Fixd o=true→H b=some o→H' b=some o
theorem VRs.ind {H:AHeap} {h:Heap} {P:List AV→List Value→Prop} {l:List AV} {vs:List Value} (x:VRs H h l vs) (nil:P [] []) (cons:∀ {a:AV} {v:Value} {l:List AV} {vs:List Value},VR H h a v→VRs H h l vs→P l vs→P (a :: l) (v :: vs)):P l vs :=
  VRs.rec (motive_1:=fun _ _ _=>True) (motive_2:=fun l vs _=>P l vs) (fun _=>trivial) (fun _ _=>trivial) (fun _ _=>trivial) (fun _ _ _ _=>trivial) (fun _ _=>trivial) (fun _=>trivial) nil (fun r rs _ ih=>cons r rs ih) x
@[elab_as_elim] theorem VRs.c {H:AHeap} {h:Heap} {a:AV} {l:List AV} {vs:List Value} {P:List Value→Prop} (r:VRs H h (a :: l) vs) (k:∀ v ws,VR H h a v→VRs H h l ws→P (v :: ws)):P vs:=by
  cases r with
  | cons r rs=>exact k _ _ r rs
@[elab_as_elim] theorem VRs.n {H:AHeap} {h:Heap} {vs:List Value} {P:List Value→Prop} (r:VRs H h [] vs) (k:P []):P vs:=by cases r; exact k
@[elab_as_elim] theorem VR.vl {H:AHeap} {h:Heap} {v u:Value} {P:Value→Prop} (r:VR H h (.val v) u) (k:P v):P u:=by cases r; exact k
@[elab_as_elim] theorem VR.il {H:AHeap} {h:Heap} {i:Int} {u:Value} {P:Value→Prop} (r:VR H h (.int i) u) (k:∀ t,P (.int i t)):P u:=by cases r; exact k _
@[elab_as_elim] theorem VR.sl {H:AHeap} {h:Heap} {x:Str} {u:Value} {P:Value→Prop} (r:VR H h (.str x) u) (k:∀ t,P (.str x t)):P u:=by cases r; exact k _
@[elab_as_elim] theorem VR.tl {H:AHeap} {h:Heap} {l:List AV} {u:Value} {P:Value→Prop} (r:VR H h (.tup l) u) (k:∀ a vs n,h.get? a=some (tupO vs n)→H a=none→VRs H h l vs→P (.ref a)):P u:=by
  cases r with
  | tup e q rs=>exact k _ _ _ e q rs
theorem VR.mono {H H':AHeap} {h h':Heap} (m:Mon H h H' h') {a:AV} {v:Value} (x:VR H h a v):VR H' h' a v :=
  VR.rec (motive_1:=fun a v _=>VR H' h' a v) (motive_2:=fun l vs _=>VRs H' h' l vs) .val .int .str
    (fun e q _ r=>.tup (m.1 _ _ e q (.inl ⟨rfl,_,_,rfl⟩)).1 (m.1 _ _ e q (.inl ⟨rfl,_,_,rfl⟩)).2 r) (fun e q=>.rng (m.1 _ _ e q (.inr ⟨rfl,_,rfl⟩)).1 (m.1 _ _ e q (.inr ⟨rfl,_,rfl⟩)).2)
    (fun e=>.lst (m.2 _ _ rfl e)) .nil (fun _ _ r rs=>.cons r rs) x
theorem VRs.mono {H H':AHeap} {h h':Heap} (m:Mon H h H' h') {l:List AV} {vs:List Value} (x:VRs H h l vs):VRs H' h' l vs :=
  x.ind .nil fun r _ ih=>.cons (r.mono m) ih
theorem VRs.length {H:AHeap} {h:Heap} {l:List AV} {vs:List Value} (x:VRs H h l vs):l.length=vs.length :=
  x.ind (P:=fun l vs=>l.length=vs.length) rfl fun _ _ ih=>congrArg (· + 1) ih
theorem VRs.get {H:AHeap} {h:Heap} {l:List AV} {vs:List Value} (x:VRs H h l vs) {i:Nat} {a:AV} (e:l[i]?=some a):∃ v,vs[i]?=some v∧VR H h a v:=by
  refine x.ind (P:=fun l vs=>∀ i,l[i]?=some a→∃ v,vs[i]?=some v∧VR H h a v) (fun i e=>by cases e) (fun r _ ih i e=>?_) i e
  cases i with
  | zero=>exact ⟨_,rfl,Option.some.inj e ▸ r⟩
  | succ i=>exact ih i e
theorem VRs.append {H:AHeap} {h:Heap} {l l':List AV} {vs vs':List Value} (x:VRs H h l vs) (y:VRs H h l' vs'):VRs H h (l ++ l') (vs ++ vs') :=
  x.ind (P:=fun l vs=>VRs H h (l ++ l') (vs ++ vs')) y fun r _ ih=>.cons r ih
theorem VRs.set {H:AHeap} {h:Heap} {l:List AV} {vs:List Value} (x:VRs H h l vs) {i:Nat} {a:AV} {v:Value} (y:VR H h a v):VRs H h (l.set i a) (vs.set i v):=by
  refine x.ind (P:=fun l vs=>∀ i,VRs H h (l.set i a) (vs.set i v)) (fun _=>.nil) (fun r rs ih i=>?_) i
  cases i with
  | zero=>exact .cons y rs
  | succ i=>exact .cons r (ih i)
theorem VRs.take {H:AHeap} {h:Heap} {l:List AV} {vs:List Value} (x:VRs H h l vs) (i:Nat):VRs H h (l.take i) (vs.take i):=by
  refine x.ind (P:=fun l vs=>∀ i,VRs H h (l.take i) (vs.take i)) (fun i=>by rw [List.take_nil,List.take_nil]; exact .nil) (fun r rs ih i=>?_) i
  cases i with
  | zero=>exact .nil
  | succ i=>exact .cons r (ih i)
theorem VRs.drop {H:AHeap} {h:Heap} {l:List AV} {vs:List Value} (x:VRs H h l vs) (i:Nat):VRs H h (l.drop i) (vs.drop i):=by
  refine x.ind (P:=fun l vs=>∀ i,VRs H h (l.drop i) (vs.drop i)) (fun i=>by rw [List.drop_nil,List.drop_nil]; exact .nil) (fun r rs ih i=>?_) i
  cases i with
  | zero=>exact .cons r rs
  | succ i=>exact ih i
theorem VRs.reverse {H:AHeap} {h:Heap} {l:List AV} {vs:List Value} (x:VRs H h l vs):VRs H h l.reverse vs.reverse :=
  x.ind (P:=fun l vs=>VRs H h l.reverse vs.reverse) .nil fun r _ ih=>by rw [List.reverse_cons,List.reverse_cons]; exact ih.append (.cons r .nil)
inductive NRs (H:AHeap) (h:Heap):List (Str × AV)→List DictEntry→Prop
  | nil:NRs H h [] []
  | cons {x:Str} {a:AV} {k:Int} {t:Tok} {v:Value} {l es}:VR H h a v→NRs H h l es→NRs H h ((x,a) :: l) (⟨k,.str x t,v⟩ :: es)
theorem NRs.mono {H H':AHeap} {h h':Heap} (m:Mon H h H' h') {l:List (Str × AV)} {es:List DictEntry} (x:NRs H h l es):NRs H' h' l es:=by
  induction x with
  | nil=>exact .nil
  | cons x _ ih=>exact .cons (x.mono m) ih
noncomputable abbrev PG:Program:=PySem.Challenge.rw_no0325_01.row.prog
noncomputable abbrev DK:=Int ⊕ Str
noncomputable def dkAV:Int ⊕ Str→AV
  | .inl i=>.int i
  | .inr x=>.str x
theorem aEc {prog:Program} {w:World} {A:Around} {E:Value→Shared→Prop} {s:Shared} {b:Bool} {Q:Bool→Shared→Prop} (h:Q b s):wpAny (model prog w) A (truthOfDropped (.bool b)) Q E s:=by
  unfold truthOfDropped; exact wpAny_truthy_bool h
theorem aXt {prog:Program} {w:World} {A:Around} {E:Value→Shared→Prop} {s:Shared} {a:Int} {t:Tok} {x:Str} {u:Tok} {Q:Bool→Shared→Prop} (h:Q false s):wpAny (model prog w) A (eqBool (.int a t) (.str x u)) Q E s:=by
  unfold eqBool
  refine wpAny_holding ?_
  rw [if_neg (show ¬ ((Value.int a t == Value.str x u)=true) from Bool.false_ne_true)]
  dsimp only
  refine wpAny_bind (show wpAny _ A (compareOp .Eq (.int a t) (.str x u)) _ E s from EqMixed.eq_int_str (aEc h))
theorem aXs {prog:Program} {w:World} {A:Around} {E:Value→Shared→Prop} {s:Shared} {a:Int} {t:Tok} {x:Str} {u:Tok} {Q:Bool→Shared→Prop} (h:Q false s):wpAny (model prog w) A (eqBool (.str x u) (.int a t)) Q E s:=by
  unfold eqBool
  refine wpAny_holding ?_
  rw [if_neg (show ¬ ((Value.str x u == Value.int a t)=true) from Bool.false_ne_true)]
  dsimp only
  refine wpAny_bind (show wpAny _ A (compareOp .Eq (.str x u) (.int a t)) _ E s from EqMixed.eq_str_int (aEc h))
noncomputable def aKt (prog:Program) (w:World):KeyKind prog w DK where
  is k v:=match k with | .inl i=>Value.isInt i v | .inr x=>Value.isStrOf x v
  hash k:=match k with | .inl i=>hashInt i | .inr x=>hashStr w x
  inj:=fun v a b ha hb=>by
    cases a <;> cases b <;> dsimp only at ha hb
    · rw [Value.isInt_inj _ _ _ ha hb]
    · obtain ⟨t,rfl⟩:=Value.isInt_shape ha; obtain ⟨u,e⟩:=Value.isStrOf_shape hb; cases e
    · obtain ⟨t,rfl⟩:=Value.isStrOf_shape ha; obtain ⟨u,e⟩:=Value.isInt_shape hb; cases e
    · rw [Value.isStrOf_inj _ _ _ ha hb]
  byValue:=fun k v h=>by
    cases k <;> dsimp only at h
    · obtain ⟨t,rfl⟩:=Value.isInt_shape h; rfl
    · obtain ⟨t,rfl⟩:=Value.isStrOf_shape h; rfl
  pyHash:=fun {_ _ _ k _ _} hv h=>by
    cases k <;> dsimp only at hv h
    · obtain ⟨t,rfl⟩:=Value.isInt_shape hv; exact wpAny_pyHash_int h
    · obtain ⟨t,rfl⟩:=Value.isStrOf_shape hv; exact wpAny_pyHash_str h
  eqBool:=fun {_ _ _ a b _ _ _} hu hv h=>by
    cases a <;> cases b <;> dsimp only at hu hv
    · obtain ⟨t,rfl⟩:=Value.isInt_shape hu; obtain ⟨u,rfl⟩:=Value.isInt_shape hv
      exact wpAny_eqBool_int (by rw [show ∀ x y:Int,(x == y)=decide ((.inl x:DK)=.inl y) from fun x y=>by by_cases e:x=y <;> simp [e]]; exact h)
    · obtain ⟨t,rfl⟩:=Value.isInt_shape hu; obtain ⟨u,rfl⟩:=Value.isStrOf_shape hv
      exact aXt (by simpa using h)
    · obtain ⟨t,rfl⟩:=Value.isStrOf_shape hu; obtain ⟨u,rfl⟩:=Value.isInt_shape hv
      exact aXs (by simpa using h)
    · obtain ⟨t,rfl⟩:=Value.isStrOf_shape hu; obtain ⟨u,rfl⟩:=Value.isStrOf_shape hv
      exact wpAny_eqBool_str (by simpa [Sum.inr.injEq] using h)
  «strs»:=fun k x t v h=>by
    cases k <;> dsimp only at h ⊢
    · simp [Value.isInt] at h
    · obtain ⟨u,hu⟩:=Value.isStrOf_shape h
      injection hu with hx
      subst hx
      cases v <;> rfl
inductive KVs {K:Type} (H:AHeap) (h:Heap):List (K × AV)→List (K × Value)→Prop
  | nil:KVs H h [] []
  | cons {k:K} {a:AV} {v:Value} {l vs}:VR H h a v→KVs H h l vs→KVs H h ((k,a) :: l) ((k,v) :: vs)
theorem KVs.mono {K:Type} {H H':AHeap} {h h':Heap} (m:Mon H h H' h') {l:List (K × AV)} {vs:List (K × Value)} (x:KVs H h l vs):KVs H' h' l vs:=by
  induction x with
  | nil=>exact .nil
  | cons x _ ih=>exact .cons (x.mono m) ih
noncomputable def OR (w:World) (H:AHeap) (h:Heap) (a:Addr):AObj→Prop
  | .list l=>∃ vs n,h.get? a=some (lstO vs n)∧VRs H h l vs
  | .sdict l=>∃ kvs,h.DictOf (strKind PG w) a kvs∧KVs H h l kvs
  | .idict l=>∃ kvs,h.DictOf (intKind PG w) a kvs∧kvs.map (·.1)=l
  | .tdict l=>∃ xs,h.DictOfH (tupleKind (aKt PG w)) a xs∧xs.map (·.1)=l∧(∀ x∈xs,VR H h (.tup (x.1.map dkAV)) (.ref x.2.1))∧a≠sysModules
  | .inst C dx=>h.get? a=some (instObj C dx)
  | .attrs l=>∃ es n,h.get? a=some (dictOf es n)∧NRs H h l es
  | .frz l=>∃ vs n,h.get? a=some (lstO vs n)∧VRs H h l vs
  | .pair=>∃ x y,IsPair h a x y
theorem aHq {w:World} {K:Type} [DecidableEq K] {k:PySem.KeyKind PG w K} {h:Heap} {a:Addr} {l:List (K × Value)} (x:h.DictOf k a l):∃ x,h.get? a=some x:=let ⟨_,_,_,e,_⟩:=x; ⟨_,e⟩
theorem aHr {w:World} {K:Type} [DecidableEq K] {k:PySem.KeyKind PG w K} {h h':Heap} {a:Addr} {l:List (K × Value)} (x:h.DictOf k a l) (q:∀ x,h.get? a=some x→h'.get? a=some x):h'.DictOf k a l:=x.elim fun o x=>x.elim fun es x=>x.elim fun ep x=>⟨o,es,ep,q _ x.1,x.2⟩
theorem OR.some {w:World} {H:AHeap} {h:Heap} {a:Addr} {o:AObj} (x:OR w H h a o):∃ x,h.get? a=some x:=by
  cases o with
  | list l=>exact x.elim fun _ x=>x.elim fun _ x=>⟨_,x.1⟩
  | sdict l=>exact x.elim fun _ x=>aHq x.1
  | idict l=>exact x.elim fun _ x=>aHq x.1
  | tdict l=>exact x.elim fun _ x=>x.1.elim fun _ x=>x.elim fun _ x=>x.elim fun _ x=>⟨_,x.1⟩
  | inst c d=>exact ⟨_,x⟩
  | attrs l=>exact x.elim fun _ x=>x.elim fun _ x=>⟨_,x.1⟩
  | frz l=>exact x.elim fun _ x=>x.elim fun _ x=>⟨_,x.1⟩
  | pair=>exact x.elim fun _ x=>x.elim fun _ x=>⟨_,x⟩
theorem OR.mono {w:World} {H H':AHeap} {h h':Heap} {a:Addr} (m:Mon H h H' h') (k:∀ x,h.get? a=.some x→h'.get? a=.some x) {o:AObj} (x:OR w H h a o):OR w H' h' a o:=by
  cases o with
  | list l=>exact x.elim fun vs x=>x.elim fun n x=>⟨vs,n,k _ x.1,x.2.mono m⟩
  | sdict l=>exact x.elim fun vs x=>⟨vs,aHr x.1 k,x.2.mono m⟩
  | idict l=>exact x.elim fun vs x=>⟨vs,aHr x.1 k,x.2⟩
  | tdict l =>
    obtain ⟨xs,⟨o,es,ep,e,d1,d2,d3,d4,d5⟩,r,q,na⟩:=x
    refine ⟨xs,⟨o,es,ep,k _ e,d1,d2,d3,fun x hx=>?_,d5⟩,r,fun x hx=>(q x hx).mono m,na⟩
    obtain ⟨o',its,n',e1,e2,e3,e4⟩:=d4 x hx
    cases q x hx with
    | tup e5 e6 _=>cases e5.symm.trans e1; exact ⟨_,its,n',(m.1 _ _ e5 e6 (.inl ⟨rfl,_,_,rfl⟩)).1,e2,e3,e4⟩
  | inst c d=>exact k _ x
  | attrs l=>exact x.elim fun vs x=>x.elim fun n x=>⟨vs,n,k _ x.1,x.2.mono m⟩
  | frz l=>exact x.elim fun vs x=>x.elim fun n x=>⟨vs,n,k _ x.1,x.2.mono m⟩
  | pair=>exact x.elim fun y x=>x.elim fun z x=>⟨y,z,k _ x⟩
structure Cx where
  w:World
  hB:Heap
  K:(KF w).In hB
  ns:∃ mg mb,hB.Ns mainGlobals mg∧hB.Ns builtinsNs mb∧∀ x:Str,x ≠ "__name__" → mb x=bootBuiltins x
  lim:hB.NoLimit
structure Inv (G:Cx) (H:AHeap) (h:Heap):Prop where
  base:∀ b o,G.hB.get? b=some o→h.get? b=some o∧H b=none
  obj:∀ a o,H a=some o→OR G.w H h a o
theorem Inv.keep {G:Cx} {H:AHeap} {h:Heap} (I:Inv G H h):∀ b o,G.hB.get? b=some o→h.get? b=some o:=fun b o e=>(I.base b o e).1
theorem Inv.frag {G:Cx} {H:AHeap} {h:Heap} (I:Inv G H h):(KF G.w).In h:=G.K.keeps I.keep
theorem Inv.fresh {G:Cx} {H:AHeap} {h:Heap} (I:Inv G H h) {a:Addr} (e:h.get? a=none):H a=none:=by
  cases q:H a with
  | none=>rfl
  | some o=>obtain ⟨x,ex⟩:=(I.obj a o q).some; rw [e] at ex; cases ex
theorem aAa {h:Heap}:h.get? h.objs.size=none:=by
  cases q:h.get? h.objs.size with
  | none=>rfl
  | some o=>exact absurd (Heap.lt_size q) (Nat.lt_irrefl _)
theorem Inv.size_ne {G:Cx} {H:AHeap} {h:Heap} (I:Inv G H h):h.objs.size≠sysModules:=by
  obtain ⟨mg,mb,⟨o,es,ep,ho,_⟩,_⟩:=G.ns
  have this:(3:Nat) < h.objs.size:=Heap.lt_size (I.base _ _ ho).1
  exact Nat.ne_of_gt (Nat.lt_trans (show (1:Nat) < 3 by decide) this)
theorem Inv.fresh' {G:Cx} {H:AHeap} {h:Heap} (I:Inv G H h):H h.objs.size=none:=I.fresh aAa
structure Ext (own:List Addr) (H:AHeap) (h:Heap) (H':AHeap) (h':Heap):Prop where
  keep:∀ b o,h.get? b=some o→H b=none→b∉own→h'.get? b=some o
  seq:∀ b o,h.get? b=some o→H b=none→aAz o→h'.get? b=some o
  off:∀ b o,h.get? b=some o→H b=none→H' b=none
  there:∀ b o,h.get? b=some o→∃ o',h'.get? b=some o'
  dom:∀ b o,H b=some o→∃ o',H' b=some o'
  frz:∀ b o,Fixd o=true→H b=some o→H' b=some o
theorem Ext.mon {own:List Addr} {H H':AHeap} {h h':Heap} (x:Ext own H h H' h'):Mon H h H' h':=⟨fun b o e q d=>⟨x.seq b o e q d,x.off b o e q⟩,x.frz⟩
theorem Ext.refl (own:List Addr) (H:AHeap) (h:Heap):Ext own H h H h:=⟨fun _ _ e _ _=>e,fun _ _ e _ _=>e,fun _ _ _ q=>q,fun _ o e=>⟨o,e⟩,fun _ o e=>⟨o,e⟩,fun _ _ _ q=>q⟩
theorem Ext.trans {own:List Addr} {H H' H'':AHeap} {h h' h'':Heap} (x:Ext own H h H' h') (y:Ext own H' h' H'' h''):Ext own H h H'' h'' where
  keep b o e q n:=y.keep b o (x.keep b o e q n) (x.off b o e q) n
  seq b o e q d:=y.seq b o (x.seq b o e q d) (x.off b o e q) d
  off b o e q:=let ⟨o',e'⟩:=x.there b o e; y.off b o' e' (x.off b o e q)
  there b o e:=let ⟨o',e'⟩:=x.there b o e; y.there b o' e'
  dom b o e:=let ⟨o',e'⟩:=x.dom b o e; y.dom b o' e'
  frz b o f q:=y.frz b o f (x.frz b o f q)
theorem Ext.weaken {own own':List Addr} {H H':AHeap} {h h':Heap} (x:Ext own H h H' h') (k:∀ b,b∈own→b∈own'):Ext own' H h H' h' :=
  ⟨fun b o e q n=>x.keep b o e q fun m=>n (k b m),x.seq,x.off,x.there,x.dom,x.frz⟩
theorem Ext.any {own:List Addr} {H H':AHeap} {h h':Heap} (x:Ext [] H h H' h'):Ext own H h H' h':=x.weaken fun _ m=>nomatch m
theorem Ext.new {own:List Addr} {H H':AHeap} {h h':Heap} (x:Ext own H h H' h') (k:∀ b∈own,h.get? b=none):Ext [] H h H' h' :=
  ⟨fun b o e q _=>x.keep b o e q (fun m=>by rw [k b m] at e; cases e),x.seq,x.off,x.there,x.dom,x.frz⟩
theorem Ext.of_keep {H:AHeap} {h h':Heap} (k:∀ b o,h.get? b=some o→h'.get? b=some o):Ext [] H h H h' :=
  ⟨fun b o e _ _=>k b o e,fun b o e _ _=>k b o e,fun _ _ _ q=>q,fun b o e=>⟨o,k b o e⟩,fun _ o e=>⟨o,e⟩,fun _ _ _ q=>q⟩
theorem Inv.of_keep {G:Cx} {H:AHeap} {h h':Heap} (I:Inv G H h) (k:∀ b o,h.get? b=some o→h'.get? b=some o):Inv G H h' :=
  ⟨fun b o e=>⟨k b o (I.base b o e).1,(I.base b o e).2⟩,fun a o e=>(I.obj a o e).mono (Ext.of_keep k).mon (fun x=>k a x)⟩
theorem aDb {H:AHeap} {a:Addr} {o:AObj}:∀ b x,H b=some x→∃ x',H.set a o b=some x':=fun b x e=>by
  by_cases z:b=a
  · exact ⟨o,by rw [z]; exact AHeap.set_same⟩
  · exact ⟨x,by rw [AHeap.set_ne z]; exact e⟩
theorem aPw {G:Cx} {H:AHeap} {h h':Heap} {a:Addr} {o o':AObj} (I:Inv G H h) (e:H a=some o) (k:∀ b,b≠a→h'.get? b=h.get? b) (t:∃ x,h'.get? a=some x) (hz:Fixd o=false):Ext [] H h (H.set a o') h':=by
  have nz:∀ b x,Fixd x=true→H b=some x→b≠a:=fun b x f q z=>by rw [z,e] at q; cases q; rw [hz] at f; cases f
  have ne:∀ b,H b=none→b≠a:=fun b q z=>by rw [z,e] at q; cases q
  refine ⟨fun b x q n _=>(k b (ne b n)).trans q,fun b x q n _=>(k b (ne b n)).trans q,fun b x _ n=>by rw [AHeap.set_ne (ne b n)]; exact n,fun b x q=>?_,aDb,fun b x f q=>by rw [AHeap.set_ne (nz b x f q)]; exact q⟩
  by_cases z:b=a
  · rw [z]; exact t
  · exact ⟨x,(k b z).trans q⟩
theorem bGp {G:Cx} {H:AHeap} {h h':Heap} {a:Addr} {o o':AObj} (I:Inv G H h) (e:H a=some o) (k:∀ b,b≠a→h'.get? b=h.get? b) (t:OR G.w (H.set a o') h' a o') (hz:Fixd o=false):Inv G (H.set a o') h':=by
  have X:=aPw (o':=o') I e k t.some hz
  have ne:∀ b,H b=none→b≠a:=fun b q z=>by rw [z,e] at q; cases q
  refine ⟨fun b x q=>?_,fun b x q=>?_⟩
  · obtain ⟨q1,q2⟩:=I.base b x q
    exact ⟨(k b (ne b q2)).trans q1,X.off b x q1 q2⟩
  · by_cases z:b=a
    · subst z; rw [AHeap.set_same] at q; cases q; exact t
    · rw [AHeap.set_ne z] at q
      exact (I.obj b x q).mono X.mon fun y ey=>(k b z).trans ey
theorem aBj {G:Cx} {H:AHeap} {h h':Heap} {a:Addr} {o':AObj} (I:Inv G H h) (e:h.get? a=none) (k:∀ b o,h.get? b=some o→h'.get? b=some o):Ext [] H h (H.set a o') h':=by
  have ne:∀ b o,h.get? b=some o→b≠a:=fun b o q z=>by rw [z,e] at q; cases q
  exact ⟨fun b x q _ _=>k b x q,fun b x q _ _=>k b x q,fun b x q n=>by rw [AHeap.set_ne (ne b x q)]; exact n,fun b x q=>⟨x,k b x q⟩,aDb,fun b x f q=>by rw [AHeap.set_ne (fun z=>by rw [z,I.fresh e] at q; cases q)]; exact q⟩
theorem aBo {G:Cx} {H:AHeap} {h h':Heap} {a:Addr} {o':AObj} (I:Inv G H h) (e:h.get? a=none) (k:∀ b o,h.get? b=some o→h'.get? b=some o) (t:OR G.w (H.set a o') h' a o'):Inv G (H.set a o') h':=by
  have X:=aBj (o':=o') I e k
  refine ⟨fun b x q=>?_,fun b x q=>?_⟩
  · obtain ⟨q1,q2⟩:=I.base b x q
    exact ⟨k b x q1,X.off b x q1 q2⟩
  · by_cases z:b=a
    · subst z; rw [AHeap.set_same] at q; cases q; exact t
    · rw [AHeap.set_ne z] at q
      exact (I.obj b x q).mono X.mon fun y ey=>k b y ey
structure FrI (G:Cx) (env:Env) (L:Loc) (H:AHeap) (h:Heap):Prop where
  kind:env.scope.kind=.function
  glob:env.globals=mainGlobals
  bts:env.builtins=builtinsNs
  ns:∃ m,h.Ns env.locals m∧∀ x av,env.kindOf x=some .local→L x=some av→∃ v,m x=some v∧VR H h av v
  offL:H env.locals=none
  newL:G.hB.get? env.locals=none
  cell:∀ x c,env.cells.lookup x=some c→(∃ ov,h.IsCell c ov∧∀ av,L x=some av→∃ v,ov=some v∧VR H h av v)∧H c=none
  apart:∀ x y c,env.cells.lookup x=some c→env.cells.lookup y=some c→x=y
  cnew:∀ x c,env.cells.lookup x=some c→env.locals < c→G.hB.get? c=none
  lno:∀ x,env.kindOf x=some .local→env.cells.lookup x=none
noncomputable def ownOf (env:Env):List Addr:=env.locals :: (env.cells.filterMap fun p=>env.cells.lookup p.1).filter fun c=>decide (env.locals < c)
theorem aCk {env:Env} {b:Addr} (h:b∈ownOf env):b=env.locals∨∃ x,env.cells.lookup x=some b∧env.locals < b:=by
  rcases List.mem_cons.mp h with e | h
  · exact .inl e
  · obtain ⟨h1,h2⟩:=List.mem_filter.mp h
    obtain ⟨p,_,hp⟩:=List.mem_filterMap.mp h1
    exact .inr ⟨p.1,hp,of_decide_eq_true h2⟩
theorem aMn {env:Env} {x:Str} {c:Addr} (h:env.cells.lookup x=some c) (hl:env.locals < c):c∈ownOf env :=
  .tail _ (List.mem_filter.mpr ⟨List.mem_filterMap.mpr ⟨(x,c),mem_of_lookup h,h⟩,decide_eq_true hl⟩)
theorem FrI.step {G:Cx} {env:Env} {L:Loc} {H H':AHeap} {h h':Heap} (F:FrI G env L H h) (X:Ext [] H h H' h'):FrI G env L H' h' where
  kind:=F.kind
  glob:=F.glob
  bts:=F.bts
  ns:=by
    obtain ⟨m,⟨o,es,ep,e,r⟩,k⟩:=F.ns
    exact ⟨m,⟨o,es,ep,X.keep _ _ e F.offL (fun q=>nomatch q),r⟩,fun x av q1 q2=>let ⟨v,e1,e2⟩:=k x av q1 q2; ⟨v,e1,e2.mono X.mon⟩⟩
  offL:=by
    obtain ⟨m,⟨o,es,ep,e,r⟩,k⟩:=F.ns
    exact X.off _ _ e F.offL
  newL:=F.newL
  cell:=fun x c e=>by
    obtain ⟨⟨ov,⟨o,eo,d⟩,k⟩,off⟩:=F.cell x c e
    exact ⟨⟨ov,⟨o,X.keep _ _ eo off (fun q=>nomatch q),d⟩,fun av q=>let ⟨v,e1,e2⟩:=k av q; ⟨v,e1,e2.mono X.mon⟩⟩,X.off _ _ eo off⟩
  apart:=F.apart
  cnew:=F.cnew
  lno:=F.lno
structure AOk (A:Around) (n:Nat):Prop where
  hd:A.handled=none
  room:A.depth+n < recursionLimit
  units:A.units+8 * n+8 < cLine
noncomputable def Sm (s s':Shared):Prop:=s'={ s with heap:=s'.heap,toks:=s'.toks }
theorem Sm.refl (s:Shared):Sm s s:=rfl
theorem Sm.trans {s s' s'':Shared} (x:Sm s s') (y:Sm s' s''):Sm s s'':=by
  unfold Sm at *; rw [y,x]
theorem Sm.mk (s:Shared) (h:Heap) (t:Nat):Sm s { s with heap:=h,toks:=t }:=rfl
structure St (G:Cx) (own:List Addr) (H:AHeap) (s:Shared) (H':AHeap) (s':Shared):Prop where
  inv:Inv G H' s'.heap
  ext:Ext own H s.heap H' s'.heap
  same:Sm s s'
theorem St.refl {G:Cx} {own:List Addr} {H:AHeap} {s:Shared} (I:Inv G H s.heap):St G own H s H s:=⟨I,Ext.refl _ _ _,Sm.refl s⟩
theorem St.trans {G:Cx} {own:List Addr} {H H' H'':AHeap} {s s' s'':Shared} (x:St G own H s H' s') (y:St G own H' s' H'' s''):St G own H s H'' s'':=⟨y.inv,x.ext.trans y.ext,x.same.trans y.same⟩
theorem St.any {G:Cx} {own:List Addr} {H H':AHeap} {s s':Shared} (x:St G [] H s H' s'):St G own H s H' s':=⟨x.inv,x.ext.any,x.same⟩
theorem St.mon {G:Cx} {own:List Addr} {H H':AHeap} {s s':Shared} (x:St G own H s H' s'):Mon H s.heap H' s'.heap:=x.ext.mon
theorem St.keep {G:Cx} {own:List Addr} {H:AHeap} {s:Shared} {h':Heap} {t:Nat} (I:Inv G H s.heap) (k:∀ b o,s.heap.get? b=some o→h'.get? b=some o):St G own H s H { s with heap:=h',toks:=t } :=
  ⟨I.of_keep k,(Ext.of_keep k).any,Sm.mk ..⟩
theorem aBz {G:Cx} {own:List Addr} {H:AHeap} {s:Shared} {t:Nat} (I:Inv G H s.heap):St G own H s H { s with toks:=t }:=St.keep (h':=s.heap) I fun _ _ e=>e
inductive PV (G:Cx) (H:AHeap) (s:Shared) (Q:AV→AHeap→Prop) (v:Value) (s':Shared):Prop
  | mk (av:AV) (H':AHeap) (r:VR H' s'.heap av v) (t:St G [] H s H' s') (q:Q av H')
inductive PVs (G:Cx) (H:AHeap) (s:Shared) (Q:List AV→AHeap→Prop) (vs:List Value) (s':Shared):Prop
  | mk (l:List AV) (H':AHeap) (r:VRs H' s'.heap l vs) (t:St G [] H s H' s') (q:Q l H')
inductive PB (G:Cx) (H:AHeap) (s:Shared) (Q:Bool→AHeap→Prop) (b:Bool) (s':Shared):Prop
  | mk (H':AHeap) (t:St G [] H s H' s') (q:Q b H')
inductive PU (G:Cx) (H:AHeap) (s:Shared) (Q:AHeap→Prop) (uu:Unit) (s':Shared):Prop
  | mk (H':AHeap) (t:St G [] H s H' s') (q:Q H')
theorem PV.after {G:Cx} {H H':AHeap} {s s':Shared} {Q:AV→AHeap→Prop} {v:Value} {s'':Shared} (x:St G [] H s H' s') (y:PV G H' s' Q v s''):PV G H s Q v s'' :=
  y.rec fun av H'' r t q=>⟨av,H'',r,x.trans t,q⟩
theorem PB.after {G:Cx} {H H':AHeap} {s s':Shared} {Q:Bool→AHeap→Prop} {v:Bool} {s'':Shared} (x:St G [] H s H' s') (y:PB G H' s' Q v s''):PB G H s Q v s'' :=
  y.rec fun H'' t q=>⟨H'',x.trans t,q⟩
noncomputable abbrev MD (G:Cx):Model:=model PG G.w
theorem pvo {G:Cx} {H:AHeap} {s s0:Shared} {A:Around} {E:Value→Shared→Prop} {p:Sem Value} {Q:AV→AHeap→Prop} {R:Value→Shared→Prop} (x:wpAny (MD G) A p (PV G H s Q) E s0) (k:∀ v s' av H',VR H' s'.heap av v→St G [] H s H' s'→Q av H'→R v s'):wpAny (MD G) A p R E s0 :=
  wpAny_mono x (fun v s' h=>h.rec fun av H' r t q=>k v s' av H' r t q) fun _ _ e=>e
theorem pvso {G:Cx} {H:AHeap} {s s0:Shared} {A:Around} {E:Value→Shared→Prop} {p:Sem (List Value)} {Q:List AV→AHeap→Prop} {R:List Value→Shared→Prop} (x:wpAny (MD G) A p (PVs G H s Q) E s0) (k:∀ v s' l H',VRs H' s'.heap l v→St G [] H s H' s'→Q l H'→R v s'):wpAny (MD G) A p R E s0 :=
  wpAny_mono x (fun v s' h=>h.rec fun av H' r t q=>k v s' av H' r t q) fun _ _ e=>e
theorem pbo {G:Cx} {H:AHeap} {s s0:Shared} {A:Around} {E:Value→Shared→Prop} {p:Sem Bool} {Q:Bool→AHeap→Prop} {R:Bool→Shared→Prop} (x:wpAny (MD G) A p (PB G H s Q) E s0) (k:∀ v s' H',St G [] H s H' s'→Q v H'→R v s'):wpAny (MD G) A p R E s0 :=
  wpAny_mono x (fun v s' h=>h.rec fun H' t q=>k v s' H' t q) fun _ _ e=>e
theorem puo {G:Cx} {H:AHeap} {s s0:Shared} {A:Around} {E:Value→Shared→Prop} {p:Sem Unit} {Q:AHeap→Prop} {R:Unit→Shared→Prop} (x:wpAny (MD G) A p (PU G H s Q) E s0) (k:∀ v s' H',St G [] H s H' s'→Q H'→R v s'):wpAny (MD G) A p R E s0 :=
  wpAny_mono x (fun v s' h=>h.rec fun H' t q=>k v s' H' t q) fun _ _ e=>e
theorem PV.aft {G:Cx} {H H':AHeap} {s s' s0:Shared} {A:Around} {E:Value→Shared→Prop} {p:Sem Value} {Q:AV→AHeap→Prop} (t:St G [] H s H' s') (x:wpAny (MD G) A p (PV G H' s' Q) E s0):wpAny (MD G) A p (PV G H s Q) E s0:=wpAny_mono x (fun _ _ y=>PV.after t y) fun _ _ e=>e
theorem PB.aft {G:Cx} {H H':AHeap} {s s' s0:Shared} {A:Around} {E:Value→Shared→Prop} {p:Sem Bool} {Q:Bool→AHeap→Prop} (t:St G [] H s H' s') (x:wpAny (MD G) A p (PB G H' s' Q) E s0):wpAny (MD G) A p (PB G H s Q) E s0:=wpAny_mono x (fun _ _ y=>PB.after t y) fun _ _ e=>e
noncomputable def WE (G:Cx) (n:Nat) (env:Env) (e:Expr) (H:AHeap) (L:Loc) (Q:AV→AHeap→Prop):Prop :=
  ∀ A s E,AOk A n→Inv G H s.heap→FrI G env L H s.heap→wpAny (MD G) A (eval e env) (PV G H s Q) E s
noncomputable def WT (G:Cx) (n:Nat) (env:Env) (e:Expr) (H:AHeap) (L:Loc) (Q:Bool→AHeap→Prop):Prop :=
  ∀ A s E,AOk A n→Inv G H s.heap→FrI G env L H s.heap→wpAny (MD G) A (isTrue e env (eval e env)) (PB G H s Q) E s
noncomputable def WEs (G:Cx) (n:Nat) (env:Env) (es:List Expr) (H:AHeap) (L:Loc) (Q:List AV→AHeap→Prop):Prop :=
  ∀ A s E pos,AOk A n→Inv G H s.heap→FrI G env L H s.heap→wpAny (MD G) A (spliced (backTo pos (starEach es env))) (PVs G H s Q) E s
noncomputable def Bin (G:Cx) (n:Nat) (t:Value→Value→Sem Value) (a b:AV) (H:AHeap) (Q:AV→AHeap→Prop):Prop :=
  ∀ A s E u v,AOk A n→Inv G H s.heap→VR H s.heap a u→VR H s.heap b v→wpAny (MD G) A (t u v) (PV G H s Q) E s
noncomputable def Una (G:Cx) (n:Nat) (t:Value→Sem Value) (a:AV) (H:AHeap) (Q:AV→AHeap→Prop):Prop :=
  ∀ A s E u,AOk A n→Inv G H s.heap→VR H s.heap a u→wpAny (MD G) A (t u) (PV G H s Q) E s
noncomputable def Tru (G:Cx) (n:Nat) (a:AV) (H:AHeap) (Q:Bool→AHeap→Prop):Prop :=
  ∀ A s E u,AOk A n→Inv G H s.heap→VR H s.heap a u→wpAny (MD G) A (truthy u) (PB G H s Q) E s
noncomputable def CW (G:Cx) (n:Nat) (f:Value) (args:List AV) (H:AHeap) (Q:AV→AHeap→Prop):Prop :=
  ∀ A s E vs,AOk A n→Inv G H s.heap→VRs H s.heap args vs→wpAny (MD G) A (call f vs) (PV G H s Q) E s
section
variable {G:Cx} {n:Nat} {env:Env} {H:AHeap} {L:Loc} {Q:AV→AHeap→Prop}
theorem WE.mono {e:Expr} {Q':AV→AHeap→Prop} (x:WE G n env e H L Q) (k:∀ a H',Q a H'→Q' a H'):WE G n env e H L Q':=fun A s E a I F =>
  pvo (x A s E a I F) fun _ _ av H' r t q=>⟨av,H',r,t,k _ _ q⟩
theorem bDu {i:Int} {k:Nat} {pos:Pos} (h:Q (.int i) H):WE G n env (.Constant (.int i) k pos) H L Q:=fun _ s _ _ I _ =>
  wpAny_Constant_int ⟨_,H,.int i _,aBz I,h⟩
theorem bJs {x:Str} {k:Nat} {pos:Pos} (h:Q (.str x) H):WE G n env (.Constant (.str x) k pos) H L Q:=fun _ s _ _ I _ =>
  Constant_str ⟨_,H,.str x _,aBz I,h⟩
theorem bFe {k:Nat} {pos:Pos} (h:Q .none H):WE G n env (.Constant .none k pos) H L Q:=fun _ s _ _ I _ =>
  wpAny_pure ⟨_,H,.val _,St.refl I,h⟩
theorem bFi {b:Bool} {k:Nat} {pos:Pos} (h:Q (.bool b) H):WE G n env (.Constant (.bool b) k pos) H L Q:=fun _ s _ _ I _ =>
  wpAny_pure ⟨_,H,.val _,St.refl I,h⟩
theorem aZt {x:Str} {pos:Pos} {av:AV} (hl:env.kindOf x=some .local) (hv:L x=some av) (h:Q av H) (hd:(x == ("__debug__" : Str))=false):WE G n env (.Name x pos) H L Q:=fun _ s _ _ I F=>by
  obtain ⟨m,hn,k⟩:=F.ns
  obtain ⟨v,e1,e2⟩:=k x av hl hv
  exact wpAny_Name (wpAny_loadName_local F.kind hl hn e1 ⟨_,H,e2,St.refl I,h⟩) hd
theorem bFh {x:Str} {pos:Pos} {av:AV} {c:Addr} (hl:env.kindOf x=some .cell) (hc:env.cells.lookup x=some c) (hv:L x=some av) (h:Q av H) (hd:(x == ("__debug__" : Str))=false):WE G n env (.Name x pos) H L Q:=fun _ s _ _ I F=>by
  obtain ⟨⟨ov,ic,k⟩,_⟩:=F.cell x c hc
  obtain ⟨v,e1,e2⟩:=k av hv
  subst e1
  exact wpAny_Name (wpAny_loadName_cell F.kind hl hc ic ⟨_,H,e2,St.refl I,h⟩) hd
theorem aUy {x:Str} {pos:Pos} {v:Value} (hl:env.kindOf x=some .globalImplicit) (hv:nsIn (KF G.w) mainGlobals x=some (some v)) (h:Q (.val v) H) (hd:(x == ("__debug__" : Str))=false):WE G n env (.Name x pos) H L Q:=fun _ s _ _ I F=>by
  obtain ⟨mg,mb,h1,h2,h3⟩:=G.ns
  refine Name_function_global F.kind hl (loadGlobal_global (mg:=mg) ?_ (mg_of G.K h1 hv) ⟨_,H,.val _,St.refl I,h⟩) hd
  rw [F.glob]; exact h1.keeps I.keep
theorem aCg {x:Str} {pos:Pos} {v:Value} (hl:env.kindOf x=some .globalImplicit) (hm:nsIn (KF G.w) mainGlobals x=some none) (hv:bootBuiltins x=some v) (hx:x ≠ "__name__") (h:Q (.val v) H) (hd:(x == ("__debug__" : Str))=false):WE G n env (.Name x pos) H L Q:=fun _ s _ _ I F=>by
  obtain ⟨mg,mb,h1,h2,h3⟩:=G.ns
  refine Name_function_global F.kind hl (loadGlobal_builtin (mg:=mg) (mb:=mb) ?_ (mg_none_of G.K h1 hm) ?_ ((h3 x hx).trans hv) ⟨_,H,.val _,St.refl I,h⟩) hd
  · rw [F.glob]; exact h1.keeps I.keep
  · rw [F.bts]; exact h2.keeps I.keep
theorem bJv {l r:Expr} {op:Operator} {pos:Pos} (h:WE G n env l H L fun a H1=>WE G n env r H1 L fun b H2=>Bin G n (binaryOp op) a b H2 Q):WE G n env (.BinOp l op r pos) H L Q:=fun A s E a I F=>by
  refine wpAny_BinOp (pvo (h A s E a I F) fun u s1 av H1 r1 t1 q1=>?_)
  refine pvo (q1 A s1 E a t1.inv (F.step t1.ext)) fun v s2 bv H2 r2 t2 q2=>?_
  exact PV.aft (t1.trans t2) (q2 A s2 E u v a t2.inv (r1.mono t2.mon) r2)
theorem bJu {l r:Expr} {op:CmpOp} {pos:Pos} (h:WE G n env l H L fun a H1=>WE G n env r H1 L fun b H2=>Bin G n (compareOp op) a b H2 Q)
    (hm:behindInMarks op r=false):WE G n env (.Compare l [op] [r] pos) H L Q:=fun A s E a I F=>by
  refine wpAny_Compare1 (hm:=hm) (pvo (h A s E a I F) fun u s1 av H1 r1 t1 q1=>?_)
  refine pvo (q1 A s1 E a t1.inv (F.step t1.ext)) fun v s2 bv H2 r2 t2 q2=>?_
  exact PV.aft (t1.trans t2) (q2 A s2 E u v a t2.inv (r1.mono t2.mon) r2)
theorem bJk {l r:Expr} {op:CmpOp} {pos:Pos} {Q:Bool→AHeap→Prop} (h:WE G n env l H L fun a H1=>WE G n env r H1 L fun b H2=>Bin G n (compareOp op) a b H2 fun c H3=>Tru G n c H3 Q)
    (hm:behindInMarks op r=false):WT G n env (.Compare l [op] [r] pos) H L Q:=fun A s E a I F=>by
  refine wpAny_isTrue_Compare1 (hm:=hm) (pvo (h A s E a I F) fun u s1 av H1 r1 t1 q1=>?_)
  refine pvo (q1 A s1 E a t1.inv (F.step t1.ext)) fun v s2 bv H2 r2 t2 q2=>?_
  refine pvo (q2 A s2 E u v a t2.inv (r1.mono t2.mon) r2) fun x s3 cv H3 r3 t3 q3=>?_
  exact PB.aft ((t1.trans t2).trans t3) (q3 A s3 E x a t3.inv r3)
theorem bAd {b:Bool} {Q:Bool→AHeap→Prop} (h:Q b H):Tru G n (.bool b) H Q:=fun _ _ _ _ _ I r=>by
  cases r; exact wpAny_truthy_bool ⟨H,St.refl I,h⟩
end
end
section
variable {G:Cx} {n:Nat} {env:Env} {H:AHeap} {L:Loc} {Q:AV→AHeap→Prop}
theorem bJj {x:Expr} {pos:Pos} {Q:Bool→AHeap→Prop} (h:WT G n env x H L fun b H1=>Q (!b) H1):WT G n env (.UnaryOp .Not x pos) H L Q:=fun A s E a I F =>
  isTrue_not (pbo (h A s E a I F) fun b s1 H1 t q=>⟨H1,t,q⟩)
theorem bJm {x:Expr} {rest:List Expr} {pos:Pos} {Q:Bool→AHeap→Prop} (h:WT G n env x H L fun b H1=>(b=true→WT G n env (.BoolOp .And rest pos) H1 L Q)∧(b=false→Q false H1)):WT G n env (.BoolOp .And (x :: rest) pos) H L Q:=fun A s E a I F =>
  isTrue_and (pbo (h A s E a I F) (fun b s1 H1 t q=>by
    cases b with
    | true=>exact PB.aft t (q.1 rfl A s1 E a t.inv (F.step t.ext))
    | false=>exact ⟨H1,t,q.2 rfl⟩))
theorem bEx {pos:Pos} {Q:Bool→AHeap→Prop} (h:Q true H):WT G n env (.BoolOp .And [] pos) H L Q:=fun A s E a I F=>isTrue_and_nil ⟨H,St.refl I,h⟩
theorem wt_or {x:Expr} {rest:List Expr} {pos:Pos} {Q:Bool→AHeap→Prop} (h:WT G n env x H L fun b H1=>(b=false→WT G n env (.BoolOp .Or rest pos) H1 L Q)∧(b=true→Q true H1)):WT G n env (.BoolOp .Or (x :: rest) pos) H L Q:=fun A s E a I F =>
  isTrue_or (pbo (h A s E a I F) (fun b s1 H1 t q=>by
    cases b with
    | false=>exact PB.aft t (q.1 rfl A s1 E a t.inv (F.step t.ext))
    | true=>exact ⟨H1,t,q.2 rfl⟩))
theorem bJi {pos:Pos} {Q:Bool→AHeap→Prop} (h:Q false H):WT G n env (.BoolOp .Or [] pos) H L Q:=fun A s E a I F=>isTrue_or_nil ⟨H,St.refl I,h⟩
theorem bJh {e:Expr} {Q:Bool→AHeap→Prop} (h:WE G n env e H L fun a H1=>Tru G n a H1 Q)
    (he:∀ whole,isTrue e env whole=(do let v ← whole; standAt e.pos; holding [v] (truthy v))):WT G n env e H L Q:=fun A s E a I F =>
  isTrue_plain (pvo (h A s E a I F) fun v s1 av H1 r t q=>PB.aft t (q A s1 E v a t.inv r)) (he _)
theorem aZn {l r₁ r₂:Expr} {o₁ o₂:CmpOp} {pos:Pos} {Q:Bool→AHeap→Prop}
    (h:WE G n env l H L fun a H1=>WE G n env r₁ H1 L fun b H2=>Bin G n (compareOp o₁) a b H2 fun c H3=>Tru G n c H3 fun t H4 =>
      (t=true→WE G n env r₂ H4 L fun d H5=>Bin G n (compareOp o₂) b d H5 fun e H6=>Tru G n e H6 Q)∧(t=false→Q false H4))
    (hm:lastMarks [o₁,o₂] [r₁,r₂]=false):WT G n env (.Compare l [o₁,o₂] [r₁,r₂] pos) H L Q:=fun A s E a I F=>by
  refine isTrue_chain (hm:=hm) (pvo (h A s E a I F) fun u s1 av H1 rr1 t1 q1=>?_)
  refine test_link (pvo (q1 A s1 E a t1.inv (F.step t1.ext)) fun v s2 bv H2 rr2 t2 q2=>?_)
  refine pvo (q2 A s2 E u v a t2.inv (rr1.mono t2.mon) rr2) fun x s3 cv H3 rr3 t3 q3=>?_
  refine pbo (q3 A s3 E x a t3.inv rr3) fun b s4 H4 t4 q4=>?_
  cases b with
  | false=>exact ⟨H4,((t1.trans t2).trans t3).trans t4,q4.2 rfl⟩
  | true =>
    show wpAny (MD G) A (testChain pos v [o₂] [eval r₂ env]) _ E s4
    refine test_last (pvo (q4.1 rfl A s4 E a t4.inv (F.step (((t1.trans t2).trans t3).trans t4).ext)) fun v' s5 dv H5 rr5 t5 q5=>?_)
    refine pvo (q5 A s5 E v v' a t5.inv (((rr2.mono t3.mon).mono t4.mon).mono t5.mon) rr5) fun x' s6 ev H6 rr6 t6 q6=>?_
    exact PB.aft (((((t1.trans t2).trans t3).trans t4).trans t5).trans t6) (q6 A s6 E x' a t6.inv rr6)
theorem bAc {Q:Bool→AHeap→Prop} (h:Q false H):Tru G n .none H Q:=fun _ _ _ _ _ I r=>by
  cases r; exact truthy_none ⟨H,St.refl I,h⟩
theorem aZu {t b o:Expr} {pos:Pos} (h:WT G n env t H L fun c H1=>(c=true→WE G n env b H1 L Q)∧(c=false→WE G n env o H1 L Q)):WE G n env (.IfExp t b o pos) H L Q:=fun A s E a I F =>
  IfExp_ (pbo (h A s E a I F) (fun c s1 H1 t q=>by
    cases c with
    | true=>exact PV.aft t (q.1 rfl A s1 E a t.inv (F.step t.ext))
    | false=>exact PV.aft t (q.2 rfl A s1 E a t.inv (F.step t.ext))))
theorem bJq {op:UnaryOp} {x:Expr} {pos:Pos} (h:WE G n env x H L fun a H1=>Una G n (unaryOp op) a H1 Q):WE G n env (.UnaryOp op x pos) H L Q:=fun A s E a I F =>
  UnaryOp_ (pvo (h A s E a I F) fun u s1 av H1 r1 t1 q1=>PV.aft t1 (q1 A s1 E u a t1.inv r1))
theorem bFd {Q:List AV→AHeap→Prop} (h:Q [] H):WEs G n env [] H L Q:=fun A s E pos a I F=>wpAny_pure ⟨[],H,.nil,St.refl I,h⟩
theorem aZr {e:Expr} {es:List Expr} {Q:List AV→AHeap→Prop} (h:WE G n env e H L fun a H1=>WEs G n env es H1 L fun l H2=>Q (a :: l) H2)
    (he:starEach (e :: es) env=(false,eval e env) :: starEach es env):WEs G n env (e :: es) H L Q:=fun A s E pos a I F=>by
  rw [he]
  refine wpAny_bind (pvo (h A s E a I F) fun v s1 av H1 r1 t1 q1=>?_)
  refine wpAny_bind (wpAny_pure (wpAny_bind (wpAny_holding (pvso (q1 A s1 E pos a t1.inv (F.step t1.ext)) fun vs s2 l H2 r2 t2 q2=>?_))))
  exact wpAny_pure ⟨av :: l,H2,.cons (r1.mono t2.mon) r2,t1.trans t2,q2⟩
theorem aAb (h:Heap) (o:Obj):∀ b x,h.get? b=some x→(h.push o).get? b=some x:=fun _ _ e=>Heap.get?_push_of_some o e
theorem aTh {l:List AV} {vs:List Value} {s:Shared} {A:Around} {E:Value→Shared→Prop} (I:Inv G H s.heap) (r:VRs H s.heap l vs) (hz:vs.length≤sizeLine) (h:Q (.tup l) H) :
    wpAny (MD G) A (newTuple vs) (PV G H s Q) E s:=by
  have k:=aAb s.heap (tupO vs 0)
  refine wpAny_newTuple (hsz:=hz) ⟨.tup l,H,.tup (Heap.get?_push_size _ rfl) I.fresh' (r.mono (Ext.of_keep k).mon),St.keep (t:=s.toks) I k,h⟩
theorem aWj {l:List AV} {vs:List Value} {s:Shared} {A:Around} {E:Value→Shared→Prop} (I:Inv G H s.heap) (r:VRs H s.heap l vs) (hz:vs.length≤sizeLine) (h:∀ a,H a=none→Q (.ref a) (H.set a (.list l))) :
    wpAny (MD G) A (newList vs) (PV G H s Q) E s:=by
  have k:=aAb s.heap (lstO vs 0)
  have X:=aBj (o':=.list l) I aAa k
  refine wpAny_newList (hsz:=hz) ⟨.ref s.heap.objs.size,H.set s.heap.objs.size (.list l),.val _,⟨aBo I aAa k ⟨vs,0,Heap.get?_push_size _ rfl,r.mono X.mon⟩,X,rfl⟩,h _ I.fresh'⟩
theorem aPx (elts k pos):eval (.Tuple elts k pos) env=(do standAt pos; newTuple (← spliced (backTo pos (starEach elts env)))):=rfl
theorem aUd (elts pos):eval (.List elts pos) env=(do standAt pos; newList (← spliced (backTo pos (starEach elts env)))):=rfl
theorem aZs {es:List Expr} {k:Nat} {pos:Pos} (h:WEs G n env es H L fun l H1=>l.length≤1000∧Q (.tup l) H1):WE G n env (.Tuple es k pos) H L Q:=fun A s E a I F=>by
  rw [aPx]
  refine wpAny_bind (wpAny_standAt (wpAny_bind (pvso (h A s E pos a I F) fun vs s1 l H1 r t qq=>?_)))
  obtain ⟨z,q⟩:=qq
  exact PV.aft t (aTh t.inv r (by rw [← r.length,sizeLine_eq]; exact om5 z) q)
theorem bFf {es:List Expr} {pos:Pos} (h:WEs G n env es H L fun l H1=>l.length≤1000∧∀ a,H1 a=none→Q (.ref a) (H1.set a (.list l))):WE G n env (.List es pos) H L Q:=fun A s E a I F=>by
  rw [aUd]
  refine wpAny_bind (wpAny_standAt (wpAny_bind (pvso (h A s E pos a I F) fun vs s1 l H1 r t qq=>?_)))
  obtain ⟨z,q⟩:=qq
  exact PV.aft t (aWj t.inv r (by rw [← r.length,sizeLine_eq]; exact om5 z) q)
theorem aDg {f:Value} {es:List Expr} {pos:Pos} {A:Around} {s:Shared} {E:Value→Shared→Prop} {Q:Args→Shared→Prop}
    (h:wpAny (MD G) A (spliced (backTo pos (starEach es env))) (fun vs s'=>Q ⟨vs,[]⟩ s') E s) (hp:(backTo pos (starEach es env)).any (·.1)=false):wpAny (MD G) A (evalArgs f true (backTo pos (starEach es env)) []) Q E s:=by
  revert h hp
  generalize backTo pos (starEach es env)=ts
  intro h hp
  match ts with
  | [] =>
    unfold evalArgs
    show wpAny (MD G) A (spliced [] >>= _) Q E s
    refine wpAny_bind (wpAny_mono h (fun vs s' h'=>?_) fun _ _ x=>x)
    refine wpAny_bind (wpAny_pure ?_)
    refine wpAny_holding ?_
    exact wpAny_bind (wpAny_pure (wpAny_bind (wpAny_pure (wpAny_pure h'))))
  | (true,x) :: r=>simp at hp
  | (false,x) :: r=>exact evalArgs_plain h
noncomputable def aDw (G:Cx) (f:Value):Prop:=∀ h,(KF G.w).In h→∃ k,(k=Keeper.frame∨k=Keeper.machine∨k=Keeper.boundFrame)∧Looks (MD G) h (keeperOf f) k
theorem aSa {f:Value} (h:keepIn (KF G.w) f=true):aDw G f:=fun _ X=>keeps_K h _ X
theorem aAm {i:String}:aDw G (.builtin i):=fun _ _=>⟨.machine,.inr (.inl rfl),.now⟩
theorem aDy {i:String}:aDw G (.type i):=fun _ _=>⟨.machine,.inr (.inl rfl),.now⟩
theorem aDn {f:Value} {first:List Value} {es:List Expr} {pos:Pos} {A:Around} {s:Shared} {E:Value→Shared→Prop} {Q:Value→Shared→Prop} (c:aDw G f) (hp:(backTo pos (starEach es env)).any (·.1)=false)
    (h:wpAny (MD G) A (spliced (backTo pos (starEach es env))) (fun vs s'=>(KF G.w).In s'.heap∧wpAny (MD G) A (call f (first ++ vs)) Q E s') E s) :
    wpAny (MD G) A (callWith pos f first (backTo pos (starEach es env)) []) Q E s :=
  callWith_of (P:=(KF G.w).In) (by rw [hp]; rfl) c (aDg h hp)
theorem aOi {x:Str} {xp pos:Pos} {es:List Expr} (h:WE G n env (.Name x xp) H L fun f H1=>∃ fv,f=.val fv∧aDw G fv∧WEs G n env es H1 L fun l H2=>CW G n fv l H2 Q)
    (hp:∀ pos,(backTo pos (starEach es env)).any (·.1)=false):WE G n env (.Call (.Name x xp) es [] pos) H L Q:=fun A s E a I F=>by
  show wpAny (MD G) A (do callWith pos (← eval (.Name x xp) env) [] (backTo pos (starEach es env)) []) _ E s
  refine wpAny_bind (pvo (h A s E a I F) fun fv s1 av H1 r t qq=>?_)
  obtain ⟨fv',e1,c,q⟩:=qq
  subst e1
  cases r
  refine aDn c (hp pos) (pvso (q A s1 E pos a t.inv (F.step t.ext)) fun vs s2 l H2 r2 t2 q2=>⟨t2.inv.frag,?_⟩)
  exact PV.aft (t.trans t2) (q2 A s2 E vs a t2.inv r2)
noncomputable def Meth (G:Cx) (H:AHeap) (ov:AV) (name:Str) (f:Value):Prop :=
  ∀ A s E u pl (Q:Value × List Value→Shared→Prop),Inv G H s.heap→VR H s.heap ov u→Q (f,[u]) s→wpAny (MD G) A (getMethod u name pl) Q E s
theorem aUx {o:Expr} {name:Str} {apos pos:Pos} {es:List Expr} (h:WE G n env o H L fun ov H1=>∃ f,Meth G H1 ov name f∧aDw G f∧WEs G n env es H1 L fun l H2=>CW G n f (ov :: l) H2 Q)
    (hb:attributeBase o name env (eval o env)=eval o env)
    (hf:methodCallForm (es.length+0) (backTo pos (starEach es env)) (backToKw pos (keywordEach [] env))=true)
    (hl:(apos.endLine == pos.line)=true)
    (hp:(backTo pos (starEach es env)).any (·.1)=false):WE G n env (.Call (.Attribute o name apos) es [] pos) H L Q:=fun A s E a I F=>by
  rw [arm_eval_Call,hb]
  refine wpAny_bind (pvo (h A s E a I F) fun ov s1 av H1 r t qq=>?_)
  obtain ⟨f,m,c,q⟩:=qq
  refine wpAny_bind (wpAny_standAt ?_)
  unfold methodCall
  have hf':methodCallForm (es.length+([]:List Keyword).length) (backTo pos (starEach es env)) (backToKw pos (keywordEach [] env))=true:=hf
  rw [hf']
  refine wpAny_bind (wpAny_holding (m A s1 E ov _ _ t.inv r ?_))
  have hpos:methodCallPos true o env apos pos=pure pos:=by unfold methodCallPos; simp [hl]
  refine wpAny_bind (wpAny_of_eq hpos ?_)
  refine aDn c hp (pvso (q A s1 E pos a t.inv (F.step t.ext)) fun vs s2 l H2 r2 t2 q2=>⟨t2.inv.frag,?_⟩)
  exact PV.aft (t.trans t2) (q2 A s2 E (ov :: vs) a t2.inv (.cons (r.mono t2.mon) r2))
theorem aNg {x y:Str} {kk:Int} {t:Tok} {v:Value} {es:List DictEntry} (hy:¬ x=y):getL x (⟨kk,.str y t,v⟩ :: es)=getL x es:=by
  have h1:(Value.str y t).isStr x=false:=by simp [Value.isStr]; exact fun q=>hy q.symm
  have h2:(⟨kk,.str y t,v⟩:DictEntry).refKey=false:=rfl
  unfold getL
  simp only [List.find?_cons,h1,List.any_cons,h2,Bool.false_or]
theorem NRs.get {H:AHeap} {h:Heap} {x:Str} {l:List (Str × AV)} {es:List DictEntry} (rr:NRs H h l es):∀ {a:AV},l.lookup x=some a→∃ v,getL x es=some (some v)∧VR H h a v:=by
  induction rr with
  | nil=>intro a e; cases e
  | @cons y a0 kk t v l es r rs ih =>
    intro a e
    by_cases hy:x=y
    · subst hy
      simp at e; subst e
      exact ⟨v,by simp [getL,Value.isStr],r⟩
    · have hb:(x == y)=false:=by simpa using hy
      simp only [List.lookup_cons,hb] at e
      rw [aNg hy]
      exact ih e
theorem NRs.miss {H:AHeap} {h:Heap} {x:Str} {l:List (Str × AV)} {es:List DictEntry} (rr:NRs H h l es):l.lookup x=none→getL x es=some none:=by
  induction rr with
  | nil=>exact fun _=>rfl
  | @cons y a0 kk t v l es r rs ih =>
    intro e
    by_cases hy:x=y
    · subst hy; simp at e
    · have hb:(x == y)=false:=by simpa using hy
      simp only [List.lookup_cons,hb] at e
      rw [aNg hy]
      exact ih e
theorem aXb {a C dx:Addr} {at':List (Str × AV)} {h:Heap} (I:Inv G H h) (e1:H a=some (.inst C dx)) (e2:H dx=some (.attrs at')):∃ es k,InstAt h a (instObj C dx) C (some (dictOf es k))∧NRs H h at' es:=by
  obtain ⟨es,k,e,r⟩:=I.obj dx _ e2
  exact ⟨es,k,⟨I.obj a _ e1,rfl,rfl,e⟩,r⟩
theorem aWg {a C dx f:Addr} {at':List (Str × AV)} {name:Str} (e1:H a=some (.inst C dx)) (e2:H dx=some (.attrs at')) (hm:at'.lookup name=none)
    (hg:plainGet (KF G.w) C name=true) (hf:findIn (KF G.w) (.ref C) name=some (some (.ref f))) (ht:isFn (KF G.w) (.ref f)=true):Meth G H (.ref a) name (.ref f):=fun A s E u pl Q I r h=>by
  cases r
  obtain ⟨es,k,J,rs⟩:=aXb I e1 e2
  exact method_fn I.frag J (plainGet_of hg).1 (plainGet_of hg).2 hf (beq_iff_eq.mp ht) (by show (lookIn name (dictOf es k)).map _=_; rw [lookIn_dict,rs.miss hm]; rfl) h
noncomputable def aLc:AV→Bool
  | .val v=>handedIn v
  | _=>true
theorem VR.handed {h:Heap} {a:AV} {v:Value} (r:VR H h a v):aLc a=true→handedIn v=true :=
  VR.rec (motive_1:=fun a v _=>aLc a=true→handedIn v=true) (motive_2:=fun _ _ _=>True) (fun _ e=>e) (fun _ _ _=>rfl) (fun _ _ _=>rfl) (fun _ _ _ _ _=>rfl) (fun _ _ _=>rfl) (fun _ _=>rfl) trivial (fun _ _ _ _=>trivial) r
theorem aUe (value attr pos):eval (.Attribute value attr pos) env=(do
    let o ← attributeBase value attr env (eval value env)
    standAt pos.atName
    let r ← holding [o] (getAttr o attr true)
    letTemporaryGo value o r
    pure r):=rfl
inductive AtL (G:Cx) (name:Str) (ov:AV) (H:AHeap) (Q:AV→AHeap→Prop):Prop
  | mk (a C dx:Addr) (at':List (Str × AV)) (av:AV) (attr:Option Value) (e1:ov=.ref a) (e2:H a=some (.inst C dx)) (e3:H dx=some (.attrs at')) (e4:at'.lookup name=some av) (e5:aLc av=true)
      (e6:plainGet (KF G.w) C name=true) (e7:hasDictIn (KF G.w) C=true) (e8:findIn (KF G.w) (.ref C) name=some attr) (e9:noGet (KF G.w) attr=true) (q:Q av H)
theorem bFj {o:Expr} {name:Str} {pos:Pos} (h:WE G n env o H L fun ov H1=>AtL G name ov H1 Q)
    (hb:attributeBase o name env (eval o env)=eval o env):WE G n env (.Attribute o name pos) H L Q:=fun A s E a I F=>by
  rw [aUe,hb]
  refine wpAny_bind (pvo (h A s E a I F) fun ov s1 av H1 r t z=>?_)
  obtain ⟨x,C,dx,at',bv,attr,e1,e2,e3,e4,e5,e6,e7,e8,e9,q⟩:=z
  subst e1
  cases r
  obtain ⟨es,k,J,rs⟩:=aXb t.inv e2 e3
  obtain ⟨v,ev,rv⟩:=rs.get e4
  refine wpAny_bind (wpAny_standAt (wpAny_bind (wpAny_holding (get_value t.inv.frag J (plainGet_of e6).1 (findObj_own e7 e8 e9 (by rw [lookIn_dict]; exact ev)) (rv.handed e5) ?_))))
  exact wpAny_bind (wpAny_letTemporaryGo (wpAny_pure ⟨bv,H1,rv,t.trans (aBz t.inv),q⟩))
end
section
inductive AFl where
  | next | brk | cont
  | ret (v:AV)
inductive FlR (H:AHeap) (h:Heap):AFl→Flow→Prop
  | next:FlR H h .next .next
  | brk:FlR H h .brk .brk
  | cont:FlR H h .cont .cont
  | ret {a:AV} {v:Value}:VR H h a v→FlR H h (.ret a) (.ret v)
inductive PS (G:Cx) (env:Env) (H:AHeap) (s:Shared) (Q:AFl→AHeap→Loc→Prop) (f:Flow) (s':Shared):Prop
  | mk (af:AFl) (H':AHeap) (L':Loc) (r:FlR H' s'.heap af f) (t:St G (ownOf env) H s H' s') (F:FrI G env L' H' s'.heap) (q:Q af H' L')
theorem PS.after {G:Cx} {env:Env} {H H':AHeap} {s s':Shared} {Q:AFl→AHeap→Loc→Prop} {f:Flow} {s'':Shared} (x:St G (ownOf env) H s H' s') (y:PS G env H' s' Q f s''):PS G env H s Q f s'' :=
  y.rec fun af H'' L' r t F q=>⟨af,H'',L',r,x.trans t,F,q⟩
noncomputable def WS (G:Cx) (n:Nat) (env:Env) (st:Stmt) (H:AHeap) (L:Loc) (Q:AFl→AHeap→Loc→Prop):Prop :=
  ∀ A s E,AOk A n→Inv G H s.heap→FrI G env L H s.heap→wpAny (MD G) A (exec st env) (PS G env H s Q) E s
noncomputable def WSs (G:Cx) (n:Nat) (env:Env) (sts:List Stmt) (H:AHeap) (L:Loc) (Q:AFl→AHeap→Loc→Prop):Prop :=
  ∀ A s E,AOk A n→Inv G H s.heap→FrI G env L H s.heap→wpAny (MD G) A (execs sts env) (PS G env H s Q) E s
inductive PA (G:Cx) (env:Env) (H:AHeap) (s:Shared) (Q:AHeap→Loc→Prop) (s':Shared):Prop
  | mk (H':AHeap) (L':Loc) (t:St G (ownOf env) H s H' s') (F:FrI G env L' H' s'.heap) (q:Q H' L')
theorem PA.after {G:Cx} {env:Env} {H H':AHeap} {s s':Shared} {Q:AHeap→Loc→Prop} {s'':Shared} (x:St G (ownOf env) H s H' s') (y:PA G env H' s' Q s''):PA G env H s Q s'' :=
  y.rec fun H'' L' t F q=>⟨H'',L',x.trans t,F,q⟩
theorem pso {G:Cx} {env:Env} {H:AHeap} {s s0:Shared} {A:Around} {E:Value→Shared→Prop} {p:Sem Flow} {Q:AFl→AHeap→Loc→Prop} {R:Flow→Shared→Prop} (x:wpAny (MD G) A p (PS G env H s Q) E s0) (k:∀ v s' af H' L',FlR H' s'.heap af v→St G (ownOf env) H s H' s'→FrI G env L' H' s'.heap→Q af H' L'→R v s'):wpAny (MD G) A p R E s0 :=
  wpAny_mono x (fun v s' h=>h.rec fun af H' L' r t F q=>k v s' af H' L' r t F q) fun _ _ e=>e
theorem pao {G:Cx} {env:Env} {H:AHeap} {s s0:Shared} {A:Around} {E:Value→Shared→Prop} {p:Sem Unit} {Q:AHeap→Loc→Prop} {R:Unit→Shared→Prop} (x:wpAny (MD G) A p (fun _ s'=>PA G env H s Q s') E s0) (k:∀ v s' H' L',St G (ownOf env) H s H' s'→FrI G env L' H' s'.heap→Q H' L'→R v s'):wpAny (MD G) A p R E s0 :=
  wpAny_mono x (fun v s' h=>h.rec fun H' L' t F q=>k v s' H' L' t F q) fun _ _ e=>e
theorem PS.aft {G:Cx} {env:Env} {H H':AHeap} {s s' s0:Shared} {A:Around} {E:Value→Shared→Prop} {p:Sem Flow} {Q:AFl→AHeap→Loc→Prop} (t:St G (ownOf env) H s H' s') (x:wpAny (MD G) A p (PS G env H' s' Q) E s0):wpAny (MD G) A p (PS G env H s Q) E s0:=wpAny_mono x (fun _ _ y=>PS.after t y) fun _ _ e=>e
theorem PA.aft {G:Cx} {env:Env} {H H':AHeap} {s s' s0:Shared} {A:Around} {E:Value→Shared→Prop} {p:Sem Unit} {Q:AHeap→Loc→Prop} (t:St G (ownOf env) H s H' s') (x:wpAny (MD G) A p (fun _ s2=>PA G env H' s' Q s2) E s0):wpAny (MD G) A p (fun _ s2=>PA G env H s Q s2) E s0:=wpAny_mono x (fun _ _ y=>PA.after t y) fun _ _ e=>e
noncomputable def AW (G:Cx) (n:Nat) (env:Env) (t:Expr) (v:AV) (H:AHeap) (L:Loc) (Q:AHeap→Loc→Prop):Prop :=
  ∀ A s E u,AOk A n→Inv G H s.heap→FrI G env L H s.heap→VR H s.heap v u→wpAny (MD G) A (assign t env u) (fun _ s'=>PA G env H s Q s') E s
section
variable {G:Cx} {n:Nat} {env:Env} {H:AHeap} {L:Loc} {Q:AFl→AHeap→Loc→Prop}
theorem WSs.mono {sts:List Stmt} {Q':AFl→AHeap→Loc→Prop} (x:WSs G n env sts H L Q) (k:∀ a H' L',Q a H' L'→Q' a H' L'):WSs G n env sts H L Q':=fun A s E a I F =>
  pso (x A s E a I F) fun _ _ af H' L' r t f q=>⟨af,H',L',r,t,f,k _ _ _ q⟩
theorem bEy (h:Q .next H L):WSs G n env [] H L Q:=fun A s E a I F=>wpAny_execs_nil ⟨.next,H,L,.next,St.refl I,F,h⟩
theorem aZo {st:Stmt} {rest:List Stmt} (h:WS G n env st H L fun f H1 L1=>match f with | .next=>WSs G n env rest H1 L1 Q | f=>Q f H1 L1):WSs G n env (st :: rest) H L Q:=fun A s E a I F=>by
  refine wpAny_execs_cons (pso (h A s E a I F) fun f s1 af H1 L1 r t F1 q=>?_)
  cases r with
  | next=>exact PS.aft t (q A s1 E a t.inv F1)
  | brk=>exact ⟨_,H1,L1,.brk,t,F1,q⟩
  | cont=>exact ⟨_,H1,L1,.cont,t,F1,q⟩
  | ret r=>exact ⟨_,H1,L1,.ret r,t,F1,q⟩
theorem WS.mono {st:Stmt} {Q':AFl→AHeap→Loc→Prop} (x:WS G n env st H L Q) (k:∀ a H' L',Q a H' L'→Q' a H' L'):WS G n env st H L Q':=fun A s E a I F =>
  pso (x A s E a I F) fun _ _ af H' L' r t f q=>⟨af,H',L',r,t,f,k _ _ _ q⟩
theorem aUv {e:Expr} {pos:Pos} (h:WE G n env e H L fun a H1=>Q (.ret a) H1 L):WS G n env (.Return (some e) pos) H L Q:=fun A s E a I F =>
  wpAny_Return_some (pvo (h A s E a I F) fun v s1 av H1 r t q=>⟨_,H1,L,.ret r,t.any,F.step t.ext,q⟩)
theorem aSi {pos:Pos} (h:Q (.ret .none) H L):WS G n env (.Return none pos) H L Q:=fun A s E a I F =>
  wpAny_Return_none ⟨_,H,L,.ret (.val _),St.refl I,F,h⟩
theorem ws_if {t:Expr} {body orelse:List Stmt} {pos:Pos} (h:WT G n env t H L fun c H1=>(c=true→WSs G n env body H1 L Q)∧(c=false→WSs G n env orelse H1 L Q)):WS G n env (.If t body orelse pos) H L Q:=fun A s E a I F =>
  wpAny_If (pbo (h A s E a I F) (fun c s1 H1 t q=>by
    cases c with
    | true=>exact PS.aft t.any (q.1 rfl A s1 E a t.inv (F.step t.ext))
    | false=>exact PS.aft t.any (q.2 rfl A s1 E a t.inv (F.step t.ext))))
theorem aXu {f:Expr} {es:List Expr} {ks:List Keyword} {q pos:Pos} (v:Value):dropValue (.Call f es ks q) pos v=pure .next∨dropValue (.Call f es ks q) pos v=(do standAt pos; let _ ← runValue (.builtin "proto.let_go" {}); pure .next):=by
  cases v <;> first | exact .inl rfl | exact .inr rfl
theorem bFa {f:Expr} {es:List Expr} {ks:List Keyword} {q pos:Pos} (h:WE G n env (.Call f es ks q) H L fun _ H1=>Q .next H1 L) (hi:interactive env=false) (hs:swapsWith (.Call f es ks q) none pos.line env=pure false):WS G n env (.Expr (.Call f es ks q) pos) H L Q:=fun A s E a I F=>by
  rw [exec_Expr env _ pos hi hs]
  refine wpAny_bind (wpAny_standAt (wpAny_bind (pvo (h A s E a I F) fun v s1 av H1 r t q=>?_)))
  have fin:PS G env H s Q .next s1:=⟨.next,H1,L,.next,t.any,F.step t.ext,q⟩
  rcases aXu v with e | e <;> rw [e]
  · exact wpAny_pure fin
  · exact wpAny_bind (wpAny_standAt (wpAny_bind (wpAny_runValue (codeAny_builtin entry_let_go (show wpAny _ _ (ret .none) _ _ s1 from wpAny_pure (wpAny_pure fin))))))
theorem aKm {own:List Addr} {a:Addr} {h h':Heap} (I:Inv G H h) (hm:a∈own) (h1:H a=none) (h2:G.hB.get? a=none) (h3:∃ o,h.get? a=some o∧¬ aAz o) (hs:Heap.SameBut a h h') (h4:∃ o,h'.get? a=some o) :
    Inv G H h'∧Ext own H h H h':=by
  have X:Ext own H h H h':=⟨fun b o e q k=>(hs.2 b (fun z=>k (z ▸ hm))).trans e,fun b o e q d=>(hs.2 b (fun z=>by subst z; obtain ⟨o',e',n'⟩:=h3; rw [e] at e'; cases e'; exact n' d)).trans e,fun _ _ _ q=>q,
    fun b o e=>by by_cases z:b=a; exact z ▸ h4; exact ⟨o,(hs.2 b z).trans e⟩,fun _ o e=>⟨o,e⟩,fun _ _ _ q=>q⟩
  refine ⟨⟨fun b o e=>?_,fun b o e=>?_⟩,X⟩
  · obtain ⟨q1,q2⟩:=I.base b o e
    exact ⟨(hs.2 b (fun z=>by subst z; rw [h2] at e; cases e)).trans q1,q2⟩
  · refine (I.obj b o e).mono X.mon fun x ex=>(hs.2 b (fun z=>by subst z; rw [h1] at e; cases e)).trans ex
theorem aKp {o:Obj} {es ep} (d:o.data=.dict es ep):¬ aAz o:=by
  rintro (⟨_,_,_,e⟩ | ⟨_,_,e⟩) <;> rw [d] at e <;> cases e
theorem aWe {o:Obj} {v} (d:o.data=.cell v):¬ aAz o:=by
  rintro (⟨_,_,_,e⟩ | ⟨_,_,e⟩) <;> rw [d] at e <;> cases e
noncomputable def AN (G:Cx) (n:Nat) (env:Env) (x:Str) (v:AV) (H:AHeap) (L:Loc) (Q:AHeap→Loc→Prop):Prop :=
  ∀ A s E u,AOk A n→Inv G H s.heap→FrI G env L H s.heap→VR H s.heap v u→wpAny (MD G) A (storeName env x u) (fun _ s'=>PA G env H s Q s') E s
theorem aSg {x:Str} {v:AV} {Q:AHeap→Loc→Prop} (hl:env.kindOf x=some .local) (h:Q H (L.set x v)):AN G n env x v H L Q:=fun A s E u a I F r=>by
  obtain ⟨m,hn,k⟩:=F.ns
  refine wpAny_storeName_local hl hn (fun h' hn' hs'=>?_) (by rw [F.kind]; rfl)
  obtain ⟨o,es,ep,e,d,_⟩:=id hn
  obtain ⟨o',es',ep',e',_⟩:=id hn'
  obtain ⟨I',X⟩:=aKm (own:=ownOf env) I (.head _) F.offL F.newL ⟨o,e,aKp d⟩ hs' ⟨o',e'⟩
  refine ⟨H,L.set x v,⟨I',X,rfl⟩,?_,h⟩
  refine ⟨F.kind,F.glob,F.bts,⟨_,hn',fun y av q1 q2=>?_⟩,F.offL,F.newL,fun y c e1=>?_,F.apart,F.cnew,F.lno⟩
  · by_cases hy:y=x
    · subst hy; rw [Loc.set_same] at q2; cases q2; exact ⟨u,by simp,r.mono X.mon⟩
    · rw [Loc.set_ne hy] at q2
      obtain ⟨v',e1,e2⟩:=k y av q1 q2
      exact ⟨v',by simp [hy,e1],e2.mono X.mon⟩
  · obtain ⟨⟨ov,⟨oc,ec,dc⟩,kc⟩,off⟩:=F.cell y c e1
    have hne:c≠env.locals:=fun z=>by rw [z,e] at ec; cases ec; rw [d] at dc; cases dc
    have hyx:y≠x:=fun z=>by rw [z,F.lno x hl] at e1; cases e1
    exact ⟨⟨ov,⟨oc,(hs'.2 c hne).trans ec,dc⟩,fun av q=>by
      rw [Loc.set_ne hyx] at q
      obtain ⟨v',e2,e3⟩:=kc av q
      exact ⟨v',e2,e3.mono X.mon⟩⟩,off⟩
theorem bIi {x:Str} {v:AV} {c:Addr} {Q:AHeap→Loc→Prop} (hl:env.kindOf x=some .cell) (hc:env.cells.lookup x=some c) (hlt:env.locals < c) (h:Q H (L.set x v)):AN G n env x v H L Q:=fun A s E u a I F r=>by
  obtain ⟨⟨ov,ic,kc⟩,off⟩:=F.cell x c hc
  refine wpAny_storeName_cell F.kind hl hc ic fun h' ic' hs'=>?_
  obtain ⟨o,e,d⟩:=id ic
  obtain ⟨o',e',_⟩:=id ic'
  obtain ⟨I',X⟩:=aKm (own:=ownOf env) I (aMn hc hlt) off (F.cnew x c hc hlt) ⟨o,e,aWe d⟩ hs' ⟨o',e'⟩
  refine ⟨H,L.set x v,⟨I',X,rfl⟩,?_,h⟩
  obtain ⟨m,hn,k⟩:=F.ns
  obtain ⟨o2,es,ep,e2,d2,r2⟩:=id hn
  have hne:env.locals≠c:=fun z=>by rw [z,e] at e2; cases e2; rw [d] at d2; cases d2
  refine ⟨F.kind,F.glob,F.bts,⟨m,hn.sameBut hs' hne,fun y av q1 q2=>?_⟩,F.offL,F.newL,fun y c' e1=>?_,F.apart,F.cnew,F.lno⟩
  · have hyx:y≠x:=fun z=>by rw [z,hl] at q1; cases q1
    rw [Loc.set_ne hyx] at q2
    obtain ⟨v',e1,e2⟩:=k y av q1 q2
    exact ⟨v',e1,e2.mono X.mon⟩
  · by_cases hy:y=x
    · subst hy
      rw [hc] at e1; cases e1
      refine ⟨⟨some u,ic',fun av q=>?_⟩,off⟩
      rw [Loc.set_same] at q; cases q
      exact ⟨u,rfl,r.mono X.mon⟩
    · obtain ⟨⟨ov',ic2,kc'⟩,off'⟩:=F.cell y c' e1
      have hcc:c'≠c:=fun z=>hy (F.apart y x c (z ▸ e1) hc)
      refine ⟨⟨ov',ic2.sameBut hs' hcc,fun av q=>?_⟩,off'⟩
      rw [Loc.set_ne hy] at q
      obtain ⟨v',e2,e3⟩:=kc' av q
      exact ⟨v',e2,e3.mono X.mon⟩
theorem aYy {x:Str} {pos:Pos} {v:AV} {Q:AHeap→Loc→Prop} (h:AN G n env x v H L Q):AW G n env (.Name x pos) v H L Q:=fun A s E u a I F r =>
  wpAny_assign_Name (h A s E u a I F r)
noncomputable def AWs (G:Cx) (n:Nat) (env:Env) (ts:List Expr) (l:List AV) (H:AHeap) (L:Loc) (Q:AHeap→Loc→Prop):Prop :=
  ∀ A s E us,AOk A n→Inv G H s.heap→FrI G env L H s.heap→VRs H s.heap l us→wpAny (MD G) A (assignInOrder ((assignEach ts env).map (·.2)) us) (fun _ s'=>PA G env H s Q s') E s
theorem bHz {l:List AV} {Q:AHeap→Loc→Prop} (h:Q H L):AWs G n env [] l H L Q:=fun A s E us a I F r =>
  assignInOrder_nil ⟨H,L,St.refl I,F,h⟩
theorem bCm {t:Expr} {ts:List Expr} {v:AV} {l:List AV} {Q:AHeap→Loc→Prop} (h:AW G n env t v H L fun H1 L1=>AWs G n env ts l H1 L1 Q)
    (ht:assignEach (t :: ts) env=(false,assign t env) :: assignEach ts env):AWs G n env (t :: ts) (v :: l) H L Q:=fun A s E us a I F r=>by
  cases r with
  | cons r rs =>
    rw [ht]
    exact assignInOrder_cons (pao (h A s E _ a I F r) fun _ s1 H1 L1 t1 F1 q=>PA.aft t1 (q A s1 E _ a t1.inv F1 (rs.mono t1.mon)))
theorem aJb (ts:List Expr):(assignEach ts env).length=ts.length:=by
  induction ts with
  | nil=>rfl
  | cons t ts ih=>cases t <;> exact congrArg (· + 1) ih
theorem aHp {h h':Heap} (x:Heap.ExtBut h.objs.size h h'):∀ b o,h.get? b=some o→h'.get? b=some o:=fun b o e=>x b o (Nat.ne_of_lt (Heap.lt_size e)) e
theorem bCp {ts:List Expr} {k:Nat} {pos:Pos} {l:List AV} {Q:AHeap→Loc→Prop} (hl:ts.length=l.length) (h:AWs G n env ts l H L Q)
    (hstar:(assignEach ts env).findIdx? (·.1)=none):AW G n env (.Tuple ts k pos) (.tup l) H L Q:=fun A s E u a I F r=>by
  cases r with
  | tup e q rs =>
    refine assign_Tuple_tuple a.hd ⟨_,e,rfl,_,rfl⟩ (by rw [aJb,hl,rs.length]; simp) hstar fun h' x=>?_
    have k:=aHp x
    refine PA.aft (St.keep (t:=s.toks) I k) (h A _ E _ a (I.of_keep k) (F.step (Ext.of_keep k)) (by simpa using rs.mono (Ext.of_keep k).mon))
noncomputable def SetA (G:Cx) (n:Nat) (ov:AV) (name:Str) (v:AV) (H:AHeap) (Q:AHeap→Prop):Prop :=
  ∀ A s E u uv,AOk A n→Inv G H s.heap→VR H s.heap ov u→VR H s.heap v uv→wpAny (MD G) A (setAttr u name uv) (PU G H s Q) E s
noncomputable def SetI (G:Cx) (n:Nat) (ov iv:AV) (v:AV) (H:AHeap) (Q:AHeap→Prop):Prop :=
  ∀ A s E u ui uv,AOk A n→Inv G H s.heap→VR H s.heap ov u→VR H s.heap iv ui→VR H s.heap v uv→wpAny (MD G) A (setItem u ui uv) (PU G H s Q) E s
theorem bIe {o:Expr} {name:Str} {pos:Pos} {v:AV} {Q:AHeap→Loc→Prop} (h:WE G n env o H L fun ov H1=>SetA G n ov name v H1 fun H2=>Q H2 L):AW G n env (.Attribute o name pos) v H L Q:=fun A s E u a I F r=>by
  show wpAny (MD G) A (do
    let ov ← holding [u] (eval o env)
    standAt pos.atName
    holding [u,ov] (setAttr ov name u)
    release [u,ov] []) _ E s
  refine wpAny_bind (wpAny_holding (pvo (h A s E a I F) fun ov s1 av H1 r1 t1 q=>wpAny_bind (wpAny_standAt (wpAny_bind (wpAny_holding ?_)))))
  exact puo (q A s1 E ov u a t1.inv r1 (r.mono t1.mon)) fun _ s2 H2 t2 q2=>wpAny_release' ⟨H2,L,(t1.trans t2).any,F.step (t1.trans t2).ext,q2⟩
theorem aQk (o i pos v):∃ l:Value→Value→List Value,assign (.Subscript o i pos) env v=(do
    let ov ← holding [v] (eval o env)
    let iv ← holding [v,ov] (eval i env)
    standAt pos
    holding [v,ov,iv] (setItem ov iv v)
    release (l ov iv) []):=⟨_,rfl⟩
theorem bLm {o i:Expr} {pos:Pos} {v:AV} {Q:AHeap→Loc→Prop} (h:WE G n env o H L fun ov H1=>WE G n env i H1 L fun iv H2=>SetI G n ov iv v H2 fun H3=>Q H3 L):AW G n env (.Subscript o i pos) v H L Q:=fun A s E u a I F r=>by
  obtain ⟨l,e⟩:=aQk (env:=env) o i pos u
  rw [e]
  refine wpAny_bind (wpAny_holding (pvo (h A s E a I F) fun ov s1 av H1 r1 t1 q=>wpAny_bind (wpAny_holding ?_)))
  refine pvo (q A s1 E a t1.inv (F.step t1.ext)) fun iv s2 bv H2 r2 t2 q2=>wpAny_bind (wpAny_standAt (wpAny_bind (wpAny_holding ?_)))
  exact puo (q2 A s2 E ov iv u a t2.inv (r1.mono t2.mon) r2 (r.mono (t1.trans t2).mon)) fun _ s3 H3 t3 q3=>wpAny_release' ⟨H3,L,((t1.trans t2).trans t3).any,F.step ((t1.trans t2).trans t3).ext,q3⟩
theorem aGa (t value pos) (hs:swapsWith value (some t) pos.line env=pure false):exec (.Assign [t] value pos) env=(do
    standAt pos
    let v ← eval value env
    assignStores env v (← swappedStores [t] value env) ((assignEach [t] env).map (·.2))):=by
  have e:exec (.Assign [t] value pos) env=(do
      standAt pos
      if ← swapsWith value (some t) pos.line env then do
        evalThenUse value env fun v=>assignAll v ((assignEach [t] env).map (·.2))
        pure .next
      else do
        let v ← eval value env
        assignStores env v (← swappedStores [t] value env) ((assignEach [t] env).map (·.2))):=rfl
  rw [e,hs]; rfl
theorem aUw {t value:Expr} {pos:Pos} (h:WE G n env value H L fun v H1=>AW G n env t v H1 L fun H2 L2=>Q .next H2 L2)
    (hs:swapsWith value (some t) pos.line env=pure false) (hw:swappedStores [t] value env=pure none) (ht:(assignEach [t] env).map (·.2)=[assign t env]):WS G n env (.Assign [t] value pos) H L Q:=fun A s E a I F=>by
  rw [aGa t value pos hs,hw,ht]
  refine wpAny_bind (wpAny_standAt (wpAny_bind (pvo (h A s E a I F) fun v s1 av H1 r t1 q=>wpAny_bind (wpAny_pure ?_))))
  show wpAny (MD G) A (do assign t env v; pure Flow.next) _ E s1
  exact wpAny_bind (pao (q A s1 E v a t1.inv (F.step t1.ext) r) fun _ s2 H2 L2 t2 F2 q2=>wpAny_pure ⟨.next,H2,L2,.next,t1.any.trans t2,F2,q2⟩)
noncomputable def ANs (G:Cx) (n:Nat) (env:Env):List Str→List AV→AHeap→Loc→(AHeap→Loc→Prop)→Prop
  | x :: xs,v :: vs,H,L,Q=>AN G n env x v H L fun H1 L1=>ANs G n env xs vs H1 L1 Q
  | [],_,H,L,Q=>Q H L
  | _ :: _,[],_,_,_=>False
theorem bIh {xs:List Str} {l:List AV} {H:AHeap} {L:Loc} {Q:AHeap→Loc→Prop} {A:Around} {s:Shared} {E:Value→Shared→Prop} {us:List Value} (h:ANs G n env xs l H L Q) (a:AOk A n) (I:Inv G H s.heap) (F:FrI G env L H s.heap) (r:VRs H s.heap l us) :
    wpAny (MD G) A (assignInOrder (xs.map fun n=>bindName env n) us) (fun _ s'=>PA G env H s Q s') E s:=by
  induction xs generalizing l H L s us with
  | nil=>exact assignInOrder_nil ⟨H,L,St.refl I,F,h⟩
  | cons x xs ih =>
    cases r with
    | nil=>exact h.elim
    | cons r rs=>exact assignInOrder_cons (wpAny_bindName (pao (h A s E _ a I F r) fun _ s1 H1 L1 t1 F1 q=>PA.aft t1 (ih q t1.inv F1 (rs.mono t1.mon))))
theorem aIj {t value:Expr} {pos:Pos} {names:List Str} (hw:swappedStores [t] value env=pure (some names)) (h:WE G n env value H L fun v H1=>∃ l,v=.tup l∧l.length=names.length∧ANs G n env names.reverse l.reverse H1 L fun H2 L2=>Q .next H2 L2)
    (hs:swapsWith value (some t) pos.line env=pure false):WS G n env (.Assign [t] value pos) H L Q:=fun A s E a I F=>by
  rw [aGa t value pos hs,hw]
  refine wpAny_bind (wpAny_standAt (wpAny_bind (pvo (h A s E a I F) fun v s1 av H1 r t1 qq=>wpAny_bind (wpAny_pure ?_))))
  obtain ⟨l,e1,e2,q⟩:=qq
  subst e1
  cases r with
  | @tup _ ad vs k e q' rs =>
    show wpAny (MD G) A (do
      rule "assign.swapped-stores"
      let items ← unpackItems (.ref ad) names.length none
      assignInOrder (names.reverse.map fun n=>bindName env n) items.reverse
      pure Flow.next) _ E s1
    refine wpAny_bind (wpAny_rule (wpAny_bind ?_))
    have el:names.length=vs.toArray.size:=by rw [← e2,rs.length]; simp
    rw [el]
    refine unpackItems_tuple a.hd ⟨_,e,rfl,_,rfl⟩ fun h' x=>?_
    have k:=aHp x
    have T:=St.keep (own:=ownOf env) (t:=s1.toks) t1.inv k
    refine wpAny_bind (pao (bIh (E:=E) q a (t1.inv.of_keep k) ((F.step t1.ext).step (Ext.of_keep k)) (by simpa using (rs.mono (Ext.of_keep k).mon).reverse)) fun _ s2 H2 L2 t2 F2 q2=>wpAny_pure ⟨.next,H2,L2,.next,(t1.any.trans T).trans t2,F2,q2⟩)
end
end
section
noncomputable def Kp (H:AHeap) (wr:List Addr) (h h':Heap):Prop:=∀ b o,b∉wr→h.get? b=some o→h'.get? b=some o∨(H b=some .pair∧∃ x y,IsPair h' b x y)
theorem Kp.of {H:AHeap} {wr:List Addr} {h h':Heap} (k:∀ b o,b∉wr→h.get? b=some o→h'.get? b=some o):Kp H wr h h':=fun b o n e=>.inl (k b o n e)
theorem Kp.off {H:AHeap} {wr:List Addr} {h h':Heap} (k:Kp H wr h h') {b:Addr} (q:H b=none) {o:Obj} (n:b∉wr) (e:h.get? b=some o):h'.get? b=some o:=by
  rcases k b o n e with e | ⟨e,_⟩
  · exact e
  · rw [q] at e; cases e
structure AWk (G:Cx) (n:Nat) (I:Addr) (vals:List AV) (src:AHeap→Prop) (wr fp:List Addr) (K:Nat→Heap→Prop):Prop where
  sub:∀ b∈wr,b∈fp
  frame:∀ i h h',K i h→(∀ b∈fp,∀ o,h.get? b=some o→h'.get? b=some o)→K i h'
  soft:∀ i h,K i h→∀ b∈wr,∀ o,h.get? b=some o→¬ aAz o
  item:∀ i av A s H E (Q:Option Value→Shared→Prop),AOk A n→vals[i]?=some av→K i s.heap→Inv G H s.heap→src H→(∀ b∈fp,H b=none) →
    (∀ v h' tk,VR H h' av v→K (i+1) h'→Kp H wr s.heap h'→(∀ b o,s.heap.get? b=some o→∃ o',h'.get? b=some o')→Q (some v) { s with heap:=h',toks:=tk })→wpAny (MD G) A (pyNext (.ref I)) Q E s
  done:∀ A s H E (Q:Option Value→Shared→Prop),AOk A n→K vals.length s.heap→Inv G H s.heap→src H →
    (∀ h' tk,(∀ b o,b∉wr→s.heap.get? b=some o→h'.get? b=some o)→Q none { s with heap:=h',toks:=tk })→wpAny (MD G) A (pyNext (.ref I)) Q E s
  go:∀ i target v A s E (Q:Unit→Shared→Prop),K (i+1) s.heap →
    (∀ h',K (i+1) h'→(∀ b o,b∉wr→s.heap.get? b=some o→h'.get? b=some o)→(∀ b o,s.heap.get? b=some o→∃ o',h'.get? b=some o')→Q () { s with heap:=h' })→wpAny (MD G) A (letOwnedTupleGo target (.ref I) v) Q E s
  self:∀ i A s E (Q:Value→Shared→Prop),K i s.heap→Q (.ref I) s→wpAny (MD G) A (pyIter (.ref I)) Q E s
structure PIt (G:Cx) (n:Nat) (H:AHeap) (s:Shared) (I:Addr) (vals:List AV) (src:AHeap→Prop) (wr fp:List Addr) (K:Nat→Heap→Prop) (H2:AHeap) (s2:Shared):Prop where
  awk:AWk G n I vals src wr fp K
  k0:K 0 s2.heap
  st:St G [] H s H2 s2
  fpv:∀ b∈fp,(s.heap.get? b=none∨∃ o,s.heap.get? b=some o∧aAz o)∧H2 b=none∧∃ o,s2.heap.get? b=some o
  wrv:∀ b∈wr,s.heap.get? b=none
inductive PI (G:Cx) (n:Nat) (H:AHeap) (s:Shared) (Q:List AV→(AHeap→Prop)→AHeap→Prop) (it:Value) (s2:Shared):Prop
  | mk (I:Addr) (vals:List AV) (src:AHeap→Prop) (wr:List Addr) (fp:List Addr) (K:Nat→Heap→Prop) (H2:AHeap) (e:it=.ref I) (P:PIt G n H s I vals src wr fp K H2 s2) (q:Q vals src H2)
noncomputable def WI (G:Cx) (n:Nat) (env:Env) (e:Expr) (H:AHeap) (L:Loc) (Q:List AV→(AHeap→Prop)→AHeap→Prop):Prop :=
  ∀ A s E,AOk A n→Inv G H s.heap→FrI G env L H s.heap→wpAny (MD G) A (eval e env) (fun x s1=>wpAny (MD G) A (pyIter x) (PI G n H s Q) E s1) E s
section
variable {G:Cx} {n:Nat} {env:Env} {H:AHeap} {L:Loc}
theorem aMz {h h':Heap} {wr:List Addr} (I:Inv G H h) (so:∀ b∈wr,∀ o,h.get? b=some o→¬ aAz o) (off:∀ b∈wr,H b=none) (nb:∀ b∈wr,G.hB.get? b=none) (k:Kp H wr h h') :
    Inv G H h'∧Mon H h H h':=by
  have m:Mon H h H h':=⟨fun b o e q f=>⟨k.off q (fun x=>so b x o e f) e,q⟩,fun _ _ _ q=>q⟩
  refine ⟨⟨fun b o e=>?_,fun a o e=>?_⟩,m⟩
  · obtain ⟨q1,q2⟩:=I.base b o e
    exact ⟨k.off q2 (fun x=>by rw [nb b x] at e; cases e) q1,q2⟩
  · have R:=I.obj a o e
    obtain ⟨x,ex⟩:=R.some
    rcases k a x (fun y=>by rw [off a y] at e; cases e) ex with e1 | ⟨e1,e2⟩
    · exact R.mono m fun x' ex'=>by rw [ex] at ex'; cases ex'; exact e1
    · rw [e] at e1; cases e1; exact e2
theorem FrI.own_off {h h':Heap} {wr:List Addr} (F:FrI G env L H h) (m:Mon H h H h') (k:Kp H wr h h') (w1:env.locals∉wr) (w2:∀ x c,env.cells.lookup x=some c→c∉wr):FrI G env L H h' where
  kind:=F.kind
  glob:=F.glob
  bts:=F.bts
  ns:=by
    obtain ⟨mm,⟨o,es,ep,e,r⟩,kk⟩:=F.ns
    exact ⟨mm,⟨o,es,ep,k.off F.offL w1 e,r⟩,fun x av q1 q2=>let ⟨v,e1,e2⟩:=kk x av q1 q2; ⟨v,e1,e2.mono m⟩⟩
  offL:=F.offL
  newL:=F.newL
  cell:=fun x c e=>by
    obtain ⟨⟨ov,⟨o,eo,d⟩,kk⟩,off⟩:=F.cell x c e
    exact ⟨⟨ov,⟨o,k.off off (w2 x c e) eo,d⟩,fun av q=>let ⟨v,e1,e2⟩:=kk av q; ⟨v,e1,e2.mono m⟩⟩,off⟩
  apart:=F.apart
  cnew:=F.cnew
  lno:=F.lno
theorem FrI.loc_soft {h:Heap} (F:FrI G env L H h):∃ o,h.get? env.locals=some o∧¬ aAz o:=by
  obtain ⟨mm,⟨o,es,ep,e,d,r⟩,kk⟩:=F.ns
  exact ⟨o,e,aKp d⟩
theorem FrI.cell_soft {h:Heap} (F:FrI G env L H h) {x:Str} {c:Addr} (e:env.cells.lookup x=some c):∃ o,h.get? c=some o∧¬ aAz o:=by
  obtain ⟨⟨ov,⟨o,eo,d⟩,kk⟩,off⟩:=F.cell x c e
  exact ⟨o,eo,aWe d⟩
theorem FrI.own_soft {h:Heap} (F:FrI G env L H h) {b:Addr} (m:b∈ownOf env):∃ o,h.get? b=some o∧¬ aAz o:=by
  rcases aCk m with rfl | ⟨x,e,_⟩
  · exact F.loc_soft
  · exact F.cell_soft e
theorem PIt.off_own {s:Shared} {s2:Shared} {I:Addr} {vals:List AV} {src:AHeap→Prop} {wr fp:List Addr} {K:Nat→Heap→Prop} {H2:AHeap} (P:PIt G n H s I vals src wr fp K H2 s2) {b:Addr} (hb:b∈fp)
    (o:∃ o,s.heap.get? b=some o∧¬ aAz o):False:=by
  obtain ⟨o,e,f⟩:=o
  rcases (P.fpv b hb).1 with q | ⟨o',e',f'⟩
  · rw [e] at q; cases q
  · rw [e] at e'; cases e'; exact f f'
structure LoopSt (G:Cx) (env:Env) (own:List Addr) (fp:List Addr) (H:AHeap) (s:Shared) (H':AHeap) (L':Loc) (s':Shared):Prop where
  inv:Inv G H' s'.heap
  frm:FrI G env L' H' s'.heap
  ext:Ext own H s.heap H' s'.heap
  same:Sm s s'
  fpv:∀ b∈fp,H' b=none∧∃ o,s'.heap.get? b=some o
theorem LoopSt.step {own fp:List Addr} {s s1 s2:Shared} {H1 H2:AHeap} {L1 L2:Loc} (x:LoopSt G env own fp H s H1 L1 s1) (hf:∀ b∈fp,b∉own) (I:Inv G H2 s2.heap) (F:FrI G env L2 H2 s2.heap) (X:Ext own H1 s1.heap H2 s2.heap) (m:Sm s1 s2) :
    LoopSt G env own fp H s H2 L2 s2∧∀ b∈fp,∀ o,s1.heap.get? b=some o→s2.heap.get? b=some o :=
  ⟨⟨I,F,x.ext.trans X,x.same.trans m,fun b hb=>let ⟨q,o,e⟩:=x.fpv b hb; ⟨X.off b o e q,o,X.keep b o e q (hf b hb)⟩⟩,fun b hb o e=>X.keep b o e (x.fpv b hb).1 (hf b hb)⟩
theorem aNh {own wr:List Addr} {h0 h h':Heap} {H0:AHeap} (X:Ext own H0 h0 H h) (w:∀ b∈wr,h0.get? b=none) (k:Kp H wr h h'):Ext own H0 h0 H h':=by
  have nw:∀ b o,h0.get? b=some o→b∉wr:=fun b o e m=>by rw [w b m] at e; cases e
  exact ⟨fun b o e q n=>k.off (X.off b o e q) (nw b o e) (X.keep b o e q n),fun b o e q f=>k.off (X.off b o e q) (nw b o e) (X.seq b o e q f),X.off,fun b o e=>let ⟨o',e'⟩:=X.there b o e; (k b o' (nw b o e) e').elim (fun e=>⟨o',e⟩) fun ⟨_,_,_,e⟩=>⟨_,e⟩,X.dom,X.frz⟩
theorem LoopSt.wr {own fp wr:List Addr} {s s1:Shared} {H1:AHeap} {L1:Loc} {h':Heap} {tk:Nat} (x:LoopSt G env own fp H s H1 L1 s1) (so:∀ b∈wr,∀ o,s1.heap.get? b=some o→¬ aAz o) (sub:∀ b∈wr,b∈fp) (w:∀ b∈wr,s.heap.get? b=none)
    (I0:Inv G H s.heap) (w1:env.locals∉wr) (w2:∀ x c,env.cells.lookup x=some c→c∉wr) (k:Kp H1 wr s1.heap h') (th:∀ b o,s1.heap.get? b=some o→∃ o',h'.get? b=some o') :
    LoopSt G env own fp H s H1 L1 { s1 with heap:=h',toks:=tk }:=by
  obtain ⟨I',m⟩:=aMz x.inv so (fun b hb=>(x.fpv b (sub b hb)).1) (fun b hb=>by
    cases q:G.hB.get? b with
    | none=>rfl
    | some o=>have:=I0.keep b o q; rw [w b hb] at this; cases this) k
  exact ⟨I',x.frm.own_off m k w1 w2,aNh x.ext w k,x.same.trans rfl,fun b hb=>let ⟨q,o,e⟩:=x.fpv b hb; ⟨q,th b o e⟩⟩
noncomputable def ForV (G:Cx) (n:Nat) (env:Env) (target:Expr) (body:List Stmt) (src:AHeap→Prop) (Q:AFl→AHeap→Loc→Prop):List AV→AHeap→Loc→Prop
  | [],H,L=>src H∧Q .next H L
  | v :: vs,H,L=>src H∧AW G n env target v H L fun H1 L1=>WSs G n env body H1 L1 fun f H2 L2=>match f with
      | .next | .cont=>ForV G n env target body src Q vs H2 L2
      | .brk=>Q .next H2 L2
      | .ret r=>Q (.ret r) H2 L2
theorem ForV.src {target:Expr} {body:List Stmt} {src:AHeap→Prop} {Q:AFl→AHeap→Loc→Prop}:∀ {vs:List AV} {H:AHeap} {L:Loc},ForV G n env target body src Q vs H L→src H
  | [],_,_,h=>h.1
  | _ :: _,_,_,h=>h.1
theorem bJn {target iter:Expr} {body:List Stmt} {pos:Pos} {Q:AFl→AHeap→Loc→Prop} (h:WI G n env iter H L fun vals src H1=>ForV G n env target body src Q vals H1 L)
    (hs:∀ x,foldedSetIterable iter env x=pure x):WS G n env (.For target iter body [] pos) H L Q:=fun A s E a I F=>by
  refine wpAny_For (hs:=hs) (wpAny_mono (h A s _ a I F) (fun x s1 h1=>wpAny_mono h1 (fun it s2 hh=>hh.rec fun J vals src wr fp K H2 e P q=>?_) fun _ _ e=>e) fun _ _ e=>e)
  subst e
  have hf:∀ b∈fp,b∉ownOf env:=fun b hb m=>P.off_own hb (F.own_soft m)
  have w1:env.locals∉wr:=fun m=>P.off_own (P.awk.sub _ m) F.loc_soft
  have w2:∀ x c,env.cells.lookup x=some c→c∉wr:=fun x c e m=>P.off_own (P.awk.sub _ m) (F.cell_soft e)
  have S0:LoopSt G env (ownOf env) fp H s H2 L s2:=⟨P.st.inv,F.step P.st.ext,P.st.ext.any,P.st.same,fun b hb=>(P.fpv b hb).2⟩
  refine codeAny_forLoop_any (fun k s'=>∃ i H' L',i≤vals.length∧k=vals.length - i∧LoopSt G env (ownOf env) fp H s H' L' s'∧K i s'.heap∧ForV G n env target body src Q (vals.drop i) H' L') ?_ _ ⟨0,H2,L,Nat.zero_le _,rfl,S0,P.k0,by simpa using q⟩
  rintro k s3 ⟨i,H3,L3,hi,rfl,S3,K3,q3⟩
  by_cases hlt:i < vals.length
  · have hx:vals[i]?=some vals[i]:=by simp [hlt]
    refine P.awk.item i vals[i] A s3 H3 _ _ a hx K3 S3.inv q3.src (fun b hb=>(S3.fpv b hb).1) fun v h4 tk r4 K4 k4 th4=>?_
    dsimp only
    have S4:=S3.wr (tk:=tk) (P.awk.soft i _ K3) P.awk.sub P.wrv I w1 w2 k4 th4
    refine P.awk.go i target v A _ _ _ K4 fun h5 K5 k5 th5=>?_
    have S5:=S4.wr (tk:=tk) (P.awk.soft (i+1) _ K4) P.awk.sub P.wrv I w1 w2 (.of k5) th5
    have r5:VR H3 h5 vals[i] v:=r4.mono ⟨fun b o e q f=>⟨k5 b o (fun m=>P.awk.soft (i+1) _ K4 b m o e f) e,q⟩,fun _ _ _ q=>q⟩
    rw [List.drop_eq_getElem_cons hlt] at q3
    refine pao (q3.2 A _ _ v a S5.inv S5.frm r5) fun _ s6 H6 L6 t6 F6 q6=>?_
    obtain ⟨S6,k6⟩:=S5.step hf t6.inv F6 t6.ext t6.same
    refine pso (q6 A s6 _ a t6.inv F6) fun f s7 af H7 L7 rf t7 F7 q7=>?_
    obtain ⟨S7,k7⟩:=S6.step hf t7.inv F7 t7.ext t7.same
    have K7:K (i+1) s7.heap:=P.awk.frame _ _ _ (P.awk.frame _ _ _ K5 k6) k7
    cases rf with
    | next=>exact ⟨vals.length - (i+1),om7 hlt,i+1,H7,L7,hlt,rfl,S7,K7,q7⟩
    | cont=>exact ⟨vals.length - (i+1),om7 hlt,i+1,H7,L7,hlt,rfl,S7,K7,q7⟩
    | brk=>exact ⟨.next,H7,L7,.next,⟨S7.inv,S7.ext,S7.same⟩,S7.frm,q7⟩
    | ret r=>exact ⟨_,H7,L7,.ret r,⟨S7.inv,S7.ext,S7.same⟩,S7.frm,q7⟩
  · have he:i=vals.length:=om6 hi hlt
    subst he
    refine P.awk.done A s3 H3 _ _ a K3 S3.inv q3.src fun h4 tk k4=>?_
    obtain ⟨I4,m4⟩:=aMz S3.inv (P.awk.soft _ _ K3) (fun b hb=>(S3.fpv b (P.awk.sub b hb)).1) (fun b hb=>by
      cases q:G.hB.get? b with
      | none=>rfl
      | some o=>have:=I.keep b o q; rw [P.wrv b hb] at this; cases this) (.of k4)
    have F4:=S3.frm.own_off m4 (.of k4) w1 w2
    rw [List.drop_length] at q3
    exact wpAny_execs_nil ⟨.next,H3,L3,.next,⟨I4,aNh S3.ext P.wrv (.of k4),S3.same.trans rfl⟩,F4,q3.2⟩
theorem aZp {t:Expr} {body:List Stmt} {pos:Pos} {Q:AFl→AHeap→Loc→Prop} (J:Nat→AHeap→Loc→Prop) (k0:Nat) (h0:J k0 H L)
    (step:∀ k H L,J k H L→WT G n env t H L fun b H1=>(b=true→WSs G n env body H1 L fun f H2 L2=>match f with
      | .next | .cont=>∃ m,m < k∧J m H2 L2
      | .brk=>Q .next H2 L2
      | .ret r=>Q (.ret r) H2 L2)∧(b=false→Q .next H1 L)):WS G n env (.While t body [] pos) H L Q:=fun A s E a I F=>by
  refine wpAny_While (codeAny_whileLoop (fun k s'=>∃ H' L',St G (ownOf env) H s H' s'∧FrI G env L' H' s'.heap∧J k H' L') ?_ k0 ⟨H,L,St.refl I,F,h0⟩)
  rintro k s1 ⟨H1,L1,t1,F1,j1⟩
  refine pbo (step k H1 L1 j1 A s1 _ a t1.inv F1) fun b s2 H2 t2 q2=>?_
  have T2:=t1.trans t2.any
  have F2:=F1.step t2.ext
  cases b with
  | false =>
    simp only [Bool.false_eq_true,if_false]
    exact wpAny_execs_nil ⟨.next,H2,L1,.next,T2,F2,q2.2 rfl⟩
  | true =>
    simp only [if_true]
    refine pso (q2.1 rfl A s2 _ a t2.inv F2) fun f s3 af H3 L3 rf t3 F3 q3=>?_
    cases rf with
    | next=>obtain ⟨m,hm,j⟩:=q3; exact ⟨m,hm,H3,L3,T2.trans t3,F3,j⟩
    | cont=>obtain ⟨m,hm,j⟩:=q3; exact ⟨m,hm,H3,L3,T2.trans t3,F3,j⟩
    | brk=>exact ⟨.next,H3,L3,.next,T2.trans t3,F3,q3⟩
    | ret r=>exact ⟨_,H3,L3,.ret r,T2.trans t3,F3,q3⟩
end
end
section
noncomputable def cE (scope:Scope) (cl:List (Str × Addr)) (C:Addr) (env:Env):Env :=
  { scope:=relabel scope env,locals:=C,globals:=env.globals,cells:=cellsFrom (C+1) scope.names cl,qual:=env.qual,func:=none,code:=env.code,frame:=env.frame,builtins:=env.builtins }
noncomputable def compL (scope:Scope) (L:Loc):Loc:=fun y=>if scope.names.lookup y=some .local then none else if scope.names.lookup y=some .cell then none else L y
theorem aUj {scope:Scope} {L:Loc} {y:Str} {v:AV} (e:compL scope L y=some v):L y=some v:=by
  unfold compL at e
  by_cases p:scope.names.lookup y=some .local
  · rw [if_pos p] at e; cases e
  · rw [if_neg p] at e
    by_cases p:scope.names.lookup y=some .cell
    · rw [if_pos p] at e; cases e
    · rw [if_neg p] at e; exact e
theorem aJk {scope:Scope} {L:Loc} {y:Str} (e:scope.names.lookup y=some .local∨scope.names.lookup y=some .cell):compL scope L y=none :=
  e.elim (fun e=>if_pos e) fun e=>by unfold compL; rw [if_pos e,ite_self]
theorem bCb {scope:Scope} {L:Loc} {y:Str} (e:scope.names.lookup y≠some .local) (e':scope.names.lookup y≠some .cell):compL scope L y=L y:=(if_neg e).trans (if_neg e')
theorem aBm {α:Type} {l:List (Str × α)} (hn:(l.map (·.1)).Nodup) {x:Str} {k:α} (h:(x,k)∈l):l.lookup x=some k:=by
  induction l with
  | nil=>nomatch h
  | cons p r ih =>
    obtain ⟨y,d⟩:=p
    have hn:=List.nodup_cons.mp hn
    rcases List.mem_cons.mp h with e | h2
    · cases e; exact List.lookup_cons_self
    · have:(x == y)=false:=beq_false_of_ne fun q=>hn.1 (List.mem_map.mpr ⟨(x,k),h2,q⟩)
      rw [List.lookup_cons,this]; exact ih hn.2 h2
theorem aDr {scope:Scope} {env:Env} {x:Str} (h:(relabel scope env).names.lookup x=some .local):scope.names.lookup x=some .local:=by
  unfold relabel at h
  dsimp only at h
  revert h
  generalize scope.names=names
  induction names with
  | nil=>intro h; simp at h
  | cons p r ih =>
    obtain ⟨n,k⟩:=p
    intro h
    rw [List.map_cons] at h
    by_cases hx:(x == n)=true
    · rw [List.lookup_cons,hx]
      dsimp only at h ⊢
      split at h
      · simp only [List.lookup_cons,hx] at h; cases h
      · simp only [List.lookup_cons,hx] at h; exact h
    · have hx':(x == n)=false:=by simpa using hx
      rw [List.lookup_cons,hx']
      apply ih
      split at h <;> (simp only [List.lookup_cons,hx'] at h; exact h)
theorem aLo (names:List (Str × NameKind)) (n:Nat) (acc:List (Str × Addr)):cellsFrom n names acc=cellsFrom n names [] ++ acc:=by
  induction names generalizing n acc with
  | nil=>rfl
  | cons p r ih =>
    show (if (p.2 == NameKind.cell)=true then cellsFrom (n+1) r ((p.1,n) :: acc) else cellsFrom n r acc)=(if (p.2 == NameKind.cell)=true then cellsFrom (n+1) r [(p.1,n)] else cellsFrom n r []) ++ acc
    by_cases h:(p.2 == NameKind.cell)=true
    · rw [if_pos h,if_pos h,ih,ih (n+1) [(p.1,n)],List.append_assoc]; rfl
    · rw [if_neg h,if_neg h]; exact ih n acc
theorem aCv (names:List (Str × NameKind)) (n:Nat) (acc:List (Str × Addr)) {x:Str} {c:Addr} (h:(x,c)∈cellsFrom n names acc):(x,c)∈acc∨(n≤c∧(x,NameKind.cell)∈names):=by
  induction names generalizing n acc with
  | nil=>exact .inl h
  | cons p r ih =>
    have h:(x,c)∈if (p.2 == NameKind.cell)=true then cellsFrom (n+1) r ((p.1,n) :: acc) else cellsFrom n r acc:=h
    by_cases hk:(p.2 == NameKind.cell)=true
    · rw [if_pos hk] at h
      rcases ih (n+1) ((p.1,n) :: acc) h with q | ⟨q1,q2⟩
      · rcases List.mem_cons.mp q with e | q
        · obtain ⟨y,k⟩:=p
          cases e
          cases eq_of_beq hk
          exact .inr ⟨Nat.le_refl _,.head _⟩
        · exact .inl q
      · exact .inr ⟨Nat.le_of_succ_le q1,.tail _ q2⟩
    · rw [if_neg hk] at h
      exact (ih n acc h).imp id fun q=>⟨q.1,.tail _ q.2⟩
theorem aUk (env:Env) (names:List (Str × NameKind)) (acc cl:List (Str × Addr)) (h:(forIn names acc fun x cs=>if x.2 == NameKind.free then do let c ← cellOf env x.1; pure (ForInStep.yield ((x.1,c) :: cs)) else pure (ForInStep.yield cs):Sem (List (Str × Addr)))=pure cl)
    (x:Str) (c:Addr) (m:(x,c)∈cl):(x,c)∈acc∨((x,NameKind.free)∈names∧env.cells.lookup x=some c):=by
  induction names generalizing acc with
  | nil =>
    rw [List.forIn_nil] at h
    cases h; exact .inl m
  | cons p r ih =>
    rw [List.forIn_cons] at h
    by_cases hk:(p.2 == NameKind.free)=true
    · rw [if_pos hk] at h
      unfold cellOf at h
      cases hc:env.cells.lookup p.1 with
      | none=>rw [hc] at h; cases h
      | some d =>
        rw [hc] at h
        rcases ih ((p.1,d) :: acc) h with q | ⟨q1,q2⟩
        · rcases List.mem_cons.mp q with e | q
          · obtain ⟨y,k⟩:=p
            cases e
            cases eq_of_beq hk
            exact .inr ⟨.head _,hc⟩
          · exact .inl q
        · exact .inr ⟨.tail _ q1,q2⟩
    · rw [if_neg hk] at h
      exact (ih acc h).imp id fun q=>⟨.tail _ q.1,q.2⟩
theorem aHx {scope:Scope} {env:Env} {cl:List (Str × Addr)} (h:closureFor scope env=pure cl) {x:Str} {c:Addr} (m:(x,c)∈cl):(x,NameKind.free)∈scope.names∧env.cells.lookup x=some c:=by
  have e:closureFor scope env=(forIn scope.names [] fun x cs=>if x.2 == NameKind.free then do let c ← cellOf env x.1; pure (ForInStep.yield ((x.1,c) :: cs)) else pure (ForInStep.yield cs):Sem (List (Str × Addr))) >>= pure:=rfl
  rw [bind_pure] at e
  rw [e] at h
  rcases aUk env scope.names [] cl h x c m with q | q
  · cases q
  · exact q
section
variable {G:Cx} {n:Nat} {env:Env} {H:AHeap} {L:Loc}
theorem aJs {M:Model} {A:Around} {E:Value→Shared→Prop} {s:Shared} {scope:Scope} {cl:List (Str × Addr)} {Q:Env→Shared→Prop}
    (h:Q { scope,locals:=s.heap.objs.size,globals:=env.globals,cells:=cellsFrom (s.heap.objs.size+1) scope.names cl,qual:=env.qual,func:=none,code:=env.code,frame:=env.frame,builtins:=env.builtins }
      { s with heap:=pushCells (s.heap.push { cls:=.type "dict",data:=.dict #[] }) scope.names }) :
    wpAny M A (newFunctionEnv scope env.globals cl [] env.qual none .none (some env)) Q E s:=by
  simp only [newFunctionEnv,Option.isSome_some,if_true]
  refine wpAny_bind (wpAny_alloc ?_)
  refine wpAny_bind (wpAny_layCells _ (fun name kind cells=>by cases hkc:kind == NameKind.cell <;> simp [hkc]) _ _ _ _ ?_)
  rw [show ({ s with heap:=s.heap.push { cls:=.type "dict",data:=.dict #[] } }:Shared).heap.objs.size=s.heap.objs.size+1 from Heap.size_push ..]
  refine wpAny_bind ?_
  rw [List.forIn_nil]
  exact wpAny_pure (wpAny_pure h)
theorem aCb {h:Heap} {a:Addr} (x:h.objs.size≤a):h.get? a=none:=by
  cases q:h.get? a with
  | none=>rfl
  | some o=>exact absurd (Heap.lt_size q) (Nat.not_lt.mpr x)
theorem aUi {scope:Scope} {cl:List (Str × Addr)} {h:Heap} (I:Inv G H h) (F:FrI G env L H h) (hk:scope.kind=.function) (hnd:(scope.names.map (·.1)).Nodup) (hcl:closureFor scope env=pure cl) :
    FrI G (cE scope cl h.objs.size env) (compL scope L) H (pushCells (h.push { cls:=.type "dict",data:=.dict #[] }) scope.names):=by
  have kp:∀ b o,h.get? b=some o→(pushCells (h.push { cls:=.type "dict",data:=.dict #[] }) scope.names).get? b=some o:=fun b o e=>pushCells_keeps _ _ b o (Heap.get?_push_of_some _ e)
  have ok:=cellsFrom_ok scope.names (h.push { cls:=.type "dict",data:=.dict #[] }) (h.objs.size+1) [] ⟨fun _ _ hm=>(nomatch hm),List.Pairwise.nil⟩ (by rw [Heap.size_push]; exact Nat.le_refl _)
  rw [Heap.size_push] at ok
  have split:∀ x c,(cE scope cl h.objs.size env).cells.lookup x=some c →
      ((x,c)∈cellsFrom (h.objs.size+1) scope.names []∧scope.names.lookup x=some .cell∧h.objs.size < c)∨((x,c)∈cl∧scope.names.lookup x=some .free∧env.cells.lookup x=some c∧c < h.objs.size):=fun x c e=>by
    have m:=mem_of_lookup e
    show _∨_
    have m':(x,c)∈cellsFrom (h.objs.size+1) scope.names [] ++ cl:=by rw [← aLo]; exact m
    rcases List.mem_append.mp m' with q | q
    · rcases aCv _ _ _ q with q' | ⟨q1,q2⟩
      · cases q'
      · exact .inl ⟨q,aBm hnd q2,q1⟩
    · obtain ⟨q1,q2⟩:=aHx hcl q
      obtain ⟨⟨ov,⟨o,eo,_⟩,_⟩,_⟩:=F.cell x c q2
      exact .inr ⟨q,aBm hnd q1,q2,Heap.lt_size eo⟩
  refine ⟨hk,F.glob,F.bts,⟨_,(Heap.Ns.new h (.type "dict")).keeps (pushCells_keeps _ _),fun x av q1 q2=>?_⟩,I.fresh',?_,fun x c e=>?_,fun x y c e1 e2=>?_,fun x c e hlt=>?_,fun x hl=>?_⟩
  · rw [aJk (.inl (aDr q1))] at q2; cases q2
  · cases q:G.hB.get? h.objs.size with
    | none=>exact q
    | some o=>have:=I.keep _ _ q; rw [aAa] at this; cases this
  · rcases split x c e with ⟨m,k,hlt⟩ | ⟨m,k,e2,hlt⟩
    · exact ⟨⟨none,(ok.empty x c m).1,fun av q=>by rw [aJk (.inr k)] at q; cases q⟩,I.fresh (aCb (Nat.le_of_lt hlt))⟩
    · obtain ⟨⟨ov,ic,kk⟩,off⟩:=F.cell x c e2
      exact ⟨⟨ov,ic.keeps kp,fun av q=>let ⟨v,e3,r⟩:=kk av (aUj q); ⟨v,e3,r.mono (Ext.of_keep kp).mon⟩⟩,off⟩
  · rcases split x c e1 with ⟨m1,k1,l1⟩ | ⟨m1,k1,f1,l1⟩ <;> rcases split y c e2 with ⟨m2,k2,l2⟩ | ⟨m2,k2,f2,l2⟩
    · exact name_of_addr ok.apart m1 m2
    · exact absurd (Nat.lt_trans l1 l2) (Nat.lt_irrefl _)
    · exact absurd (Nat.lt_trans l2 l1) (Nat.lt_irrefl _)
    · exact F.apart x y c f1 f2
  · have hlt':h.objs.size < c:=hlt
    cases q:G.hB.get? c with
    | none=>rfl
    | some o=>have:=I.keep _ _ q; rw [aCb (Nat.le_of_lt hlt')] at this; cases this
  · cases q:(cE scope cl h.objs.size env).cells.lookup x with
    | none=>rfl
    | some c =>
      have hl':=aDr hl
      rcases split x c q with ⟨_,k,_⟩ | ⟨_,k,_⟩ <;> rw [hl'] at k <;> cases k
noncomputable def CIf (G:Cx) (n:Nat) (env:Env):List Expr→AHeap→Loc→(Bool→AHeap→Prop)→Prop
  | [],H,_,Q=>Q true H
  | [c],H,L,Q=>WT G n env c H L Q
  | _ :: _ :: _,_,_,_=>False
noncomputable def CV (G:Cx) (n:Nat) (env:Env) (target:Expr) (ifs:List Expr) (elt:Expr) (src:AHeap→Prop) (Kt:List AV→AHeap→Loc→Prop):List AV→List AV→AHeap→Loc→Prop
  | [],acc,H,L=>src H∧Kt acc H L
  | v :: vs,acc,H,L=>src H∧AW G n env target v H L fun H1 L1=>CIf G n env ifs H1 L1 fun b H2 =>
      (b=true→acc.length < 1000000∧WE G n env elt H2 L1 fun y H3=>CV G n env target ifs elt src Kt vs (acc ++ [y]) H3 L1)∧(b=false→CV G n env target ifs elt src Kt vs acc H2 L1)
noncomputable def CV2 (G:Cx) (n:Nat) (env:Env) (t0 i1 t1:Expr) (ifs1:List Expr) (elt:Expr) (src:AHeap→Prop) (Kt:List AV→AHeap→Loc→Prop):List AV→List AV→AHeap→Loc→Prop
  | [],acc,H,L=>src H∧Kt acc H L
  | v :: vs,acc,H,L=>src H∧AW G n env t0 v H L fun H1 L1=>WI G n env i1 H1 L1 fun vals src1 H2 =>
      CV G n env t1 ifs1 elt src1 (fun acc' H3 L3=>CV2 G n env t0 i1 t1 ifs1 elt src Kt vs acc' H3 L3) vals acc H2 L1
theorem CV.src {target:Expr} {ifs:List Expr} {elt:Expr} {src:AHeap→Prop} {Kt:List AV→AHeap→Loc→Prop}:∀ {vs acc:List AV} {H:AHeap} {L:Loc},CV G n env target ifs elt src Kt vs acc H L→src H
  | [],_,_,_,h=>h.1
  | _ :: _,_,_,_,h=>h.1
theorem CV2.src {t0 i1 t1:Expr} {ifs1:List Expr} {elt:Expr} {src:AHeap→Prop} {Kt:List AV→AHeap→Loc→Prop}:∀ {vs acc:List AV} {H:AHeap} {L:Loc},CV2 G n env t0 i1 t1 ifs1 elt src Kt vs acc H L→src H
  | [],_,_,_,h=>h.1
  | _ :: _,_,_,_,h=>h.1
structure CS (G:Cx) (env:Env) (D:Addr) (fp:List Addr) (H:AHeap) (s:Shared) (acc:List AV) (H':AHeap) (L':Loc) (s':Shared):Prop extends LoopSt G env (D :: ownOf env) fp H s H' L' s' where
  doff:H' D=none
  dl:∃ vs k,s'.heap.get? D=some (lstO vs k)∧VRs H' s'.heap acc vs
theorem aPc {vs:List Value} {k:Nat}:¬ aAz (lstO vs k):=by
  rintro (⟨e,_⟩ | ⟨e,_⟩)
  · exact (show Value.type "list" ≠ Value.type "tuple" by decide) e
  · exact (show Value.type "list" ≠ Value.type "range" by decide) e
theorem CS.step {D:Addr} {fp:List Addr} {s s1 s2:Shared} {H1 H2:AHeap} {L1 L2:Loc} {acc:List AV} (x:CS G env D fp H s acc H1 L1 s1) (hD:D∉ownOf env) (hf:∀ b∈fp,b∉D :: ownOf env) (t:St G (ownOf env) H1 s1 H2 s2) (F:FrI G env L2 H2 s2.heap) :
    CS G env D fp H s acc H2 L2 s2∧∀ b∈fp,∀ o,s1.heap.get? b=some o→s2.heap.get? b=some o:=by
  obtain ⟨S,k⟩:=x.toLoopSt.step hf t.inv F (t.ext.weaken fun b m=>.tail _ m) t.same
  obtain ⟨vs,kk,e,r⟩:=x.dl
  exact ⟨⟨S,t.ext.off _ _ e x.doff,vs,kk,t.ext.keep _ _ e x.doff hD,r.mono t.mon⟩,k⟩
theorem CS.wr {D:Addr} {fp wr:List Addr} {s s1:Shared} {H1:AHeap} {L1:Loc} {h':Heap} {tk:Nat} {acc:List AV} (x:CS G env D fp H s acc H1 L1 s1) (hD:D∉wr) (so:∀ b∈wr,∀ o,s1.heap.get? b=some o→¬ aAz o) (sub:∀ b∈wr,b∈fp) (w:∀ b∈wr,s.heap.get? b=none)
    (I0:Inv G H s.heap) (w1:env.locals∉wr) (w2:∀ x c,env.cells.lookup x=some c→c∉wr) (k:Kp H1 wr s1.heap h') (th:∀ b o,s1.heap.get? b=some o→∃ o',h'.get? b=some o') :
    CS G env D fp H s acc H1 L1 { s1 with heap:=h',toks:=tk }:=by
  obtain ⟨vs,kk,e,r⟩:=x.dl
  refine ⟨x.toLoopSt.wr so sub w I0 w1 w2 k th,x.doff,vs,kk,k.off x.doff hD e,r.mono ⟨fun b o e q f=>⟨k.off q (fun m=>so b m o e f) e,q⟩,fun _ _ _ q=>q⟩⟩
theorem CS.push {D:Addr} {fp:List Addr} {s s1:Shared} {H1:AHeap} {L1:Loc} {acc:List AV} {A:Around} {E:Value→Shared→Prop} {y:AV} {u:Value} {Q:Value→Shared→Prop} (x:CS G env D fp H s acc H1 L1 s1) (nb:G.hB.get? D=none) (hdo:D∉ownOf env) (hfp:D∉fp) (hcl:∀ z c,env.cells.lookup z=some c→c≠D)
    (hl:acc.length < 1000000) (r:VR H1 s1.heap y u)
    (h:∀ s2,CS G env D fp H s (acc ++ [y]) H1 L1 s2→(∀ b∈fp,∀ o,s1.heap.get? b=some o→s2.heap.get? b=some o)→Q .none s2):wpAny (MD G) A (call (.builtin "list.append") [.ref D,u]) Q E s1:=by
  obtain ⟨vs,k,e,rs⟩:=x.dl
  have hz:vs.toArray.size≤sizeLine:=by rw [sizeLine_eq]; have:=rs.length; simp only [List.size_toArray]; exact om9 hl this
  refine wpAny_list_append_plain (items:=vs.toArray) (hsz:=hz) ⟨k,e⟩ fun h' p hs=>?_
  obtain ⟨k',e'⟩:=p
  refine h _ ?_ fun b m o eo=>(hs.2 b (fun z=>hfp (z ▸ m))).trans eo
  obtain ⟨I',X⟩:=aKm (own:=D :: ownOf env) x.inv (.head _) x.doff nb ⟨_,e,aPc⟩ hs ⟨_,e'⟩
  have kb:∀ b o,b∉[D]→s1.heap.get? b=some o→h'.get? b=some o:=fun b o m eo=>(hs.2 b (fun z=>m (z ▸ .head _))).trans eo
  have hL:env.locals∉[D]:=fun m=>hdo (by rw [← List.mem_singleton.mp m]; exact .head _)
  have F':=x.frm.own_off (wr:=[D]) X.mon (.of kb) hL (fun z c ec m=>hcl z c ec (List.mem_singleton.mp m))
  refine ⟨⟨I',F',x.ext.trans X,x.same.trans rfl,fun b m=>?_⟩,x.doff,vs ++ [u],k',by rw [e']; simp,(rs.append (.cons r .nil)).mono X.mon⟩
  obtain ⟨q,o,eo⟩:=x.fpv b m
  exact ⟨q,o,(hs.2 b (fun z=>hfp (z ▸ m))).trans eo⟩
noncomputable def aRg (target iter:Expr) (ifs:List Expr) (elt e:Expr) (d:Nat) (it acc:Value) (env:Env):Sem Fin:=do
  standAt iter.pos
  match ← pyNext it with
  | none=>pure (.done .next)
  | some v =>
    letOwnedTupleGo target it v
    assign target env v
    let mut ok:=true
    for c in ifs do
      if ok then ok ← isTrue c env (eval c env)
    if ok then
      (do let _ ← call (.builtin "list.append") [acc,← eval elt env])
    again (.compLoop e d it acc env)
theorem bHj {ifs:List Expr} {Q:Bool→AHeap→Prop} (h:CIf G n env ifs H L Q) {A:Around} {s:Shared} {E:Value→Shared→Prop} (a:AOk A n) (I:Inv G H s.heap) (F:FrI G env L H s.heap) :
    wpAny (MD G) A (forIn ifs true fun c r=>if r=true then do let ok ← isTrue c env (eval c env); pure (ForInStep.yield ok) else pure (ForInStep.yield r)) (PB G H s Q) E s:=by
  match ifs with
  | []=>exact wpAny_tests_nil ⟨H,St.refl I,h⟩
  | [c]=>exact wpAny_tests_one (h A s E a I F)
  | _ :: _ :: _=>exact h.elim
theorem aNm {A:Around} (a:AOk A n) {elt:Expr} {gens:List Comprehension} {scope:Scope} {pos:Pos} {d:Nat} {target iter:Expr} {ifs:List Expr} {D J:Addr} {vals:List AV} {src:AHeap→Prop} {wr fp:List Addr} {K:Nat→Heap→Prop} {Kt:List AV→AHeap→Loc→Prop}
    {R:Result→Shared→Prop} {s σ:Shared} {H1:AHeap} {L1:Loc} {acc:List AV}
    (he:∀ it ac,compTurn (.ListComp elt gens scope pos) d it ac env=aRg target iter ifs elt (.ListComp elt gens scope pos) d it ac env)
    (I0:Inv G H s.heap) (nb:G.hB.get? D=none) (hdo:D∉ownOf env) (hcl:∀ z c,env.cells.lookup z=some c→c≠D)
    (W:AWk G n J vals src wr fp K) (K0:K 0 σ.heap) (S:CS G env D fp H s acc H1 L1 σ) (hfD:D∉fp) (hfo:∀ b∈fp,b∉ownOf env) (w:∀ b∈wr,s.heap.get? b=none) (w1:env.locals∉wr) (w2:∀ x c,env.cells.lookup x=some c→c∉wr)
    (q:CV G n env target ifs elt src Kt vals acc H1 L1)
    (fin:∀ acc' H' L' σ',CS G env D [] H s acc' H' L' σ'→Kt acc' H' L'→R (.ok .next) σ'):codeAny (MD G) A (.compLoop (.ListComp elt gens scope pos) d (.ref J) (.ref D) env) R σ:=by
  have hf:∀ b∈fp,b∉D :: ownOf env:=fun b hb m=>by
    rcases List.mem_cons.mp m with e | m
    · exact hfD (e ▸ hb)
    · exact hfo b hb m
  have hDw:D∉wr:=fun m=>hfD (W.sub _ m)
  refine codeAny_loop rfl (fun k s'=>∃ i ac H' L',i≤vals.length∧k=vals.length - i∧CS G env D fp H s ac H' L' s'∧K i s'.heap∧CV G n env target ifs elt src Kt (vals.drop i) ac H' L') ?_ _ ⟨0,acc,H1,L1,Nat.zero_le _,rfl,S,K0,by simpa using q⟩
  rintro k s3 ⟨i,ac,H3,L3,hi,rfl,S3,K3,q3⟩
  show wpAny _ A ((compTurn (.ListComp elt gens scope pos) d (.ref J) (.ref D) env).onRaise (fun x=>do noteFrame x env; theTreesLotGoes x)) _ _ s3
  refine wpAny_noted ?_
  rw [he]
  unfold aRg
  refine wpAny_bind (wpAny_standAt (wpAny_bind ?_))
  by_cases hlt:i < vals.length
  · have hx:vals[i]?=some vals[i]:=by simp [hlt]
    refine W.item i vals[i] A s3 H3 _ _ a hx K3 S3.inv q3.src (fun b hb=>(S3.fpv b hb).1) fun v h4 tk r4 K4 k4 th4=>?_
    dsimp only
    have S4:=S3.wr (tk:=tk) hDw (W.soft i _ K3) W.sub w I0 w1 w2 k4 th4
    refine wpAny_bind (W.go i target v A _ _ _ K4 fun h5 K5 k5 th5=>?_)
    have S5:=S4.wr (tk:=tk) hDw (W.soft (i+1) _ K4) W.sub w I0 w1 w2 (.of k5) th5
    have r5:VR H3 h5 vals[i] v:=r4.mono ⟨fun b o e q f=>⟨k5 b o (fun m=>W.soft (i+1) _ K4 b m o e f) e,q⟩,fun _ _ _ q=>q⟩
    rw [List.drop_eq_getElem_cons hlt] at q3
    refine wpAny_bind (pao (q3.2 A _ _ v a S5.inv S5.frm r5) fun _ s6 H6 L6 t6 F6 q6=>?_)
    obtain ⟨S6,k6⟩:=S5.step hdo hf t6 F6
    refine wpAny_bind (pbo (bHj q6 a S6.inv S6.frm) fun ok s7 H7 t7 q7=>?_)
    obtain ⟨S7,k7⟩:=S6.step hdo hf t7.any (S6.frm.step t7.ext)
    have K7:K (i+1) s7.heap:=W.frame _ _ _ (W.frame _ _ _ K5 k6) k7
    cases ok with
    | false=>exact wpAny_pure ⟨rfl,vals.length - (i+1),om7 hlt,i+1,ac,H7,L6,hlt,rfl,S7,K7,q7.2 rfl⟩
    | true =>
      obtain ⟨hlen,q8⟩:=q7.1 rfl
      refine wpAny_bind (wpAny_bind (pvo (q8 A s7 _ a S7.inv S7.frm) fun y s8 yv H8 r8 t8 q9=>?_))
      obtain ⟨S8,k8⟩:=S7.step hdo hf t8.any (S7.frm.step t8.ext)
      refine wpAny_bind (S8.push nb hdo hfD hcl hlen r8 fun s9 S9 k9=>?_)
      have K9:K (i+1) s9.heap:=W.frame _ _ _ (W.frame _ _ _ K7 k8) k9
      exact wpAny_pure (wpAny_pure ⟨rfl,vals.length - (i+1),om7 hlt,i+1,ac ++ [yv],H8,L6,hlt,rfl,S9,K9,q9⟩)
  · have hi':i=vals.length:=om6 hi hlt
    subst hi'
    refine W.done A s3 H3 _ _ a K3 S3.inv q3.src fun h4 tk k4=>?_
    obtain ⟨I4,m4⟩:=aMz S3.inv (W.soft _ _ K3) (fun b hb=>(S3.fpv b (W.sub b hb)).1) (fun b hb=>by
      cases q:G.hB.get? b with
      | none=>rfl
      | some o=>have:=I0.keep b o q; rw [w b hb] at this; cases this) (.of k4)
    have F4:=S3.frm.own_off m4 (.of k4) w1 w2
    rw [List.drop_length] at q3
    obtain ⟨vs,kk,e,r⟩:=S3.dl
    exact wpAny_pure (fin ac H3 L3 _ ⟨⟨I4,F4,aNh S3.ext w (.of k4),S3.same.trans rfl,fun b hb=>nomatch hb⟩,S3.doff,vs,kk,k4 _ _ hDw e,r.mono m4⟩ q3.2)
theorem aFo {A:Around} {elt:Expr} {gens:List Comprehension} {scope:Scope} {pos:Pos} {d:Nat} {target iter:Expr} {ifs:List Expr} {it acc:Value} {R:Result→Shared→Prop} {s:Shared} (hg:gens[d]?=some ⟨target,iter,ifs,0⟩)
    (h0:codeAny (MD G) A (.compLoop (.ListComp elt gens scope pos) d it acc env) R s)
    (h:∀ (Q:Value→Shared→Prop) E,Q it s→wpAny (MD G) A (pyIter it) Q E s):codeAny (MD G) A (.compStart (.ListComp elt gens scope pos) d it acc env) R s:=by
  refine codeAny_of_tree ?_
  show wpAny _ _ ((compStart (.ListComp elt gens scope pos) d it acc env).onRaise (fun x=>do noteFrame x env; standAt theWindowsPlace)) _ _ s
  refine wpAny_notedAt ?_
  unfold compStart
  have e:clausesOf (.ListComp elt gens scope pos)=gens:=rfl
  rw [e,hg]
  show wpAny _ _ (ask >>= _) _ _ s
  refine wpAny_bind (wpAny_askSetting (wpAny_ite ?_))
  split
  · exact wpAny_bind (wpAny_pure (wpAny_pure (And.intro rfl h0)))
  · refine wpAny_bind (wpAny_rule ?_)
    show wpAny _ _ (standAt iter.pos >>= _) _ _ s
    exact wpAny_bind (wpAny_standAt (wpAny_bind (h _ _ (wpAny_pure (And.intro rfl h0)))))
theorem aTs {h:Heap} {D:Addr} {acc:List AV} {vs:List Value} {k:Nat} (I:Inv G H h) (hD:H D=none) (nb:G.hB.get? D=none) (e:h.get? D=some (lstO vs k)) (r:VRs H h acc vs):Inv G (H.set D (.list acc)) h:=by
  have m:Mon H h (H.set D (.list acc)) h:=⟨fun b o eb q f=>by
    have hb:b≠D:=fun z=>by rw [z,e] at eb; cases eb; exact aPc f
    exact ⟨eb,by rw [AHeap.set_ne hb]; exact q⟩,fun b x f q=>by rw [AHeap.set_ne (fun z=>by rw [z,hD] at q; cases q)]; exact q⟩
  refine ⟨fun b o eb=>?_,fun b o eb=>?_⟩
  · obtain ⟨q1,q2⟩:=I.base b o eb
    exact ⟨q1,by rw [AHeap.set_ne (fun z=>by rw [z,nb] at eb; cases eb)]; exact q2⟩
  · by_cases z:b=D
    · subst z; rw [AHeap.set_same] at eb; cases eb; exact ⟨vs,k,e,r.mono m⟩
    · rw [AHeap.set_ne z] at eb; exact (I.obj b o eb).mono m fun _ x=>x
theorem bHc {own:List Addr} {H0:AHeap} {h0 h:Heap} {D:Addr} {o:AObj} (X:Ext own H0 h0 H h) (hD:h0.get? D=none) (hD':H0 D=none):Ext own H0 h0 (H.set D o) h :=
  ⟨X.keep,X.seq,fun b x e q=>by rw [AHeap.set_ne (fun z=>by rw [z,hD] at e; cases e)]; exact X.off b x e q,X.there,fun b x e=>let ⟨x',e'⟩:=X.dom b x e; aDb b x' e',fun b x f q=>by rw [AHeap.set_ne (fun z=>by rw [z,hD'] at q; cases q)]; exact X.frz b x f q⟩
structure CF (G:Cx) (env cenv:Env) (D C:Addr) (fp wr:List Addr) (s:Shared):Prop where
  loc:cenv.locals=C
  nb:G.hB.get? D=none
  dNew:s.heap.get? D=none
  cNew:s.heap.get? C=none
  oNew:∀ b∈ownOf cenv,s.heap.get? b=none
  hdo:D∉ownOf cenv
  hcl:∀ z c,cenv.cells.lookup z=some c→c≠D
  hfD:D∉fp
  hfo:∀ b∈fp,b∉ownOf cenv
  w1:cenv.locals∉wr
  w2:∀ x c,cenv.cells.lookup x=some c→c∉wr
theorem aJj {A:Around} {E:Value→Shared→Prop} {s s2:Shared} {J:Addr} {vals:List AV} {src:AHeap→Prop} {wr fp:List Addr} {K:Nat→Heap→Prop} {H2:AHeap} {scope:Scope} {cl:List (Str × Addr)} {T:Env→Value→Code} {RR:Value→Addr→Result→Shared→Prop}
    (I:Inv G H s.heap) (F:FrI G env L H s.heap) (P:PIt G n H s J vals src wr fp K H2 s2) (hk:scope.kind=.function) (hnd:(scope.names.map (·.1)).Nodup) (hcl:closureFor scope env=pure cl)
    (h:∀ C D σ,CF G env (cE scope cl C env) D C fp wr s→CS G (cE scope cl C env) D fp H s [] H2 (compL scope L) σ→K 0 σ.heap→codeAny (MD G) A (T (cE scope cl C env) (.ref D)) (RR (.ref D) C) σ) :
    wpAny (MD G) A (newList []) (fun acc s3=>wpAny (MD G) A (newFunctionEnv scope env.globals cl [] env.qual none .none (some env)) (fun cenv s4 =>
      codeAny (MD G) A (T { cenv with scope:=relabel scope env } acc) (RR acc cenv.locals) s4) E s3) E s2:=by
  refine wpAny_newList (hsz:=Nat.zero_le _) (aJs ?_)
  dsimp only
  have F2:=F.step P.st.ext
  have k1:=aAb s2.heap (lstO [] 0)
  have I3:=P.st.inv.of_keep k1
  have F3:=F2.step (Ext.of_keep (H:=H2) k1)
  have hD2:(s2.heap.push (lstO [] 0)).get? s2.heap.objs.size=some (lstO [] 0):=Heap.get?_push_size _ rfl
  have F4:=aUi I3 F3 hk hnd hcl
  have k2:∀ b o,(s2.heap.push (lstO [] 0)).get? b=some o→(pushCells ((s2.heap.push (lstO [] 0)).push { cls:=.type "dict",data:=.dict #[] }) scope.names).get? b=some o:=fun b o e=>pushCells_keeps _ _ b o (Heap.get?_push_of_some _ e)
  have sz:(s2.heap.push (lstO [] 0)).objs.size=s2.heap.objs.size+1:=Heap.size_push ..
  have old:∀ b o,s.heap.get? b=some o→b < s2.heap.objs.size:=fun b o e=>by obtain ⟨o',e'⟩:=P.st.ext.there b o e; exact Heap.lt_size e'
  have newof:∀ b,s2.heap.objs.size≤b→s.heap.get? b=none:=fun b hb=>by
    cases q:s.heap.get? b with
    | none=>rfl
    | some o=>exact absurd (old b o q) (Nat.not_lt.mpr hb)
  have cells:∀ z c,(cE scope cl (s2.heap.push (lstO [] 0)).objs.size env).cells.lookup z=some c→(s2.heap.push (lstO [] 0)).objs.size < c∨(env.cells.lookup z=some c∧c < s2.heap.objs.size):=fun z c e=>by
    rcases aCv _ _ _ (mem_of_lookup e) with q | ⟨q,_⟩
    · obtain ⟨q1,q2⟩:=aHx hcl q
      obtain ⟨o,eo,_⟩:=F.cell_soft q2
      exact .inr ⟨q2,old c o eo⟩
    · exact .inl q
  have fpl:∀ b∈fp,b < s2.heap.objs.size:=fun b hb=>let ⟨_,_,o,e⟩:=P.fpv b hb; Heap.lt_size e
  have nbD:∀ b,s.heap.get? b=none→G.hB.get? b=none:=fun b hb=>by
    cases q:G.hB.get? b with
    | none=>rfl
    | some o=>have:=I.keep b o q; rw [hb] at this; cases this
  refine h _ s2.heap.objs.size _ ⟨rfl,nbD _ (newof _ (Nat.le_refl _)),newof _ (Nat.le_refl _),newof _ (by rw [sz]; exact Nat.le_succ _),fun b m=>?_,fun m=>?_,fun z c e=>?_,fun m=>Nat.lt_irrefl _ (fpl _ m),fun b m m'=>?_,fun m=>?_,fun z c e m=>?_⟩ ?_ ?_
  · rcases aCk m with rfl | ⟨x,e,l⟩
    · exact newof _ (by show _≤(s2.heap.push (lstO [] 0)).objs.size; rw [sz]; exact Nat.le_succ _)
    · have l':(s2.heap.push (lstO [] 0)).objs.size < b:=l
      exact newof _ (by rw [sz] at l'; exact om8 l')
  · rcases aCk m with e | ⟨x,e,l⟩
    · have e':s2.heap.objs.size=(s2.heap.push (lstO [] 0)).objs.size:=e
      rw [sz] at e'; exact Nat.succ_ne_self _ e'.symm
    · have l':(s2.heap.push (lstO [] 0)).objs.size < s2.heap.objs.size:=l
      rw [sz] at l'; exact Nat.lt_irrefl _ (Nat.lt_trans (Nat.lt_succ_self _) l')
  · rcases cells z c e with q | ⟨_,q⟩
    · rw [sz] at q; exact Nat.ne_of_gt (Nat.lt_trans (Nat.lt_succ_self _) q)
    · exact Nat.ne_of_lt q
  · have:=fpl b m
    rcases aCk m' with e | ⟨x,e,l⟩
    · have e':b=(s2.heap.push (lstO [] 0)).objs.size:=e
      rw [sz] at e'; rw [e'] at this; exact Nat.lt_irrefl _ (Nat.lt_trans (Nat.lt_succ_self _) this)
    · have l':(s2.heap.push (lstO [] 0)).objs.size < b:=l
      rw [sz] at l'; exact Nat.lt_irrefl _ (Nat.lt_trans (Nat.lt_trans (Nat.lt_succ_self _) l') this)
  · have:=fpl _ (P.awk.sub _ m)
    have e':(cE scope cl (s2.heap.push (lstO [] 0)).objs.size env).locals=(s2.heap.push (lstO [] 0)).objs.size:=rfl
    rw [e',sz] at this; exact Nat.lt_irrefl _ (Nat.lt_trans (Nat.lt_succ_self _) this)
  · have:=fpl _ (P.awk.sub _ m)
    rcases cells z c e with q | ⟨q,_⟩
    · rw [sz] at q; exact Nat.lt_irrefl _ (Nat.lt_trans (Nat.lt_trans (Nat.lt_succ_self _) q) this)
    · exact P.off_own (P.awk.sub _ m) (F.cell_soft q)
  · have kk:∀ b o,s2.heap.get? b=some o→(pushCells ((s2.heap.push (lstO [] 0)).push { cls:=.type "dict",data:=.dict #[] }) scope.names).get? b=some o:=fun b o e=>k2 b o (k1 b o e)
    refine ⟨⟨I3.of_keep k2,F4,(P.st.ext.trans (Ext.of_keep kk)).any,P.st.same.trans rfl,fun b m=>?_⟩,P.st.inv.fresh',[],0,k2 _ _ hD2,.nil⟩
    obtain ⟨_,q,o,e⟩:=P.fpv b m
    exact ⟨q,o,kk b o e⟩
  · exact P.awk.frame 0 s2.heap _ P.k0 fun b _ o e=>k2 b o (k1 b o e)
theorem aNo {cenv:Env} {D C:Addr} {fp wr:List Addr} {s σ:Shared} {acc:List AV} {H':AHeap} {L':Loc} (I:Inv G H s.heap) (c:CF G env cenv D C fp wr s) (S:CS G cenv D [] H s acc H' L' σ) :
    St G [] H s (H'.set D (.list acc)) σ∧∃ m,σ.heap.Ns C m:=by
  obtain ⟨vs,k,e,r⟩:=S.dl
  have X:Ext [] H s.heap H' σ.heap:=S.ext.new fun b m=>by
    rcases List.mem_cons.mp m with z | m
    · rw [z]; exact c.dNew
    · exact c.oNew b m
  obtain ⟨m,hn,_⟩:=S.frm.ns
  exact ⟨⟨aTs S.inv S.doff c.nb e r,bHc X c.dNew (I.fresh c.dNew),S.same⟩,m,c.loc ▸ hn⟩
theorem bDx {own:List Addr} {s σ:Shared} {H':AHeap} {C:Addr} {h':Heap} {m:Str→Option Value} (T:St G own H s H' σ) (I:Inv G H s.heap) (hC:s.heap.get? C=none) (hC':H' C=none) (hn:σ.heap.Ns C m) (hs:Heap.SameBut C σ.heap h') :
    St G own H s H' { σ with heap:=h' }∧Mon H' σ.heap H' h'∧∀ b o,b∉[C]→σ.heap.get? b=some o→h'.get? b=some o:=by
  obtain ⟨o,es,ep,e,d,_⟩:=hn
  have nb:G.hB.get? C=none:=by
    cases q:G.hB.get? C with
    | none=>rfl
    | some o=>have:=I.keep C o q; rw [hC] at this; cases this
  have kb:∀ b o,b∉[C]→σ.heap.get? b=some o→h'.get? b=some o:=fun b o m eo=>(hs.2 b (fun z=>m (z ▸ .head _))).trans eo
  obtain ⟨I',m'⟩:=aMz (wr:=[C]) T.inv (fun b m o' eo=>by rw [List.mem_singleton.mp m,e] at eo; cases eo; exact aKp d) (fun b m=>by rw [List.mem_singleton.mp m]; exact hC') (fun b m=>by rw [List.mem_singleton.mp m]; exact nb) (.of kb)
  exact ⟨⟨I',aNh T.ext (wr:=[C]) (fun b m=>by rw [List.mem_singleton.mp m]; exact hC) (.of kb),T.same.trans rfl⟩,m',kb⟩
structure CScope (env:Env) (scope:Scope) (cl:List (Str × Addr)):Prop where
  kind:scope.kind=.function
  nodup:(scope.names.map (·.1)).Nodup
  clos:closureFor scope env=pure cl
theorem CScope.names {scope:Scope} {cl:List (Str × Addr)} (c:CScope env scope cl):∀ x∈scope.names,x.2=.local→scope.names.lookup x.1=some .local:=fun x hx h=>by
  rw [aBm c.nodup (x:=x.1) (k:=x.2) hx,h]
noncomputable def aSh (G:Cx) (n:Nat) (elt:Expr) (gens:List Comprehension) (scope:Scope) (pos:Pos) (env:Env) (X:(AHeap→Prop)→(List AV→AHeap→Loc→Prop)→List AV→List AV→AHeap→Loc→Prop):Prop :=
  ∀ {A:Around} (_:AOk A n) {D J:Addr} {vals:List AV} {src:AHeap→Prop} {wr fp:List Addr} {K:Nat→Heap→Prop} {Kt:List AV→AHeap→Loc→Prop} {R:Result→Shared→Prop} {s σ:Shared} {H H1:AHeap} {L1:Loc} {acc:List AV}
    (_:Inv G H s.heap) (_:G.hB.get? D=none) (_:D∉ownOf env) (_:∀ z c,env.cells.lookup z=some c→c≠D)
    (_:AWk G n J vals src wr fp K) (_:K 0 σ.heap) (_:CS G env D fp H s acc H1 L1 σ) (_:D∉fp) (_:∀ b∈fp,b∉ownOf env) (_:∀ b∈wr,s.heap.get? b=none) (_:env.locals∉wr) (_:∀ x c,env.cells.lookup x=some c→c∉wr)
    (_:X src Kt vals acc H1 L1)
    (_:∀ acc' H' L' σ',CS G env D [] H s acc' H' L' σ'→Kt acc' H' L'→R (.ok .next) σ'),codeAny (MD G) A (.compLoop (.ListComp elt gens scope pos) 0 (.ref J) (.ref D) env) R σ
theorem aRf {elt target iter:Expr} {ifs:List Expr} {scope:Scope} {pos:Pos}:aSh G n elt [⟨target,iter,ifs,0⟩] scope pos env (CV G n env target ifs elt):=by
  intro A a D J vals src wr fp K Kt R s σ H H1 L1 acc I0 nb hdo hcl W K0 S hfD hfo w w1 w2 q fin
  exact aNm a (target:=target) (iter:=iter) (ifs:=ifs) (fun _ _=>rfl) I0 nb hdo hcl W K0 S hfD hfo w w1 w2 q fin
theorem aNq (elt t0 i0 t1 i1:Expr) (ifs1:List Expr) (scope:Scope) (pos:Pos) (it acc:Value) (env:Env) :
    compTurn (.ListComp elt [⟨t0,i0,[],0⟩,⟨t1,i1,ifs1,0⟩] scope pos) 0 it acc env=(do
      standAt i0.pos
      match ← pyNext it with
      | none=>pure (.done .next)
      | some v =>
        letOwnedTupleGo t0 it v
        assign t0 env v
        let x ← eval i1 env
        standAt i1.pos
        let x ← foldedSetIterable i1 env x
        let _ ← runOwn (.compStart (.ListComp elt [⟨t0,i0,[],0⟩,⟨t1,i1,ifs1,0⟩] scope pos) 1 (← holding [x] (pyIter x)) acc env) env
        again (.compLoop (.ListComp elt [⟨t0,i0,[],0⟩,⟨t1,i1,ifs1,0⟩] scope pos) 0 it acc env)):=by rfl
theorem aRe {elt t0 i0 t1 i1:Expr} {ifs1:List Expr} {scope:Scope} {pos:Pos} (hs:∀ x,foldedSetIterable i1 env x=pure x):aSh G n elt [⟨t0,i0,[],0⟩,⟨t1,i1,ifs1,0⟩] scope pos env (CV2 G n env t0 i1 t1 ifs1 elt):=by
  intro A a D J vals src wr fp K Kt R s σ H H1 L1 acc I0 nb hdo hcl W K0 S hfD hfo w w1 w2 q fin
  have hf:∀ b∈fp,b∉D :: ownOf env:=fun b hb m=>by
    rcases List.mem_cons.mp m with e | m
    · exact hfD (e ▸ hb)
    · exact hfo b hb m
  have hDw:D∉wr:=fun m=>hfD (W.sub _ m)
  refine codeAny_loop rfl (fun k s'=>∃ i ac H' L',i≤vals.length∧k=vals.length - i∧CS G env D fp H s ac H' L' s'∧K i s'.heap∧CV2 G n env t0 i1 t1 ifs1 elt src Kt (vals.drop i) ac H' L') ?_ _ ⟨0,acc,H1,L1,Nat.zero_le _,rfl,S,K0,by simpa using q⟩
  rintro k s3 ⟨i,ac,H3,L3,hi,rfl,S3,K3,q3⟩
  show wpAny _ A ((compTurn (.ListComp elt [⟨t0,i0,[],0⟩,⟨t1,i1,ifs1,0⟩] scope pos) 0 (.ref J) (.ref D) env).onRaise (fun x=>do noteFrame x env; theTreesLotGoes x)) _ _ s3
  refine wpAny_noted ?_
  rw [aNq]
  refine wpAny_bind (wpAny_standAt (wpAny_bind ?_))
  by_cases hlt:i < vals.length
  · have hx:vals[i]?=some vals[i]:=by simp [hlt]
    refine W.item i vals[i] A s3 H3 _ _ a hx K3 S3.inv q3.src (fun b hb=>(S3.fpv b hb).1) fun v h4 tk r4 K4 k4 th4=>?_
    dsimp only
    have S4:=S3.wr (tk:=tk) hDw (W.soft i _ K3) W.sub w I0 w1 w2 k4 th4
    refine wpAny_bind (W.go i t0 v A _ _ _ K4 fun h5 K5 k5 th5=>?_)
    have S5:=S4.wr (tk:=tk) hDw (W.soft (i+1) _ K4) W.sub w I0 w1 w2 (.of k5) th5
    have r5:VR H3 h5 vals[i] v:=r4.mono ⟨fun b o e q f=>⟨k5 b o (fun m=>W.soft (i+1) _ K4 b m o e f) e,q⟩,fun _ _ _ q=>q⟩
    rw [List.drop_eq_getElem_cons hlt] at q3
    refine wpAny_bind (pao (q3.2 A _ _ v a S5.inv S5.frm r5) fun _ s6 H6 L6 t6 F6 q6=>?_)
    obtain ⟨S6,k6⟩:=S5.step hdo hf t6 F6
    refine wpAny_bind (wpAny_mono (q6 A s6 _ a S6.inv S6.frm) (fun x s7 h7=>wpAny_bind (wpAny_standAt (wpAny_bind (wpAny_of_eq (hs x) (wpAny_bind (wpAny_holding (wpAny_mono h7 (fun it s8 hh=>hh.rec fun J' vals' src' wr' fp' K' H8 e8 P q8=>?_) fun _ _ e=>e))))))) fun _ _ e=>e)
    subst e8
    obtain ⟨S8,k8⟩:=S6.step hdo hf P.st.any (S6.frm.step P.st.ext)
    -- the inner loop,from s6 on
    obtain ⟨vs6,kk6,e6,r6⟩:=S6.dl
    have hfD':D∉fp':=fun m=>P.off_own m ⟨_,e6,aPc⟩
    have hfo':∀ b∈fp',b∉ownOf env:=fun b m m'=>P.off_own m (S6.frm.own_soft m')
    have S8':CS G env D fp' H6 s6 ac H8 L6 s8:=⟨⟨S8.inv,S8.frm,P.st.ext.any,P.st.same,fun b m=>(P.fpv b m).2⟩,S8.doff,S8.dl⟩
    refine wpAny_bind (wpAny_runOwn (aFo (target:=t1) (iter:=i1) (ifs:=ifs1) rfl ?_ fun Q' E' hq=>P.awk.self 0 _ s8 E' Q' P.k0 hq))
    refine aNm a (target:=t1) (iter:=i1) (ifs:=ifs1) (fun it ac=>rfl) S6.inv nb hdo hcl P.awk P.k0 S8' hfD' hfo' P.wrv (fun m=>P.off_own (P.awk.sub _ m) S6.frm.loc_soft) (fun x c e m=>P.off_own (P.awk.sub _ m) (S6.frm.cell_soft e)) q8 fun acc' H' L' σ' S' kt=>?_
    have S9:CS G env D fp H s acc' H' L' σ':=by
      obtain ⟨Z,_⟩:=S6.toLoopSt.step hf S'.inv S'.frm S'.ext S'.same
      exact ⟨Z,S'.doff,S'.dl⟩
    have k9:∀ b∈fp,∀ o,s6.heap.get? b=some o→σ'.heap.get? b=some o:=fun b hb o e=>S'.ext.keep b o e (S6.fpv b hb).1 (hf b hb)
    have K9:K (i+1) σ'.heap:=W.frame _ _ _ (W.frame _ _ _ K5 k6) k9
    exact wpAny_pure ⟨rfl,vals.length - (i+1),om7 hlt,i+1,acc',H',L',hlt,rfl,S9,K9,kt⟩
  · have hi':i=vals.length:=om6 hi hlt
    subst hi'
    refine W.done A s3 H3 _ _ a K3 S3.inv q3.src fun h4 tk k4=>?_
    obtain ⟨I4,m4⟩:=aMz S3.inv (W.soft _ _ K3) (fun b hb=>(S3.fpv b (W.sub b hb)).1) (fun b hb=>by
      cases q:G.hB.get? b with
      | none=>rfl
      | some o=>have:=I0.keep b o q; rw [w b hb] at this; cases this) (.of k4)
    have F4:=S3.frm.own_off m4 (.of k4) w1 w2
    rw [List.drop_length] at q3
    obtain ⟨vs,kk,e,r⟩:=S3.dl
    exact wpAny_pure (fin ac H3 L3 _ ⟨⟨I4,F4,aNh S3.ext w (.of k4),S3.same.trans rfl,fun b hb=>nomatch hb⟩,S3.doff,vs,kk,k4 _ _ hDw e,r.mono m4⟩ q3.2)
theorem aNn {elt target iter:Expr} {ifs:List Expr} {rest:List Comprehension} {scope:Scope} {pos:Pos} {cl:List (Str × Addr)} {Q:AV→AHeap→Prop} (c:CScope env scope cl)
    {X:Env→(AHeap→Prop)→(List AV→AHeap→Loc→Prop)→List AV→List AV→AHeap→Loc→Prop} (hX:∀ C,aSh G n elt (⟨target,iter,ifs,0⟩ :: rest) scope pos (cE scope cl C env) (X (cE scope cl C env)))
    (h:WI G n env iter H L fun vals src H1=>∀ C,X (cE scope cl C env) src (fun acc H2 _=>∀ D,H2 D=none→Q (.ref D) (H2.set D (.list acc))) vals [] H1 (compL scope L))
    (hs:∀ x,foldedSetIterable iter env x=pure x):WE G n env (.ListComp elt (⟨target,iter,ifs,0⟩ :: rest) scope pos) H L Q:=fun A s E a I F=>by
  rw [eval_ListComp]
  refine wpAny_comprehension_free (use:=none) rfl hs c.clos c.kind c.names (wpAny_mono (h A s _ a I F) (fun x s1 h1=>wpAny_mono h1 (fun it s2 hh=>hh.rec fun J vals src wr fp K H2 e P q=>?_) fun _ _ e=>e) fun _ _ e=>e)
  subst e
  refine aJj (T:=fun cenv acc=>.compStart (.ListComp elt (⟨target,iter,ifs,0⟩ :: rest) scope pos) 0 (.ref J) acc cenv) (RR:=fun acc C=>compPost (MD G) A E none (PV G H s Q) acc C) I F P c.kind c.nodup c.clos fun C D σ cf S K0=>?_
  refine aFo rfl ?_ fun Q' E' hq=>P.awk.self 0 A σ E' Q' K0 hq
  refine hX C a I cf.nb cf.hdo cf.hcl P.awk K0 S cf.hfD cf.hfo P.wrv cf.w1 cf.w2 (q C) fun acc H' L' σ' S' kt=>?_
  obtain ⟨T,m,hn⟩:=aNo I cf S'
  have hC':(H'.set D (.list acc)) C=none:=by
    rw [AHeap.set_ne (fun z=>cf.hdo (by rw [← z,← cf.loc]; exact .head _))]
    have:=S'.frm.offL; rw [cf.loc] at this; exact this
  refine ⟨m,hn,fun h' hs'=>?_⟩
  obtain ⟨T',_,_⟩:=bDx T I cf.cNew hC' hn hs'
  exact ⟨.ref D,_,.val _,T',kt D S'.doff⟩
theorem aHw {elt target iter:Expr} {ifs:List Expr} {rest:List Comprehension} {scope:Scope} {pos spos py:Pos} {y:Str} {cl:List (Str × Addr)} {Q:AFl→AHeap→Loc→Prop} (c:CScope env scope cl)
    {X:Env→(AHeap→Prop)→(List AV→AHeap→Loc→Prop)→List AV→List AV→AHeap→Loc→Prop} (hX:∀ C,aSh G n elt (⟨target,iter,ifs,0⟩ :: rest) scope pos (cE scope cl C env) (X (cE scope cl C env)))
    (hsw:swapsWith (.ListComp elt (⟨target,iter,ifs,0⟩ :: rest) scope pos) (some (.Name y py)) spos.line env=pure true)
    (h:WI G n env iter H L fun vals src H1=>∀ C,X (cE scope cl C env) src (fun acc H2 _=>∀ D,H2 D=none→AW G n env (.Name y py) (.ref D) (H2.set D (.list acc)) L fun H3 L3=>Q .next H3 L3) vals [] H1 (compL scope L))
    (hs:∀ x,foldedSetIterable iter env x=pure x):WS G n env (.Assign [.Name y py] (.ListComp elt (⟨target,iter,ifs,0⟩ :: rest) scope pos) spos) H L Q:=fun A s E a I F=>by
  rw [exec_Assign_Name_used _ _ _ _ hsw]
  refine wpAny_bind (wpAny_standAt (wpAny_bind ?_))
  show wpAny _ A (do let _ ← comprehension (.ListComp elt (⟨target,iter,ifs,0⟩ :: rest) scope pos) scope env _ (newList []) false (eval iter env) (some (assign (.Name y py) env))) _ _ s
  refine wpAny_bind (wpAny_mono (?_:wpAny _ A _ (fun _ s'=>PS G env H s Q .next s') E s) (fun _ s' hq=>wpAny_pure (wpAny_pure hq)) fun _ _ e=>e)
  refine wpAny_comprehension_free (use:=some (assign (.Name y py) env)) rfl hs c.clos c.kind c.names (wpAny_mono (h A s _ a I F) (fun x s1 h1=>wpAny_mono h1 (fun it s2 hh=>hh.rec fun J vals src wr fp K H2 e P q=>?_) fun _ _ e=>e) fun _ _ e=>e)
  subst e
  refine aJj (T:=fun cenv acc=>.compStart (.ListComp elt (⟨target,iter,ifs,0⟩ :: rest) scope pos) 0 (.ref J) acc cenv) (RR:=fun acc C=>compPost (MD G) A E (some (assign (.Name y py) env)) (fun _ s'=>PS G env H s Q .next s') acc C) I F P c.kind c.nodup c.clos fun C D σ cf S K0=>?_
  refine aFo rfl ?_ fun Q' E' hq=>P.awk.self 0 A σ E' Q' K0 hq
  refine hX C a I cf.nb cf.hdo cf.hcl P.awk K0 S cf.hfD cf.hfo P.wrv cf.w1 cf.w2 (q C) fun acc H' L' σ' S' kt=>?_
  obtain ⟨T,m,hn⟩:=aNo I cf S'
  have hC':(H'.set D (.list acc)) C=none:=by
    rw [AHeap.set_ne (fun z=>cf.hdo (by rw [← z,← cf.loc]; exact .head _))]
    have:=S'.frm.offL; rw [cf.loc] at this; exact this
  have hCo:C∉ownOf env:=fun m=>by obtain ⟨o,e,_⟩:=F.own_soft m; rw [cf.cNew] at e; cases e
  refine pao (kt D S'.doff A σ' E (.ref D) a T.inv (F.step T.ext) (.val _)) fun _ s3 H3 L3 t3 F3 q3=>?_
  obtain ⟨o,es,ep,e,r⟩:=hn
  have e3:=t3.ext.keep _ _ e hC' hCo
  refine ⟨m,⟨o,es,ep,e3,r⟩,fun h' hs'=>?_⟩
  obtain ⟨T',m',kb⟩:=bDx (T.any.trans t3) I cf.cNew (t3.ext.off _ _ e hC') ⟨o,es,ep,e3,r⟩ hs'
  exact ⟨.next,H3,L3,.next,T',F3.own_off m' (.of kb) (fun m=>hCo (by rw [← List.mem_singleton.mp m]; exact .head _)) (fun x c ec m=>by
    obtain ⟨o',e',_⟩:=F.cell_soft ec
    rw [List.mem_singleton.mp m,cf.cNew] at e'; cases e'),q3⟩
theorem bFg {elt target iter:Expr} {ifs:List Expr} {scope:Scope} {pos:Pos} {cl:List (Str × Addr)} {Q:AV→AHeap→Prop} (c:CScope env scope cl)
    (h:WI G n env iter H L fun vals src H1=>∀ C,CV G n (cE scope cl C env) target ifs elt src (fun acc H2 _=>∀ D,H2 D=none→Q (.ref D) (H2.set D (.list acc))) vals [] H1 (compL scope L))
    (hs:∀ x,foldedSetIterable iter env x=pure x):WE G n env (.ListComp elt [⟨target,iter,ifs,0⟩] scope pos) H L Q :=
  aNn c (X:=fun cenv=>CV G n cenv target ifs elt) (fun C=>aRf) h hs
theorem aZw {elt t0 i0 t1 i1:Expr} {ifs1:List Expr} {scope:Scope} {pos:Pos} {cl:List (Str × Addr)} {Q:AV→AHeap→Prop} (c:CScope env scope cl)
    (h:WI G n env i0 H L fun vals src H1=>∀ C,CV2 G n (cE scope cl C env) t0 i1 t1 ifs1 elt src (fun acc H2 _=>∀ D,H2 D=none→Q (.ref D) (H2.set D (.list acc))) vals [] H1 (compL scope L))
    (hs:∀ x,foldedSetIterable i0 env x=pure x) (hs1:∀ C x,foldedSetIterable i1 (cE scope cl C env) x=pure x):WE G n env (.ListComp elt [⟨t0,i0,[],0⟩,⟨t1,i1,ifs1,0⟩] scope pos) H L Q :=
  aNn c (X:=fun cenv=>CV2 G n cenv t0 i1 t1 ifs1 elt) (fun C=>aRe (hs1 C)) h hs
theorem bFb {elt target iter:Expr} {ifs:List Expr} {scope:Scope} {pos spos py:Pos} {y:Str} {cl:List (Str × Addr)} {Q:AFl→AHeap→Loc→Prop} (c:CScope env scope cl)
    (hsw:swapsWith (.ListComp elt [⟨target,iter,ifs,0⟩] scope pos) (some (.Name y py)) spos.line env=pure true)
    (h:WI G n env iter H L fun vals src H1=>∀ C,CV G n (cE scope cl C env) target ifs elt src (fun acc H2 _=>∀ D,H2 D=none→AW G n env (.Name y py) (.ref D) (H2.set D (.list acc)) L fun H3 L3=>Q .next H3 L3) vals [] H1 (compL scope L))
    (hs:∀ x,foldedSetIterable iter env x=pure x):WS G n env (.Assign [.Name y py] (.ListComp elt [⟨target,iter,ifs,0⟩] scope pos) spos) H L Q :=
  aHw c (X:=fun cenv=>CV G n cenv target ifs elt) (fun C=>aRf) hsw h hs
theorem aZq {elt t0 i0 t1 i1:Expr} {ifs1:List Expr} {scope:Scope} {pos spos py:Pos} {y:Str} {cl:List (Str × Addr)} {Q:AFl→AHeap→Loc→Prop} (c:CScope env scope cl)
    (hsw:swapsWith (.ListComp elt [⟨t0,i0,[],0⟩,⟨t1,i1,ifs1,0⟩] scope pos) (some (.Name y py)) spos.line env=pure true)
    (h:WI G n env i0 H L fun vals src H1=>∀ C,CV2 G n (cE scope cl C env) t0 i1 t1 ifs1 elt src (fun acc H2 _=>∀ D,H2 D=none→AW G n env (.Name y py) (.ref D) (H2.set D (.list acc)) L fun H3 L3=>Q .next H3 L3) vals [] H1 (compL scope L))
    (hs:∀ x,foldedSetIterable i0 env x=pure x) (hs1:∀ C x,foldedSetIterable i1 (cE scope cl C env) x=pure x):WS G n env (.Assign [.Name y py] (.ListComp elt [⟨t0,i0,[],0⟩,⟨t1,i1,ifs1,0⟩] scope pos) spos) H L Q :=
  aHw c (X:=fun cenv=>CV2 G n cenv t0 i1 t1 ifs1 elt) (fun C=>aRe (hs1 C)) hsw h hs
end
end
section
noncomputable def aBp:List (Str × AV)→Loc→Loc
  | [],L=>L
  | (x,v) :: r,L=>aBp r (L.set x v)
section
variable {G:Cx} {n:Nat} {env:Env} {H:AHeap} {L:Loc}
theorem bEw {names:List Str} {vs:List Value} {p:Str→Bool} (h:names.all p=true):((names.zip vs).all fun y=>p y.1)=true:=by
  rw [List.all_eq_true] at h ⊢
  intro x hx
  exact h x.1 (List.of_mem_zip (a:=x.1) (b:=x.2) hx).1
theorem aQu {h:Heap} {a:AV} {u:Value} {x y:Str} {av:AV} {m:Str→Option Value} {L:Loc} (r:VR H h a u) (q:L x=some av→∃ v,m x=some v∧VR H h av v) (e:L.set y a x=some av):∃ v,(if x=y then some u else m x)=some v∧VR H h av v:=by
  by_cases hx:x=y
  · cases hx
    rw [Loc.set_same] at e; cases e
    exact ⟨u,if_pos rfl,r⟩
  · rw [Loc.set_ne hx] at e
    obtain ⟨v,e1,e2⟩:=q e
    exact ⟨v,(if_neg hx).trans e1,e2⟩
theorem bCi {h:Heap} (kindOf:Str→Option NameKind) {names:List Str} {args:List AV} {vs:List Value} (r:VRs H h args vs) {m cm:Str→Option Value} {L:Loc}
    (h1:∀ x av,kindOf x=some .local→L x=some av→∃ v,m x=some v∧VR H h av v) (h2:∀ x av,kindOf x≠some .local→L x=some av→∃ v,cm x=some v∧VR H h av v) :
    (∀ x av,kindOf x=some .local→aBp (names.zip args) L x=some av→∃ v,bindL kindOf (names.zip vs) m x=some v∧VR H h av v)∧(∀ x av,kindOf x≠some .local→aBp (names.zip args) L x=some av→∃ v,bindC kindOf (names.zip vs) cm x=some v∧VR H h av v):=by
  induction names generalizing args vs m cm L with
  | nil=>exact ⟨h1,h2⟩
  | cons y ns ih =>
    cases r with
    | nil=>exact ⟨h1,h2⟩
    | @cons a u l us r rs =>
      refine ih (m:=if kindOf y=some .local then fun z=>if z=y then some u else m z else m) (cm:=if kindOf y=some .local then cm else fun z=>if z=y then some u else cm z) (L:=L.set y a) rs (fun x av hk e=>?_) (fun x av hk e=>?_)
      · by_cases hy:kindOf y=some .local
        · rw [if_pos hy]; exact aQu r (h1 x av hk) e
        · rw [if_neg hy]; exact h1 x av hk ((Loc.set_ne fun (z:x=y)=>hy (z ▸ hk)).symm.trans e)
      · by_cases hy:kindOf y=some .local
        · rw [if_pos hy]; exact h2 x av hk ((Loc.set_ne fun (z:x=y)=>hk (z ▸ hy)).symm.trans e)
        · rw [if_neg hy]; exact aQu r (h2 x av hk) e
noncomputable def fEnv (fd:FuncData) (f:Addr) (C:Addr):Env:=callEnvC fd C f
noncomputable def Body (G:Cx) (n:Nat) (fd:FuncData) (f:Addr) (body:List Stmt) (names:List Str) (args:List AV) (H:AHeap) (Q:AV→AHeap→Prop):Prop :=
  ∀ C,WSs G n (fEnv fd f C) body H (aBp (names.zip args) fun _=>none) fun fl H' _=>match fl with | .ret v=>Q v H' | .next=>Q .none H' | _=>False
noncomputable def CC (G:Cx) (n:Nat) (f:Value) (args:List AV) (H:AHeap) (Q:AV→AHeap→Prop):Prop :=
  ∀ A s R vs,AOk A n→Inv G H s.heap→VRs H s.heap args vs→(∀ v s',PV G H s Q v s'→R (.ok (.ret v)) s')→codeAny (MD G) A (.call f ⟨vs,[]⟩) R s
theorem CC.cw {f:Value} {args:List AV} {Q:AV→AHeap→Prop} (h:CC G n f args H Q):CW G n f args H Q:=fun A s E vs a I r =>
  wpAny_call (h A s _ vs a I r fun v s' p=>p)
theorem bLc {f:Addr} {o:Obj} {fd:FuncData} {body:List Stmt} {names:List Str} {args:List AV} {Q:AV→AHeap→Prop} (ho:(KF G.w).lookup f=some o) (hd:o.data=.func fd) (hb:fd.body=.stmts body) (hcode:codeIn (KF G.w) fd.code fd.qualname=true)
    (hclo:fd.closure=[]) (hbind:∀ vs:List Value,vs.length=args.length→bindArgs fd ⟨vs,[]⟩=pure (names.zip vs))
    (hkind:(names.all fun y=>fd.scope.names.lookup y == some .local || fd.scope.names.lookup y == some .cell)=true)
    (hnd:(fd.scope.names.map (·.1)).Nodup)
    (h:Body G n fd f body names args H Q)
    (hg:fd.globals=mainGlobals) (hbt:fd.builtins=builtinsNs) (hco:fd.scope.isCoroutine=false) (hgen:fd.scope.isGenerator=false) (hk:fd.scope.kind=.function) :
    CC G (n+1) (.ref f) args H Q:=fun A s R vs a I r hR=>by
  refine codeAny_call_cells (binds:=names.zip vs) (by have:=a.room; exact om12 this) (I.frag _ _ ho) hd (G.lim.keeps I.keep) (codeRec_of I.frag hcode) hb (hbind vs r.length.symm) hclo (kindsX (bEw (p:=fun y=>fd.scope.names.lookup y == some .local || fd.scope.names.lookup y == some .cell) hkind) _) (fun s₁ x=>?_) hco hgen hk
  have a':AOk (A.deeper (callEnvC fd s.heap.objs.size f)) n:=⟨a.hd,by have:=a.room; show A.depth+1+n < _; exact om11 this,by have:=a.units; show A.units+3+8 * n+8 < _; exact om10 this⟩
  obtain ⟨h',tk,e1,kp⟩:=x.done
  subst e1
  have I':=I.of_keep kp
  have X:=Ext.of_keep (H:=H) kp
  have ok:=x.toInCall.ns
  obtain ⟨b1,b2⟩:=bCi (H:=H) (h:=h') (callEnvC fd s.heap.objs.size f).kindOf (names:=names) (r.mono X.mon) (m:=fun _=>none) (cm:=fun _=>none) (L:=fun _=>none) (fun _ _ _ e=>by cases e) (fun _ _ _ e=>by cases e)
  have newb:∀ b,s.heap.objs.size≤b→G.hB.get? b=none:=fun b hb=>by
    cases q:G.hB.get? b with
    | none=>rfl
    | some o=>exact absurd (Heap.lt_size (I.keep b o q)) (Nat.not_lt.mpr hb)
  have lno:∀ x,(callEnvC fd s.heap.objs.size f).kindOf x=some .local→(callEnvC fd s.heap.objs.size f).cells.lookup x=none:=fun x hl=>by
    cases q:(callEnvC fd s.heap.objs.size f).cells.lookup x with
    | none=>rfl
    | some c =>
      rcases aCv _ _ _ (mem_of_lookup q) with q' | ⟨_,q'⟩
      · cases q'
      · have:=aBm hnd q'
        have hl':fd.scope.names.lookup x=some .local:=hl
        rw [this] at hl'; cases hl'
  have F:FrI G (callEnvC fd s.heap.objs.size f) (aBp (names.zip args) fun _=>none) H h':=by
    refine ⟨hk,hg,hbt,⟨_,ok,b1⟩,I.fresh',newb _ (Nat.le_refl _),fun y c e=>⟨⟨_,x.cell y c e,fun av q=>b2 y av (fun hl=>by rw [lno y hl] at e; cases e) q⟩,I.fresh (aCb (Nat.le_of_lt (x.above y c (mem_of_lookup e))))⟩,fun y z c e1 e2=>name_of_addr x.apart (mem_of_lookup e1) (mem_of_lookup e2),fun y c e hlt=>newb _ (Nat.le_of_lt hlt),lno⟩
  have T:St G [] H s H { s with heap:=h',toks:=tk }:=St.keep I kp
  have own:∀ b∈ownOf (callEnvC fd s.heap.objs.size f),s.heap.get? b=none:=fun b m=>by
    rcases aCk m with rfl | ⟨y,e,hlt⟩
    · exact aAa
    · exact aCb (Nat.le_of_lt hlt)
  refine pso (h s.heap.objs.size _ _ _ a' I' F) fun fl s2 af H2 L2 rf t2 F2 q2=>?_
  have T2:St G [] H s H2 s2:=by
    have t:=T.any.trans t2
    exact ⟨t.inv,t.ext.new own,t.same⟩
  cases rf with
  | next=>exact hR _ _ ⟨.none,H2,.val _,T2,q2⟩
  | brk=>exact q2.elim
  | cont=>exact q2.elim
  | ret r2=>exact hR _ _ ⟨_,H2,r2,T2,q2⟩
end
end
section
mutual
inductive RD (H:AHeap):AV→PyData→Prop
  | none:RD H AV.none .none
  | bool (b:Bool):RD H (AV.bool b) (.bool b)
  | int (i:Int):RD H (.int i) (.int i)
  | str (x:Str):PyData.strOk x=true→RD H (.str x) (.str x)
  | tup {l:List AV} {ds:List PyData}:RDs H l ds→RD H (.tup l) (.tuple ds)
  | list {a:Addr} {l:List AV} {ds:List PyData}:H a=some (.list l)→RDs H l ds→RD H (AV.ref a) (.list ds)
  | lst {l:List AV} {ds:List PyData}:RDs H l ds→RD H (.lst l) (.list ds)
inductive RDs (H:AHeap):List AV→List PyData→Prop
  | nil:RDs H [] []
  | cons {a:AV} {d:PyData} {l:List AV} {ds:List PyData}:RD H a d→RDs H l ds→RDs H (a :: l) (d :: ds)
end
theorem RD.reads {G:Cx} {H:AHeap} {h:Heap} (I:Inv G H h) {a:AV} {d:PyData} {v:Value} (x:RD H a d) (r:VR H h a v):∃ as,Reads h v d as:=by
  have key:∀ {v:Value},VR H h a v→∃ as,Reads h v d as:=RD.rec (motive_1:=fun a d _=>∀ {v:Value},VR H h a v→∃ as,Reads h v d as) (motive_2:=fun l ds _=>∀ {vs:List Value},VRs H h l vs→∃ as,ReadsAll h vs ds as)
    (fun r=>by cases r; exact ⟨_,.none⟩)
    (fun b _ r=>by cases r; exact ⟨_,.bool b⟩)
    (fun i _ r=>by cases r with | int _ t=>exact ⟨_,.int i t⟩)
    (fun x _ _ r=>by cases r with | str _ t=>exact ⟨_,.str x t⟩)
    (fun _ ih _ r=>by cases r with | tup e _ vs=>exact (ih vs).elim fun as q=>⟨_,.tuple e rfl rfl q⟩)
    (fun e _ ih _ r=>by
      cases r
      obtain ⟨vs,n,e',r'⟩:=I.obj _ _ e
      exact (ih r').elim fun as q=>⟨_,.list e' rfl rfl q⟩)
    (fun _ ih _ r=>by
      cases r with
      | lst e =>
        obtain ⟨vs,n,e',r'⟩:=I.obj _ _ e
        exact (ih r').elim fun as q=>⟨_,.list e' rfl rfl q⟩)
    (fun r=>by cases r; exact ⟨_,.nil⟩)
    (fun _ _ i1 i2 _ r=>by cases r with | cons v vs=>exact (i1 v).elim fun _ q=>(i2 vs).elim fun _ qs=>⟨_,.cons q qs⟩)
    x
  exact key r
theorem RD.lay {H:AHeap} {a:AV} {d:PyData} (x:RD H a d):d.canLay0=true :=
  RD.rec (motive_1:=fun a d _=>d.canLay0=true) (motive_2:=fun l ds _=>PyData.canLayAll0 ds=true)
    (by simp [PyData.canLay0]) (fun _=>by simp [PyData.canLay0]) (fun _=>by simp [PyData.canLay0]) (fun _ h=>by simp [PyData.canLay0,h])
    (fun _ ih=>by simp [PyData.canLay0,ih]) (fun _ _ ih=>by simp [PyData.canLay0,ih]) (fun _ ih=>by simp [PyData.canLay0,ih])
    (by simp [PyData.canLayAll0]) (fun _ _ i1 i2=>by simp [PyData.canLayAll0,i1,i2]) x
section
variable {G:Cx} {n:Nat} {env:Env} {H:AHeap} {L:Loc} {Q:AV→AHeap→Prop}
theorem bHy {a b:Int} (h:Q (.int (a+b)) H):Bin G n (binaryOp .Add) (.int a) (.int b) H Q:=fun A s E u v ao I r1 r2=>by
  refine VR.il r1 fun _=>?_; refine VR.il r2 fun _=>?_; exact add_int ⟨_,H,.int _ _,aBz I,h⟩
theorem bHq {a b:Int} (h:Q (.int (a - b)) H):Bin G n (binaryOp .Sub) (.int a) (.int b) H Q:=fun A s E u v ao I r1 r2=>by
  refine VR.il r1 fun _=>?_; refine VR.il r2 fun _=>?_; exact sub_int ⟨_,H,.int _ _,aBz I,h⟩
theorem aQf {a b:Int} (hm:IntMulOk a b) (h:Q (.int (a * b)) H):Bin G n (binaryOp .Mult) (.int a) (.int b) H Q:=fun A s E u v ao I r1 r2=>by
  refine VR.il r1 fun _=>?_; refine VR.il r2 fun _=>?_; exact mul_int ⟨_,H,.int _ _,aBz I,h⟩ hm
theorem bHu {a b:Int} (hb:b≠0) (h:Q (.int (a.fmod b)) H):Bin G n (binaryOp .Mod) (.int a) (.int b) H Q:=fun A s E u v ao I r1 r2=>by
  refine VR.il r1 fun _=>?_; refine VR.il r2 fun _=>?_; exact mod_int' hb ⟨_,H,.int _ _,aBz I,h⟩
theorem bHs {a b:Int} (hb:0≤b) (hs:((Builtin.Int.intBits a:Nat):Int) * b≤2 ^ 27) (h:Q (.int (a ^ b.toNat)) H):Bin G n (binaryOp .Pow) (.int a) (.int b) H Q:=fun A s E u v ao I r1 r2=>by
  refine VR.il r1 fun _=>?_; refine VR.il r2 fun _=>?_; exact pow_int hb hs ⟨_,H,.int _ _,aBz I,h⟩
theorem bHr {a b:Int} (hb:0≤b) (h:Q (.int (a.fdiv (2 ^ b.toNat))) H):Bin G n (binaryOp .RShift) (.int a) (.int b) H Q:=fun A s E u v ao I r1 r2=>by
  refine VR.il r1 fun _=>?_; refine VR.il r2 fun _=>?_; exact rshift_int hb ⟨_,H,.int _ _,aBz I,h⟩
theorem bHx {a b:Int} (h:Q (.int (Builtin.bitAnd a b)) H):Bin G n (binaryOp .BitAnd) (.int a) (.int b) H Q:=fun A s E u v ao I r1 r2=>by
  refine VR.il r1 fun _=>?_; refine VR.il r2 fun _=>?_; exact and_int ⟨_,H,.int _ _,aBz I,h⟩
theorem bFo {a:Int} (h:Q (.int (-a)) H):Una G n (unaryOp .USub) (.int a) H Q:=fun A s E u ao I r1=>by
  refine VR.il r1 fun _=>?_; exact neg_int ⟨_,H,.int _ _,aBz I,h⟩
theorem bLh {a b:Int} (h:Q (.bool (decide (a < b))) H):Bin G n (compareOp .Lt) (.int a) (.int b) H Q:=fun A s E u v ao I r1 r2=>by
  refine VR.il r1 fun _=>?_; refine VR.il r2 fun _=>?_; exact lt_int ⟨_,H,.val _,St.refl I,h⟩
theorem bLi {a b:Int} (h:Q (.bool (decide (a≤b))) H):Bin G n (compareOp .LtE) (.int a) (.int b) H Q:=fun A s E u v ao I r1 r2=>by
  refine VR.il r1 fun _=>?_; refine VR.il r2 fun _=>?_; exact le_int ⟨_,H,.val _,St.refl I,h⟩
theorem bLj {a b:Int} (h:Q (.bool (decide (b < a))) H):Bin G n (compareOp .Gt) (.int a) (.int b) H Q:=fun A s E u v ao I r1 r2=>by
  refine VR.il r1 fun _=>?_; refine VR.il r2 fun _=>?_; exact gt_int ⟨_,H,.val _,St.refl I,h⟩
theorem bLk {a b:Int} (h:Q (.bool (decide (b≤a))) H):Bin G n (compareOp .GtE) (.int a) (.int b) H Q:=fun A s E u v ao I r1 r2=>by
  refine VR.il r1 fun _=>?_; refine VR.il r2 fun _=>?_; exact ge_int ⟨_,H,.val _,St.refl I,h⟩
theorem bHw {a b:Int} (h:Q (.bool (decide (a=b))) H):Bin G n (compareOp .Eq) (.int a) (.int b) H Q:=fun A s E u v ao I r1 r2=>by
  refine VR.il r1 fun _=>?_; refine VR.il r2 fun _=>?_; exact eq_int ⟨_,H,.val _,St.refl I,by rw [show (a == b)=decide (a=b) from by by_cases e:a=b <;> simp [e]]; exact h⟩
theorem bHt {a b:Int} (h:Q (.bool (decide (a≠b))) H):Bin G n (compareOp .NotEq) (.int a) (.int b) H Q:=fun A s E u v ao I r1 r2=>by
  refine VR.il r1 fun _=>?_; refine VR.il r2 fun _=>?_; exact ne_int ⟨_,H,.val _,St.refl I,by rw [show (a != b)=decide (a≠b) from by by_cases e:a=b <;> simp [e]]; exact h⟩
theorem bHv {a b:Str} (h:Q (.bool (a == b)) H):Bin G n (compareOp .Eq) (.str a) (.str b) H Q:=fun A s E u v ao I r1 r2=>by
  refine VR.sl r1 fun _=>?_; refine VR.sl r2 fun _=>?_; exact eq_str ⟨_,H,.val _,St.refl I,h⟩
theorem aOc {a b:AV} {da db:PyData} (ra:RD H a da) (rb:RD H b db) (hd:da.depth≤8) (h:Q (.bool (PyData.eqv da db)) H):Bin G n (compareOp .Eq) a b H Q:=fun A s E u v ao I r1 r2=>by
  obtain ⟨as,q1⟩:=ra.reads I r1
  obtain ⟨bs,q2⟩:=rb.reads I r2
  exact SeqAt.compareEq_reads q1 q2 ra.lay rb.lay (by have:=ao.units; exact om30 hd this) ⟨_,H,.val _,St.refl I,h⟩
theorem aGd {a b:AV} {da db:PyData} (ra:RD H a da) (rb:RD H b db) (hd:da.depth≤8) (h:Q (.bool (!PyData.eqv da db)) H):Bin G n (compareOp .NotEq) a b H Q:=fun A s E u v ao I r1 r2=>by
  obtain ⟨as,q1⟩:=ra.reads I r1
  obtain ⟨bs,q2⟩:=rb.reads I r2
  exact SeqAt.compareNe_reads q1 q2 ra.lay rb.lay (by have:=ao.units; exact om30 hd this) ⟨_,H,.val _,St.refl I,h⟩
noncomputable def AV.isNone:AV→Bool
  | .val v=>v == .none
  | _=>false
theorem VR.isNone {h:Heap} {a:AV} {u:Value} (r:VR H h a u):(u == .none)=a.isNone:=by
  cases r <;> rfl
theorem aQg {a:AV} (h:Q (.bool a.isNone) H):Bin G n (compareOp .Is) a AV.none H Q:=fun A s E u v ao I r1 r2=>by
  have e:=r1.isNone
  refine VR.vl r2 ?_; exact is_none ⟨_,H,.val _,St.refl I,by rw [e]; exact h⟩
theorem aQh {a b:Bool} (h:Q (.bool (decide (a=b))) H):Bin G n (compareOp .Is) (.bool a) (.bool b) H Q:=fun A s E u v ao I r1 r2=>by
  refine VR.vl r1 ?_; refine VR.vl r2 ?_; exact wpAny_is_plain rfl ⟨_,H,.val _,St.refl I,by rw [show (Value.bool a == Value.bool b)=decide (a=b) from by cases a <;> cases b <;> rfl]; exact h⟩
theorem aJa {a b:Bool} (h:Q (.bool (decide (a≠b))) H):Bin G n (compareOp .IsNot) (.bool a) (.bool b) H Q:=fun A s E u v ao I r1 r2=>by
  refine VR.vl r1 ?_; refine VR.vl r2 ?_; exact wpAny_isNot_plain rfl ⟨_,H,.val _,St.refl I,by rw [show (!(Value.bool a == Value.bool b))=decide (a≠b) from by cases a <;> cases b <;> rfl]; exact h⟩
theorem bJr {value slice:Expr} {pos:Pos} (h:WE G n env value H L fun o H1=>WE G n env slice H1 L fun i H2=>Bin G n (subscriptTail value slice) o i H2 Q):WE G n env (.Subscript value slice pos) H L Q:=fun A s E a I F=>by
  refine Subscript_ (pvo (h A s E a I F) fun u s1 av H1 r1 t1 q1=>?_)
  refine pvo (q1 A s1 E a t1.inv (F.step t1.ext)) fun v s2 bv H2 r2 t2 q2=>?_
  exact PV.aft (t1.trans t2) (q2 A s2 E u v a t2.inv (r1.mono t2.mon) r2)
theorem aTd {k:Int} {n:Nat} (h0:0≤k) (h1:k < n):seqIndex? k n=some k.toNat:=by
  unfold seqIndex?
  simp only [show ¬ k < 0 from om29 h0,if_false]
  rw [if_pos (by simp only [Bool.and_eq_true,decide_eq_true_eq]; exact om28 h0 h1)]
theorem bFr {value slice:Expr} {l:List AV} {k:Int} {v:AV} (h0:0≤k) (hv:l[k.toNat]?=some v) (hl:l.length≤1000) (h:Q v H)
    (hs:∀ o i,subscripted slice false o i=operate [o,i] (getItem o i)):Bin G n (subscriptTail value slice) (.tup l) (.int k) H Q:=fun A s E u w ao I r1 r2=>by
  refine VR.tl r1 fun _ _ _ e q rs=>?_
  ·
    refine VR.il r2 fun _=>?_
    obtain ⟨x,ex,rx⟩:=rs.get hv
    have hlt:=(List.getElem?_eq_some_iff.mp hv).1
    have hlen:=rs.length
    exact item_tupleT (j:=k.toNat) ⟨_,e,rfl,_,rfl⟩ (om27 h0) (om26 hl hlt) (aTd h0 (om25 hlt hlen)) ex ⟨_,H,rx,St.refl I,h⟩ (hs _ _)
theorem bGk {s:Shared} {a:Addr} {l:List AV} (I:Inv G H s.heap) (e:H a=some (.list l)):∃ vs k,s.heap.get? a=some (lstO vs k)∧VRs H s.heap l vs∧s.heap.IsList a vs.toArray:=by
  obtain ⟨vs,k,e',r⟩:=I.obj _ _ e
  exact ⟨vs,k,e',r,⟨_,e',rfl,_,rfl⟩⟩
noncomputable def LA (H:AHeap) (a:Addr) (l:List AV):Prop:=H a=some (.list l)∨H a=some (.frz l)
inductive IsL (H:AHeap):AV→List AV→Prop
  | own {a:Addr} {l:List AV}:H a=some (.list l)→IsL H (.val (.ref a)) l
  | frz {l:List AV}:IsL H (.lst l) l
theorem la_at {h:Heap} {a:Addr} {l:List AV} (I:Inv G H h) (e:LA H a l):∃ vs k,h.get? a=some (lstO vs k)∧VRs H h l vs∧h.IsList a vs.toArray:=by
  rcases e with e | e
  · obtain ⟨vs,k,e',r⟩:=I.obj _ _ e
    exact ⟨vs,k,e',r,⟨_,e',rfl,_,rfl⟩⟩
  · obtain ⟨vs,k,e',r⟩:=I.obj _ _ e
    exact ⟨vs,k,e',r,⟨_,e',rfl,_,rfl⟩⟩
theorem aRp {h:Heap} {o:AV} {l:List AV} {u:Value} (x:IsL H o l) (r:VR H h o u) (I:Inv G H h):∃ a vs k,u=.ref a∧LA H a l∧h.get? a=some (lstO vs k)∧VRs H h l vs∧h.IsList a vs.toArray:=by
  cases x with
  | own e =>
    cases r
    obtain ⟨vs,k,e1,e2,e3⟩:=la_at I (.inl e)
    exact ⟨_,vs,k,rfl,.inl e,e1,e2,e3⟩
  | frz =>
    cases r with
    | lst e =>
      obtain ⟨vs,k,e1,e2,e3⟩:=la_at I (.inr e)
      exact ⟨_,vs,k,rfl,.inr e,e1,e2,e3⟩
@[elab_as_elim] theorem aCx {h:Heap} {o:AV} {l:List AV} {u:Value} {P:Value→Prop} (x:IsL H o l) (r:VR H h o u) (I:Inv G H h) (k:∀ a vs n,LA H a l→h.get? a=some (lstO vs n)→VRs H h l vs→h.IsList a vs.toArray→P (.ref a)):P u:=by
  obtain ⟨a,vs,n,rfl,la,e,rs,il⟩:=aRp x r I
  exact k a vs n la e rs il
theorem aDe {s:Shared} {a:Addr} {l:List AV} {P:Prop} (I:Inv G H s.heap) (e:H a=some (.list l)) (k:∀ vs n,s.heap.get? a=some (lstO vs n)→VRs H s.heap l vs→s.heap.IsList a vs.toArray→P):P :=
  (bGk I e).elim fun vs x=>x.elim fun n x=>k vs n x.1 x.2.1 x.2.2
theorem bAe {value slice:Expr} {o:AV} {l:List AV} {k:Int} {v:AV} (he:IsL H o l) (h0:0≤k) (hv:l[k.toNat]?=some v) (hl:l.length < 2 ^ 62) (h:Q v H)
    (hs:∀ o i,subscripted slice false o i=operate [o,i] (getItem o i)):Bin G n (subscriptTail value slice) o (.int k) H Q:=fun A s E u w ao I r1 r2=>by
  refine VR.il r2 fun _=>?_
  refine aCx he r1 I fun a vs kk la e rs il=>?_
  obtain ⟨x,ex,rx⟩:=rs.get hv
  have hlt:=(List.getElem?_eq_some_iff.mp hv).1
  exact tail_any il.typeIs slot_list_getitem.lookup (wpAny_getItem_list (x:=x) il h0 (om21 hl hlt) (by simpa using ex) ⟨_,H,rx,St.refl I,h⟩) (hs _ _)
theorem aKb {value slice:Expr} {o:AV} {l:List AV} {v:AV} (he:IsL H o l) (hv:l[l.length - 1]?=some v) (hl:l.length < 2 ^ 62) (h:Q v H)
    (hs:∀ o i,subscripted slice false o i=operate [o,i] (getItem o i)):Bin G n (subscriptTail value slice) o (.int (-1)) H Q:=fun A s E u w ao I r1 r2=>by
  refine VR.il r2 fun _=>?_
  refine aCx he r1 I fun a vs kk la e rs il=>?_
  obtain ⟨x,ex,rx⟩:=rs.get hv
  have hlt:=(List.getElem?_eq_some_iff.mp hv).1
  have hlen:=rs.length
  have hsz:vs.toArray.size=l.length:=by simp [hlen]
  refine tail_any il.typeIs slot_list_getitem.lookup (wpAny_getItem_list_neg (x:=x) il om17 (om20 hlt hsz) om15 ?_ ⟨_,H,rx,St.refl I,h⟩) (hs _ _)
  rw [hsz,show ((-1:Int)+(l.length:Nat)).toNat=l.length - 1 from om18]
  simpa using ex
theorem KVs.find {h:Heap} {kvs:List (Str × Value)} {l:List (Str × AV)} (r:KVs H h l kvs):∀ {x:Str} {v:AV},l.lookup x=some v→∃ u,valueAt kvs x=some u∧VR H h v u:=by
  induction r with
  | nil=>intro x v e; cases e
  | cons r rs ih =>
    intro x v e
    rename_i k a u l vs
    by_cases hx:x=k
    · subst hx
      simp at e; subst e
      exact ⟨u,by simp [valueAt],r⟩
    · have hb:(x == k)=false:=by simpa using hx
      simp only [List.lookup_cons,hb] at e
      obtain ⟨u',e1,e2⟩:=ih e
      refine ⟨u',?_,e2⟩
      have hd:decide (k=x)=false:=by simpa using fun z=>hx z.symm
      unfold valueAt at e1 ⊢
      rw [List.find?_cons,hd]
      exact e1
theorem aVd {value slice:Expr} {a:Addr} {l:List (Str × AV)} {x:Str} {v:AV} (he:H a=some (.sdict l)) (hv:l.lookup x=some v) (h:Q v H)
    (hs:∀ o i,subscripted slice false o i=operate [o,i] (getItem o i)):Bin G n (subscriptTail value slice) (.ref a) (.str x) H Q:=fun A s E u w ao I r1 r2=>by
  cases r1
  cases r2 with
  | str _ t =>
    obtain ⟨kvs,d,rs⟩:=I.obj _ _ he
    obtain ⟨y,ey,ry⟩:=rs.find hv
    exact tail_any d.typeIs slot_dict_getitem.lookup (wpAny_getItem_of (key:=.str x t) (by show Value.isStrOf x (.str x t)=true; simp [Value.isStrOf]) d.mapOf ey ⟨_,H,ry,aBz I,h⟩) (hs _ _)
theorem aCc {h h':Heap} {a:Addr} {o o':AObj} (I:Inv G H h) (e:H a=some o) (k:∀ b x,b≠a→h.get? b=some x→h'.get? b=some x) (t:∃ x,h'.get? a=some x) (hz:Fixd o=false):Ext [] H h (H.set a o') h':=by
  have nz:∀ b x,Fixd x=true→H b=some x→b≠a:=fun b x f q z=>by rw [z,e] at q; cases q; rw [hz] at f; cases f
  have ne:∀ b,H b=none→b≠a:=fun b q z=>by rw [z,e] at q; cases q
  refine ⟨fun b x q n _=>k b x (ne b n) q,fun b x q n _=>k b x (ne b n) q,fun b x _ n=>by rw [AHeap.set_ne (ne b n)]; exact n,fun b x q=>?_,aDb,fun b x f q=>by rw [AHeap.set_ne (nz b x f q)]; exact q⟩
  by_cases z:b=a
  · rw [z]; exact t
  · exact ⟨x,k b x z q⟩
theorem aCs {h h':Heap} {a:Addr} {o o':AObj} (I:Inv G H h) (e:H a=some o) (k:∀ b x,b≠a→h.get? b=some x→h'.get? b=some x) (t:OR G.w (H.set a o') h' a o') (hz:Fixd o=false):Inv G (H.set a o') h':=by
  have X:=aCc (o':=o') I e k t.some hz
  have ne:∀ b,H b=none→b≠a:=fun b q z=>by rw [z,e] at q; cases q
  refine ⟨fun b x q=>?_,fun b x q=>?_⟩
  · obtain ⟨q1,q2⟩:=I.base b x q
    exact ⟨k b x (ne b q2) q1,X.off b x q1 q2⟩
  · by_cases z:b=a
    · subst z; rw [AHeap.set_same] at q; cases q; exact t
    · rw [AHeap.set_ne z] at q
      exact (I.obj b x q).mono X.mon fun y ey=>k b y z ey
theorem aGn {h:Heap} {a:Addr} {l l':List AV} {vs vs':List Value} {k:Nat} (I:Inv G H h) (he:H a=some (.list l)) (e:h.get? a=some (lstO vs k)) (f:Array Value→Array Value) (hf:f vs.toArray=vs'.toArray) (r:VRs H h l' vs') :
    Inv G (H.set a (.list l')) (h.update a (Obj.mapSeq f))∧Ext [] H h (H.set a (.list l')) (h.update a (Obj.mapSeq f)):=by
  have e':(h.update a (Obj.mapSeq f)).get? a=some (lstO vs' (if vs'.toArray.size == vs.toArray.size then k else k+1)):=by
    rw [Heap.get?_update_self _ e rfl]
    show some (Obj.mk _ _ (.seq (f vs.toArray) _) _)=_
    rw [hf]
  have kp:∀ b x,b≠a→h.get? b=some x→(h.update a (Obj.mapSeq f)).get? b=some x:=fun b x hb q=>by
    rw [Heap.get?_update_other _ _ (fun z=>hb z.symm)]; exact q
  have X:=aCc (o':=.list l') I he kp ⟨_,e'⟩ rfl
  exact ⟨aCs I he kp ⟨vs',_,e',r.mono X.mon⟩ rfl,X⟩
theorem aBt {a:Addr} {l:List AV} {k:Int} {v:AV} {Q:AHeap→Prop} (he:H a=some (.list l)) (h0:0≤k) (hk:k < l.length) (hl:l.length < 2 ^ 62) (h:Q (H.set a (.list (l.set k.toNat v)))):SetI G n (.ref a) (.int k) v H Q:=fun A s E u ui uv ao I r1 r2 r3=>by
  refine VR.vl r1 ?_; refine VR.il r2 fun _=>?_
  refine aDe I he fun vs kk e rs il=>?_
  have hlen:=rs.length
  obtain ⟨I',X⟩:=aGn (l':=l.set k.toNat v) (vs':=vs.set k.toNat uv) I he e (·.setIfInBounds k.toNat uv) (by simp) (rs.set r3)
  exact ki_setAt e h0 (om19 hk hl) (by simpa [hlen] using hk) ⟨_,⟨I',X,rfl⟩,h⟩
theorem aIo {a:Addr} {l:List AV} {v:AV} {Q:AHeap→Prop} (he:H a=some (.list l)) (hk:0 < l.length) (hl:l.length < 2 ^ 62) (h:Q (H.set a (.list (l.set (l.length - 1) v)))):SetI G n (.ref a) (.int (-1)) v H Q:=fun A s E u ui uv ao I r1 r2 r3=>by
  refine VR.vl r1 ?_; refine VR.il r2 fun _=>?_
  refine aDe I he fun vs kk e rs il=>?_
  have hlen:=rs.length
  have hsz:vs.toArray.size=l.length:=by simp [hlen]
  obtain ⟨I',X⟩:=aGn (l':=l.set (l.length - 1) v) (vs':=vs.set (l.length - 1) uv) I he e (·.setIfInBounds (l.length - 1) uv) (by simp) (rs.set r3)
  have ek:((-1:Int)+(vs.toArray.size:Nat)).toNat=l.length - 1:=by rw [hsz]; exact om18
  exact ki_setBack e om17 (by rw [hsz]; exact om16 hk) om15 (by rw [ek]; exact ⟨_,⟨I',X,rfl⟩,h⟩)
noncomputable def aBh {K:Type} [DecidableEq K] (l:List K) (k:K):List K:=if k∈l then l else l ++ [k]
theorem aOq {K:Type} [DecidableEq K] (kvs:List (K × Value)) (k:K) (v:Value):(stored kvs k v).map (·.1)=aBh (kvs.map (·.1)) k:=by
  unfold stored aBh
  by_cases h:k∈kvs.map (·.1)
  · rw [if_pos h,if_pos]
    · rw [List.map_map]; apply List.map_congr_left; intro x _
      dsimp only [Function.comp]; split <;> rfl
    · obtain ⟨x,hx,e⟩:=List.mem_map.mp h
      exact List.any_eq_true.mpr ⟨x,hx,by simpa using e⟩
  · rw [if_neg h,if_neg]
    · simp
    · intro z
      obtain ⟨x,hx,e⟩:=List.any_eq_true.mp z
      exact h (List.mem_map.mpr ⟨x,hx,by simpa using e⟩)
theorem aMa {K:Type} [DecidableEq K] (xs:List (K × Addr × Value)) (k:K) (a:Addr) (v:Value):(storedH xs k a v).map (·.1)=aBh (xs.map (·.1)) k:=by
  unfold storedH aBh
  by_cases h:k∈xs.map (·.1)
  · rw [if_pos h,if_pos]
    · rw [List.map_map]; apply List.map_congr_left; intro x _
      dsimp only [Function.comp,putAt]; split <;> rfl
    · obtain ⟨x,hx,e⟩:=List.mem_map.mp h
      unfold atKey
      rw [Option.isSome_map,List.find?_isSome]
      exact ⟨x,hx,by simpa using e⟩
  · rw [if_neg h,if_neg]
    · simp
    · intro z
      unfold atKey at z
      rw [Option.isSome_map,List.find?_isSome] at z
      obtain ⟨x,hx,e⟩:=z
      exact h (List.mem_map.mpr ⟨x,hx,by simpa using e⟩)
theorem aTc {a:Addr} {l:List Int} {k:Int} {v:AV} {Q:AHeap→Prop} (he:H a=some (.idict l)) (hl:l.length≤1000) (h:Q (H.set a (.idict (aBh l k)))):SetI G n (.ref a) (.int k) v H Q:=fun A s E u ui uv ao I r1 r2 r3=>by
  cases r1
  cases r2 with
  | int _ t =>
    obtain ⟨kvs,d,em⟩:=I.obj _ _ he
    have hlen:kvs.length=l.length:=by rw [← em]; simp
    refine wpAny_setItem_pairs (k:=k) (key:=.int k t) (by show Value.isInt k (.int k t)=true; simp [Value.isInt]) d (fun h' d' hs'=>?_) (by rw [hlen,sizeLine_eq]; exact om5 hl)
    obtain ⟨o,es,ep,eo,r⟩:=id d'
    have kp:∀ b x,b≠a→s.heap.get? b=some x→h'.get? b=some x:=fun b x hb q=>(hs'.2 b hb).trans q
    exact ⟨H.set a (.idict (aBh l k)),⟨aCs I he kp ⟨_,d',by rw [aOq,em]⟩ rfl,aCc I he kp ⟨_,eo⟩ rfl,rfl⟩,h⟩
theorem VRs.key {w:World} {h:Heap} (k:List (Int ⊕ Str)) {vs:List Value} (r:VRs H h (k.map dkAV) vs):ItemsAre (aKt PG w) k vs:=by
  induction k generalizing vs with
  | nil=>cases r; exact .nil
  | cons d k ih =>
    refine VRs.c r fun _ _ r rs=>?_
    ·
      refine .cons ?_ (ih rs)
      cases d with
      | inl i=>cases r; exact beq_self_eq_true i
      | inr x=>cases r; exact beq_self_eq_true x
theorem aTb {a:Addr} {l:List (List (Int ⊕ Str))} {k:List (Int ⊕ Str)} {v:AV} {Q:AHeap→Prop} (he:H a=some (.tdict l)) (hl:l.length≤1000) (h:Q (H.set a (.tdict (aBh l k)))):SetI G n (.ref a) (.tup (k.map dkAV)) v H Q:=fun A s E u ui uv ao I r1 r2 r3=>by
  cases r1
  cases r2 with
  | tup e q rs =>
    rename_i t vs m
    obtain ⟨xs,d,em,eo,na⟩:=I.obj _ _ he
    have hlen:xs.length=l.length:=by rw [← em]; simp
    have hk:(tupleKind (aKt PG G.w)).is s.heap k t:=⟨_,_,_,e,rfl,rfl,rs.key k⟩
    refine wpAny_setItem_heap (knd:=tupleKind (aKt PG G.w)) (k:=k) (show A.in1.units < cLine by have:=ao.units; simp only [Around.in1_units]; exact om14 this) hk d (fun h' d' hs'=>?_) (by rw [hlen,sizeLine_eq]; exact om5 hl)
    obtain ⟨o,es,ep,eo',r⟩:=id d'
    have kp:∀ b x,b≠a→s.heap.get? b=some x→h'.get? b=some x:=fun b x hb q=>(hs'.2 b hb).trans q
    have X:=aCc (o':=.tdict (aBh l k)) I he kp ⟨_,eo'⟩ rfl
    refine ⟨H.set a (.tdict (aBh l k)),⟨aCs I he kp ⟨_,d',by rw [aMa,em],fun x hx=>VR.mono X.mon ?_,na⟩ rfl,X,rfl⟩,h⟩
    unfold storedH at hx
    split at hx
    · obtain ⟨y,hy,ey⟩:=List.mem_map.mp hx
      have h1:x.1=y.1:=by rw [← ey]; unfold putAt; split <;> rfl
      have h2:x.2.1=y.2.1:=by rw [← ey]; unfold putAt; split <;> rfl
      rw [h1,h2]; exact eo y hy
    · rcases List.mem_append.mp hx with hx | hx
      · exact eo x hx
      · rw [List.mem_singleton.mp hx]; exact .tup e q rs
end
end
section
variable {G:Cx} {n:Nat} {env:Env} {H:AHeap} {L:Loc} {Q:AV→AHeap→Prop}
noncomputable def putA:List (Str × AV)→Str→AV→List (Str × AV)
  | [],x,v=>[(x,v)]
  | (y,w) :: r,x,v=>if y=x then (y,v) :: r else (y,w) :: putA r x v
theorem bAv (l:List (Str × AV)) (x:Str) (v:AV):(putA l x v).length≤l.length+1:=by
  induction l with
  | nil=>simp [putA]
  | cons p r ih =>
    obtain ⟨y,w⟩:=p
    unfold putA
    split <;> simp <;> exact ih
theorem NRs.put {h:Heap} {x:Str} {v:AV} {u:Value} {hsh:Int} {tk:Tok} (r:VR H h v u) {l:List (Str × AV)} {es:List DictEntry} (rr:NRs H h l es):NRs H h (putA l x v) (putL x hsh (.str x tk) u es):=by
  induction rr with
  | nil=>exact .cons r .nil
  | @cons y a0 kk t w l es r1 rs ih =>
    unfold putA putL
    by_cases hy:y=x
    · have e:(Value.str y t).isStr x=true:=by simp [Value.isStr,hy]
      simp only [hy,if_true,e]
      have e2:(Value.str x t).isStr x=true:=by simp [Value.isStr]
      simp only [e2,if_true]
      exact .cons r rs
    · have e:(Value.str y t).isStr x=false:=by simp [Value.isStr,hy]
      simp only [hy,if_false,e,Bool.false_eq_true]
      exact .cons r1 ih
theorem NRs.length {h:Heap} {l:List (Str × AV)} {es:List DictEntry} (rr:NRs H h l es):l.length=es.length:=by
  induction rr with
  | nil=>rfl
  | cons _ _ ih=>exact congrArg (· + 1) ih
theorem NRs.sees {h:Heap} {x:Str} {l:List (Str × AV)} {es:List DictEntry} (r:NRs H h l es):(getL x es).isSome=true:=by
  cases q:l.lookup x with
  | none=>rw [r.miss q]; rfl
  | some v=>obtain ⟨u,e,_⟩:=r.get q; rw [e]; rfl
theorem NRs.noref {h:Heap} {l:List (Str × AV)} {es:List DictEntry} (r:NRs H h l es):es.any (·.refKey)=false:=by
  induction r with
  | nil=>rfl
  | cons _ _ ih=>exact ih
theorem aVn {a C dx:Addr} {at':List (Str × AV)} {name:Str} {v:AV} {Q:AHeap→Prop} (e1:H a=some (.inst C dx)) (e2:H dx=some (.attrs at')) (hz:at'.length≤900)
    (hs:findIn (KF G.w) (.ref C) "__setattr__" = some (some (.builtin "object.__setattr__"))) (hp:plainOver (KF G.w) C=true) (ht:takerIn (KF G.w) C name=some none) (hh:(clsIn (KF G.w) C).any (·.hasDict)=true)
    (h:Q (H.set dx (.attrs (putA at' name v)))):SetA G n (.ref a) name v H Q:=fun A s E u uv ao I r1 r2=>by
  cases r1
  obtain ⟨es,k,ed,rs⟩:=I.obj dx _ e2
  have ea:=I.obj a _ e1
  have J:W.InstAt s.heap a (instObj C dx) C (some (dictOf es k)):=⟨ea,rfl,rfl,ed⟩
  refine set_plain I.frag J hs (osa_open (s:={ s with toks:=s.toks+1 }) I.frag J hp ht fun b=>?_)
  obtain ⟨cd,hc,hd'⟩:=any_some hh
  refine wpAny_bind (wpAny_pure (wpAny_bind (wpAny_bind (wpAny_loadPart ea (wpAny_bind (Looks.here (s:={ s with toks:=s.toks+1 }) (looks_clsIn I.frag hc) ?_))))))
  rw [hd']
  refine wpAny_pure (a:=some dx) (wpAny_bind (wpAny_pure (wpAny_bind ?_)))
  unfold nsSet
  refine wpAny_bind (wpAny_bind (wpAny_askSetting (wpAny_pure (wpAny_bind (wpAny_mkText (wpAny_bind (wpAny_loadPart ed ?_)))))))
  unfold dictOf
  dsimp only
  rw [aRefKeyMayBeTheName_at,show es.toArray.any (·.refKey)=false by rw [← Array.any_toList]; exact rs.noref,Bool.and_false]
  refine wpAny_updatePart ed ?_
  have e':=Heap.get?_update_self (Obj.putName name (PyData.keyHash G.w.params name) (.str name (s.toks+1)) uv) ed (by rw [putName_dict]; rfl)
  have kp:∀ b x,b≠dx→s.heap.get? b=some x→(s.heap.update dx (Obj.putName name (PyData.keyHash G.w.params name) (.str name (s.toks+1)) uv)).get? b=some x:=fun b x hb e=>(Heap.SameBut.update ..).2 b hb |>.trans e
  rw [putName_dict] at e'
  have hlen:=(NRs.put (x:=name) (hsh:=PyData.keyHash G.w.params name) (tk:=s.toks+1) r2 rs).length
  refine wpAny_bind (wpAny_lookBehind e' (pastItsLine_dict (by rw [List.size_toArray,sizeLine_eq]; exact Nat.le_succ_of_le (om5 (om34 hz hlen (bAv at' name v))))) ?_)
  have X:=aCc (o':=.attrs (putA at' name v)) I e2 kp ⟨_,e'⟩ rfl
  exact wpAny_pure ⟨H.set dx (.attrs (putA at' name v)),⟨aCs I e2 kp ⟨_,_,e',(NRs.put r2 rs).mono X.mon⟩ rfl,X,rfl⟩,h⟩
theorem aCw {l l':List AV} (hz:l.length+l'.length≤1000) (h:Q (.tup (l ++ l')) H):Bin G n (binaryOp .Add) (.tup l) (.tup l') H Q:=fun A s E u v ao I r1 r2=>by
  refine VR.tl r1 fun _ _ _ e q rs=>?_
  ·
    cases r2 with
    | tup e' q' rs' =>
      rename_i a vs k b ws k'
      have hl:=rs.length
      have hl':=rs'.length
      by_cases z:l=[]
      · subst z
        cases rs
        refine concat_meets ⟨_,e,rfl⟩ ⟨_,e',rfl⟩ noFill_tuple_add seq_tuple_add F.slot_tuple_add F.entry_tuple_add (F.args_tuple_add_2 _ _) (AutoSeq1.tuple___add___tuple_tuple_0 a _ k b ws.toArray k' rfl) ⟨e,e',?_⟩
        exact ⟨_,H,.tup e' q' rs',St.refl I,by simpa using h⟩
      · have hv:¬ vs.toArray.isEmpty=true:=by
          intro x
          have:vs=[]:=by simpa using x
          rw [this] at hl; exact z (List.eq_nil_of_length_eq_zero hl)
        by_cases z':l'=[]
        · subst z'
          cases rs'
          refine concat_meets ⟨_,e,rfl⟩ ⟨_,e',rfl⟩ noFill_tuple_add seq_tuple_add F.slot_tuple_add F.entry_tuple_add (F.args_tuple_add_2 _ _) (AutoSeq1.tuple___add___tuple_tuple_1 a _ k b _ k' hv rfl) ⟨e,e',?_⟩
          exact ⟨_,H,.tup e q rs,St.refl I,by simpa using h⟩
        · have hw:¬ ws.toArray.isEmpty=true:=by
            intro x
            have:ws=[]:=by simpa using x
            rw [this] at hl'; exact z' (List.eq_nil_of_length_eq_zero hl')
          have kp:=aAb s.heap (tupO (vs ++ ws) 0)
          refine P.add_tuple e e' hv hw ?_ (by simp only [List.size_toArray]; rw [sizeLine_eq]; exact om33 hz hl hl')
          rw [show vs.toArray ++ ws.toArray=(vs ++ ws).toArray by simp]
          exact ⟨.tup (l ++ l'),H,.tup (vs:=vs ++ ws) (n:=0) (Heap.get?_push_size _ rfl) I.fresh' ((rs.append rs').mono (Ext.of_keep kp).mon),St.keep (own:=[]) (t:=s.toks) I kp,h⟩
theorem bBv (v:Value) (k:Nat):∀ (acc:Array Value),List.foldl (fun x1 x2=>x1 ++ x2) acc (List.replicate k #[v])=acc ++ (List.replicate k v).toArray:=by
  induction k with
  | zero=>intro acc; simp
  | succ k ih =>
    intro acc
    rw [List.replicate_succ,List.foldl_cons,ih]
    apply Array.toList_inj.mp
    simp [List.replicate_succ]
theorem bIj {h:Heap} {a:AV} {v:Value} (r:VR H h a v) (k:Nat):VRs H h (List.replicate k a) (List.replicate k v) :=
  k.rec .nil fun _ ih=>.cons r ih
theorem bBe {k:Int} (h:k≤1000):¬ 1 * k.toNat > (2 ^ 63 - 1) / 8:=by omega
theorem aOb {a:Addr} {v:AV} {k:Int} (he:H a=some (.list [v])) (h0:0≤k) (hk:k≤1000) (h:∀ D,H D=none→Q (.ref D) (H.set D (.list (List.replicate k.toNat v)))):Bin G n (binaryOp .Mult) (.ref a) (.int k) H Q:=fun A s E u w ao I r1 r2=>by
  refine VR.vl r1 ?_
  cases r2
  rename_i t
  refine aDe I he fun vs c e rs il=>?_
  cases rs with
  | cons r rs =>
    cases rs
    rename_i x
    have kp:=aAb s.heap (lstO (List.replicate k.toNat x) 0)
    refine wpAny_binaryOp_repeat_ref (T := "list") (U := "int") (by decide) ⟨_,e,rfl⟩ (fun s'=>typeIs_int s' k t) noFill_list_mul F.fills_int_mul F.slot_int_rmul repeat_list F.slot_int_index.lookup
      (call_meets F.slot_int_rmul (typeIs_int s k t) F.entry_int_rmul (F.args_int_rmul_2 _ _) (int___rmul___int_list k t a #[x] c)
        ⟨e,rfl,⟨_,e,rfl⟩,call_meets F.slot_list_mul ⟨_,e,rfl⟩ F.entry_list_mul (F.args_list_mul_2 _ _)
          (AutoListH.list___mul___list_int_3 a #[x] c k t (by simp [Builtin.List.listFitsIndex]; exact ⟨om27 h0,om32 hk⟩) (bBe hk) (by simp [Builtin.List.listTooLong,sizeLine]; exact om31 hk)) ⟨e,?_⟩⟩)
    have eo:(List.foldl (fun x1 x2=>x1 ++ x2) #[] (List.replicate (if (#[x]:Array Value).isEmpty=true then 0 else k.toNat) #[x]):Array Value)=(List.replicate k.toNat x).toArray:=by
      have:(if (#[x]:Array Value).isEmpty=true then 0 else k.toNat)=k.toNat:=by simp
      rw [this,bBv]; simp
    rw [eo]
    have X:=aBj (o':=.list (List.replicate k.toNat v)) I aAa kp
    exact ⟨.ref s.heap.objs.size,H.set s.heap.objs.size (.list (List.replicate k.toNat v)),.val _,⟨aBo I aAa kp ⟨_,0,Heap.get?_push_size _ rfl,(bIj r _).mono X.mon⟩,X,rfl⟩,h _ I.fresh'⟩
theorem aSk {pos:Pos} (h:∀ D,H D=none→Q (.ref D) (H.set D (.idict []))):WE G n env (.Dict [] [] pos) H L Q:=fun A s E a I F=>by
  rw [eval_Dict_empty]
  have kp:=aAb s.heap { cls:=.type "dict",data:=.dict #[] }
  have X:=aBj (o':=.idict []) I aAa kp
  refine wpAny_bind (wpAny_standAt (wpAny_bind (wpAny_alloc (wpAny_pure ?_))))
  exact ⟨.ref s.heap.objs.size,H.set s.heap.objs.size (.idict []),.val _,⟨aBo I aAa kp ⟨[],Heap.DictOf.new _,rfl⟩,X,rfl⟩,h _ I.fresh'⟩
theorem aSj {pos:Pos} (h:∀ D,H D=none→Q (.ref D) (H.set D (.tdict []))):WE G n env (.Dict [] [] pos) H L Q:=fun A s E a I F=>by
  rw [eval_Dict_empty]
  have kp:=aAb s.heap { cls:=.type "dict",data:=.dict #[] }
  have X:=aBj (o':=.tdict []) I aAa kp
  refine wpAny_bind (wpAny_standAt (wpAny_bind (wpAny_alloc (wpAny_pure ?_))))
  exact ⟨.ref s.heap.objs.size,H.set s.heap.objs.size (.tdict []),.val _,⟨aBo I aAa kp ⟨[],Heap.DictOfH.new _,rfl,(fun _ h=>nomatch h),I.size_ne⟩,X,rfl⟩,h _ I.fresh'⟩
end
section
variable {G:Cx} {n:Nat} {env:Env} {H:AHeap} {L:Loc}
noncomputable def IterV (G:Cx) (n:Nat) (v:AV) (H:AHeap) (Q:List AV→(AHeap→Prop)→AHeap→Prop):Prop :=
  ∀ A s E u,AOk A n→Inv G H s.heap→VR H s.heap v u→wpAny (MD G) A (pyIter u) (PI G n H s Q) E s
theorem PI.after {Q:List AV→(AHeap→Prop)→AHeap→Prop} {H1:AHeap} {s s1 s2:Shared} {it:Value} (t:St G [] H s H1 s1) (p:PI G n H1 s1 Q it s2):PI G n H s Q it s2:=by
  obtain ⟨I,vals,src,wr,fp,K,H2,e,P,q⟩:=p
  refine ⟨I,vals,src,wr,fp,K,H2,e,⟨P.awk,P.k0,t.trans P.st,fun b hb=>?_,fun b hb=>?_⟩,q⟩
  · obtain ⟨h1,h2,h3⟩:=P.fpv b hb
    refine ⟨?_,h2,h3⟩
    cases c:s.heap.get? b with
    | none=>exact .inl rfl
    | some o =>
      right
      have hn:H b=none:=by
        cases d:H b with
        | none=>rfl
        | some x =>
          obtain ⟨x1,d1⟩:=t.ext.dom b x d
          obtain ⟨x2,d2⟩:=P.st.ext.dom b x1 d1
          rw [h2] at d2; cases d2
      have c1:=t.ext.keep b o c hn (fun m=>nomatch m)
      rcases h1 with h1 | ⟨o',h1,f⟩
      · rw [c1] at h1; cases h1
      · rw [c1] at h1; cases h1; exact ⟨o,rfl,f⟩
  · cases c:s.heap.get? b with
    | none=>rfl
    | some o=>obtain ⟨o',e'⟩:=t.ext.there b o c; rw [P.wrv b hb] at e'; cases e'
theorem PI.aft {Q:List AV→(AHeap→Prop)→AHeap→Prop} {H1:AHeap} {s s1 s0:Shared} {A:Around} {E:Value→Shared→Prop} {p:Sem Value} (t:St G [] H s H1 s1) (x:wpAny (MD G) A p (PI G n H1 s1 Q) E s0):wpAny (MD G) A p (PI G n H s Q) E s0:=wpAny_mono x (fun _ _ y=>PI.after t y) fun _ _ e=>e
theorem wi_of {e:Expr} {Q:List AV→(AHeap→Prop)→AHeap→Prop} (h:WE G n env e H L fun v H1=>IterV G n v H1 Q):WI G n env e H L Q:=fun A s E a I F =>
  pvo (h A s E a I F) fun u s1 av H1 r t q=>PI.aft t (q A s1 E u a t.inv r)
theorem aDd {o:Obj} (h1:o.cls≠.type "tuple") (h2:o.cls≠.type "range"):¬ aAz o:=by
  rintro (⟨e,_⟩ | ⟨e,_⟩)
  · exact h1 e
  · exact h2 e
theorem aEx {M:Model} {A:Around} {E:Value→Shared→Prop} {s:Shared} {target:Expr} {I:Addr} {v:Value} {T:String} {Q:Unit→Shared→Prop} (hT:s.TypeIs (.ref I) T)
    (hz:["enumerate", "zip", "dict_itemiterator", "dict_reverseitemiterator", "odict_iterator", "itertools.zip_longest", "itertools.pairwise"].contains T=false) (h:Q () s):wpAny M A (letOwnedTupleGo target (.ref I) v) Q E s:=by
  obtain ⟨o,ho,hc⟩:=hT
  have body:∀ a:Addr,wpAny M A (do
      let o ← load I
      match o.cls,o.data with
      | .type n,.fields vs =>
        if ["enumerate", "zip", "dict_itemiterator", "dict_reverseitemiterator", "odict_iterator", "itertools.zip_longest", "itertools.pairwise"].contains n && vs[0]? == some (rawInt a) then
          rule "for.unpacks-the-owned-tuple"
          updateField I 0 .none
        else pure ()
      | _,_=>pure ():Sem Unit) Q E s:=fun a=>by
    refine wpAny_bind (wpAny_load ho ?_)
    rw [hc]
    split
    · rename_i m vs e1 e2
      cases e1
      rw [hz]
      simp only [Bool.false_and,Bool.false_eq_true,if_false]
      exact wpAny_pure h
    · exact wpAny_pure h
  unfold letOwnedTupleGo
  cases target <;> first | exact wpAny_pure h | (cases v <;> first | exact wpAny_pure h | exact body _)
theorem bCo {I a:Addr} {l:List AV} (hne:a≠I):AWk G n I l (fun H=>LA H a l) [I] [I] (fun i h=>h.IsListIter I a i) where
  sub:=fun b hb=>hb
  frame:=fun _ _ _ st hk=>st.at fun o e=>hk I (by simp) o e
  soft:=fun i h ⟨o,ho,hc,hd⟩ b hb o' e=>by
    rw [List.mem_singleton.mp hb,ho] at e; cases e
    exact aDd (by rw [hc]; decide) (by rw [hc]; decide)
  item:=fun i av A s H E Q ao hi st I0 src _ hq=>by
    obtain ⟨vs,k,e,rs,il⟩:=la_at I0 src
    obtain ⟨x,ex,rx⟩:=rs.get hi
    have hlt:=(List.getElem?_eq_some_iff.mp hi).1
    have hlen:=rs.length
    refine (Walks.list (prog:=PG) (w:=G.w) ao.hd I a hne vs.toArray).item i s Q E (by simp; exact om37 hlt hlen) ⟨st,il⟩ fun v h' tk hP st' kp=>?_
    have hv:v=x:=by
      have:vs[i]?=some v:=by simpa using hP
      rw [ex] at this; exact (Option.some.inj this).symm
    subst hv
    refine hq v h' tk (rx.mono ⟨fun b o e q f=>⟨kp b o (fun m=>?_) e,q⟩,fun _ _ _ q=>q⟩) st'.1 (.of kp) fun b o eb=>?_
    · obtain ⟨o2,e2,c2,_⟩:=st
      rw [List.mem_singleton.mp m,e2] at e; cases e
      exact aDd (by rw [c2]; decide) (by rw [c2]; decide) f
    · by_cases z:b=I
      · subst z; obtain ⟨o2,e2,_⟩:=st'.1; exact ⟨o2,e2⟩
      · exact ⟨o,kp b o (fun m=>z (List.mem_singleton.mp m)) eb⟩
  done:=fun A s H E Q ao st I0 src hq=>by
    obtain ⟨vs,k,e,rs,il⟩:=la_at I0 src
    have hlen:=rs.length
    exact (Walks.list (prog:=PG) (w:=G.w) ao.hd I a hne vs.toArray).done s Q E ⟨by rw [List.size_toArray,← hlen]; exact st,il⟩ hq
  go:=fun i target v A s E Q st hq=>aEx st.typeIs (by decide) (hq _ st (fun _ _ _ e=>e) fun b o e=>⟨o,e⟩)
  self:=fun i A s E Q st hq=>wpAny_pyIter_listiter st hq
noncomputable def FrzLe (H H':AHeap):Prop:=∀ b o,Fixd o=true→H b=some o→H' b=some o
noncomputable def SrcQ (H:AHeap) (rsrc usrc:AHeap→Prop):Prop:=∀ H',FrzLe H H'→usrc H'→rsrc H'
theorem SrcQ.refl (H:AHeap) (src:AHeap→Prop):SrcQ H src src:=fun _ _ h=>h
noncomputable def usr (o:AV) (l:List AV) (H:AHeap):Prop:=match o with
  | .val (.ref a)=>H a=some (.list l)
  | _=>True
theorem aVf {o:AV} {l:List AV} {a:Addr} {h:Heap} (x:IsL H o l) (r:VR H h o (.ref a)):SrcQ H (fun H=>LA H a l) (usr o l):=fun H' f u=>by
  cases x with
  | own e=>cases r; exact .inl u
  | frz=>cases r with
    | lst e=>exact .inr (f _ _ rfl e)
theorem aMu {o:AV} {l:List AV} {Q:List AV→(AHeap→Prop)→AHeap→Prop} (he:IsL H o l) (h:∀ src,SrcQ H src (usr o l)→Q l src H):IterV G n o H Q:=fun A s E u ao I r=>by
  obtain ⟨a,vs,k,rfl,la,e,rs,il⟩:=aRp he r I
  have kp:=aAb s.heap { cls:=.type "list_iterator",data:=.fields #[.ref a,.int 0 0] }
  have hI:(s.heap.push { cls:=.type "list_iterator",data:=.fields #[.ref a,.int 0 0] }).get? s.heap.objs.size=some { cls:=.type "list_iterator",data:=.fields #[.ref a,.int 0 0] }:=Heap.get?_push_size _ rfl
  refine wpAny_pyIter_list il ⟨s.heap.objs.size,l,_,[s.heap.objs.size],[s.heap.objs.size],_,H,rfl,⟨bCo (fun z=>?_),⟨_,hI,rfl,rfl⟩,St.keep (t:=s.toks) I kp,fun b hb=>?_,fun b hb=>?_⟩,h _ (aVf he r)⟩
  · rw [z,aAa] at e; cases e
  · rw [List.mem_singleton.mp hb]; exact ⟨.inl aAa,I.fresh',_,hI⟩
  · rw [List.mem_singleton.mp hb]; exact aAa
noncomputable def Foot (H:AHeap) (h:Heap) (P:AHeap→Heap→Prop):Prop:=∃ fp:List Addr,(∀ b∈fp,H b=none∧∃ o,h.get? b=some o∧aAz o) ∧
    ∀ (H':AHeap) (h':Heap),FrzLe H H'→(∀ b∈fp,∀ o,h.get? b=some o→h'.get? b=some o)→(∀ b∈fp,H' b=none)→P H' h'
theorem foot0 {H:AHeap} {h:Heap} {P:AHeap→Heap→Prop} (k:∀ H' h',FrzLe H H'→P H' h'):Foot H h P:=⟨[],(fun _ m=>nomatch m),fun H' h' k0 _ _=>k H' h' k0⟩
theorem foot1 {H:AHeap} {h:Heap} {P P':AHeap→Heap→Prop} {a:Addr} {o:Obj} (q:H a=none) (e:h.get? a=some o) (f:aAz o) (x:Foot H h P) (k:∀ H' h',h'.get? a=some o→H' a=none→P H' h'→P' H' h'):Foot H h P' :=
  x.elim fun fp y=>⟨a :: fp,fun b m=>(List.mem_cons.mp m).elim (fun z=>z ▸ ⟨q,o,e,f⟩) (y.1 b),fun H' h' k0 k1 k2=>k H' h' (k1 a (.head _) o e) (k2 a (.head _)) (y.2 H' h' k0 (fun b m=>k1 b (.tail _ m)) fun b m=>k2 b (.tail _ m))⟩
theorem foot2 {H:AHeap} {h:Heap} {P P' P2:AHeap→Heap→Prop} (x:Foot H h P) (y:Foot H h P') (k:∀ H' h',P H' h'→P' H' h'→P2 H' h'):Foot H h P2 :=
  x.elim fun fp x=>y.elim fun fq y=>⟨fp ++ fq,fun b m=>(List.mem_append.mp m).elim (x.1 b) (y.1 b),fun H' h' k0 k1 k2=>k H' h' (x.2 H' h' k0 (fun b m=>k1 b (List.mem_append.mpr (.inl m))) fun b m=>k2 b (List.mem_append.mpr (.inl m))) (y.2 H' h' k0 (fun b m=>k1 b (List.mem_append.mpr (.inr m))) fun b m=>k2 b (List.mem_append.mpr (.inr m)))⟩
theorem VRs.foot {H:AHeap} {h:Heap} {l:List AV} {vs:List Value} (x:VRs H h l vs):Foot H h fun H' h'=>VRs H' h' l vs :=
  VRs.rec (motive_1:=fun a v _=>Foot H h fun H' h'=>VR H' h' a v) (motive_2:=fun l vs _=>Foot H h fun H' h'=>VRs H' h' l vs) (fun v=>foot0 fun _ _ _=>.val v) (fun i t=>foot0 fun _ _ _=>.int i t) (fun i t=>foot0 fun _ _ _=>.str i t)
    (fun e q _ f=>foot1 q e (.inl ⟨rfl,_,_,rfl⟩) f fun _ _ e' q' r=>.tup e' q' r) (fun e q=>foot1 (P:=fun _ _=>True) q e (.inr ⟨rfl,_,rfl⟩) (foot0 fun _ _ _=>trivial) fun _ _ e' q' _=>.rng e' q') (fun e=>foot0 fun _ _ k=>.lst (k _ _ rfl e))
    (foot0 fun _ _ _=>.nil) (fun _ _ f g=>foot2 f g fun _ _ a b=>.cons a b) x
theorem bIb {I t:Addr} {l:List AV} {vs:List Value} {k:Nat} {fq:List Addr} {h0:Heap} {H0:AHeap} (hne:t≠I) (e0:h0.get? t=some (tupO vs k)) (hlen:l.length=vs.length) (hq0:∀ b∈fq,∃ o,h0.get? b=some o)
    (hv:∀ (H':AHeap) (h':Heap),FrzLe H0 H'→(∀ b∈fq,∀ o,h0.get? b=some o→h'.get? b=some o)→(∀ b∈fq,H' b=none)→VRs H' h' l vs) (hni:I∉fq) :
    AWk G n I l (FrzLe H0) [I] (I :: t :: fq) (fun i h=>h.IsTupleIter I t i∧∀ b,b=t∨b∈fq→∀ o,h0.get? b=some o→h.get? b=some o) where
  sub:=fun b hb=>by rw [List.mem_singleton.mp hb]; exact .head _
  frame:=fun i h h' ⟨st,k2⟩ hk=>⟨st.at fun o e=>hk I (.head _) o e,fun b hb o e=>hk b (by rcases hb with rfl | hb; exact .tail _ (.head _); exact .tail _ (.tail _ hb)) o (k2 b hb o e)⟩
  soft:=fun i h ⟨⟨o,ho,hc,hd⟩,_⟩ b hb o' e=>by
    rw [List.mem_singleton.mp hb,ho] at e; cases e
    exact aDd (by rw [hc]; decide) (by rw [hc]; decide)
  item:=fun i av A s H E Q ao hi ⟨st,k2⟩ I0 src hfp hq=>by
    have rs:=hv H s.heap src (fun b hb=>k2 b (.inr hb)) (fun b hb=>hfp b (.tail _ (.tail _ hb)))
    have it:s.heap.IsTuple t vs.toArray:=⟨_,k2 t (.inl rfl) _ e0,rfl,_,rfl⟩
    obtain ⟨x,ex,rx⟩:=rs.get hi
    have hlt:=(List.getElem?_eq_some_iff.mp hi).1
    refine (Walks.tuple (prog:=PG) (w:=G.w) ao.hd I t hne vs.toArray).item i s Q E (by simp; exact om36 hlen hlt) ⟨st,it⟩ fun v h' tk hP st' kp=>?_
    have hv:v=x:=by
      have:vs[i]?=some v:=by simpa using hP
      rw [ex] at this; exact (Option.some.inj this).symm
    subst hv
    refine hq v h' tk (rx.mono ⟨fun b o e q f=>⟨kp b o (fun m=>?_) e,q⟩,fun _ _ _ q=>q⟩) ⟨st'.1,fun b hb o e=>kp b o (fun m=>?_) (k2 b hb o e)⟩ (.of kp) fun b o eb=>?_
    · obtain ⟨o2,e2,c2,_⟩:=st
      rw [List.mem_singleton.mp m,e2] at e; cases e
      exact aDd (by rw [c2]; decide) (by rw [c2]; decide) f
    · have:=List.mem_singleton.mp m
      rcases hb with rfl | hb
      · exact hne this
      · exact hni (this ▸ hb)
    · by_cases z:b=I
      · subst z; obtain ⟨o2,e2,_⟩:=st'.1; exact ⟨o2,e2⟩
      · exact ⟨o,kp b o (fun m=>z (List.mem_singleton.mp m)) eb⟩
  done:=fun A s H E Q ao ⟨st,k2⟩ I0 src hq=>by
    have it:s.heap.IsTuple t vs.toArray:=⟨_,k2 t (.inl rfl) _ e0,rfl,_,rfl⟩
    exact (Walks.tuple (prog:=PG) (w:=G.w) ao.hd I t hne vs.toArray).done s Q E ⟨by rw [List.size_toArray,← hlen]; exact st,it⟩ hq
  go:=fun i target v A s E Q ⟨st,k2⟩ hq=>aEx st.typeIs (by decide) (hq _ ⟨st,k2⟩ (fun _ _ _ e=>e) fun b o e=>⟨o,e⟩)
  self:=fun i A s E Q ⟨st,_⟩ hq=>wpAny_pyIter_tupleiter st hq
theorem bBm {l:List AV} {Q:List AV→(AHeap→Prop)→AHeap→Prop} (h:∀ src,SrcQ H src (fun _=>True)→Q l src H):IterV G n (.tup l) H Q:=fun A s E u ao I r=>by
  refine VR.tl r fun _ _ _ e q rs=>?_
  ·
    rename_i t vs k
    obtain ⟨fq,f1,f2⟩:=rs.foot
    have kp:=aAb s.heap { cls:=.type "tuple_iterator",data:=.fields #[.ref t,.int 0 0] }
    have hI:(s.heap.push { cls:=.type "tuple_iterator",data:=.fields #[.ref t,.int 0 0] }).get? s.heap.objs.size=some { cls:=.type "tuple_iterator",data:=.fields #[.ref t,.int 0 0] }:=Heap.get?_push_size _ rfl
    have it:s.heap.IsTuple t vs.toArray:=⟨_,e,rfl,_,rfl⟩
    refine wpAny_pyIter_tuple it ⟨s.heap.objs.size,l,_,[s.heap.objs.size],s.heap.objs.size :: t :: fq,_,H,rfl,
      ⟨bIb (H0:=H) (h0:=s.heap) (vs:=vs) (k:=k) (fq:=fq) (fun z=>?_) e rs.length (fun b hb=>let ⟨_,o,e,_⟩:=f1 b hb; ⟨o,e⟩) f2 (fun m=>?_),⟨⟨_,hI,rfl,rfl⟩,fun b _ o e=>kp b o e⟩,St.keep (t:=s.toks) I kp,fun b hb=>?_,fun b hb=>?_⟩,h _ (fun _ f _=>f)⟩
    · rw [z,aAa] at e; cases e
    · obtain ⟨_,o,e,_⟩:=f1 _ m; rw [aAa] at e; cases e
    · rcases List.mem_cons.mp hb with rfl | hb
      · exact ⟨.inl aAa,I.fresh',_,hI⟩
      · rcases List.mem_cons.mp hb with rfl | hb
        · exact ⟨.inr ⟨_,e,.inl ⟨rfl,_,_,rfl⟩⟩,q,_,kp _ _ e⟩
        · obtain ⟨g1,o,e,f⟩:=f1 b hb
          exact ⟨.inr ⟨o,e,f⟩,g1,_,kp _ _ e⟩
    · rw [List.mem_singleton.mp hb]; exact aAa
noncomputable def rngL (a c:Int) (k:Nat):List AV:=(List.range k).map fun i=>.int (a+(i:Nat) * c)
theorem bIc {I:Addr} {a c:Int} {k:Nat}:AWk G n I (rngL a c k) (fun _=>True) [I] [I] (fun i h=>IsRangeIter h I (a+(i:Nat) * c) ((k:Int) - (i:Nat)) c) where
  sub:=fun b hb=>hb
  frame:=fun i h h' st hk=>hk I (.head _) _ st
  soft:=fun i h st b hb o' e=>by
    have st':h.get? I=_:=st
    rw [List.mem_singleton.mp hb,st'] at e
    injection e with e
    subst e
    exact aDd (o:={ cls:=Value.type "range_iterator",data:=_ }) (show Value.type "range_iterator" ≠ Value.type "tuple" by decide) (show Value.type "range_iterator" ≠ Value.type "range" by decide)
  item:=fun i av A s H E Q ao hi st I0 src _ hq=>by
    have hlt:i < k:=by have:=(List.getElem?_eq_some_iff.mp hi).1; simpa [rngL] using this
    refine (Walks.range (prog:=PG) (w:=G.w) ao.hd I a c k).item i s Q E hlt st fun v h' tk ⟨t,hP⟩ st' kp=>?_
    have ev:av=.int (a+(i:Nat) * c):=by
      have:(rngL a c k)[i]?=some (.int (a+(i:Nat) * c)):=by simp [rngL,hlt]
      rw [this] at hi; exact (Option.some.inj hi).symm
    subst hP ev
    refine hq _ h' tk (.int _ t) st' (.of kp) fun b o eb=>?_
    by_cases z:b=I
    · rw [z]; exact ⟨_,st'⟩
    · exact ⟨o,kp b o (fun m=>z (List.mem_singleton.mp m)) eb⟩
  done:=fun A s H E Q ao st I0 src hq=>by
    have e:(rngL a c k).length=k:=by simp [rngL]
    rw [e] at st
    exact (Walks.range (prog:=PG) (w:=G.w) ao.hd I a c k).done s Q E st hq
  go:=fun i target v A s E Q st hq=>aEx (T := "range_iterator") ⟨_,st,rfl⟩ (by decide) (hq _ st (fun _ _ _ e=>e) fun b o e=>⟨o,e⟩)
  self:=fun i A s E Q st hq=>wpAny_pyIter_rangeiter st hq
theorem aRm {a b c:Int} {k:Nat} {Q:List AV→(AHeap→Prop)→AHeap→Prop} (hs:Builtin.Range.small a b c=true) (hk:Builtin.Range.rangeSize a b c=k) (h:Q (rngL a c k) (fun _=>True) H):IterV G n (.rng a b c) H Q:=fun A s E u ao I r=>by
  cases r with
  | rng e q =>
    have kp:=aAb s.heap { cls:=.type "range_iterator",data:=.fields #[rawInt a,rawInt (Builtin.Range.rangeSize a b c),rawInt c] }
    have hI:(s.heap.push { cls:=.type "range_iterator",data:=.fields #[rawInt a,rawInt (Builtin.Range.rangeSize a b c),rawInt c] }).get? s.heap.objs.size=some { cls:=.type "range_iterator",data:=.fields #[rawInt a,rawInt (Builtin.Range.rangeSize a b c),rawInt c] }:=Heap.get?_push_size _ rfl
    refine wpAny_pyIter_range e hs ⟨s.heap.objs.size,_,_,[s.heap.objs.size],[s.heap.objs.size],_,H,rfl,⟨bIc (k:=k),?_,St.keep (t:=s.toks) I kp,fun b hb=>?_,fun b hb=>?_⟩,h⟩
    · show IsRangeIter _ _ _ _ _
      unfold IsRangeIter
      rw [hk] at hI ⊢
      rw [show a+((0:Nat):Int) * c=a by omega,show (k:Int) - ((0:Nat):Int)=k from om35]
      exact hI
    · rw [List.mem_singleton.mp hb]; exact ⟨.inl aAa,I.fresh',_,hI⟩
    · rw [List.mem_singleton.mp hb]; exact aAa
end
section
variable {G:Cx} {n:Nat} {env:Env} {H:AHeap} {L:Loc} {Q:AV→AHeap→Prop}
theorem aAf {o:AV} {l:List AV} (he:IsL H o l) (hl:l.length < 2 ^ 62) (h:Q (.int l.length) H):CW G n (.builtin "len") [o] H Q:=fun A s E vs ao I r=>by
  refine VRs.c r fun _ _ r rs=>?_
  ·
    refine VRs.n rs ?_
    refine aCx he r I fun a ws k la e rs il=>?_
    have hlen:=rs.length
    refine call_len_list il (by simp; exact om45 hl hlen) ⟨.int l.length,H,?_,aBz I,h⟩
    rw [show ws.toArray.size=l.length by simp [hlen]]
    exact .int _ _
theorem aDk {l:List AV} (hl:l.length < 2 ^ 62) (h:Q (.int l.length) H):CW G n (.builtin "len") [.tup l] H Q:=fun A s E vs ao I r=>by
  refine VRs.c r fun _ _ r rs=>?_
  ·
    refine VRs.n rs ?_
    refine VR.tl r fun _ _ _ e q rs=>?_
    ·
      rename_i t ws k
      have hlen:=rs.length
      refine P.len_tuple e (by simp; exact om45 hl hlen) ⟨.int l.length,H,?_,aBz I,h⟩
      rw [show ws.toArray.size=l.length by simp [hlen]]
      exact .int _ _
theorem aHs {b:Int} (h:Q (.rng 0 b 1) H):CW G n (.type "range") [.int b] H Q:=fun A s E vs ao I r=>by
  refine VRs.c r fun _ _ r rs=>?_
  ·
    cases rs; cases r
    exact call_range_1 ⟨.rng 0 b 1,H,.rng (Heap.get?_push_size _ rfl) I.fresh',St.keep I (aAb _ _),h⟩
theorem aNk {a b:Int} (h:Q (.rng a b 1) H):CW G n (.type "range") [.int a,.int b] H Q:=fun A s E vs ao I r=>by
  refine VRs.c r fun _ _ r rs=>?_
  ·
    refine VRs.c rs fun _ _ r2 rs=>?_
    ·
      cases rs; cases r; cases r2
      exact call_range_2 ⟨.rng a b 1,H,.rng (Heap.get?_push_size _ rfl) I.fresh',St.keep I (aAb _ _),h⟩
theorem aYe {a b c:Int} (hc:c≠0) (hd:Builtin.divisionGoesByPylong (b - a) c=false) (h:Q (.rng a b c) H):CW G n (.type "range") [.int a,.int b,.int c] H Q:=fun A s E vs ao I r=>by
  refine VRs.c r fun _ _ r rs=>?_
  ·
    refine VRs.c rs fun _ _ r2 rs=>?_
    ·
      refine VRs.c rs fun _ _ r3 rs=>?_
      ·
        cases rs; cases r; cases r2; cases r3
        exact call_range_3 hc ⟨.rng a b c,H,.rng (Heap.get?_push_size _ rfl) I.fresh',St.keep I (aAb _ _),h⟩ (.inl hd)
theorem bEk {a b:Int} (h:Q (.int (min a b)) H):CW G n (.builtin "min") [.int a,.int b] H Q:=fun A s E vs ao I r=>by
  refine VRs.c r fun _ _ r rs=>?_
  ·
    refine VRs.c rs fun _ _ r2 rs=>?_
    ·
      refine VRs.n rs ?_
      refine VR.il r fun t=>?_
      ·
        refine VR.il r2 fun u=>?_
        ·
          refine min_two_ints ao.hd fun h' tk kp=>⟨.int (min a b),H,?_,St.keep I kp,h⟩
          by_cases c:b < a
          · rw [if_pos c,Int.min_eq_right (Int.le_of_lt c)]; exact .int _ _
          · rw [if_neg c,Int.min_eq_left (Int.not_lt.mp c)]; exact .int _ _
theorem aYf {a b:Int} (h:Q (.int (max a b)) H):CW G n (.builtin "max") [.int a,.int b] H Q:=fun A s E vs ao I r=>by
  refine VRs.c r fun _ _ r rs=>?_
  ·
    refine VRs.c rs fun _ _ r2 rs=>?_
    ·
      refine VRs.n rs ?_
      refine VR.il r fun t=>?_
      ·
        refine VR.il r2 fun u=>?_
        ·
          refine max_two_ints ao.hd fun h' tk kp=>⟨.int (max a b),H,?_,St.keep I kp,h⟩
          by_cases c:b > a
          · rw [if_pos c,Int.max_eq_right (Int.le_of_lt c)]; exact .int _ _
          · rw [if_neg c,Int.max_eq_left (Int.not_lt.mp c)]; exact .int _ _
theorem bKy {a:Int} (h:Q (.int (a.natAbs:Int)) H):CW G n (.builtin "abs") [.int a] H Q:=fun A s E vs ao I r=>by
  refine VRs.c r fun _ _ r rs=>?_
  ·
    cases rs; cases r
    refine call_abs_int fun u tk=>⟨.int a.natAbs,H,?_,aBz I,h⟩
    rw [show (a.natAbs:Int)=if a < 0 then -a else a by split <;> omega]
    exact .int _ _
theorem aAi {o:AV} {l:List AV} (he:IsL H o l) (hl:l.length≤1000) (h:Q (.tup l) H):CW G n (.type "tuple") [o] H Q:=fun A s E vs ao I r=>by
  refine VRs.c r fun _ _ r rs=>?_
  ·
    refine VRs.n rs ?_
    refine aCx he r I fun a ws k la e rs il=>?_
    have hlen:=rs.length
    refine call_tuple_list il (fun h' kp=>?_) (by rw [List.size_toArray,← hlen,sizeLine_eq]; exact om5 hl)
    have kp2:∀ b o,s.heap.get? b=some o→(h'.push { cls:=.type "tuple",data:=.seq ws.toArray }).get? b=some o:=fun b o eb=>aAb _ _ b o (kp b o eb)
    have I':=I.of_keep kp
    exact ⟨.tup l,H,.tup (vs:=ws) (n:=0) (Heap.get?_push_size _ rfl) (I'.fresh aAa) (rs.mono (Ext.of_keep kp2).mon),St.keep I kp2,h⟩
theorem aCd {l:List AV} (h:Q (.tup l) H):CW G n (.type "tuple") [.tup l] H Q:=fun A s E vs ao I r=>by
  refine VRs.c r fun _ _ r rs=>?_
  ·
    refine VRs.n rs ?_
    cases r with
    | tup e q rs=>exact call_tuple_same ⟨_,e,rfl,_,rfl⟩ ⟨.tup l,H,.tup e q rs,St.refl I,h⟩
theorem aHt {l:List AV} (hl:l.length≤1000) (h:∀ D,H D=none→Q (.ref D) (H.set D (.list l))):CW G n (.type "list") [.tup l] H Q:=fun A s E vs ao I r=>by
  refine VRs.c r fun _ _ r rs=>?_
  ·
    refine VRs.n rs ?_
    refine VR.tl r fun _ _ _ e q rs=>?_
    ·
      rename_i t ws k
      have hlen:=rs.length
      refine call_list_seq t (.inr rfl) e rfl rfl (fun h' c' kp e'=>?_) (by rw [List.size_toArray,← hlen,sizeLine_eq]; exact om5 hl)
      have X:=aBj (o':=.list l) I aAa kp
      exact ⟨.ref s.heap.objs.size,H.set s.heap.objs.size (.list l),.val _,⟨aBo I aAa kp ⟨ws,c',e',rs.mono X.mon⟩,X,rfl⟩,h _ I.fresh'⟩
theorem aEp {a:Addr} {l:List AV} {name:Str} {id:String} (he:H a=some (.list l)) (slot:Slot "list" name id) (ty:typeOf (.builtin id)=pure (.type "method_descriptor")):Meth G H (.ref a) name (.builtin id):=fun A s E u pl Q I r h=>by
  cases r
  refine aDe I he fun ws k e rs il=>?_
  exact getMethod_list_of slot ty il ⟨_,e,rfl⟩ h
theorem aAj {a:Addr} {l:List AV} {v:AV} (he:H a=some (.list l)) (hl:l.length < 1000000) (h:Q .none (H.set a (.list (l ++ [v])))):CW G n (.builtin "list.append") [.ref a,v] H Q:=fun A s E vs ao I r=>by
  refine VRs.c r fun _ _ r rs=>?_
  ·
    refine VRs.c rs fun _ _ r2 rs=>?_
    ·
      cases rs; cases r
      rename_i u
      refine aDe I he fun ws k e rs il=>?_
      have hlen:=rs.length
      refine wpAny_list_append_plain (items:=ws.toArray) (hsz:=by rw [List.size_toArray,← hlen,sizeLine_eq]; exact om40 hl) ⟨k,e⟩ fun h' p hs=>?_
      obtain ⟨k',e'⟩:=p
      have e2:h'.get? a=some (lstO (ws ++ [u]) k'):=by rw [e']; simp
      have kp:∀ b x,b≠a→s.heap.get? b=some x→h'.get? b=some x:=fun b x hb q=>(hs.2 b hb).trans q
      have X:=aCc (o':=.list (l ++ [v])) I he kp ⟨_,e2⟩ rfl
      exact ⟨.none,H.set a (.list (l ++ [v])),.val _,⟨aCs I he kp ⟨_,k',e2,(rs.append (.cons r2 .nil)).mono X.mon⟩ rfl,X,rfl⟩,h⟩
theorem bEj {a:Addr} {l:List AV} {v:AV} (he:H a=some (.list (l ++ [v]))) (hl:l.length < 1000000) (h:Q v (H.set a (.list l))):CW G n (.builtin "list.pop") [.ref a] H Q:=fun A s E vs ao I r=>by
  refine VRs.c r fun _ _ r rs=>?_
  ·
    cases rs; cases r
    refine aDe I he fun ws k e rs il=>?_
    have hlen:=rs.length
    simp only [List.length_append,List.length_singleton] at hlen
    obtain ⟨x,ex,rx⟩:=rs.get (i:=l.length) (a:=v) (by simp)
    have hr:VRs H s.heap l (ws.take l.length):=by
      have:=rs.take l.length
      simpa using this
    obtain ⟨I',X⟩:=aGn (l':=l) (vs':=ws.take l.length) I he e (fun xs=>xs.eraseIdxIfInBounds (ws.toArray.size - 1)) (by
      have:ws.toArray.size - 1=l.length:=by simp; exact om42 hlen
      rw [this]
      apply Array.toList_inj.mp
      rw [Array.eraseIdxIfInBounds]
      rw [dif_pos (by simp; exact om44 hlen)]
      simp
      rw [List.eraseIdx_eq_take_drop_succ,List.drop_eq_nil_of_le (om43 hlen),List.append_nil]) hr
    refine call_meets F.slot_list_pop ⟨_,e,rfl⟩ F.entry_list_pop (F.args_list_pop_1 _) (MeetsSeq.list_pop_last a ws.toArray k x (by
      have:ws.toArray.size - 1=l.length:=by simp; exact om42 hlen
      rw [this]; simpa using ex) (by rw [List.size_toArray,sizeLine_eq]; exact om41 hl hlen)) ⟨e,?_⟩
    exact ⟨v,H.set a (.list l),rx.mono X.mon,⟨I',X,rfl⟩,h⟩
theorem aUg {a:Addr} {l:List AV} (he:H a=some (.list l)) (hl:l.length < 1000000) (h:Q .none (H.set a (.list l.reverse))):CW G n (.builtin "list.reverse") [.ref a] H Q:=fun A s E vs ao I r=>by
  refine VRs.c r fun _ _ r rs=>?_
  ·
    cases rs; cases r
    refine aDe I he fun ws k e rs il=>?_
    have hlen:=rs.length
    obtain ⟨I',X⟩:=aGn (l':=l.reverse) (vs':=ws.reverse) I he e (fun xs=>xs.reverse) (by simp) rs.reverse
    refine call_meets F.slot_list_reverse ⟨_,e,rfl⟩ F.entry_list_reverse (F.args_list_reverse_1 _) (AutoSeq1.list_reverse_list_0 a ws.toArray k (by rw [List.size_toArray,← hlen,sizeLine_eq]; exact om40 hl)) ⟨e,?_⟩
    exact ⟨.none,H.set a (.list l.reverse),.val _,⟨I',X,rfl⟩,h⟩
theorem aPe {a:Addr} {l:List AV} (he:H a=some (.list l)):Meth G H (.ref a) "append" (.builtin "list.append"):=aEp he F.slot_list_append F.type_list_append
theorem bBf {a:Addr} {l:List AV} (he:H a=some (.list l)):Meth G H (.ref a) "pop" (.builtin "list.pop"):=aEp he F.slot_list_pop F.type_list_pop
theorem aMq {a:Addr} {l:List AV} (he:H a=some (.list l)):Meth G H (.ref a) "reverse" (.builtin "list.reverse"):=aEp he F.slot_list_reverse F.type_list_reverse
theorem aPd {a:Addr} {l:List AV} (he:H a=some (.list l)):Meth G H (.ref a) "extend" (.builtin "list.extend"):=aEp he F.slot_list_extend F.type_list_extend
theorem aYh {o:AV} {l:List Bool} (he:IsL H o (l.map AV.bool)) (h:Q (.bool (l.all id)) H):CW G n (.builtin "all") [o] H Q:=fun A s E vs ao I r=>by
  refine VRs.c r fun _ _ r rs=>?_
  ·
    refine VRs.n rs ?_
    refine aCx he r I fun a ws k la e rs il=>?_
    have hlen:=rs.length
    have kp:=aAb s.heap { cls:=.type "list_iterator",data:=.fields #[.ref a,.int 0 0] }
    have hI:(s.heap.push { cls:=.type "list_iterator",data:=.fields #[.ref a,.int 0 0] }).get? s.heap.objs.size=some { cls:=.type "list_iterator",data:=.fields #[.ref a,.int 0 0] }:=Heap.get?_push_size _ rfl
    have hw:ws=l.map Value.bool:=by
      apply List.ext_getElem?
      intro i
      by_cases hi:i < l.length
      · obtain ⟨x,ex,rx⟩:=rs.get (i:=i) (a:=AV.bool l[i]) (by simp [hi])
        cases rx
        rw [ex]; simp [hi]
      · rw [List.getElem?_eq_none (by simp at hlen; exact om39 hi hlen),List.getElem?_eq_none (by simp; exact om38 hi)]
    have hne:a≠s.heap.objs.size:=fun z=>by rw [z,aAa] at e; cases e
    refine call_all_walk (wpAny_pyIter_list il ⟨s.heap.objs.size,_,_,_,_,_,fun i=>l.getD i true,rfl,Walks.list (A:=A.in1) (show A.in1.handled=none from ao.hd) s.heap.objs.size a hne ws.toArray,⟨⟨_,hI,rfl,rfl⟩,il.push _⟩,fun i v s2 Q2 E2 hP hq=>?_,fun h' tk k2=>?_⟩)
    · subst hw
      have:v=.bool (l.getD i true):=by
        have h1:(l.map Value.bool)[i]?=some v:=by simpa using hP
        rw [List.getElem?_map] at h1
        obtain ⟨y,ey,e2⟩:=Option.map_eq_some_iff.mp h1
        rw [← e2,List.getD_eq_getElem?_getD,ey]; rfl
      subst this
      exact wpAny_truthy_bool hq
    · refine ⟨.bool (l.all id),H,?_,St.keep I fun b o eb=>k2 b o (fun m=>by rw [List.mem_singleton.mp m,aAa] at eb; cases eb) (kp b o eb),h⟩
      have ee:(List.range ws.toArray.size).all (fun i=>l.getD i true)=l.all id:=by
        rw [Bool.eq_iff_iff,List.all_eq_true,List.all_eq_true]
        have hz:ws.toArray.size=l.length:=by simp at hlen; simp [hlen]
        rw [hz]
        constructor
        · intro q x hx
          obtain ⟨i,hi,ei⟩:=List.mem_iff_getElem.mp hx
          have:=q i (List.mem_range.mpr hi)
          rw [List.getD_eq_getElem?_getD,List.getElem?_eq_getElem hi,ei] at this
          exact this
        · intro q i hi
          have hi':=List.mem_range.mp hi
          rw [List.getD_eq_getElem?_getD,List.getElem?_eq_getElem hi']
          exact q _ (List.getElem_mem hi')
      rw [ee]; exact .val _
end
section
variable {G:Cx} {n:Nat} {env:Env} {H:AHeap} {L:Loc} {Q:AV→AHeap→Prop}
theorem VRs.ints {h:Heap} {ns:List Int} {vs:List Value} (r:VRs H h (ns.map .int) vs):IntsAre vs ns:=by
  induction ns generalizing vs with
  | nil=>cases r; exact .nil
  | cons i ns ih =>
    cases r with
    | cons r rs=>cases r; exact .cons _ _ (ih rs)
theorem aQi {o:AV} {k:Int} {ns:List Int} (he:IsL H o (ns.map .int)) (h:Q (.bool (ns.any (· == k))) H):Bin G n (compareOp .In) (.int k) o H Q:=fun A s E u v ao I r1 r2=>by
  refine VR.il r1 fun _=>?_
  refine aCx he r2 I fun a vs c la e rs il=>?_
  exact in_list_ints il rs.ints ⟨_,H,.val _,St.refl I,h⟩
theorem aIc {k:Int} {ns:List Int} (h:Q (.bool (ns.any (· == k))) H):Bin G n (compareOp .In) (.int k) (.tup (ns.map .int)) H Q:=fun A s E u v ao I r1 r2=>by
  refine VR.il r1 fun _=>?_
  cases r2 with
  | tup e q rs=>exact in_tuple_ints (items:=_) ⟨_,e,rfl,_,rfl⟩ rs.ints ⟨_,H,.val _,St.refl I,h⟩
theorem VRs.bools {h:Heap} {l:List Bool} {vs:List Value} (r:VRs H h (l.map AV.bool) vs):vs=l.map Value.bool:=by
  induction l generalizing vs with
  | nil=>cases r; rfl
  | cons i l ih =>
    cases r with
    | cons r rs=>cases r; exact congrArg _ (ih rs)
theorem aQd {o:AV} {l:List Bool} (he:IsL H o (l.map AV.bool)) (h:Q (.bool (l.any id)) H):Bin G n (compareOp .In) (AV.bool true) o H Q:=fun A s E u v ao I r1 r2=>by
  cases r1
  refine aCx he r2 I fun a vs c la e rs il=>?_
  have hv:=rs.bools
  subst hv
  refine SeqAt.in_listAt (fun v=>v == .bool true) il (fun y hy=>?_) ⟨_,H,?_,St.refl I,h⟩
  · obtain ⟨b,_,e⟩:=List.mem_map.mp (List.mem_toArray.mp hy)
    subst e
    have:=SeqAt.EqAt.bool_bool (A:=A.in1) (s:=s) b true
    rwa [show (b == true)=(Value.bool b == Value.bool true) from by cases b <;> rfl] at this
  · have ee:((l.map Value.bool).toArray.any fun v=>v == .bool true)=l.any id:=by
      simp only [List.any_toArray,List.any_map]
      congr 1
      funext b; cases b <;> rfl
    rw [ee]; exact .val _
theorem aOd {o:AV} {l:List (List AV)} (he:IsL H o (l.map .tup)) (hne:∀ x∈l,x≠[]) (h:Q (.bool false) H):Bin G n (compareOp .In) (.tup []) o H Q:=fun A s E u v ao I r1 r2=>by
  refine aCx he r2 I fun a vs c la e rs il=>?_
  cases r1 with
  | tup e1 q1 rs1 =>
    cases rs1
    refine SeqAt.in_listAt (fun _=>false) il (fun y hy=>?_) ⟨_,H,?_,St.refl I,h⟩
    · obtain ⟨i,hi,ei⟩:=List.mem_iff_getElem.mp (by simpa using hy:y∈vs)
      have hlen:=rs.length
      obtain ⟨x,ex,rx⟩:=rs.get (i:=i) (a:=.tup (l[i]'(by simp at hlen; exact om48 hi hlen))) (by rw [List.getElem?_map,List.getElem?_eq_getElem (by simp at hlen; exact om48 hi hlen)]; rfl)
      rw [List.getElem?_eq_getElem hi,ei] at ex
      cases ex
      cases rx with
      | tup e2 q2 rs2 =>
        have hl2:=rs2.length
        have hn:=hne _ (List.getElem_mem (by simp at hlen; exact om48 hi hlen:i < l.length))
        have hz:vs.length=l.length:=by simpa using hlen.symm
        rename_i t2 ws k2
        have hws:ws≠[]:=fun z=>hn (List.eq_nil_of_length_eq_zero (by rw [hl2,z]; rfl))
        have rc:=SeqAt.RcAt.tuples (A:=A.in1) (s:=s) (e:=fun _=>false) (l:=t2) (items:=ws.toArray) (items2:=#[]) ⟨_,e2,rfl,_,rfl⟩ ⟨_,e1,rfl,_,rfl⟩ (by have:=ao.units; simp only [Around.in1_units]; exact om14 this) (fun j h1 h2=>by simp at h2)
        have ef:((List.range (min ws.toArray.size (#[]:Array Value).size)).all (fun _=>false) && ws.toArray.size == (#[]:Array Value).size)=false:=by
          simp; exact hws
        rw [ef] at rc
        refine SeqAt.EqAt.of_refs (fun z=>?_) rc
        rw [z,e1] at e2
        injection e2 with e2
        injection e2 with _ _ e2 _
        injection e2 with e2
        exact hws (by simpa using congrArg Array.toList e2.symm)
    · have ee:(vs.toArray.any fun _=>false)=false:=by simp
      rw [ee]; exact .val _
theorem aQs {a:Addr} {l l':List AV} {vs vs':List Value} {A:Around} {E:Value→Shared→Prop} {s:Shared} {vl vu:Value} {lo hi:Option Int} {value slice:Expr}
    (I:Inv G H s.heap) (il:s.heap.IsList a vs.toArray) (hsl:(slicePick vs.toArray lo hi none)=vs'.toArray) (r:VRs H s.heap l' vs') (pl:IsPart vl lo) (pu:IsPart vu hi) (hz:vs.length≤1000000)
    (hs:∀ o i,subscripted slice false o i=operate [i,o] (getItem o i)) (h:∀ D,H D=none→Q (.ref D) (H.set D (.list l'))) :
    wpAny (MD G) A (subscriptTail value slice (.ref a) (.ref s.heap.objs.size)) (PV G H s Q) E { s with heap:=s.heap.push { cls:=.type "slice",data:=.fields #[vl,vu,.none] } }:=by
  have il':=il.push { cls:=.type "slice",data:=.fields #[vl,vu,.none] }
  refine tail_any il'.typeIs slot_list_getitem.lookup (wpAny_getItem_list_slice il' (Heap.IsSliceOf.new ..) pl pu .none (by simp) ?_ (by rw [List.size_toArray,sizeLine_eq]; exact om47 hz)) (hs _ _)
  rw [hsl]
  have kp:∀ b o,s.heap.get? b=some o→((s.heap.push { cls:=.type "slice",data:=.fields #[vl,vu,.none] }).push { cls:=.type "list",data:=.seq vs'.toArray }).get? b=some o:=fun b o eb=>aAb _ _ b o (aAb _ _ b o eb)
  have hn:s.heap.get? (s.heap.push { cls:=.type "slice",data:=.fields #[vl,vu,.none] }).objs.size=none:=by
    rw [Heap.size_push]; exact aCb (Nat.le_succ _)
  have X:=aBj (o':=.list l') I hn kp
  exact ⟨.ref _,H.set _ (.list l'),.val _,⟨aBo I hn kp ⟨vs',0,Heap.get?_push_size _ rfl,r.mono X.mon⟩,X,rfl⟩,h _ (I.fresh hn)⟩
theorem aIi {H:AHeap} {h:Heap} {ns:List Int} {vs:List Value} (x:IntsAre vs ns):VRs H h (ns.map .int) vs:=by
  induction x with
  | nil=>exact .nil
  | cons i t _ ih=>exact .cons (.int i t) ih
noncomputable def BaseL (G:Cx) (o:AV) (l:List AV):Prop:=∃ a vs ns,o=.val (.ref a)∧G.hB.IsList a vs.toArray∧IntsAre vs ns∧l=ns.map .int
theorem bKp {o:AV} {l:List AV} {h:Heap} {v:Value} (e:IsL H o l∨BaseL G o l) (r:VR H h o v) (I:Inv G H h):∃ a vs,v=.ref a∧VRs H h l vs∧h.IsList a vs.toArray:=by
  rcases e with e | ⟨a,vs,ns,rfl,⟨ob,e,q⟩,hi,rfl⟩
  · refine aCx e r I fun a vs c la e rs il=>?_
    exact ⟨a,vs,rfl,rs,il⟩
  · cases r
    exact ⟨a,vs,rfl,aIi hi,⟨ob,(I.base _ _ e).1,q⟩⟩
theorem aJv {value:Expr} {up:Expr} {p pos:Pos} (h:WE G n env value H L fun o H1=>WE G n env up H1 L fun i H2=>∃ l k,(IsL H2 o l∨BaseL G o l)∧i=.int (k:Nat)∧l.length≤1000000∧∀ D,H2 D=none→Q (.ref D) (H2.set D (.list (l.take k)))) :
    WE G n env (.Subscript value (.Slice none (some up) none p) pos) H L Q:=fun A s E ao I F=>by
  refine Subscript_ (pvo (h A s E ao I F) fun u s1 av H1 r1 t1 q1=>?_)
  refine wpAny_Slice ?_
  rw [evalPart_none]
  refine wpAny_pure ?_
  show wpAny _ A (eval up env) _ _ s1
  refine pvo (q1 A s1 E ao t1.inv (F.step t1.ext)) fun v s2 bv H2 r2 t2 qq=>?_
  obtain ⟨l,k,e3,e2,e4,q⟩:=qq
  subst e2
  refine VR.il r2 fun _=>?_
  refine wpAny_pure ?_
  obtain ⟨a,vs,rfl,rs,il⟩:=bKp e3 (r1.mono t2.mon) t2.inv
  have hlen:=rs.length
  refine PV.aft (t1.trans t2) (aQs (value:=value) (slice:=.Slice none (some up) none p) (E:=E) (A:=A) (l:=l) (l':=l.take k) (vs':=vs.take k) (lo:=none) (hi:=some (k:Nat)) t2.inv il (by rw [slicePick_upto']) (rs.take k) .none (.int _ _) (om46 e4 hlen) (fun _ _=>rfl) q)
theorem aJw {value:Expr} {lo:Expr} {p pos:Pos} (h:WE G n env value H L fun o H1=>WE G n env lo H1 L fun i H2=>∃ l k,IsL H2 o l∧i=.int (k:Nat)∧l.length≤1000000∧∀ D,H2 D=none→Q (.ref D) (H2.set D (.list (l.drop k)))) :
    WE G n env (.Subscript value (.Slice (some lo) none none p) pos) H L Q:=fun A s E ao I F=>by
  refine Subscript_ (pvo (h A s E ao I F) fun u s1 av H1 r1 t1 q1=>?_)
  refine wpAny_Slice ?_
  show wpAny _ A (eval lo env) _ _ s1
  refine pvo (q1 A s1 E ao t1.inv (F.step t1.ext)) fun v s2 bv H2 r2 t2 qq=>?_
  obtain ⟨l,k,e3,e2,e4,q⟩:=qq
  subst e2
  refine VR.il r2 fun _=>?_
  refine wpAny_pure (wpAny_pure ?_)
  refine aCx e3 (r1.mono t2.mon) t2.inv fun a vs c la e rs il=>?_
  have hlen:=rs.length
  refine PV.aft (t1.trans t2) (aQs (value:=value) (slice:=.Slice (some lo) none none p) (E:=E) (A:=A) (l:=l) (l':=l.drop k) (vs':=vs.drop k) (lo:=some (k:Nat)) (hi:=none) t2.inv il (by rw [slicePick_from']) (rs.drop k) (.int _ _) .none (om46 e4 hlen) (fun _ _=>rfl) q)
end
section
theorem aLz (w:World) (k:Str) (t:Tok):(strKind PG w).is k (.str k t)=true:=by show Value.isStrOf k (.str k t)=true; simp [Value.isStrOf]
section
variable {G:Cx} {n:Nat} {env:Env} {H:AHeap} {L:Loc} {Q:AV→AHeap→Prop}
theorem bAa {A:Around} {C:Addr} {rest:List Value} (a:AOk A (n+1)):AOk (A.under (.builtin "type.__call__" ⟨.ref C :: rest,[]⟩)) n:=by
  have h1:(Code.builtin "type.__call__" ⟨.ref C :: rest,[]⟩).weight=1:=by kernel_rfl
  have h2:(Code.builtin "type.__call__" ⟨.ref C :: rest,[]⟩).cUnits≤3:=by
    have:(Code.builtin "type.__call__" ⟨.ref C :: rest,[]⟩).cUnits=1:=by kernel_rfl
    exact om50 this
  refine ⟨a.hd,?_,?_⟩
  · have:=a.room
    show A.depth+_+n < _
    rw [h1]; exact om11 this
  · have:=a.units
    show A.units+_+8 * n+8 < _
    exact om49 h2 this
theorem aYg {C fI:Addr} {args:List AV} {Q:AV→AHeap→Prop} (hm:makesIn (KF G.w) C=true) (hi:findIn (KF G.w) (.ref C) "__init__" = some (some (.ref fI))) (hf:typeIn (KF G.w) (.ref fI)=some (.type "function"))
    (h:∀ x dx,H x=none→H dx=none→x≠dx→CC G n (.ref fI) (.ref x :: args) ((H.set dx (.attrs [])).set x (.inst C dx)) fun r H'=>r=.none∧Q (.ref x) H') :
    CW G (n+1) (.ref C) args H Q:=fun A s E vs ao I r=>by
  obtain ⟨hh,g,d,t,os⟩:=s
  refine wpAny_call (make_core (makes_of I.frag hm) (looks_findIn I.frag hi) (fun self=>bind_fn I.frag self hf) (.inl rfl) ?_)
  have k1:=aAb hh emptyDict
  have k2:=aAb (hh.push emptyDict) (instObj C hh.objs.size)
  have X1:=aBj (o':=.attrs []) I aAa k1
  have I1:Inv G (H.set hh.objs.size (.attrs [])) (hh.push emptyDict):=aBo I aAa k1 ⟨[],0,Heap.get?_push_size _ rfl,.nil⟩
  have hsz:(hh.push emptyDict).objs.size=hh.objs.size+1:=Heap.size_push ..
  have hn1:(hh.push emptyDict).get? (hh.objs.size+1)=none:=by rw [← hsz]; exact aAa
  have hx:((hh.push emptyDict).push (instObj C hh.objs.size)).get? (hh.objs.size+1)=some (instObj C hh.objs.size):=by
    rw [← hsz]; exact Heap.get?_push_size _ rfl
  have X2:=aBj (o':=.inst C hh.objs.size) I1 hn1 k2
  have I2:=aBo (o':=.inst C hh.objs.size) I1 hn1 k2 hx
  have T:St G [] H ⟨hh,g,d,t,os⟩ ((H.set hh.objs.size (.attrs [])).set (hh.objs.size+1) (.inst C hh.objs.size)) ⟨(hh.push emptyDict).push (instObj C hh.objs.size),g,d,t,os⟩:=⟨I2,X1.trans X2,rfl⟩
  have hfx:H (hh.objs.size+1)=none:=I.fresh (aCb (Nat.le_succ _))
  refine h (hh.objs.size+1) hh.objs.size hfx I.fresh' (Nat.succ_ne_self _) _ _ _ _ (bAa ao) I2 (.cons (.val _) (r.mono T.mon)) fun v s' ⟨av,H',rv,t',e,q⟩=>?_
  subst e
  cases rv
  exact ⟨rfl,.ref (hh.objs.size+1),H',.val _,T.trans t',q⟩
theorem aZv {k1 k2:Str} {p1 p2 pos:Pos} {c1 c2:Nat} {v1 v2:Expr} (hk:k1≠k2)
    (h:WE G n env v1 H L fun a H1=>WE G n env v2 H1 L fun b H2=>∀ D,H2 D=none→Q (.ref D) (H2.set D (.sdict [(k1,a),(k2,b)]))) :
    WE G n env (.Dict [some (.Constant (.str k1) c1 p1),some (.Constant (.str k2) c2 p2)] [v1,v2] pos) H L Q:=fun A s E ao I F=>by
  refine wpAny_Dict_pairs (knd:=strKind PG G.w) (pairs:=[(eval (.Constant (.str k1) c1 p1) env,do let x ← eval v1 env; standAt pos; pure x),(eval (.Constant (.str k2) c2 p2) env,do let x ← eval v2 env; standAt pos; pure x)]) rfl (by simp) (by simp) ?_
  have kp:=aAb s.heap { cls:=.type "dict",data:=.dict #[] }
  have I0:=I.of_keep kp
  have F0:=F.step (Ext.of_keep (H:=H) kp)
  have hD:(s.heap.push { cls:=.type "dict",data:=.dict #[] }).get? s.heap.objs.size=some { cls:=.type "dict",data:=.dict #[] }:=Heap.get?_push_size _ rfl
  refine evalPairs_cons (Constant_str ?_)
  refine wpAny_bind (pvo (h A _ E ao (show Inv G H (s.heap.push _) from I0) F0) fun u s1 av H1 r1 t1 q1=>wpAny_bind (wpAny_standAt (wpAny_pure ?_)))
  refine evalPairs_cons (Constant_str ?_)
  refine wpAny_bind (pvo (q1 A _ E ao (show Inv G H1 s1.heap from t1.inv) (F0.step t1.ext)) fun w s2 bv H2 r2 t2 q2=>wpAny_bind (wpAny_standAt (wpAny_pure ?_)))
  refine evalPairs_nil ?_
  have T1:=(St.keep (own:=[]) (t:=s.toks+1) (s:=s) I kp).trans (H':=H) (H'':=H1) (s'':=s1) ⟨t1.inv,t1.ext,t1.same⟩
  have T2:St G [] H s H2 s2:=T1.trans ⟨t2.inv,t2.ext,t2.same⟩
  have hn0:H s.heap.objs.size=none:=I.fresh'
  have e1:s1.heap.get? s.heap.objs.size=some { cls:=.type "dict",data:=.dict #[] }:=t1.ext.keep _ _ hD hn0 (fun m=>nomatch m)
  have n1:H1 s.heap.objs.size=none:=t1.ext.off _ _ hD hn0
  have e2:s2.heap.get? s.heap.objs.size=some { cls:=.type "dict",data:=.dict #[] }:=t2.ext.keep _ _ e1 n1 (fun m=>nomatch m)
  have n2:H2 s.heap.objs.size=none:=t2.ext.off _ _ e1 n1
  refine ⟨[(k1,u),(k2,w)],⟨aLz _ _ _,rfl,aLz _ _ _,rfl,trivial⟩,?_,fun h' d' hs'=>?_⟩
  · exact (Heap.DictOf.new (knd:=strKind PG G.w) s.heap).at fun o e=>by rw [hD] at e; cases e; exact e2
  · have em:merged [] [(k1,u),(k2,w)]=[(k1,u),(k2,w)]:=by
      show stored (stored [] k1 u) k2 w=_
      simp [stored,hk]
    rw [em] at d'
    obtain ⟨o,es,ep,eo,rest⟩:=id d'
    have kp2:∀ b x,b≠s.heap.objs.size→s2.heap.get? b=some x→h'.get? b=some x:=fun b x hb q=>(hs'.2 b hb).trans q
    have nb:G.hB.get? s.heap.objs.size=none:=by
      cases q:G.hB.get? s.heap.objs.size with
      | none=>rfl
      | some o=>have:=I.keep _ _ q; rw [aAa] at this; cases this
    have X:Ext [] H s.heap (H2.set s.heap.objs.size (.sdict [(k1,av),(k2,bv)])) h':=by
      refine ⟨fun b o e q n=>kp2 b o (fun z=>by rw [z,aAa] at e; cases e) (T2.ext.keep b o e q n),fun b o e q f=>kp2 b o (fun z=>by rw [z,aAa] at e; cases e) (T2.ext.seq b o e q f),fun b o e q=>?_,fun b o e=>?_,fun b o e=>?_,fun b l f q=>?_⟩
      · rw [AHeap.set_ne (fun z=>by rw [z,aAa] at e; cases e)]; exact T2.ext.off b o e q
      · obtain ⟨o',e'⟩:=T2.ext.there b o e
        exact ⟨o',kp2 b o' (fun z=>by rw [z,aAa] at e; cases e) e'⟩
      · obtain ⟨o',e'⟩:=T2.ext.dom b o e
        exact aDb b o' e'
      · have q2:=T2.ext.frz b l f q
        rw [AHeap.set_ne (fun z=>by rw [z,n2] at q2; cases q2)]; exact q2
    have M2:Mon H2 s2.heap (H2.set s.heap.objs.size (.sdict [(k1,av),(k2,bv)])) h':=⟨fun b o e q f=>by
      have hb:b≠s.heap.objs.size:=fun z=>by
        rw [z,e2] at e; cases e
        exact aKp rfl f
      exact ⟨kp2 b o hb e,by rw [AHeap.set_ne hb]; exact q⟩,fun b l f q=>by rw [AHeap.set_ne (fun z=>by rw [z,n2] at q; cases q)]; exact q⟩
    have I':Inv G (H2.set s.heap.objs.size (.sdict [(k1,av),(k2,bv)])) h':=by
      refine ⟨fun b o e=>?_,fun b o e=>?_⟩
      · obtain ⟨g1,g2⟩:=T2.inv.base b o e
        have hb:b≠s.heap.objs.size:=fun z=>by rw [z,nb] at e; cases e
        exact ⟨kp2 b o hb g1,by rw [AHeap.set_ne hb]; exact g2⟩
      · by_cases z:b=s.heap.objs.size
        · subst z
          rw [AHeap.set_same] at e; cases e
          exact ⟨_,d',.cons ((r1.mono t2.mon).mono M2) (.cons (r2.mono M2) .nil)⟩
        · rw [AHeap.set_ne z] at e
          exact (T2.inv.obj b o e).mono M2 fun x ex=>kp2 b x z ex
    exact ⟨.ref s.heap.objs.size,_,.val _,⟨I',X,T2.same.trans rfl⟩,q2 _ n2⟩
end
end
section
variable {G:Cx} {n:Nat} {env:Env} {H:AHeap} {L:Loc} {Q:AV→AHeap→Prop}
theorem bBu {target:Expr} {body:List Stmt} {src:AHeap→Prop} {Q:AFl→AHeap→Loc→Prop} {vals:List AV} (J:Nat→AHeap→Loc→Prop) (h0:J 0 H L)
    (step:∀ i v H L,vals[i]?=some v→J i H L→src H∧AW G n env target v H L fun H1 L1=>WSs G n env body H1 L1 fun f H2 L2=>match f with
      | .next | .cont=>J (i+1) H2 L2
      | .brk=>Q .next H2 L2
      | .ret r=>Q (.ret r) H2 L2)
    (fin:∀ H L,J vals.length H L→src H∧Q .next H L):ForV G n env target body src Q vals H L:=by
  have key:∀ k i H L,i+k=vals.length→J i H L→ForV G n env target body src Q (vals.drop i) H L:=by
    intro k
    induction k with
    | zero =>
      intro i H L hi hj
      have:i=vals.length:=om54 hi
      subst this
      rw [List.drop_length]
      exact fin H L hj
    | succ k ih =>
      intro i H L hi hj
      have hlt:i < vals.length:=om53 hi
      rw [List.drop_eq_getElem_cons hlt]
      obtain ⟨hs,ha⟩:=step i _ H L (List.getElem?_eq_getElem hlt) hj
      refine ⟨hs,fun A s E u ao I F r=>pao (ha A s E u ao I F r) fun _ s1 H1 L1 t1 F1 q=>⟨H1,L1,t1,F1,?_⟩⟩
      refine q.mono fun f H2 L2 q2=>?_
      cases f with
      | next=>exact ih (i+1) H2 L2 (om52 hi) q2
      | cont=>exact ih (i+1) H2 L2 (om52 hi) q2
      | brk=>exact q2
      | ret r=>exact q2
  simpa using key vals.length 0 H L om51 h0
theorem CIf.mono {ifs:List Expr} {Q Q':Bool→AHeap→Prop} (x:CIf G n env ifs H L Q) (k:∀ b H',Q b H'→Q' b H'):CIf G n env ifs H L Q':=by
  match ifs,x with
  | [],x=>exact k _ _ x
  | [c],x=>exact fun A s E a I F=>pbo (x A s E a I F) fun b s1 H1 t q=>⟨H1,t,k _ _ q⟩
theorem bKz {target:Expr} {ifs:List Expr} {elt:Expr} {src:AHeap→Prop} {Kt:List AV→AHeap→Loc→Prop} {vals acc0:List AV} (J:Nat→List AV→AHeap→Loc→Prop) (h0:J 0 acc0 H L)
    (step:∀ i v acc H L,vals[i]?=some v→J i acc H L→src H∧AW G n env target v H L fun H1 L1=>CIf G n env ifs H1 L1 fun b H2 =>
      (b=true→acc.length < 1000000∧WE G n env elt H2 L1 fun y H3=>J (i+1) (acc ++ [y]) H3 L1)∧(b=false→J (i+1) acc H2 L1))
    (fin:∀ acc H L,J vals.length acc H L→src H∧Kt acc H L):CV G n env target ifs elt src Kt vals acc0 H L:=by
  have key:∀ k i acc H L,i+k=vals.length→J i acc H L→CV G n env target ifs elt src Kt (vals.drop i) acc H L:=by
    intro k
    induction k with
    | zero =>
      intro i acc H L hi hj
      have:i=vals.length:=om54 hi
      subst this
      rw [List.drop_length]
      exact fin acc H L hj
    | succ k ih =>
      intro i acc H L hi hj
      have hlt:i < vals.length:=om53 hi
      rw [List.drop_eq_getElem_cons hlt]
      obtain ⟨hs,ha⟩:=step i _ acc H L (List.getElem?_eq_getElem hlt) hj
      refine ⟨hs,fun A s E u ao I F r=>pao (ha A s E u ao I F r) fun _ s1 H1 L1 t1 F1 q=>⟨H1,L1,t1,F1,?_⟩⟩
      refine CIf.mono q fun b H2 q2=>⟨fun hb=>?_,fun hb=>ih (i+1) acc H2 L1 (om52 hi) (q2.2 hb)⟩
      obtain ⟨hl,hw⟩:=q2.1 hb
      exact ⟨hl,hw.mono fun y H3 q3=>ih (i+1) _ H3 L1 (om52 hi) q3⟩
  simpa using key vals.length 0 acc0 H L om51 h0
noncomputable def HLe (H H':AHeap):Prop:=∀ a o,H a=some o→H' a=some o
theorem HLe.refl (H:AHeap):HLe H H:=fun _ _ e=>e
theorem HLe.trans {H H' H'':AHeap} (x:HLe H H') (y:HLe H' H''):HLe H H'':=fun a o e=>y a o (x a o e)
theorem HLe.set {H H':AHeap} {D:Addr} {o:AObj} (x:HLe H H') (h:H' D=none):HLe H (H'.set D o):=fun a o' e=>by
  have e':=x a o' e
  rw [AHeap.set_ne (fun z=>by rw [z,h] at e'; cases e')]; exact e'
theorem HLe.new {H:AHeap} {D:Addr} {o:AObj} (h:H D=none):HLe H (H.set D o):=(HLe.refl H).set h
noncomputable def HBut (ds:List Addr) (H H':AHeap):Prop:=(∀ a o,a∉ds→H a=some o→H' a=some o)∧∀ a o,H a=some o→∃ o',H' a=some o'
theorem HLe.but {ds:List Addr} {H H':AHeap} (x:HLe H H'):HBut ds H H':=⟨fun a o _ e=>x a o e,fun a o e=>⟨o,x a o e⟩⟩
theorem HBut.trans {ds:List Addr} {H H' H'':AHeap} (x:HBut ds H H') (y:HBut ds H' H''):HBut ds H H'':=⟨fun a o n e=>y.1 a o n (x.1 a o n e),fun a o e=>let ⟨o',e'⟩:=x.2 a o e; y.2 a o' e'⟩
theorem HBut.set {ds:List Addr} {H H':AHeap} {D:Addr} {o:AObj} (x:HBut ds H H') (h:D∈ds):HBut ds H (H'.set D o):=⟨fun a o' n e=>by
  rw [AHeap.set_ne (show a≠D from fun z=>n (by rw [z]; exact h))]; exact x.1 a o' n e,fun a o' e=>let ⟨_,e'⟩:=x.2 a o' e; aDb a _ e'⟩
theorem HBut.setn {ds:List Addr} {H H':AHeap} {D:Addr} {o:AObj} (x:HBut ds H H') (h:H' D=none):HBut ds H (H'.set D o):=⟨fun a o' n e=>by
  have e':=x.1 a o' n e
  rw [AHeap.set_ne (fun z=>by rw [z,h] at e'; cases e')]; exact e',fun a o' e=>let ⟨_,e'⟩:=x.2 a o' e; aDb a _ e'⟩
theorem HBut.fresh {ds:List Addr} {H H':AHeap} {D:Addr} (x:HBut ds H H') (h:H' D=none):H D=none:=by
  cases q:H D with
  | none=>rfl
  | some o=>obtain ⟨o',e⟩:=x.2 D o q; rw [h] at e; cases e
theorem HLe.fresh {H H':AHeap} {D:Addr} (x:HLe H H') (h:H' D=none):H D=none:=(x.but (ds:=[])).fresh h
end
noncomputable def objOf (w:World) (f:Addr):Obj:=((KF w).lookup f).getD default
noncomputable def fdOf (w:World) (f:Addr):FuncData:=match (objOf w f).data with
  | .func fd=>fd
  | _=>default
noncomputable def aFx:List Str→Bool
  | []=>true
  | x :: r=>!r.contains x && aFx r
theorem aCj {l:List Str}:aFx l=true→l.Nodup:=by
  induction l with
  | nil=>exact fun _=>.nil
  | cons x r ih =>
    intro h
    unfold aFx at h
    rw [Bool.and_eq_true] at h
    refine List.nodup_cons.mpr ⟨fun m=>?_,ih h.2⟩
    have:=h.1
    simp [m] at this
noncomputable def aDu (scope:Scope) (env:Env):List (Str × Addr):=scope.names.foldl (fun cs x=>if x.2 == NameKind.free then (match env.cells.lookup x.1 with | some c=>(x.1,c) :: cs | none=>cs) else cs) []
section
variable {G:Cx} {n:Nat} {env:Env} {H:AHeap} {L:Loc}
theorem bHk {c:Expr} {Q:Bool→AHeap→Prop} (h:WT G n env c H L Q):CIf G n env [c] H L Q:=h
theorem aYk {Q:Bool→AHeap→Prop} (h:Q true H):CIf G n env [] H L Q:=h
end
section
variable {G:Cx} {n:Nat} {env:Env} {H:AHeap} {L:Loc}
end
section
variable {G:Cx} {n:Nat} {env:Env} {H:AHeap} {L:Loc}
theorem WT.mono {e:Expr} {Q Q':Bool→AHeap→Prop} (x:WT G n env e H L Q) (k:∀ b H',Q b H'→Q' b H'):WT G n env e H L Q':=fun A s E a I F =>
  pbo (x A s E a I F) fun _ _ H' t q=>⟨H',t,k _ _ q⟩
end
section
theorem aQo {prog:Program} {w:World} {A:Around} {I:Addr} {fp wr:List Addr} {n:Nat} {P:Nat→Value→Prop} {St:Nat→Heap→Prop} (W:Walks prog w A I fp wr n P St) (m:Nat) (pre:Nat→Value→Prop) :
    Walks prog w A I fp wr (m+n) (fun i v=>if i < m then pre i v else P (i - m) v) (fun i h=>m≤i∧St (i - m) h) where
  sub:=W.sub
  frame:=fun i h h' st hk=>⟨st.1,W.frame _ h h' st.2 hk⟩
  item:=fun i s Q E hi st hQ=>W.item (i - m) s Q E (by have:=st.1; exact om66 hi this) st.2 fun v h' tk hP st' kp=>hQ v h' tk (by rw [if_neg (Nat.not_lt.mpr st.1)]; exact hP) ⟨Nat.le_succ_of_le st.1,by
    have:i+1 - m=i - m+1:=by have:=st.1; exact om65 st.1
    rw [this]; exact st'⟩ kp
  done:=fun s Q E st hQ=>W.done s Q E (by have:=st.2; rw [Nat.add_sub_cancel_left] at this; exact this) hQ
  self:=fun i s Q E st hQ=>W.self _ s Q E st.2 hQ
theorem aXr {prog:Program} {w:World} {A:Around} {s:Shared} {R:Result→Shared→Prop} {r:Addr} {a b c:Int} {t u v:Tok} {n:Nat} (hh:A.handled=none) (hr:IsRange s.heap r a b c t u v) (hsmall:Builtin.Range.small a b c=true)
    (hn:Builtin.Range.rangeSize a b c=n) (hlen:n≤100000) (S:Addr) (res:Value) (c₀:Nat) (acc:Array Value) (hacc:acc.size≤100000) (hS:s.heap.get? S=some { cls:=.type "list",data:=.seq acc c₀ })
    (hR:∀ h' tk acc' c',(∀ b o,b≠S→s.heap.get? b=some o→h'.get? b=some o)→h'.get? S=some { cls:=.type "list",dict:=none,data:=.seq acc' c',slots:=#[] } →
      ItemsOf (fun i v=>if i < acc.size then acc[i]?=some v else ∃ t,v=.int (a+((i - acc.size:Nat):Int) * c) t) acc' (acc.size+n)→R (.ok (.ret res)) { s with heap:=h',toks:=tk }) :
    wpAny (model prog w) A.in1 (Builtin.List.listExtendWith (.ref S) (.ref r) res)
      (fun fin s'=>match fin with | .done f=>R (.ok f) s' | .again c'=>c'.quiet=true∧codeAny (model prog w) A c' R s') (fun e s'=>R (.error e) s') s:=by
  have hSr:S≠r:=fun e=>by rw [e,hr] at hS; simp at hS
  have hSI:S≠s.heap.objs.size:=Nat.ne_of_lt (Heap.lt_size hS)
  have hSf:S∉[s.heap.objs.size]:=fun hm=>hSI (List.mem_singleton.mp hm)
  have W:=(aQo (Walks.range (prog:=prog) (w:=w) (A:=A.in1) hh s.heap.objs.size a c n) acc.size (fun i v=>acc[i]?=some v)).toS
  have key:∀ (h:Heap) (c₁ tk:Nat),IsRangeIter h s.heap.objs.size a n c→(∀ b o,b≠S→s.heap.get? b=some o→h.get? b=some o) →
      h.get? S=some { cls:=.type "list",data:=.seq acc c₁ }→codeAny (model prog w) A (.builtin "list.extend.loop" ⟨[.ref S,.ref s.heap.objs.size,res],[]⟩) R { s with heap:=h,toks:=tk }:=by
    intro h c₁ tk hit hk hS₁
    refine codeAny_extend_loopS W (by rw [sizeLine_eq]; exact om64 hlen hacc) S hSf res n acc.size _ acc c₁ om63 (Nat.le_add_right _ _) ⟨Nat.le_refl _,?_⟩ hS₁ ⟨rfl,fun j v e=>?_⟩ fun s' acc' c' hm hS' hacc=>?_
    · rw [Nat.sub_self]
      show IsRangeIter h s.heap.objs.size (a+((0:Nat):Int) * c) ((n:Int) - ((0:Nat):Int)) c
      rw [show a+((0:Nat):Int) * c=a by omega,show (n:Int) - ((0:Nat):Int)=n from om35]
      exact hit
    · have hj:=(Array.getElem?_eq_some_iff.mp e).1
      dsimp only
      rw [if_pos hj]; exact e
    · rw [Moved.eq_with hm]
      refine hR s'.heap s'.toks acc' c' (fun b o hb e=>hm.heap b o (fun hmem=>?_) (hk b o hb e)) hS' hacc
      rcases List.mem_cons.mp hmem with e' | hmem
      · exact hb e'
      · exact absurd (Heap.lt_size e) (by rw [List.mem_singleton.mp hmem]; exact Nat.lt_irrefl _)
  unfold Builtin.List.listExtendWith
  refine wpAny_bind (wpAny_typeOf (T := "range") ⟨_,hr,rfl⟩ ?_)
  have h1:Builtin.List.listSameRef (.ref S) (.ref r)=false:=by simp [Builtin.List.listSameRef,hSr]
  have h2:(Value.type "range" == Value.type "list")=false:=by decide
  have h3:(Value.type "range" == Value.type "tuple")=false:=by decide
  simp -iota only [h1,h2,h3,Bool.or_false,Bool.false_eq_true,if_false]
  refine wpAny_bind (wpAny_pyIter_range hr hsmall ?_)
  refine wpAny_bind (wpAny_holding (wpAny_hint_range (n:=n) (Heap.get?_push_of_some _ hr) hn (om55 hlen) ?_))
  have hit₁:IsRangeIter (s.heap.push { cls:=.type "range_iterator",data:=.fields #[rawInt a,rawInt (Builtin.Range.rangeSize a b c),rawInt c] }) s.heap.objs.size a n c:=by
    unfold IsRangeIter
    rw [hn]; exact Heap.get?_push_size _ rfl
  have hS₁:=Heap.get?_push_of_some { cls:=.type "range_iterator",data:=.fields #[rawInt a,rawInt (Builtin.Range.rangeSize a b c),rawInt c] } hS
  refine wpAny_ite_split (fun _=>?_) (fun _=>wpAny_pure ⟨plainId_quiet F.plain_extend_loop _,key _ c₀ _ hit₁ (fun b o _ e=>Heap.get?_push_of_some _ e) hS₁⟩)
  refine wpAny_bind (wpAny_rule ?_)
  refine wpAny_bind ?_
  show wpAny _ _ (updateSeq S (·.push .none) >>= fun _=>updateSeq S (·.pop)) _ _ _
  refine wpAny_bind (wpAny_updateSeq (hz:=by rw [sizeLine_eq]; exact om62 hacc) hS₁ rfl ?_)
  have hS₂:=Heap.get?_update_self (Obj.mapSeq (·.push Value.none)) hS₁ rfl
  refine wpAny_updateSeq (hz:=by rw [Array.size_push,sizeLine_eq]; exact om61 hacc) hS₂ rfl ?_
  have hS₃:=Heap.get?_update_self (Obj.mapSeq (·.pop)) hS₂ rfl
  refine wpAny_pure ⟨plainId_quiet F.plain_extend_loop _,key _ _ _ ?_ (fun b o hb e=>?_) (by rw [hS₃]; show some (Obj.mk _ _ (Data.seq ((acc.push Value.none).pop) _) _)=_; rw [Array.pop_push])⟩
  · exact (Heap.get?_update_other _ _ hSI).trans ((Heap.get?_update_other _ _ hSI).trans hit₁)
  · exact (Heap.get?_update_other _ _ (Ne.symm hb)).trans ((Heap.get?_update_other _ _ (Ne.symm hb)).trans (Heap.get?_push_of_some _ e))
theorem aHg {H:AHeap} {h:Heap} {l:List AV} {ws:List Value} {lo:Int} {n:Nat} {acc':Array Value} (r:VRs H h l ws) (x:ItemsOf (fun i v=>if i < ws.toArray.size then ws.toArray[i]?=some v else ∃ t,v=.int (lo+((i - ws.toArray.size:Nat):Int) * 1) t) acc' (ws.toArray.size+n)) :
    VRs H h (l ++ rngL lo 1 n) acc'.toList:=by
  obtain ⟨hz,hv⟩:=x
  have hl:=r.length
  have hws:ws.toArray.size=ws.length:=by simp
  rw [hws] at hz hv
  dsimp only at hv
  have e1:acc'.toList.take ws.length=ws:=by
    apply List.ext_getElem?
    intro j
    rw [List.getElem?_take]
    split
    · rename_i hj
      have h3:j < acc'.size:=om60 hz hj
      have:=hv j acc'[j] (by rw [Array.getElem?_eq_getElem h3])
      rw [if_pos hj] at this
      rw [Array.getElem?_toList,Array.getElem?_eq_getElem h3]
      simpa using this.symm
    · rename_i hj
      rw [List.getElem?_eq_none (om38 hj)]
  have e2:VRs H h (rngL lo 1 n) (acc'.toList.drop ws.length):=by
    have gen:∀ (k:Nat) (m:Nat) (vs:List Value),vs.length=k→(∀ (j:Nat) (v:Value),vs[j]?=some v→∃ t,v=Value.int (lo+((m+j:Nat):Int) * 1) t)→VRs H h ((List.range' m k).map fun i=>AV.int (lo+(i:Nat) * 1)) vs:=by
      intro k
      induction k with
      | zero=>intro m vs hk _; cases vs with | nil=>exact .nil | cons _ _=>simp at hk
      | succ k ih =>
        intro m vs hk hq
        cases vs with
        | nil=>simp at hk
        | cons v vs =>
          obtain ⟨t,rfl⟩:=hq 0 v rfl
          rw [List.range'_succ]
          refine .cons (.int _ t) (ih (m+1) vs (by simpa using hk) fun j v e=>?_)
          obtain ⟨t,e'⟩:=hq (j+1) v (by simpa using e)
          exact ⟨t,by rw [e',show m+(j+1)=m+1+j from om59]⟩
    have:=gen n 0 (acc'.toList.drop ws.length) (by simp [hz]) fun j v e=>by
      rw [List.getElem?_drop,Array.getElem?_toList] at e
      have:=hv _ v e
      rw [if_neg om58] at this
      obtain ⟨t,e'⟩:=this
      exact ⟨t,by rw [e',show ws.length+j - ws.length=0+j from om57]⟩
    rw [rngL,List.range_eq_range']
    exact this
  have:=(e1 ▸ r).append e2
  rwa [List.take_append_drop] at this
section
variable {G:Cx} {n:Nat} {H:AHeap} {Q:AV→AHeap→Prop}
theorem aLm {a:Addr} {l:List AV} {lo hi:Int} {k:Nat} (he:H a=some (.list l)) (hl:l.length≤100000) (hs:Builtin.Range.small lo hi 1=true) (hk:Builtin.Range.rangeSize lo hi 1=k) (hk2:k≤100000)
    (h:Q .none (H.set a (.list (l ++ rngL lo 1 k)))):CW G n (.builtin "list.extend") [.ref a,.rng lo hi 1] H Q:=fun A s E vs ao I r=>by
  cases r with
  | cons r rs =>
    cases rs with
    | cons r2 rs =>
      cases rs; cases r
      cases r2 with
      | rng er eq =>
        rename_i r t u v
        refine aDe I he fun ws c e rs il=>?_
        have hlen:=rs.length
        refine call_meets (S:=fun A R s'=>A.handled=none∧s'=s∧R=wants (PV G H s Q) E) F.slot_list_extend ⟨_,e,rfl⟩ F.entry_list_extend (F.args_list_extend_2 _ _) (fun prog w A R s' hx=>?_) ⟨ao.hd,rfl,rfl⟩
        obtain ⟨hh,rfl,rfl⟩:=hx
        show wpAny _ _ (Builtin.List.listExtendWith (.ref a) (.ref r) .none) _ _ _
        refine aXr hh er hs hk hk2 a .none c ws.toArray (by simp; exact om56 hl hlen) e fun h' tk acc' c' kp e' ia=>?_
        have e2:h'.get? a=some (lstO acc'.toList c'):=by rw [e']
        have kp':∀ b x,b≠a→s'.heap.get? b=some x→h'.get? b=some x:=kp
        have X:=aCc (o':=.list (l ++ rngL lo 1 k)) I he kp' ⟨_,e2⟩ rfl
        exact ⟨.none,H.set a (.list (l ++ rngL lo 1 k)),.val _,⟨aCs I he kp' ⟨_,c',e2,(aHg rs ia).mono X.mon⟩ rfl,X,rfl⟩,h⟩
theorem aQa {prog:Program} {w:World} {A:Around} {E:Value→Shared→Prop} {s:Shared} {r:Addr} {lo hi c:Int} {t u v:Tok} {k:Nat} {R:List Value→Shared→Prop} (hh:A.handled=none) (er:IsRange s.heap r lo hi c t u v) (hs:Builtin.Range.small lo hi c=true) (hk:Builtin.Range.rangeSize lo hi c=k) (hk2:k≤100000)
    (h:∀ h' tk acc,(∀ b o,s.heap.get? b=some o→h'.get? b=some o)→ItemsOf (fun i v=>∃ t,v=.int (lo+(i:Nat) * c) t) acc k→R acc.toList { s with heap:=h',toks:=tk }):wpAny (model prog w) A (collect (.ref r)) R E s:=by
  unfold collect
  refine wpAny_bind (wpAny_runValue (codeAny_builtin entry_proto_collect' ?_))
  rw [Around.under_plainId PySem.F.plain_proto_collect _]
  show wpAny _ A.in1 (newList [] >>= fun l=>again (.builtin "list.__iadd__" ⟨[l,.ref r],[]⟩)) _ _ s
  refine wpAny_bind (wpAny_newObj_type ?_)
  refine wpAny_pure ⟨plainId_quiet PySem.F.plain_list_iadd _,codeAny_builtin entry_list_iadd' ?_⟩
  rw [Around.under_plainId PySem.F.plain_list_iadd _]
  have hS₁:(s.heap.push { cls:=.type "list",data:=.seq ([]:List Value).toArray }).get? s.heap.objs.size=some { cls:=.type "list",data:=.seq #[] }:=Heap.get?_push_size _ rfl
  show wpAny _ A.in1 (Builtin.List.listExtendWith (.ref s.heap.objs.size) (.ref r) (.ref s.heap.objs.size)) _ _ _
  have key:=wpAny_extend_range (A:=A) (prog:=prog) (w:=w) (s:={ s with heap:=s.heap.push { cls:=.type "list",data:=.seq ([]:List Value).toArray } })
    (R:=fun (q:Result) (s':Shared)=>∃ (h':Heap) (tk:Nat) (acc':Array Value) (c':Nat),q=.ok (.ret (.ref s.heap.objs.size))∧s'={ s with heap:=h',toks:=tk } ∧
      (∀ b o,s.heap.get? b=some o→h'.get? b=some o)∧h'.get? s.heap.objs.size=some { cls:=.type "list",dict:=none,data:=.seq acc' c',slots:=#[] }∧ItemsOf (fun i v=>∃ t,v=.int (lo+(i:Nat) * c) t) acc' k)
    hh (Heap.get?_push_of_some _ er) hs hk (om55 hk2) s.heap.objs.size (.ref s.heap.objs.size) 0 hS₁
    (fun h' tk acc' c' kp hS' hacc=>⟨h',tk,acc',c',rfl,rfl,fun b o e=>kp b o (Nat.ne_of_lt (Heap.lt_size e)) (Heap.get?_push_of_some _ e),hS',hacc⟩)
  refine wpAny_mono key (fun fin s' x=>?_) fun e s' x=>?_
  · cases fin with
    | done f =>
      obtain ⟨h',tk,acc',c',e,rfl,kp,hS',hacc⟩:=x
      cases e
      show wpAny _ A (load s.heap.objs.size >>= _) _ _ _
      exact wpAny_bind (wpAny_load hS' (wpAny_pure (h h' tk acc' kp hacc)))
    | again c₁ =>
      refine ⟨x.1,codeAny_mono x.2 fun q s₂ y=>?_⟩
      obtain ⟨h',tk,acc',c',rfl,rfl,kp,hS',hacc⟩:=y
      show wpAny _ A (load s.heap.objs.size >>= _) _ _ _
      exact wpAny_bind (wpAny_load hS' (wpAny_pure (h h' tk acc' kp hacc)))
  · obtain ⟨_,_,_,_,e',_⟩:=x
    cases e'
end
end
section
open AutoSeq1 (wpAny_loadPart')
theorem aKq (r:Addr) (lo hi c:Int) (t u v:Tok) (k:Nat) (hs:Builtin.Range.small lo hi c=true) (hk:Builtin.Range.rangeSize lo hi c=k) (hk2:k≤100000) :
    Meets (Builtin.«tuple.__new__» ⟨[.type "tuple",.ref r],[]⟩)
      (fun A R s=>A.handled=none∧IsRange s.heap r lo hi c t u v∧∀ (h':Heap) (tk:Nat) (acc:Array Value),(∀ b o,s.heap.get? b=some o→h'.get? b=some o)→ItemsOf (fun i v=>∃ t,v=.int (lo+(i:Nat) * c) t) acc k →
        R (.ok (.ret (.ref h'.objs.size))) { s with heap:=h'.push { cls:=.type "tuple",data:=.seq acc },toks:=tk }) :=
  .of_wp fun prog w A R s h=>by
    obtain ⟨hh,er,h⟩:=h
    have hsub:=sub_tuple_self
    have hinit:=init_tuple_lookup
    have hmh:=madeHere_tuple
    have hT:s.TypeIs (.ref r) "range" := ⟨_,er,rfl⟩
    have hh1:A.in1.handled=none:=hh
    wp_walk using wpAny_typeOf hT,aQa hh1 er hs hk hk2
    intro h' tk acc hk hacc
    show wpAny _ _ (Builtin.Tuple.tupleExact acc.toList.toArray >>= fun v=>ret v) _ _ _
    unfold Builtin.Tuple.tupleExact
    refine wpAny_bind (wpAny_newObj_type ?_ (show acc.toList.toArray.size≤sizeLine by simp only [Array.toArray_toList]; rw [hacc.1,sizeLine_eq]; exact om62 hk2))
    refine wpAny_pure ⟨_,rfl,?_⟩
    have e:acc.toList.toArray=acc:=by simp
    rw [e]
    exact h h' tk acc hk hacc
section
variable {G:Cx} {n:Nat} {H:AHeap} {Q:AV→AHeap→Prop}
theorem aGb {lo hi:Int} {k:Nat} (hs:Builtin.Range.small lo hi 1=true) (hk:Builtin.Range.rangeSize lo hi 1=k) (hk2:k≤1000) (h:Q (.tup (rngL lo 1 k)) H):CW G n (.type "tuple") [.rng lo hi 1] H Q:=fun A s E vs ao I r=>by
  refine VRs.c r fun _ _ r rs=>?_
  ·
    refine VRs.n rs ?_
    cases r with
    | rng er eq =>
      rename_i r t u v
      refine callType_new F.called_tuple (by decide) (F.typeCall_tuple_1 _) (F.newCall_tuple_1 _) (fun obj=>F.args_object_init_2 obj _) F.entry_tuple_new
        (aKq r lo hi 1 t u v k hs hk (om67 hk2)) ⟨ao.hd,er,fun h' tk acc kp hacc=>⟨⟨_,Heap.get?_push_size _ rfl,rfl⟩,?_⟩⟩
      have ia:=aHg (H:=H) (h:=h') (l:=[]) (ws:=[]) (lo:=lo) (n:=k) (acc':=acc) .nil ⟨by simpa using hacc.1,fun j v e=>by
        obtain ⟨t,e'⟩:=hacc.2 j v e
        exact ⟨t,by simpa using e'⟩⟩
      have kp2:∀ b o,s.heap.get? b=some o→(h'.push { cls:=.type "tuple",data:=.seq acc }).get? b=some o:=fun b o eb=>aAb _ _ b o (kp b o eb)
      have I':=I.of_keep kp
      exact ⟨.tup (rngL lo 1 k),H,.tup (vs:=acc.toList) (n:=0) (by rw [Heap.get?_push_size _ rfl]) (I'.fresh aAa) (ia.mono (Ext.of_keep (H:=H) (aAb h' _)).mon),St.keep I kp2,h⟩
theorem aYd {o:AV} {ns:List Int} (he:IsL H o (ns.map .int)) (hl:ns.length < 64) (h:∀ (D:Addr) (ns':List Int),H D=none→ns'.Perm ns→ns'.Pairwise (·≤·)→Q (.ref D) (H.set D (.list (ns'.map .int)))):CW G n (.builtin "sorted") [o] H Q:=fun A s E vs ao I r=>by
  refine VRs.c r fun _ _ r rs=>?_
  ·
    refine VRs.n rs ?_
    refine aCx he r I fun a ws c la e rs il=>?_
    have hi:=rs.ints
    refine sorted_ints il hi (by rw [← rs.length,List.length_map]; exact hl) fun out ns' hi' hp hw=>?_
    obtain ⟨c',e'⟩:=sortedAll_at s.heap ws out
    have kp:∀ b o,s.heap.get? b=some o→(sortedAll s.heap ws out).get? b=some o:=fun _ _=>sortedAll_old
    have en:s.heap.get? (s.heap.objs.size+1)=none:=aCb (Nat.le_succ _)
    have X:=aBj (o':=.list (ns'.map .int)) I en kp
    exact ⟨.ref (s.heap.objs.size+1),H.set (s.heap.objs.size+1) (.list (ns'.map .int)),.val _,⟨aBo I en kp ⟨out.toList,c',e',aIi hi'⟩,X,rfl⟩,h _ ns' (I.fresh en) hp hw⟩
end
end
section
variable {G:Cx} {n:Nat} {env:Env} {H:AHeap} {L:Loc}
theorem bId {I a:Addr} {l:List AV} (hne:a≠I):AWk G n I l.reverse (fun H=>LA H a l) [I] [I] (fun i h=>i≤l.length∧h.IsRevIter I a ((l.length:Int) - 1 - (i:Int))) where
  sub:=fun b hb=>hb
  frame:=fun i h h' ⟨hi,st⟩ hk=>⟨hi,st.at fun o e=>hk I (by simp) o e⟩
  soft:=fun i h ⟨_,o,ho,hc,hd⟩ b hb o' e=>by
    rw [List.mem_singleton.mp hb,ho] at e; cases e
    exact aDd (by rw [hc]; decide) (by rw [hc]; decide)
  item:=fun i av A s H E Q ao hi ⟨hle,st⟩ I0 src _ hq=>by
    obtain ⟨vs,k,e,rs,il⟩:=la_at I0 src
    have hlen:=rs.length
    have hlt:i < l.length:=by have:=(List.getElem?_eq_some_iff.mp hi).1; simpa using this
    have hi':l[l.length - 1 - i]?=some av:=by rw [← hi,List.getElem?_reverse hlt]
    obtain ⟨x,ex,rx⟩:=rs.get hi'
    have hsz:vs.toArray.size=l.length:=by simp [hlen]
    refine (Walks.listRev (prog:=PG) (w:=G.w) ao.hd I a hne vs.toArray).item i s Q E (om36 hlen hlt) ⟨om69 hlen hlt,by rw [hsz]; exact st,il⟩ fun v h' tk hP st' kp=>?_
    have hv:v=x:=by
      rw [hsz] at hP
      have:vs[l.length - 1 - i]?=some v:=by simpa using hP
      rw [ex] at this; exact (Option.some.inj this).symm
    subst hv
    rw [hsz] at st'
    refine hq v h' tk (rx.mono ⟨fun b o e q f=>⟨kp b o (fun m=>?_) e,q⟩,fun _ _ _ q=>q⟩) ⟨st'.1,by have:=st'.2.1; push_cast at this ⊢; exact this⟩ (.of kp) fun b o eb=>?_
    · obtain ⟨o2,e2,c2,_⟩:=st
      rw [List.mem_singleton.mp m,e2] at e; cases e
      exact aDd (by rw [c2]; decide) (by rw [c2]; decide) f
    · by_cases z:b=I
      · subst z; obtain ⟨o2,e2,_⟩:=st'.2.1; exact ⟨o2,e2⟩
      · exact ⟨o,kp b o (fun m=>z (List.mem_singleton.mp m)) eb⟩
  done:=fun A s H E Q ao ⟨hle,st⟩ I0 src hq=>by
    obtain ⟨vs,k,e,rs,il⟩:=la_at I0 src
    have hlen:=rs.length
    have hsz:vs.toArray.size=l.length:=by simp [hlen]
    rw [List.length_reverse] at st
    exact (Walks.listRev (prog:=PG) (w:=G.w) ao.hd I a hne vs.toArray).done s Q E ⟨Nat.le_refl _,by rw [hsz]; exact st,il⟩ hq
  go:=fun i target v A s E Q ⟨hle,st⟩ hq=>aEx st.typeIs (by decide) (hq _ ⟨hle,st⟩ (fun _ _ _ e=>e) fun b o e=>⟨o,e⟩)
  self:=fun i A s E Q ⟨_,st⟩ hq=>wpAny_pyIter_revIter st hq
theorem aQp {x:Str} {xp pos:Pos} {es:List Expr} {v:Value} {Q:List AV→(AHeap→Prop)→AHeap→Prop} (hl:env.kindOf x=some .globalImplicit) (hm:nsIn (KF G.w) mainGlobals x=some none) (hv:bootBuiltins x=some v) (hc:aDw G v)
    (h:WEs G n env es H L fun l H2=>∀ A s E vs,AOk A n→Inv G H2 s.heap→VRs H2 s.heap l vs→wpAny (MD G) A (call v vs) (fun u s1=>wpAny (MD G) A (pyIter u) (PI G n H2 s Q) E s1) E s)
    (hx:x ≠ "__name__") (hd:(x == ("__debug__" : Str))=false)
    (hp:∀ pos,(backTo pos (starEach es env)).any (·.1)=false):WI G n env (.Call (.Name x xp) es [] pos) H L Q:=fun A s E a I F=>by
  show wpAny (MD G) A (do callWith pos (← eval (.Name x xp) env) [] (backTo pos (starEach es env)) []) _ E s
  refine wpAny_bind (pvo (aCg (Q:=fun f H1=>f=.val v∧H1=H) hl hm hv hx ⟨rfl,rfl⟩ hd A s E a I F) fun fv s1 av H1 r t qq=>?_)
  obtain ⟨e1,e2⟩:=qq
  subst e1 e2
  cases r
  refine aDn hc (hp pos) (pvso (h A s1 E pos a t.inv (F.step t.ext)) fun vs s2 l H2 r2 t2 q2=>⟨t2.inv.frag,?_⟩)
  exact wpAny_mono (q2 A s2 E vs a t2.inv r2) (fun u s3 p=>wpAny_mono p (fun it s4 p4=>PI.after (t.trans t2) p4) fun _ _ e=>e) fun _ _ e=>e
theorem aOh {o:AV} {l:List AV} {Q:List AV→(AHeap→Prop)→AHeap→Prop} (he:IsL H o l) (h:∀ src,SrcQ H src (usr o l)→Q l.reverse src H) :
    ∀ A s E vs,AOk A n→Inv G H s.heap→VRs H s.heap [o] vs→wpAny (MD G) A (call (.type "reversed") vs) (fun u s1=>wpAny (MD G) A (pyIter u) (PI G n H s Q) E s1) E s:=fun A s E vs ao I r=>by
  refine VRs.c r fun _ _ r rs=>?_
  ·
    refine VRs.n rs ?_
    obtain ⟨a,ws,k,rfl,la,e,rs,il⟩:=aRp he r I
    have hlen:=rs.length
    have hsz:ws.toArray.size=l.length:=by simp [hlen]
    have kp:=aAb s.heap (revObj a ((ws.toArray.size:Int) - 1))
    have hI:(s.heap.push (revObj a ((ws.toArray.size:Int) - 1))).get? s.heap.objs.size=some (revObj a ((ws.toArray.size:Int) - 1)):=Heap.get?_push_size _ rfl
    have st:(s.heap.push (revObj a ((ws.toArray.size:Int) - 1))).IsRevIter s.heap.objs.size a ((l.length:Int) - 1 - ((0:Nat):Int)):=by
      rw [← hsz,show ((ws.toArray.size:Nat):Int) - 1 - ((0:Nat):Int)=(ws.toArray.size:Int) - 1 from om68]
      exact ⟨_,hI,rfl,rfl⟩
    refine call_reversed_list il (wpAny_pyIter_revIter st ⟨s.heap.objs.size,l.reverse,_,[s.heap.objs.size],[s.heap.objs.size],_,H,rfl,⟨bId (fun z=>?_),⟨Nat.zero_le _,st⟩,St.keep (t:=s.toks) I kp,fun b hb=>?_,fun b hb=>?_⟩,h _ (aVf he r)⟩)
    · rw [z,aAa] at e; cases e
    · rw [List.mem_singleton.mp hb]; exact ⟨.inl aAa,I.fresh',_,hI⟩
    · rw [List.mem_singleton.mp hb]; exact aAa
end
section
noncomputable def RawD (h:Heap) (d:Addr) (es:Array DictEntry) (ep:Nat):Prop:=∃ o,h.get? d=some o∧o.ExactDict∧o.data=.dict es ep
section
variable {prog:Program} {w:World} {A:Around} {E:Value→Shared→Prop} {s:Shared} {d I:Addr} {es:Array DictEntry} {ep i:Nat}
theorem RawD.typeIs (h:RawD s.heap d es ep):s.TypeIs (.ref d) "dict" := let ⟨o,e,c,_⟩:=h; ⟨o,e,c.1⟩
theorem bAs {Q:Value→Shared→Prop} (hd:(d == sysModules)=false) (hm:RawD s.heap d es ep)
    (hQ:Q (.ref s.heap.objs.size) { s with heap:=s.heap.push { cls:=.type "dict_keyiterator",data:=.fields #[.ref d,.int 0 0,.int es.size 0,.int ep 0] } }) :
    wpAny (model prog w) A (pyIter (.ref d)) Q E s:=by
  have hT:=hm.typeIs
  obtain ⟨o,ho,hc,hdat⟩:=id hm
  refine wpAny_pyIter_slot hT F.slot_dict_iter (wpAny_call_entry F.slot_dict_iter hT F.entry_dict_iter ?_ (F.args_dict_iter_1 _))
  unfold Builtin.«dict.__iter__»
  refine wpAny_bind ?_
  unfold Builtin.Dict.dictSlotNone
  refine wpAny_bind (wpAny_notOrdered_dict hT (wpAny_pure ?_))
  show wpAny _ _ (Builtin.Dict.showsAll d >>= _) _ _ s
  unfold Builtin.Dict.showsAll
  rw [if_neg (by rw [hd]; exact Bool.false_ne_true)]
  refine wpAny_bind (wpAny_pure (wpAny_bind (wpAny_dictEntries ho hdat (wpAny_bind (wpAny_dictEpoch ho hdat ?_)))))
  refine wpAny_bind (wpAny_newObj_type (wpAny_pure ⟨_,rfl, "dict_keyiterator",_,⟨_,Heap.get?_push_size _ rfl,rfl⟩,F.slot_dict_keyiterator_next.lookup,?_⟩))
  simpa [rawInt] using hQ
theorem aQy {Q:Option Value→Shared→Prop} {n:Nat} (hit:s.heap.IsKeyIter I d i n ep) (hm:RawD s.heap d es ep) (hn:es.size=n)
    (hitem:∀ (h:i < es.size) h',h'.IsKeyIter I d (i+1) n ep→Heap.SameBut I s.heap h'→Q (some es[i].key) { s with heap:=h' })
    (hend:A.handled=none∧(es.size≤i→∀ h',Heap.ExtBut I s.heap h'→Q none { s with heap:=h' })∨i < es.size):wpAny (model prog w) A (pyNext (.ref I)) Q E s:=by
  obtain ⟨o,ho,hc,hd⟩:=id hit
  obtain ⟨od,hod,hcd,hdd⟩:=id hm
  unfold pyNext
  refine wpAny_bind (wpAny_attempt (wpAny_callSpecial?_slot (name:=Str.ofString "__next__") hit.typeIs F.slot_dict_keyiterator_next
    (wpAny_call_entry F.slot_dict_keyiterator_next hit.typeIs F.entry_dict_keyiterator_next ?_ (F.args_dict_keyiterator_next_1 _))))
  refine wpAny_bind (wpAny_pure (wpAny_bind (wpAny_bind ?_)))
  first | refine wpAny_bind (wpAny_typeNameOfWhole_keyiter hit.typeIs (wpAny_pure ?_)) | refine wpAny_bind (wpAny_typeNameOf_keyiter hit.typeIs (wpAny_pure ?_))
  refine wpAny_bind (wpAny_fieldsOf ho hd ?_)
  have hown:Builtin.Dict_items.ownsTuple "dict_keyiterator" = false:=by decide
  simp -iota only [hown,Bool.false_eq_true,if_false]
  show wpAny _ _ (if (Value.ref d == Value.none)=true then _ else _) _ _ s
  rw [if_neg (show ¬ ((Value.ref d == Value.none)=true) from Bool.false_ne_true)]
  refine wpAny_bind (wpAny_pure (wpAny_bind (wpAny_dictEntries hod hdd ?_)))
  rw [if_neg (by rw [hn]; simp)]
  refine wpAny_bind (wpAny_pure (wpAny_bind (wpAny_dictEpoch hod hdd ?_)))
  rw [if_neg (by simp)]
  refine wpAny_pure ?_
  by_cases hlt:i < es.size
  · dsimp only; simp -iota only [show ¬ ((i:Int) < 0) from om70,if_false,Int.toNat_natCast,Array.getElem?_eq_getElem hlt]; dsimp only
    refine wpAny_bind ?_
    first | refine wpAny_bind (wpAny_typeNameOfWhole_keyiter hit.typeIs (wpAny_pure ?_)) | refine wpAny_bind (wpAny_typeNameOf_keyiter hit.typeIs (wpAny_pure ?_))
    refine wpAny_bind (wpAny_isOneOf_keyiter hit.typeIs ?_)
    show wpAny _ _ (setField (.ref I) 1 (rawInt ((i:Int)+1)) >>= _) _ _ s
    refine wpAny_bind (wpAny_setField ho hd (by simp) ?_)
    have hit':(s.heap.update I (Obj.mapFields (·.setIfInBounds 1 (rawInt ((i:Int)+1))))).IsKeyIter I d (i+1) n ep :=
      ⟨_,Heap.get?_update_self _ ho (Obj.isFreed_of_fields (Obj.data_mapFields hd _)),(Obj.cls_mapFields ..).trans hc,by rw [Obj.data_mapFields hd]; simp [rawInt]⟩
    refine wpAny_bind (wpAny_holding ?_)
    refine wpAny_bind (wpAny_isOneOf_keyiter (s:={ s with heap:=s.heap.update I (Obj.mapFields (·.setIfInBounds 1 (rawInt ((i:Int)+1)))) }) hit'.typeIs ?_)
    show wpAny _ _ (pure es[i].key) _ _ _
    exact wpAny_pure (wpAny_pure ⟨_,rfl,wpAny_pure (hitem hlt _ hit' (Heap.SameBut.update ..))⟩)
  · have hge:es.size≤i:=Nat.le_of_not_lt hlt
    obtain ⟨hh,hQ⟩:=hend.resolve_right hlt
    dsimp only; simp -iota only [show ¬ ((i:Int) < 0) from om70,if_false,Int.toNat_natCast,Array.getElem?_eq_none hge]; dsimp only
    refine wpAny_bind ?_
    first | refine wpAny_bind (wpAny_typeNameOfWhole_keyiter hit.typeIs (wpAny_pure ?_)) | refine wpAny_bind (wpAny_typeNameOf_keyiter hit.typeIs (wpAny_pure ?_))
    show wpAny _ _ (setField (.ref I) 0 .none >>= _) _ _ s
    refine wpAny_bind (wpAny_setField ho hd (by simp) ?_)
    show wpAny _ _ (newExc (.type "StopIteration") [] >>= _) _ _ _
    refine wpAny_bind ?_
    simp only [newExc,newTuple]
    refine wpAny_bind (wpAny_newObj_type ?_ (by size_fits))
    refine wpAny_bind (m:=firstArgMember _ _) (wpAny_of_eq (a:=Value.none) (by first | rfl | (simp only [firstArgMember]; rfl)) ?_)
    refine wpAny_newObj_type ?_ (by size_fits)
    unfold raiseNew; dsimp only
    refine wpAny_bind (wpAny_handled ?_)
    rw [show A.in1.handled=none from hh]
    refine wpAny_bind (wpAny_pure (wpAny_throw ?_))
    refine wpAny_bind (wpAny_isInstance (T := "StopIteration") (b:=true) ⟨_,Heap.get?_push_size _ rfl,rfl⟩ isSubtype_stop ?_)
    exact wpAny_pure (hQ hge _ (((Heap.SameBut.update ..).extBut.push _).push _))
end
end
section
variable {prog:Program} {w:World} {A:Around} {d I:Addr} {es:Array DictEntry} {ep:Nat}
theorem RawD.lt {h:Heap} (x:RawD h d es ep):d < h.objs.size:=let ⟨_,e,_⟩:=x; Heap.lt_size e
theorem RawD.at' {h h':Heap} (x:RawD h d es ep) (k:∀ o,h.get? d=some o→h'.get? d=some o):RawD h' d es ep:=let ⟨o,e,r⟩:=x; ⟨o,k _ e,r⟩
theorem aVy (hh:A.handled=none) (hne:d≠I):Walks prog w A I [I,d] [I] es.size (fun i v=>∃ e,es[i]?=some e∧v=e.key) (fun i h=>h.IsKeyIter I d i es.size ep∧RawD h d es ep) where
  sub:=fun b hb=>by simp at hb; simp [hb]
  frame:=fun _ _ _ st hk=>⟨let ⟨o,e,r⟩:=st.1; ⟨o,hk I (by simp) o e,r⟩,st.2.at' fun o e=>hk d (by simp) o e⟩
  item:=fun i s Q E hi st hQ=>by
    refine aQy st.1 st.2 rfl (fun h h' hit hs=>?_) (.inr hi)
    exact hQ _ h' s.toks ⟨_,Array.getElem?_eq_getElem h,rfl⟩ ⟨hit,st.2.at' fun o e=>(hs.2 d hne).trans e⟩ fun b o hb e=>hs.extBut b o (fun h=>hb (by simp [h])) e
  done:=fun s Q E st hQ=>by
    refine aQy st.1 st.2 rfl (fun h=>absurd h (Nat.lt_irrefl _)) (.inl ⟨hh,fun _ h' he=>hQ h' s.toks fun b o hb e=>he b o (fun h=>hb (by simp [h])) e⟩)
  self:=fun _ _ _ _ st hQ=>wpAny_pyIter_keyiter st.1 hQ
theorem bGd (lo:(d == sysModules)=false):KdlSrc prog w "dict" d d es.size (fun i v=>∃ e,es[i]?=some e∧v=e.key) (fun h=>RawD h d es ep) where
  type:=fun _ hm=>hm.typeIs
  there:=fun _ hm=>⟨hm.lt,hm.lt⟩
  keep:=fun _ _ hm hk=>hm.at' fun o e=>hk d (.inl rfl) o e
  notList:=by decide
  notTuple:=by decide
  hint:=fun _ _ _ _ hm hq=>kdl_hint_dict hm.typeIs hq
  iter:=fun _ _ hh hm=>⟨_,_,(fun _ _ hq=>bAs lo hm hq),aVy hh (Nat.ne_of_lt hm.lt),⟨⟨_,Heap.get?_push_size _ rfl,rfl,rfl⟩,hm.at' fun o e=>Heap.get?_push_of_some _ e⟩⟩
end
section
noncomputable def Lv {α:Type} (n:Nat):KasT α→(α→Prop)→Prop
  | .ret a,P=>P a
  | .ask i j k,P=>i < n∧j < n∧∀ b,Lv n (k b) P
theorem Lv.mono {α:Type} {n:Nat} {P P':α→Prop} (h:∀ a,P a→P' a) {t:KasT α}:Lv n t P→Lv n t P':=by
  induction t with
  | ret a=>exact h a
  | ask _ _ _ ih=>exact fun x=>⟨x.1,x.2.1,fun b=>ih b (x.2.2 b)⟩
theorem Lv.bind {α β:Type} {n:Nat} {f:α→KasT β} {P:β→Prop} {t:KasT α}:Lv n t (fun a=>Lv n (f a) P)→Lv n (t.bind f) P:=by
  induction t with
  | ret _=>exact id
  | ask _ _ _ ih=>exact fun x=>⟨x.1,x.2.1,fun b=>ih b (x.2.2 b)⟩
theorem lv_wp {α:Type} {n:Nat} {cmp:Nat→Nat→(Bool→Shared→Prop)→Shared→Prop} {s:Shared} (hc:∀ i j C,i < n→j < n→(∀ b,C b s)→cmp i j C s) {P:α→Prop} {Q:α→Shared→Prop} (hq:∀ a,P a→Q a s) {t:KasT α}:Lv n t P→t.kasWp cmp Q s:=by
  induction t with
  | ret a=>exact hq a
  | ask i j k ih=>exact fun x=>hc i j _ x.1 x.2.1 fun b=>ih b (x.2.2 b)
noncomputable def OkP (n:Nat) (p:Array Nat):Prop:=p.Perm (List.toArray (List.range n))
section
variable {n:Nat} {p:Array Nat}
theorem OkP.get (h:OkP n p) (hn:0 < n) (i:Nat):p.getD i 0 < n:=by
  by_cases hi:i < p.size
  · have e:p.getD i 0=p[i]:=by simp [Array.getD,hi]
    have hm:p[i]∈p:=Array.getElem_mem hi
    have:=h.mem_iff.mp hm
    rw [e]
    simpa using this
  · have e:p.getD i 0=0:=by simp [Array.getD,hi]
    exact om71 hn e
theorem OkP.rev (h:OkP n p) (i j:Nat):OkP n (kas_rev p i j):=(mirror_perm ..).trans h
theorem OkP.bub (h:OkP n p) (i j:Nat):OkP n (bubble p i j):=(bubble_perm ..).trans h
theorem bEd (h:OkP n p) (hn:0 < n) (f:Nat):∀ m,Lv n (kas_asc p f m) fun _=>True :=
  f.rec (fun _=>trivial) fun f ih m=>⟨h.get hn _,h.get hn _,fun b=>by
    cases b
    · exact ih (m+1)
    · trivial⟩
theorem bGh (hn:0 < n):∀ f (p:Array Nat) m q,OkP n p→Lv n (kas_desc f p m q) fun r=>OkP n r.1:=by
  intro v
  induction v with
  | zero =>
    exact fun _ _ _ h=>h
  | succ f ih =>
    exact fun p m q h=>⟨h.get hn _,h.get hn _,fun b=>by
    cases b
    · exact ⟨h.get hn _,h.get hn _,fun d=>by
        cases d
        · exact ih p (m+1) (q+1) h
        · exact h⟩
    · by_cases hq:q > 0
      · simp only [if_true,if_pos hq]
        exact ih _ (m+1) 0 (h.rev _ _)
      · simp only [if_true,if_neg hq]
        exact ih p (m+1) 0 h⟩
theorem aWk (h:OkP n p) (hn:0 < n) (a b:Nat):Lv n (kas_tail3 a b p) fun r=>OkP n r.2 :=
  .bind ((bEd (h.rev 0 a) hn _ _).mono fun _ _=>h.rev 0 a)
theorem aWm (h:OkP n p) (hn:0 < n) (a b:Nat):Lv n (kas_descPart a b p) fun r=>OkP n r.2:=by
  refine .bind ((bGh hn _ p _ _ h).mono fun r hr=>?_)
  by_cases hq:r.2.2 > 0
  · rw [if_pos hq]; exact aWk (hr.rev _ _) hn _ _
  · rw [if_neg hq]; exact aWk hr hn _ _
theorem bBj (h:OkP n p) (hn:0 < n) (b:Nat):Lv n (kas_count b p) fun r=>OkP n r.2:=by
  refine .bind ((bEd h hn _ _).mono fun m _=>?_)
  by_cases h1:(m == b)=true
  · rw [if_pos h1]; exact h
  · rw [if_neg h1]
    by_cases h2:m > 1
    · rw [if_pos h2]
      refine ⟨h.get hn _,h.get hn _,fun c=>?_⟩
      cases c
      · exact aWm (h.rev _ _) hn _ _
      · exact h
    · rw [if_neg h2]; exact aWm h hn _ _
theorem bBi (h:OkP n p) (hn:0 < n) (k f:Nat):∀ l r,Lv n (kas_place p k f l r) fun _=>True:=by
  induction f with
  | zero=>exact fun _ _=>trivial
  | succ f ih =>
    intro l r
    rw [kas_place]
    by_cases hl:l ≥ r
    · rw [if_pos hl]; trivial
    · rw [if_neg hl]
      refine ⟨h.get hn _,h.get hn _,fun c=>?_⟩
      cases c
      · exact ih _ _
      · exact ih _ _
theorem bEc (hn:0 < n):∀ f (p:Array Nat) k,OkP n p→Lv n (kas_bin f p k) (OkP n)
  | 0,_,_,h=>h
  | f+1,p,k,h=>.bind ((bBi h hn k k 0 k).mono fun l _=>bEc hn f _ _ (h.bub _ _))
theorem bGg (hn:0 < n):Lv n (kas_sort n) (OkP n):=by
  refine .bind ((bBj (Array.Perm.refl _) hn _).mono fun r hr=>?_)
  by_cases h:r.1 < n
  · rw [if_pos h]; exact bEc hn _ _ _ hr
  · rw [if_neg h]; exact hr
end
end
section
theorem aQx:Manifest.owners.lookup (String.ofList ['d','e','s','r','e','v','e','r'].reverse)=some Manifest.sig_reversed:=by kernel_rfl
theorem rv_slot_next:Slot "reversed" "__next__" "reversed.__next__" :=
  .of (owner := "reversed") (n := "__next__") (by rw [typeLookup_type,builtinLookup_eq_fast]; kernel_rfl) (by decide +kernel) (by decide +kernel) (by decide +kernel) (by first | exact .inl (by decide +kernel) | exact .inr (by decide +kernel)) (by rw [isSubtype_type]; kernel_rfl)
theorem aEk:entryFor table "reversed.__next__" = some Builtin.«reversed.__next__»:=entryFor_of_tree (by kernel_rfl)
theorem aFv (a:Value):argsOk "reversed.__next__" ⟨[a],[]⟩:=by
  unfold argsOk; rw [signature?_of (id := "reversed.__next__") (n:=['_','_','t','x','e','n','_','_']) (o:=['d','e','s','r','e','v','e','r']) (by kernel_rfl) aQx]; kernel_rfl
theorem aFu:Slot "reversed" "__iter__" "reversed.__iter__" :=
  .of (owner := "reversed") (n := "__iter__") (by rw [typeLookup_type,builtinLookup_eq_fast]; kernel_rfl) (by decide +kernel) (by decide +kernel) (by decide +kernel) (by first | exact .inl (by decide +kernel) | exact .inr (by decide +kernel)) (by rw [isSubtype_type]; kernel_rfl)
theorem aMh (a:Value):argsOk "reversed.__iter__" ⟨[a],[]⟩:=by
  unfold argsOk; rw [signature?_of (id := "reversed.__iter__") (n:=['_','_','r','e','t','i','_','_']) (o:=['d','e','s','r','e','v','e','r']) (by kernel_rfl) aQx]; kernel_rfl
theorem aKh:entryFor table "reversed.__iter__" = some Builtin.«dict_keyiterator.__iter__» :=
  entryFor_alias (id' := "dict_keyiterator.__iter__") (by kernel_rfl) (by decide +kernel) (by decide +kernel) (by kernel_rfl)
theorem bGa:Slot "reversed" "__init__" "object.__init__" :=
  .of (owner := "object") (n := "__init__") (by rw [typeLookup_type,builtinLookup_eq_fast]; kernel_rfl) (by decide +kernel) (by decide +kernel) (by decide +kernel) (by first | exact .inl (by decide +kernel) | exact .inr (by decide +kernel)) (by rw [isSubtype_type]; kernel_rfl)
theorem aVt:TypeCalled "reversed" "reversed.__new__" "object.__init__" :=
  ⟨by decide +kernel,by decide +kernel,⟨_,_,F.mro_reversed⟩,F.made_reversed,by decide +kernel,by rw [isSubtype_type]; kernel_rfl,bGa⟩
theorem aPa (a b:Value):argsOk "object.__init__" ⟨[a,b],[]⟩:=by
  unfold argsOk; rw [signature?_of (id := "object.__init__") (n:=['_','_','t','i','n','i','_','_']) (o:=['t','c','e','j','b','o']) (by kernel_rfl) F.owner_object]; kernel_rfl
theorem aVr:typeLookup (.type "tuple") "__reversed__" = pure none:=by rw [typeLookup_type,builtinLookup_eq_fast]; kernel_rfl
noncomputable def aFw (t:Addr) (i:Int):Obj:={ cls:=.type "reversed",dict:=none,data:=.fields #[.ref t,rawInt i],slots:=#[] }
theorem bAq (t:Addr) (vs:List Value) (n:Nat) (hn:vs.length≤1000) :
    Meets (Builtin.«reversed.__new__» ⟨[.type "reversed",.ref t],[]⟩) (fun _ R s=>s.heap.get? t=some (tupO vs n)∧R (.ok (.ret (.ref s.heap.objs.size))) { s with heap:=s.heap.push (aFw t ((vs.length:Int) - 1)),toks:=s.toks+1+1 }) :=
  .of_wp fun prog w A R s h=>by
    obtain ⟨ht,h⟩:=h
    have hT:s.TypeIs (.ref t) "tuple" := ⟨_,ht,rfl⟩
    unfold Builtin.«reversed.__new__»
    refine wpAny_bind (wpAny_of_eq (newClass_reversed _) ?_)
    dsimp only
    refine wpAny_bind (wpAny_of_eq (a:=()) (by first | rfl | kernel_rfl) ?_)
    refine wpAny_bind (wpAny_of_eq (a:=()) (by first | rfl | kernel_rfl) ?_)
    refine wpAny_bind (wpAny_specialOf hT aVr ?_)
    refine wpAny_bind ?_
    show wpAny _ _ (isInstance (.ref t) (.type "dict") >>= _) _ _ _
    refine wpAny_bind (wpAny_isInstance hT F.sub_tuple_dict ?_)
    show wpAny _ _ (specialOf (.ref t) "__getitem__" >>= _) _ _ _
    refine wpAny_bind (wpAny_specialOf hT F.slot_tuple_getitem.lookup ?_)
    show wpAny _ _ (if (["tuple.__getitem__", "str.__getitem__", "bytes.__getitem__", "bytearray.__getitem__", "memoryview.__getitem__", "numpy.ndarray.__getitem__", "sqlite3.Row.__getitem__"].contains "tuple.__getitem__")=true then _ else _) _ _ _
    rw [if_pos (by decide)]
    refine wpAny_pure ?_
    show wpAny _ _ (call (.builtin "len") [.ref t] >>= _) _ _ _
    refine wpAny_bind (len_tuple (items:=vs.toArray) ⟨_,ht,rfl,_,rfl⟩ (by rw [List.size_toArray]; exact om74 hn) ?_)
    show wpAny _ _ (newObj (.type "reversed") (.fields #[.ref t,rawInt (((vs.toArray.size:Nat):Int) - 1)]) >>= _) _ _ _
    rw [List.size_toArray]
    exact wpAny_bind (wpAny_newObj_type (wpAny_pure ⟨_,rfl,h⟩))
section
variable {prog:Program} {w:World} {A:Around} {E:Value→Shared→Prop} {s:Shared}
theorem aNt {t:Addr} {vs:List Value} {n:Nat} {Q:Value→Shared→Prop} (ht:s.heap.get? t=some (tupO vs n)) (hn:vs.length≤1000)
    (h:Q (.ref s.heap.objs.size) { s with heap:=s.heap.push (aFw t ((vs.length:Int) - 1)),toks:=s.toks+1+1 }):wpAny (model prog w) A (call (.type "reversed") [.ref t]) Q E s :=
  callType_new aVt (by decide) (F.typeCall_reversed_1 _) (F.newCall_reversed_1 _) (fun obj=>aPa obj _) F.entry_reversed_new (bAq t vs n hn) ⟨ht,⟨_,Heap.get?_push_size _ rfl,rfl⟩,h⟩
noncomputable def IsRv (h:Heap) (I t:Addr) (i:Int):Prop:=h.get? I=some (aFw t i)
theorem bFz {I t:Addr} {i:Nat} {vs:List Value} {n:Nat} {x:Value} {Q:Option Value→Shared→Prop} (hI:IsRv s.heap I t (i:Int)) (ht:s.heap.get? t=some (tupO vs n)) (hn:vs.length≤1000) (hx:vs[i]?=some x)
    (hQ:∀ h' tk,IsRv h' I t ((i:Int) - 1)→Heap.SameBut I s.heap h'→Q (some x) { s with heap:=h',toks:=tk }):wpAny (model prog w) A (pyNext (.ref I)) Q E s:=by
  have hT:s.TypeIs (.ref I) "reversed" := ⟨_,hI,rfl⟩
  have hlt:=(List.getElem?_eq_some_iff.mp hx).1
  unfold pyNext
  refine wpAny_bind (wpAny_attempt (wpAny_callSpecial?_slot (name:=Str.ofString "__next__") hT rv_slot_next (wpAny_call_entry rv_slot_next hT aEk ?_ (aFv _))))
  unfold Builtin.«reversed.__next__»
  refine wpAny_bind (wpAny_of_eq (a:=(Value.ref I,[])) rfl ?_)
  dsimp only
  refine wpAny_bind (wpAny_field hI rfl (x:=.ref t) rfl ?_)
  refine wpAny_bind (wpAny_field hI rfl (x:=rawInt (i:Int)) rfl ?_)
  show wpAny _ _ (if (i:Int) < 0 then _ else _) _ _ s
  rw [if_neg om70]
  show wpAny _ _ (specialOf (.ref t) "__getitem__" >>= _) _ _ s
  refine wpAny_bind (wpAny_specialOf (T := "tuple") ⟨_,ht,rfl⟩ F.slot_tuple_getitem.lookup ?_)
  show wpAny _ _ (mkInt (i:Int) >>= _) _ _ s
  refine wpAny_bind (wpAny_mkInt ?_)
  refine wpAny_bind (wpAny_attempt (getItem_tuple (t:=t) (j:=i) ⟨_,ht,rfl,_,rfl⟩ om73 (om72 hn hlt) (by rw [List.size_toArray]; unfold seqIndex?; simp; omega) (by simpa using hx) ?_))
  show wpAny _ _ (field (.ref I) 1 >>= _) _ _ _
  refine wpAny_bind (wpAny_field (s:={ s with toks:=s.toks+1 }) hI rfl (x:=rawInt (i:Int)) rfl ?_)
  show wpAny _ _ (setField (.ref I) 1 (rawInt ((i:Int) - 1)) >>= _) _ _ _
  refine wpAny_bind (wpAny_setField_rec (s:={ s with toks:=s.toks+1 }) hI (by simp) fun h' h1 h2=>?_)
  exact wpAny_pure ⟨x,rfl,wpAny_pure (hQ _ _ h1 h2)⟩
theorem bKc {I t:Addr} {Q:Option Value→Shared→Prop} (hh:A.handled=none) (hI:IsRv s.heap I t (-1))
    (hQ:∀ h',Heap.ExtBut I s.heap h'→Q none { s with heap:=h' }):wpAny (model prog w) A (pyNext (.ref I)) Q E s:=by
  have hT:s.TypeIs (.ref I) "reversed" := ⟨_,hI,rfl⟩
  unfold pyNext
  refine wpAny_bind (wpAny_attempt (wpAny_callSpecial?_slot (name:=Str.ofString "__next__") hT rv_slot_next (wpAny_call_entry rv_slot_next hT aEk ?_ (aFv _))))
  unfold Builtin.«reversed.__next__»
  refine wpAny_bind (wpAny_of_eq (a:=(Value.ref I,[])) rfl ?_)
  dsimp only
  refine wpAny_bind (wpAny_field hI rfl (x:=.ref t) rfl ?_)
  refine wpAny_bind (wpAny_field hI rfl (x:=rawInt (-1)) rfl ?_)
  show wpAny _ _ (if (-1:Int) < 0 then _ else _) _ _ s
  rw [if_pos (by decide)]
  refine wpAny_bind (wpAny_rule ?_)
  refine wpAny_bind ?_
  show wpAny _ _ (setField (.ref I) 1 (rawInt (-1)) >>= _) _ _ _
  refine wpAny_bind (wpAny_setField_rec hI (by simp) fun h1 e1 b1=>?_)
  refine wpAny_setField_rec e1 (by simp) fun h2 e2 b2=>?_
  refine wpAny_bind ?_
  show wpAny _ _ (newExc (.type "StopIteration") [] >>= _) _ _ _
  refine wpAny_bind ?_
  simp -iota only [newExc,newTuple]
  refine wpAny_bind (wpAny_newObj_type ?_ (by size_fits))
  refine wpAny_bind (m:=firstArgMember _ _) (wpAny_of_eq (a:=Value.none) (by first | rfl | (simp only [firstArgMember]; rfl)) ?_)
  refine wpAny_newObj_type ?_ (by size_fits)
  unfold raiseNew; dsimp only
  refine wpAny_bind (wpAny_handled ?_)
  first | rw [show A.in1.handled=none from hh] | rw [hh]
  refine wpAny_bind (wpAny_pure (wpAny_throw ?_))
  refine wpAny_bind (wpAny_isInstance (T := "StopIteration") (b:=true) ⟨_,Heap.get?_push_size _ rfl,rfl⟩ isSubtype_stop ?_)
  exact wpAny_pure (hQ _ (((b1.extBut.trans b2.extBut).push _).push _))
end
end
section
noncomputable def sel (f:Nat→Bool):List Nat:=(List.range 5).filter f
noncomputable def tabOf (ks:List Nat) (led:Bool):SetTable:={ mask:=if ks.length < 5 then 7 else 31,place:=ks.toArray,dummies:=#[],finger:=0,led,moves:=if ks.length < 5 then 0 else 1,plain:=true }
noncomputable def ents (l:List (Nat × Tok)):List (Int × Value):=l.map fun p=>((p.1:Int),Value.int p.1 p.2)
noncomputable def SetX (h:Heap) (a:Addr) (led:Bool) (l:List (Nat × Tok)) (ep:Nat):Prop:=∃ o,h.get? a=some o∧o.ExactSet∧o.data=.set (ents l).toArray ep (tabOf (l.map (·.1)) led)
noncomputable def F5 (b0 b1 b2 b3 b4:Bool) (k:Nat):Bool:=[b0,b1,b2,b3,b4].getD k false
theorem aMg (f:Nat→Bool):sel f=sel (F5 (f 0) (f 1) (f 2) (f 3) (f 4)):=rfl
noncomputable def putOf (ks:List Nat) (k:Nat) (led:Bool):Nat:=((tabOf ks led).put k).2
noncomputable abbrev Fact (f:Nat→Bool) (led:Bool) (k:Nat):Prop :=
  let ks:=sel f
  let t:=tabOf ks led
  let p:=putOf ks k led
  let ks':=ks.take p ++ k :: ks.drop p
  t.freeSlot k=some (k,false)∧p≤ks.length∧ks'=sel (fun j=>f j || j == k)∧(t.put k).1.fits ks'.length=true∧(t.put k).1.plain=true ∧
  (ks'.length < 5→(t.put k).1=tabOf ks' led∧(t.put k).1.tooFull=false) ∧
  (¬ ks'.length < 5→(t.put k).1.tooFull=true∧ks'=[0,1,2,3,4]∧(t.put k).1.relaid #[0,1,2,3,4] 20=some (tabOf [0,1,2,3,4] led,#[0,1,2,3,4]))
theorem bBx:∀ b0 b1 b2 b3 b4 led:Bool,∀ k∈List.range 5,F5 b0 b1 b2 b3 b4 k=false→Fact (F5 b0 b1 b2 b3 b4) led k:=by decide +kernel
theorem len5 {α:Type} {P:List α→Prop} (k:∀ a b c d e,P [a,b,c,d,e]) {xs:List α} (h:xs.length=5):P xs:=by
  obtain ⟨a,xs,rfl⟩:=List.exists_cons_of_length_eq_add_one h
  obtain ⟨b,xs,rfl⟩:=List.exists_cons_of_length_eq_add_one (Nat.succ.inj h)
  obtain ⟨c,xs,rfl⟩:=List.exists_cons_of_length_eq_add_one (Nat.succ.inj (Nat.succ.inj h))
  obtain ⟨d,xs,rfl⟩:=List.exists_cons_of_length_eq_add_one (Nat.succ.inj (Nat.succ.inj (Nat.succ.inj h)))
  obtain ⟨e,xs,rfl⟩:=List.exists_cons_of_length_eq_add_one (Nat.succ.inj (Nat.succ.inj (Nat.succ.inj (Nat.succ.inj h))))
  cases List.eq_nil_of_length_eq_zero (Nat.succ.inj (Nat.succ.inj (Nat.succ.inj (Nat.succ.inj (Nat.succ.inj h)))))
  exact k a b c d e
theorem five {α:Type} {xs:List α} (h:xs.length=5):(#[0,1,2,3,4]:Array Nat).filterMap ((⟨xs⟩:Array α)[·]?)=⟨xs⟩ :=
  len5 (P:=fun xs=>(#[0,1,2,3,4]:Array Nat).filterMap ((⟨xs⟩:Array α)[·]?)=⟨xs⟩) (fun _ _ _ _ _=>rfl) h
theorem lt_5 {P:Nat→Prop} {k:Nat} (h:k < 5) (a:P 0) (b:P 1) (c:P 2) (d:P 3) (e:P 4):P k:=by
  have q:∀ k,k < 5→k=0∨k=1∨k=2∨k=3∨k=4:=by decide
  rcases q k h with e | e | e | e | e <;> rw [e] <;> assumption
theorem F5_at (f:Nat→Bool) {k:Nat} (hk:k < 5):F5 (f 0) (f 1) (f 2) (f 3) (f 4) k=f k :=
  lt_5 (P:=fun k=>F5 (f 0) (f 1) (f 2) (f 3) (f 4) k=f k) hk rfl rfl rfl rfl rfl
theorem fact (f:Nat→Bool) (led:Bool) {k:Nat} (hk:k < 5) (hf:f k=false):Fact f led k:=by
  have h:=bBx (f 0) (f 1) (f 2) (f 3) (f 4) led k (List.mem_range.mpr hk) (by rw [F5_at f hk]; exact hf)
  unfold Fact at h ⊢
  rw [aMg f,aMg (fun j=>f j || j == k)]
  rw [aMg (fun j=>F5 (f 0) (f 1) (f 2) (f 3) (f 4) j || j == k)] at h
  exact h
theorem mem_sel {f:Nat→Bool} {k:Nat}:k∈sel f↔k < 5∧f k=true:=by simp [sel]
theorem aHk {α:Type} (xs:Array α) (p:Nat) (x:α):(SetTable.insertAt xs p x).toList=xs.toList.take p ++ x :: xs.toList.drop p:=by
  simp [SetTable.insertAt,List.take_of_length_le]
theorem aEu {k:Nat} (hk:k < 5):hashInt (k:Nat)=(k:Nat):=lt_5 (P:=fun k=>hashInt (k:Nat)=(k:Nat)) hk (by decide) (by decide) (by decide) (by decide) (by decide)
section
variable {prog:Program} {w:World} {A:Around} {E:Value→Shared→Prop} {s:Shared}
theorem aUf {l:List (Nat × Tok)} (h:∀ k∈l.map (·.1),k < 5):ElemsOf (intKind prog w) (ents l):=fun e he=>by
  refine aCm he fun p hp=>?_
  refine ⟨⟨(p.1:Nat),intKind_is _ _ _ _,(aEu (h p.1 (List.mem_map.mpr ⟨p,hp,rfl⟩))).symm⟩,rfl⟩
theorem aEd {ks:List Nat} {led:Bool} (h:ks.length≤5):(tabOf ks led).fits ks.length=true:=by
  simp only [SetTable.fits,tabOf,SetTable.fill,List.size_toArray,List.length_nil,beq_self_eq_true,Bool.true_and,decide_eq_true_eq]
  split <;> omega
theorem aDc (f:Nat→Bool):(sel f).length≤5:=by
  have:=List.length_filter_le f (List.range 5)
  simpa [sel] using this
theorem gw_no {s₁:Shared} {Q':Unit→Shared→Prop} (hq:Q' () s₁):wpAny (model prog w) A (match false with | true=>rule "set.scan.the-table-gave-way" | false=>pure ()) Q' E s₁:=wpAny_pure hq
theorem bAj {a:Addr} {led:Bool} {l:List (Nat × Tok)} {ep k:Nat} {t:Tok} {f:Nat→Bool} {Q:Bool→Shared→Prop} (hX:SetX s.heap a led l ep) (hl:l.map (·.1)=sel f) (hk:k < 5)
    (h:∀ b h' l' ep',Heap.SameBut a s.heap h'→SetX h' a led l' ep'→l'.map (·.1)=sel (fun j=>f j || j == k)→Q b { s with heap:=h' }) :
    wpAny (model prog w) A (setAddHashed a (.int (k:Nat) t) (hashInt (k:Nat))) Q E s:=by
  obtain ⟨o,ho,hex,hd⟩:=hX
  have hlt:∀ j∈l.map (·.1),j < 5:=fun j hj=>by rw [hl] at hj; exact (mem_sel.mp hj).1
  have hlen:l.length≤5:=by have:=aDc f; rw [← hl,List.length_map] at this; exact this
  have hel:ElemsOf (intKind prog w) (ents l).toArray.toList:=aUf hlt
  have hsz:(ents l).toArray.size=l.length:=by simp [ents]
  have hfit:(tabOf (l.map (·.1)) led).fits (ents l).toArray.size=true:=by rw [hsz,← List.length_map (f:=(·.1)) (as:=l)]; exact aEd (by simpa using hlen)
  have hb:(ents l).toArray.size < scanBound:=by rw [hsz]; unfold scanBound; exact om77 hlen
  have hkey:(intKind prog w).is ((k:Nat):Int) (.int (k:Nat) t)=true:=intKind_is _ _ _ _
  unfold setAddHashed setAddHashedIn
  refine wpAny_holding (wpAny_bind (wpAny_setState_of ho hd hfit ?_))
  dsimp only
  rw [byScan_of rfl hb hel]
  simp only [↓reduceIte]
  unfold setAddByScan
  refine wpAny_bind ?_
  refine wpAny_bind (wpAny_rule ?_)
  refine wpAny_bind (wpAny_setScan_of (knd:=intKind prog w) hkey ho hd hfit hel ?_)
  cases hr:List.findIdx? (fun e:Int × Value=>(intKind prog w).is ((k:Nat):Int) e.2) (ents l).toArray.toList with
  | some j =>
    dsimp only
    obtain ⟨hj,hpj,_⟩:=List.findIdx?_eq_some_iff_getElem.mp hr
    have hm:k∈sel f:=by
      rw [← hl]
      have hm':=List.getElem_mem hj
      generalize (ents l).toArray.toList[j]=e at hm' hpj
      obtain ⟨p,hp,rfl⟩:=List.mem_map.mp (show e∈ents l by simpa using hm')
      have:=(intKind prog w).inj _ _ _ hpj (intKind_is prog w (p.1:Nat) p.2)
      have e2:k=p.1:=om76 this
      exact e2 ▸ List.mem_map.mpr ⟨p,hp,rfl⟩
    refine wpAny_pure (wpAny_pure ?_)
    have e:s={ s with heap:=s.heap }:=by cases s; rfl
    rw [e]
    refine h _ s.heap l ep (Heap.SameBut.refl a s.heap) ⟨o,ho,hex,hd⟩ ?_
    rw [hl]
    have:∀ j,f j=(f j || j == k):=fun j=>by
      by_cases hjk:j=k
      · subst hjk; simp [(mem_sel.mp hm).2]
      · simp [hjk]
    rw [show (fun j=>f j || j == k)=f from funext fun j=>(this j).symm]
  | none =>
    dsimp only
    have hfk:f k=false:=by
      cases q:f k with
      | false=>rfl
      | true =>
        have hm:k∈l.map (·.1):=by rw [hl]; exact mem_sel.mpr ⟨hk,q⟩
        obtain ⟨p,hp,rfl⟩:=List.mem_map.mp hm
        have:=List.findIdx?_eq_none_iff.mp hr ((p.1:Int),.int p.1 p.2) (by simp only [ents]; exact List.mem_map.mpr ⟨p,hp,rfl⟩)
        rw [show (intKind prog w).is ((p.1:Nat):Int) (.int (p.1:Nat) p.2)=true from intKind_is _ _ _ _] at this
        cases this
    obtain ⟨c1,c2,c3,c4,c5,c6,c7⟩:=fact f led hk hfk
    rw [← hl] at c1 c2 c3 c4 c5 c6 c7
    rw [aEu hk]
    generalize hp:putOf (l.map (·.1)) k led=p at c2 c3 c4 c6 c7
    have hput:(tabOf (l.map (·.1)) led).put k=(((tabOf (l.map (·.1)) led).put k).1,p):=by rw [← hp]; rfl
    generalize ((tabOf (l.map (·.1)) led).put k).1=t1 at hput c4 c5 c6 c7
    let l':=l.take p ++ (k,t) :: l.drop p
    have hl':l'.map (·.1)=(l.map (·.1)).take p ++ k :: (l.map (·.1)).drop p:=by simp [l',List.map_take,List.map_drop]
    have hes':SetTable.insertAt (ents l).toArray p (((k:Nat):Int),.int (k:Nat) t)=(ents l').toArray:=by
      apply Array.toList_inj.mp
      rw [aHk]
      simp [ents,l',List.map_take,List.map_drop]
    have hsz':(ents l').toArray.size=(l'.map (·.1)).length:=by simp [ents]
    rw [← hl'] at c3 c4 c6 c7
    have hlay:layNew (tabOf (l.map (·.1)) led) (ents l).toArray (k:Nat) (.int (k:Nat) t)=((ents l').toArray,t1,false,false):=by
      unfold layNew
      rw [c1]
      dsimp only
      rw [hput]
      dsimp only
      rw [hes',hsz']
      simp only [SetTable.orStandIn,c4,if_true,Bool.not_true]
    rw [hlay]
    dsimp only
    refine wpAny_bind (gw_no ?_)
    have hlen':(l'.map (·.1)).length≤5:=by rw [c3]; exact aDc _
    have hz:(ents l').toArray.size≤sizeLine:=by rw [hsz',sizeLine_eq]; exact om75 hlen'
    have hpl:(tabOf (l.map (·.1)) led).plain=true:=rfl
    rw [c5]
    simp only [if_true]
    rw [hashByValue_scannable 8 (x:=.int (k:Nat) t) rfl]
    refine wpAny_bind (wpAny_bind (wpAny_pure ?_))
    simp only [plainKind]
    refine wpAny_pure ?_
    simp only [if_true]
    refine wpAny_bind (wpAny_storeSet_of ho hd ?_ hz)
    have hg:(s.heap.update a (Obj.putSet (ents l').toArray t1)).get? a=some { o with data:=.set (ents l').toArray (ep+1) t1 }:=by
      have:=Heap.get?_update_self (Obj.putSet (ents l').toArray t1) ho (by rw [putSet_of _ _ hd]; rfl)
      rw [putSet_of _ _ hd] at this; exact this
    have hsb:=Heap.SameBut.update s.heap a (Obj.putSet (ents l').toArray t1)
    by_cases h5:(l'.map (·.1)).length < 5
    · obtain ⟨e1,e2⟩:=c6 h5
      rw [e2]
      simp only [Bool.not_false,Bool.and_false,Bool.false_eq_true,if_false]
      refine wpAny_pure (wpAny_pure ?_)
      refine h _ _ l' (ep+1) hsb ⟨_,hg,hex,?_⟩ c3
      rw [← e1]
    · obtain ⟨e1,e2,e3⟩:=c7 h5
      rw [e1]
      simp only [Bool.not_false,Bool.and_self,if_true]
      have hfst:(ents l').toArray.map (·.1)=#[0,1,2,3,4]:=by
        have:((ents l').toArray.map (·.1)).toList=(l'.map (·.1)).map fun k:Nat=>(k:Int):=by simp [ents,List.map_map,Function.comp_def]
        rw [e2] at this
        exact Array.toList_inj.mp (by rw [this]; rfl)
      have hs5:(ents l').toArray.size=5:=by rw [hsz',e2]; rfl
      have hre:relayAll t1 (ents l').toArray (SetTable.grown (ents l').toArray.size)=((ents l').toArray,tabOf [0,1,2,3,4] led,false):=by
        unfold relayAll
        rw [hs5,show SetTable.grown 5=20 from rfl,hfst,e3]
        dsimp only
        have hfm:(#[0,1,2,3,4]:Array Nat).filterMap ((ents l').toArray[·]?)=(ents l').toArray:=by
          generalize (ents l').toArray=es at hs5
          obtain ⟨xs⟩:=es
          exact five hs5
        rw [hfm,hs5]
        rfl
      rw [hre]
      dsimp only
      refine wpAny_bind (gw_no ?_)
      refine wpAny_bind (wpAny_storeSet_of hg rfl ?_ hz)
      have hg2:((s.heap.update a (Obj.putSet (ents l').toArray t1)).update a (Obj.putSet (ents l').toArray (tabOf [0,1,2,3,4] led))).get? a=some { o with data:=.set (ents l').toArray (ep+2) (tabOf [0,1,2,3,4] led) }:=by
        have:=Heap.get?_update_self (Obj.putSet (ents l').toArray (tabOf [0,1,2,3,4] led)) hg (by rw [putSet_of _ _ rfl]; rfl)
        rw [putSet_of _ _ rfl] at this; exact this
      refine wpAny_pure (wpAny_pure ?_)
      refine h _ _ l' (ep+2) (hsb.trans (Heap.SameBut.update _ a _)) ⟨_,hg2,hex,?_⟩ c3
      rw [e2]
end
end
section
noncomputable def fOf (val:Nat→Nat) (i:Nat):Nat→Bool:=fun j=>(List.range i).any fun m=>val m == j
theorem bBy (val:Nat→Nat) (i:Nat):fOf val (i+1)=fun j=>fOf val i j || j == val i:=by
  funext j
  simp only [fOf,List.range_succ,List.any_append,List.any_cons,List.any_nil,Bool.or_false]
  congr 1
  by_cases h:val i=j
  · subst h; simp
  · rw [beq_eq_false_iff_ne.mpr h,beq_eq_false_iff_ne.mpr (Ne.symm h)]
section
variable {prog:Program} {w:World} {A:Around} {R:Result→Shared→Prop} {I:Addr} {fp wr:List Addr} {n:Nat} {P:Nat→Value→Prop} {St:Nat→Heap→Prop}
theorem SetX.at' {h h':Heap} {a:Addr} {led:Bool} {l:List (Nat × Tok)} {ep:Nat} (x:SetX h a led l ep) (k:∀ o,h.get? a=some o→h'.get? a=some o):SetX h' a led l ep:=let ⟨o,e,r⟩:=x; ⟨o,k o e,r⟩
theorem bAm (W:Walks prog w A.in1 I fp wr n P St) (S:Addr) (hSf:S∉fp) (led:Bool) (val:Nat→Nat) (hval:∀ i v,i < n→P i v→val i < 5∧∃ t,v=.int (val i:Nat) t) :
    ∀ (k i:Nat) (s:Shared),n - i=k→i≤n→St i s.heap→∀ (l:List (Nat × Tok)) (ep:Nat),SetX s.heap S led l ep→l.map (·.1)=sel (fOf val i) →
      (∀ h' tk l' ep',(∀ b o,b∉S :: wr→s.heap.get? b=some o→h'.get? b=some o)→SetX h' S led l' ep'→l'.map (·.1)=sel (fOf val n)→R (.ok (.ret .none)) { s with heap:=h',toks:=tk }) →
      codeAny (model prog w) A (.builtin "set.update.loop" ⟨[.ref S,.ref I],[]⟩) R s:=by
  have hSw:S∉wr:=fun h=>hSf (W.sub _ h)
  intro k
  induction k with
  | zero =>
    intro i s hk hi hst l ep hX hl hR
    have hin:i=n:=om81 hk hi
    subst hin
    refine codeAny_builtin F.entry_set_update_loop ?_
    rw [Around.under_plainId F.plain_set_update_loop _]
    show wpAny _ A.in1 (pyNext (.ref I) >>= _) _ _ s
    refine wpAny_bind (W.done s _ _ hst fun h' tk kp=>?_)
    show wpAny _ A.in1 (ret Value.none) _ _ _
    exact wpAny_pure (hR h' tk l ep (fun b o hb e=>kp b o (fun m=>hb (.tail _ m)) e) (hX.at' fun o e=>kp S o hSw e) hl)
  | succ k ih =>
    intro i s hk hi hst l ep hX hl hR
    have hlt:i < n:=om80 hk
    refine codeAny_builtin F.entry_set_update_loop ?_
    rw [Around.under_plainId F.plain_set_update_loop _]
    show wpAny _ A.in1 (pyNext (.ref I) >>= _) _ _ s
    refine wpAny_bind (W.item i s _ _ hlt hst fun v h' tk hP hst' kp=>?_)
    obtain ⟨h5,t,rfl⟩:=hval i v hlt hP
    have hX':=hX.at' (h':=h') fun o e=>kp S o hSw e
    show wpAny _ A.in1 (holding [Value.int (val i:Nat) t] (setAdd S (.int (val i:Nat) t)) >>= _) _ _ _
    refine wpAny_bind (wpAny_holding ?_)
    unfold setAdd
    refine wpAny_holding ?_
    refine wpAny_bind ((intKind prog w).pyHash (k:=((val i:Nat):Int)) (intKind_is _ _ _ _) ?_)
    refine bAj (s:={ s with heap:=h',toks:=tk+1 }) hX' hl h5 fun b h2 l2 ep2 hsb hX2 hl2=>?_
    refine wpAny_pure ⟨plainId_quiet F.plain_set_update_loop _,ih (i+1) _ (om79 hk) hlt (W.frame _ _ _ hst' fun b hb o e=>?_) l2 ep2 hX2 (by rw [hl2,bBy]) fun h3 tk3 l3 ep3 kp3 hX3 hl3=>?_⟩
    · show h2.get? b=some o
      rw [hsb.2 b (fun h:b=S=>hSf (by rw [← h]; exact hb))]; exact e
    · refine hR h3 tk3 l3 ep3 (fun b o hb e=>kp3 b o hb ?_) hX3 hl3
      show h2.get? b=some o
      rw [hsb.2 b (fun h:b=S=>hb (by rw [h]; exact .head _))]
      exact kp b o (fun m=>hb (.tail _ m)) e
end
structure SetSrc (prog:Program) (w:World) (T:String) (r:Addr) (n:Nat) (P:Nat→Value→Prop) (OK:Heap→Prop):Prop where
  type:∀ s:Shared,OK s.heap→s.TypeIs (.ref r) T
  there:∀ h:Heap,OK h→r < h.objs.size
  keep:∀ h h':Heap,OK h→(∀ o,h.get? r=some o→h'.get? r=some o)→OK h'
  notSet:isSubtype (.type T) (.type "set")=pure false
  notFrozen:isSubtype (.type T) (.type "frozenset")=pure false
  notDict:(Value.type T == Value.type "dict")=false
  iter:∀ (A:Around) (s:Shared),A.handled=none→OK s.heap→∃ (oI:Obj) (St:Nat→Heap→Prop),
    (∀ (E:Value→Shared→Prop) (Q:Value→Shared→Prop),Q (.ref s.heap.objs.size) { s with heap:=s.heap.push oI }→wpAny (model prog w) A (pyIter (.ref r)) Q E s) ∧
    Walks prog w A s.heap.objs.size [s.heap.objs.size,r] [s.heap.objs.size] n P St∧St 0 (s.heap.push oI)
section
variable {prog:Program} {w:World} {A:Around} {E:Value→Shared→Prop} {s:Shared}
theorem aTa {h:Heap} {a:Addr} {led:Bool} (e:h.get? a=some { cls:=.type "set",dict:=none,data:=.set #[] 0 (.fresh 0 0 led) }):SetX h a led [] 0:=⟨_,e,⟨rfl,rfl,rfl⟩,rfl⟩
theorem bGf {a:Value} {Q₁:Value→Shared→Prop} (h:Q₁ (.ref s.heap.objs.size) { s with heap:=s.heap.push { cls:=.type "set",dict:=none,data:=.set #[] 0 (.fresh 0 0 (!w.params.followText "set-order")) } }) :
    codeAny (model prog w) A (.call (.builtin "set.__new__") ⟨[.type "set",a],[]⟩) (wants Q₁ E) s:=by
  refine codeAny_of_tree ?_
  show wpAny _ A.in1 (do checkBuiltinCall "set.__new__" ⟨[.type "set",a],[]⟩; again (.builtin "set.__new__" ⟨[.type "set",a],[]⟩)) _ _ s
  refine wpAny_bind (wpAny_of_eq (F.newCall_set_1 a) (wpAny_pure ⟨plainId_quiet F.plain_set_new _,codeAny_builtin F.entry_set_new ?_⟩))
  rw [Around.under_plainId F.plain_set_new _]
  unfold Builtin.«set.__new__» Builtin.Frozenset.newClass
  have hsub:=sub_set_self
  obtain ⟨hp,g,d,tk,os⟩:=s
  dsimp only
  wp_walk
  refine wpAny_askSetting (wpAny_pure ?_)
  dsimp only
  simp only [newObj]
  refine wpAny_bind (wpAny_alloc (wpAny_pure ?_))
  exact wpAny_pure h
set_option maxHeartbeats 3200000 in
theorem aYm {T:String} {r:Addr} {n:Nat} {P:Nat→Value→Prop} {OK:Heap→Prop} (K:SetSrc prog w T r n P OK) (hh:A.handled=none) (hok:OK s.heap) (val:Nat→Nat) (hval:∀ i v,i < n→P i v→val i < 5∧∃ t,v=.int (val i:Nat) t) {Q:Value→Shared→Prop}
    (h:∀ (h':Heap) (tk:Nat) l ep,SetX h' s.heap.objs.size (!w.params.followText "set-order") l ep→l.map (·.1)=sel (fOf val n)→(∀ b o,s.heap.get? b=some o→h'.get? b=some o)→Q (.ref s.heap.objs.size) { s with heap:=h',toks:=tk }) :
    wpAny (model prog w) A (call (.type "set") [.ref r]) Q E s:=by
  obtain ⟨c,tl,hmro⟩:=F.called_set.mro
  have hmade:=F.called_set.made
  have hsub:=F.called_set.sub
  refine wpAny_call (codeAny_of_tree ?_)
  show wpAny _ _ (callAny (.type "set") _) _ _ _
  refine wpAny_pure ⟨Code.quiet_builtin _ (by decide +kernel),codeAny_builtin F.entry_type_call ?_⟩
  rw [Around.under_plain (weight_type_call_type "set" [.ref r] []) rfl]
  have h1:=F.called_set.notType
  have h2:=F.called_set.canCreate
  have hct:=F.typeCall_set_1 (.ref r)
  repeat (any_goals (first | assumption | wp_step))
  refine codeAny_mono (bGf (a:=.ref r) (E:=E) (Q₁:=fun obj s₁=>obj=.ref s.heap.objs.size∧s₁={ s with heap:=s.heap.push { cls:=.type "set",dict:=none,data:=.set #[] 0 (.fresh 0 0 (!w.params.followText "set-order")) } }) ⟨rfl,rfl⟩) fun r' s₁ hr=>?_
  generalize hled:(!w.params.followText "set-order")=led at hr h
  cases r' with
  | error e=>exact hr
  | ok fl =>
    cases fl with
    | ret obj =>
      obtain ⟨rfl,rfl⟩:=hr
      have hS:(s.heap.push { cls:=.type "set",dict:=none,data:=.set #[] 0 (.fresh 0 0 led) }).get? s.heap.objs.size=some { cls:=.type "set",dict:=none,data:=.set #[] 0 (.fresh 0 0 led) }:=Heap.get?_push_size _ rfl
      have hT:Shared.TypeIs { s with heap:=s.heap.push { cls:=.type "set",dict:=none,data:=.set #[] 0 (.fresh 0 0 led) } } (.ref s.heap.objs.size) "set" := ⟨_,hS,rfl⟩
      have hli:=F.called_set.init.lookup
      have hbi:=F.called_set.init.bind (.ref s.heap.objs.size)
      repeat (any_goals (first | assumption | wp_step))
      refine codeAny_mono (codeAny_call_builtin (R:=wants (fun r s₂=>r=.none∧∃ h' tk l ep,s₂={ s with heap:=h',toks:=tk }∧SetX h' s.heap.objs.size led l ep∧l.map (·.1)=sel (fOf val n) ∧
          (∀ b o,s.heap.get? b=some o→h'.get? b=some o)) E) F.called_set.init.plain F.entry_set_init (check_set_init_1 hT ?_)) fun r₂ s₂ hr₂=>?_
      · have hok1:OK (s.heap.push { cls:=.type "set",dict:=none,data:=.set #[] 0 (.fresh 0 0 led) }):=K.keep _ _ hok fun o e=>Heap.get?_push_of_some _ e
        have hTr:=K.type { s with heap:=s.heap.push { cls:=.type "set",dict:=none,data:=.set #[] 0 (.fresh 0 0 led) } } hok1
        have hsls:=K.notSet
        have hslf:=K.notFrozen
        have hne:=K.notDict
        unfold Builtin.«set.__init__» noKeywords Builtin.Frozenset.updateFrom
        generalize hPI:pyIter=PI
        wp_walk using wpAny_typeOf hTr,wpAny_isInstance hTr hsls,wpAny_isInstance hTr hslf
        subst hPI
        obtain ⟨oI,St,hit,W,st⟩:=K.iter A.in1.in1.in1 { s with heap:=s.heap.push { cls:=.type "set",dict:=none,data:=.set #[] 0 (.fresh 0 0 led) } } (by simp [hh]) hok1
        refine wpAny_of_in1 (hit _ _ ?_)
        refine wpAny_bind (wpAny_runValue ?_)
        have hrlt:=K.there _ hok
        have hlt1:s.heap.objs.size < (s.heap.push { cls:=.type "set",dict:=none,data:=.set #[] 0 (.fresh 0 0 led) }).objs.size:=by rw [Heap.size_push]; exact Nat.lt_succ_self _
        have hSf:s.heap.objs.size∉[(s.heap.push { cls:=.type "set",dict:=none,data:=.set #[] 0 (.fresh 0 0 led) }).objs.size,r]:=by
          simp only [List.mem_cons,List.not_mem_nil,or_false,not_or]
          exact ⟨Nat.ne_of_lt hlt1,Nat.ne_of_gt hrlt⟩
        refine bAm (A:=A.in1.in1) W s.heap.objs.size hSf led val hval (n - 0) 0 _ om78 (Nat.zero_le _) st [] 0 ((aTa hS).at' fun o e=>Heap.get?_push_of_some _ e) rfl ?_
        intro h' tk l ep kp hX hl
        refine wpAny_pure ?_
        show wpAny _ _ (ret Value.none) _ _ _
        refine wpAny_pure ⟨rfl,h',tk,l,ep,rfl,hX,hl,fun b o e=>kp b o ?_ (Heap.get?_push_of_some _ (Heap.get?_push_of_some _ e))⟩
        have hb:=Heap.lt_size e
        simp only [List.mem_cons,List.not_mem_nil,or_false,not_or]
        exact ⟨Nat.ne_of_lt hb,fun z=>by rw [z] at hb; exact Nat.lt_irrefl _ (Nat.lt_trans hb hlt1)⟩
      · cases r₂ with
        | error e=>exact hr₂
        | ok fl₂ =>
          cases fl₂ with
          | ret r =>
            obtain ⟨rfl,h',tk,l,ep,rfl,hX,hl,hk'⟩:=hr₂
            repeat (any_goals (first | assumption | wp_step))
            exact h _ _ _ _ hX hl hk'
          | _=>exact hr₂.elim
    | _=>exact hr.elim
end
end
section
theorem aQt:Manifest.owners.lookup (String.ofList ['r','o','t','a','r','e','t','i','_','t','e','s'].reverse)=some Manifest.sig_set_iterator:=by kernel_rfl
theorem si_slot_next:Slot "set_iterator" "__next__" "set_iterator.__next__" :=
  .of (owner := "set_iterator") (n := "__next__") (by rw [typeLookup_type,builtinLookup_eq_fast]; kernel_rfl) (by decide +kernel) (by decide +kernel) (by decide +kernel) (by first | exact .inl (by decide +kernel) | exact .inr (by decide +kernel)) (by rw [isSubtype_type]; kernel_rfl)
theorem aEj:entryFor table "set_iterator.__next__" = some Builtin.«set_iterator.__next__»:=entryFor_of_tree (by kernel_rfl)
theorem aFt (a:Value):argsOk "set_iterator.__next__" ⟨[a],[]⟩:=by
  unfold argsOk; rw [signature?_of (id := "set_iterator.__next__") (n:=['_','_','t','x','e','n','_','_']) (o:=['r','o','t','a','r','e','t','i','_','t','e','s']) (by kernel_rfl) aQt]; kernel_rfl
theorem aFs:Slot "set_iterator" "__iter__" "set_iterator.__iter__" :=
  .of (owner := "set_iterator") (n := "__iter__") (by rw [typeLookup_type,builtinLookup_eq_fast]; kernel_rfl) (by decide +kernel) (by decide +kernel) (by decide +kernel) (by first | exact .inl (by decide +kernel) | exact .inr (by decide +kernel)) (by rw [isSubtype_type]; kernel_rfl)
theorem aMf (a:Value):argsOk "set_iterator.__iter__" ⟨[a],[]⟩:=by
  unfold argsOk; rw [signature?_of (id := "set_iterator.__iter__") (n:=['_','_','r','e','t','i','_','_']) (o:=['r','o','t','a','r','e','t','i','_','t','e','s']) (by kernel_rfl) aQt]; kernel_rfl
theorem aKg:entryFor table "set_iterator.__iter__" = some Builtin.«dict_keyiterator.__iter__» :=
  entryFor_alias (id' := "dict_keyiterator.__iter__") (by kernel_rfl) (by decide +kernel) (by decide +kernel) (by kernel_rfl)
theorem aIp:entryFor table "set.__iter__" = some Builtin.«frozenset.__iter__» :=
  entryFor_alias (id' := "frozenset.__iter__") (by kernel_rfl) (by decide +kernel) (by decide +kernel) (by kernel_rfl)
theorem aOe:∀ b0 b1 b2 b3 b4:Bool,SetTable.below (sel (F5 b0 b1 b2 b3 b4)).toArray 0=0∧∀ i∈List.range 5,i < (sel (F5 b0 b1 b2 b3 b4)).length→SetTable.below (sel (F5 b0 b1 b2 b3 b4)).toArray ((sel (F5 b0 b1 b2 b3 b4)).getD i 0+1)=i+1:=by decide +kernel
theorem aUo (f:Nat→Bool):SetTable.below (sel f).toArray 0=0:=by rw [aMg]; exact (aOe _ _ _ _ _).1
theorem aUp (f:Nat→Bool) {i k:Nat} (h:(sel f)[i]?=some k):SetTable.below (sel f).toArray (k+1)=i+1:=by
  have hi:=(List.getElem?_eq_some_iff.mp h).1
  have hl:=aDc f
  have e:(sel f).getD i 0=k:=by rw [List.getD_eq_getElem?_getD,h]; rfl
  rw [aMg] at h hi e hl ⊢
  have:=(aOe _ _ _ _ _).2 i (List.mem_range.mpr (om84 hi hl)) hi
  rw [e] at this; exact this
theorem aUh {α:Type} (l:List α):∀ (i:Nat) (h:i < l.length),(l[i] :: l.eraseIdx i).Perm l:=by
  induction l with
  | nil=>exact fun i h=>nomatch h
  | cons a l ih =>
    intro i h
    cases i with
    | zero=>exact .refl _
    | succ i=>exact (List.Perm.swap a (l[i]'(Nat.lt_of_succ_lt_succ h)) (l.eraseIdx i)).trans ((ih i (Nat.lt_of_succ_lt_succ h)).cons a)
theorem aWb {α:Type} (next:Nat→Nat):∀ (fuel k:Nat) (left:List α) (out:Array α),left.length=fuel→(pickOrder.go next fuel k left out).toList.Perm (out.toList ++ left):=by
  intro v
  induction v with
  | zero =>
    intro _ left out h
    have:left=[]:=List.length_eq_zero_iff.mp h
    subst this
    simp [pickOrder.go]
  | succ fuel ih =>
    intro k left out h
    have hlt:next k % left.length < left.length:=Nat.mod_lt _ (om83 h)
    rw [pickOrder.go,List.getElem?_eq_getElem hlt]
    dsimp only
    refine (ih (k+1) _ _ (by rw [List.length_eraseIdx_of_lt hlt]; exact om82 h)).trans ?_
    rw [Array.toList_push,List.append_assoc]
    refine List.Perm.append_left _ ?_
    exact aUh _ _ hlt
theorem aTe {α:Type} (next:Nat→Nat) (xs:Array α):(pickOrder next xs).toList.Perm xs.toList:=by
  have:=aWb next xs.size 0 xs.toList #[] (by simp)
  simpa [pickOrder] using this
section
variable {prog:Program} {w:World} {A:Around} {E:Value→Shared→Prop} {s:Shared}
noncomputable def aBe (w:World) (a:Addr) (ep:Nat) (es:Array (Int × Value)):Array (Int × Value):=if w.params.followText "set-order" then pickOrder (w.params.setOrder a ep) es else es
theorem aGr {a:Addr} {ep:Nat} {es:Array (Int × Value)}:(aBe w a ep es).toList.Perm es.toList:=by
  unfold aBe
  split
  · exact aTe _ _
  · exact .refl _
noncomputable def SI (h:Heap) (I a:Addr) (slot i n ep:Nat):Prop:=h.get? I=some { cls:=.type "set_iterator",dict:=none,data:=.fields #[rawInt slot,rawInt i,.ref a,rawInt n,rawInt ep],slots:=#[] }
theorem bAn {a:Addr} {l:List (Nat × Tok)} {ep:Nat} {f:Nat→Bool} {Q:Value→Shared→Prop} (hX:SetX s.heap a (!w.params.followText "set-order") l ep) (hl:l.map (·.1)=sel f)
    (h:Q (.ref s.heap.objs.size) { s with heap:=s.heap.push { cls:=.type "set_iterator",data:=.fields #[rawInt 0,rawInt 0,.ref a,rawInt l.length,rawInt ep] } }):wpAny (model prog w) A (pyIter (.ref a)) Q E s:=by
  obtain ⟨o,ho,hex,hd⟩:=hX
  have hT:s.TypeIs (.ref a) "set" := ⟨o,ho,hex.1⟩
  have hlen:l.length≤5:=by have:=aDc f; rw [← hl,List.length_map] at this; exact this
  have hsz:(ents l).toArray.size=l.length:=by simp [ents]
  have hfit:(tabOf (l.map (·.1)) (!w.params.followText "set-order")).fits (ents l).toArray.size=true:=by rw [hsz,← List.length_map (f:=(·.1)) (as:=l)]; exact aEd (by simpa using hlen)
  refine wpAny_pyIter_slot hT F.slot_set_iter (wpAny_call_entry F.slot_set_iter hT aIp ?_ (F.args_set_iter_1 _))
  unfold Builtin.«frozenset.__iter__»
  refine wpAny_bind (m:=Builtin.Frozenset.slot0 _ _) (wpAny_of_eq (a:=a) (by first | rfl | kernel_rfl) ?_)
  unfold Builtin.Frozenset.sizeOf setEntries
  refine wpAny_bind (wpAny_bind (wpAny_bind (wpAny_setState_of ho hd hfit (wpAny_pure (wpAny_pure ?_)))))
  unfold setDrawn setsByText
  refine wpAny_bind (wpAny_bind (wpAny_setState_of ho hd hfit (wpAny_bind (wpAny_bind (wpAny_askSetting (wpAny_pure (wpAny_pure ?_)))))))
  have hdr:∀ b:Bool,(!b && (!(tabOf (l.map (·.1)) (!w.params.followText "set-order")).plain && decide ((ents l).toArray.size > 1)))=false:=fun b=>by cases b <;> rfl
  refine wpAny_ite_split (fun hab=>?_) (fun _=>?_)
  · exact absurd ((hdr _).symm.trans hab) (by decide)
  refine wpAny_bind (wpAny_pure ?_)
  unfold setEpoch newFields
  refine wpAny_bind (wpAny_bind (wpAny_setState_of ho hd hfit (wpAny_pure ?_)))
  refine wpAny_bind (wpAny_newObj_type (wpAny_pure ⟨_,rfl, "set_iterator",_,⟨_,Heap.get?_push_size _ rfl,rfl⟩,si_slot_next.lookup,?_⟩))
  dsimp only
  rw [hsz]
  exact h
theorem bDy {a:Addr} {l:List (Nat × Tok)} {ep slot i:Nat} {f:Nat→Bool} {Q:Option (Value × Nat)→Shared→Prop} (hX:SetX s.heap a (!w.params.followText "set-order") l ep) (hl:l.map (·.1)=sel f)
    (hb:w.params.followText "set-order" = false→SetTable.below (sel f).toArray slot=i)
    (h:∀ r,(∀ e,(aBe w a ep (ents l).toArray)[i]?=some e→∃ slot',r=some (e.2,slot')∧(w.params.followText "set-order" = false→SetTable.below (sel f).toArray slot'=i+1))→((aBe w a ep (ents l).toArray)[i]?=none→r=none)→Q r s):wpAny (model prog w) A (setNext a slot i ep) Q E s:=by
  obtain ⟨o,ho,hex,hd⟩:=hX
  have hlen:l.length≤5:=by have:=aDc f; rw [← hl,List.length_map] at this; exact this
  have hsz:(ents l).toArray.size=l.length:=by simp [ents]
  have hfit:(tabOf (l.map (·.1)) (!w.params.followText "set-order")).fits (ents l).toArray.size=true:=by rw [hsz,← List.length_map (f:=(·.1)) (as:=l)]; exact aEd (by simpa using hlen)
  unfold setNext setsByText
  refine wpAny_bind (wpAny_setState_of ho hd hfit ?_)
  refine wpAny_bind (wpAny_bind (wpAny_askSetting (wpAny_pure ?_)))
  cases hbt:w.params.followText "set-order" with
  | true =>
    have hbt':(model prog w).w.params.followText "set-order" = true:=hbt
    rw [if_pos hbt',if_neg (by simp)]
    unfold setWalk setsByText
    refine wpAny_bind (wpAny_bind (wpAny_setState_of ho hd hfit (wpAny_bind (wpAny_bind (wpAny_askSetting (wpAny_pure ?_))))))
    rw [if_pos hbt']
    refine wpAny_bind (wpAny_askSetting (wpAny_pure (wpAny_pure ?_)))
    have ew:aBe w a ep (ents l).toArray=pickOrder (w.params.setOrder a ep) (ents l).toArray:=by unfold aBe; rw [if_pos hbt]
    rw [ew] at h
    refine h _ (fun e he=>⟨slot,?_,fun z=>by rw [hbt] at z; cases z⟩) (fun he=>?_)
    · show Option.map _ ((pickOrder (w.params.setOrder a ep) (ents l).toArray)[i]?)=_
      rw [he]; rfl
    · show Option.map _ ((pickOrder (w.params.setOrder a ep) (ents l).toArray)[i]?)=_
      rw [he]; rfl
  | false =>
    have hbt':¬ (model prog w).w.params.followText "set-order" = true:=fun z=>by have z':w.params.followText "set-order" = true:=z; rw [hbt] at z'; cases z'
    rw [if_neg hbt']
    have hdr:(!(tabOf (l.map (·.1)) (!false)).plain && decide ((ents l).toArray.size > 1))=false:=rfl
    refine wpAny_ite_split (fun hab=>absurd (hdr.symm.trans hab) (by decide)) (fun _=>?_)
    refine wpAny_bind (wpAny_of_eq (a:=()) (by rfl) ?_)
    have epl:(tabOf (l.map (·.1)) (!false)).place=(sel f).toArray:=by rw [← hl]; rfl
    have ew:aBe w a ep (ents l).toArray=(ents l).toArray:=by unfold aBe; rw [hbt]; rfl
    dsimp only
    rw [epl,hb hbt]
    rw [ew] at h
    refine wpAny_pure (h _ (fun e he=>?_) (fun he=>?_))
    · have hk:∃ k,(sel f)[i]?=some k:=by
        rw [← hl]
        have:=(Array.getElem?_eq_some_iff.mp he).1
        rw [hsz] at this
        exact ⟨_,List.getElem?_eq_getElem (by rw [List.length_map]; exact this)⟩
      obtain ⟨k,ek⟩:=hk
      refine ⟨k+1,?_,fun _=>aUp f ek⟩
      rw [he,List.getElem?_toArray,ek]
    · rw [he]
theorem bAk {I a:Addr} {l:List (Nat × Tok)} {ep slot i:Nat} {f:Nat→Bool} {Q:Option Value→Shared→Prop} (hX:SetX s.heap a (!w.params.followText "set-order") l ep) (hl:l.map (·.1)=sel f) (hI:SI s.heap I a slot i l.length ep)
    (hb:w.params.followText "set-order" = false→SetTable.below (sel f).toArray slot=i) {e:Int × Value} (he:(aBe w a ep (ents l).toArray)[i]?=some e)
    (h:∀ h' slot',SI h' I a slot' (i+1) l.length ep→(w.params.followText "set-order" = false→SetTable.below (sel f).toArray slot'=i+1)→Heap.SameBut I s.heap h'→Q (some e.2) { s with heap:=h' }):wpAny (model prog w) A (pyNext (.ref I)) Q E s:=by
  obtain ⟨o,ho,hex,hd⟩:=hX
  have hT:s.TypeIs (.ref I) "set_iterator" := ⟨_,hI,rfl⟩
  have hlen:l.length≤5:=by have:=aDc f; rw [← hl,List.length_map] at this; exact this
  have hsz:(ents l).toArray.size=l.length:=by simp [ents]
  have hfit:(tabOf (l.map (·.1)) (!w.params.followText "set-order")).fits (ents l).toArray.size=true:=by rw [hsz,← List.length_map (f:=(·.1)) (as:=l)]; exact aEd (by simpa using hlen)
  unfold pyNext
  refine wpAny_bind (wpAny_attempt (wpAny_callSpecial?_slot (name:=Str.ofString "__next__") hT si_slot_next (wpAny_call_entry si_slot_next hT aEj ?_ (aFt _))))
  unfold Builtin.«set_iterator.__next__»
  refine wpAny_bind (wpAny_of_eq (a:=(Value.ref I,[])) rfl ?_)
  refine wpAny_bind (wpAny_fieldsOf hI rfl ?_)
  show wpAny _ _ (setEntries a >>= _) _ _ _
  unfold setEntries
  refine wpAny_bind (wpAny_bind (wpAny_setState_of ho hd hfit (wpAny_pure ?_)))
  dsimp only
  rw [hsz]
  rw [if_neg (by simp)]
  show wpAny _ _ (setNext a (slot:Int).toNat (i:Int).toNat (ep:Int).toNat >>= _) _ _ _
  rw [Int.toNat_natCast,Int.toNat_natCast,Int.toNat_natCast]
  refine wpAny_bind (bDy ⟨o,ho,hex,hd⟩ hl hb fun r hr _=>?_)
  obtain ⟨slot',rfl,hb'⟩:=hr e he
  show wpAny _ _ (setField (.ref I) 0 (rawInt (slot':Nat)) >>= _) _ _ _
  refine wpAny_bind (wpAny_setField_rec hI (by simp) fun h1 e1 b1=>?_)
  refine wpAny_bind (wpAny_setField_rec e1 (by simp) fun h2 e2 b2=>?_)
  exact wpAny_pure ⟨_,rfl,wpAny_pure (h h2 slot' e2 hb' (b1.trans b2))⟩
theorem bFu {I a:Addr} {l:List (Nat × Tok)} {ep slot i:Nat} {f:Nat→Bool} {Q:Option Value→Shared→Prop} (hh:A.handled=none) (hX:SetX s.heap a (!w.params.followText "set-order") l ep) (hl:l.map (·.1)=sel f) (hI:SI s.heap I a slot i l.length ep)
    (hb:w.params.followText "set-order" = false→SetTable.below (sel f).toArray slot=i) (he:(aBe w a ep (ents l).toArray)[i]?=none)
    (h:∀ h',Heap.ExtBut I s.heap h'→Q none { s with heap:=h' }):wpAny (model prog w) A (pyNext (.ref I)) Q E s:=by
  obtain ⟨o,ho,hex,hd⟩:=hX
  have hT:s.TypeIs (.ref I) "set_iterator" := ⟨_,hI,rfl⟩
  have hlen:l.length≤5:=by have:=aDc f; rw [← hl,List.length_map] at this; exact this
  have hsz:(ents l).toArray.size=l.length:=by simp [ents]
  have hfit:(tabOf (l.map (·.1)) (!w.params.followText "set-order")).fits (ents l).toArray.size=true:=by rw [hsz,← List.length_map (f:=(·.1)) (as:=l)]; exact aEd (by simpa using hlen)
  unfold pyNext
  refine wpAny_bind (wpAny_attempt (wpAny_callSpecial?_slot (name:=Str.ofString "__next__") hT si_slot_next (wpAny_call_entry si_slot_next hT aEj ?_ (aFt _))))
  unfold Builtin.«set_iterator.__next__»
  refine wpAny_bind (wpAny_of_eq (a:=(Value.ref I,[])) rfl ?_)
  refine wpAny_bind (wpAny_fieldsOf hI rfl ?_)
  show wpAny _ _ (setEntries a >>= _) _ _ _
  unfold setEntries
  refine wpAny_bind (wpAny_bind (wpAny_setState_of ho hd hfit (wpAny_pure ?_)))
  dsimp only
  rw [hsz]
  rw [if_neg (by simp)]
  show wpAny _ _ (setNext a (slot:Int).toNat (i:Int).toNat (ep:Int).toNat >>= _) _ _ _
  rw [Int.toNat_natCast,Int.toNat_natCast,Int.toNat_natCast]
  refine wpAny_bind (bDy ⟨o,ho,hex,hd⟩ hl hb fun r _ hr=>?_)
  cases hr he
  show wpAny _ _ (setField (.ref I) 2 .none >>= _) _ _ _
  refine wpAny_bind (wpAny_setField_rec hI (by simp) fun h1 e1 b1=>?_)
  refine wpAny_bind ?_
  simp only [newExc,newTuple]
  refine wpAny_bind (wpAny_newObj_type ?_ (by size_fits))
  refine wpAny_bind (m:=firstArgMember _ _) (wpAny_of_eq (a:=Value.none) (by first | rfl | (simp only [firstArgMember]; rfl)) ?_)
  refine wpAny_newObj_type ?_ (by size_fits)
  unfold raiseNew; dsimp only
  refine wpAny_bind (wpAny_handled ?_)
  first | rw [show A.in1.handled=none from hh] | rw [hh]
  refine wpAny_bind (wpAny_pure (wpAny_throw ?_))
  refine wpAny_bind (wpAny_isInstance (T := "StopIteration") (b:=true) ⟨_,Heap.get?_push_size _ rfl,rfl⟩ isSubtype_stop ?_)
  exact wpAny_pure (h _ ((b1.extBut.push _).push _))
end
end
section
variable {prog:Program} {w:World} {A:Around} {E:Value→Shared→Prop} {s:Shared}
theorem aVo {I a:Addr} {l:List (Nat × Tok)} {ep:Nat} {f:Nat→Bool} (hh:A.handled=none) (hne:a≠I) (hl:l.map (·.1)=sel f) :
    Walks prog w A I [I,a] [I] l.length (fun i v=>∃ e,(aBe w a ep (ents l).toArray)[i]?=some e∧v=e.2)
      (fun i h=>(∃ slot,SI h I a slot i l.length ep∧(w.params.followText "set-order" = false→SetTable.below (sel f).toArray slot=i))∧SetX h a (!w.params.followText "set-order") l ep) where
  sub:=fun b hb=>by simp at hb; simp [hb]
  frame:=fun _ _ _ ⟨⟨slot,st,hb⟩,hX⟩ hk=>⟨⟨slot,hk I (by simp) _ st,hb⟩,hX.at' fun o e=>hk a (by simp) o e⟩
  item:=fun i s Q E hi ⟨⟨slot,st,hb⟩,hX⟩ hQ=>by
    have hz:(aBe w a ep (ents l).toArray).size=l.length:=by
      have:=(aGr (w:=w) (a:=a) (ep:=ep) (es:=(ents l).toArray)).length_eq
      simpa [ents] using this
    have he:=Array.getElem?_eq_getElem (xs:=aBe w a ep (ents l).toArray) (i:=i) (by rw [hz]; exact hi)
    exact bAk hX hl st hb he fun h' slot' st' hb' hs=>hQ _ h' s.toks ⟨_,he,rfl⟩ ⟨⟨slot',st',hb'⟩,hX.at' fun o e=>(hs.2 a hne).trans e⟩ fun b o hb e=>hs.extBut b o (fun h=>hb (by simp [h])) e
  done:=fun s Q E ⟨⟨slot,st,hb⟩,hX⟩ hQ=>by
    have hz:(aBe w a ep (ents l).toArray).size=l.length:=by
      have:=(aGr (w:=w) (a:=a) (ep:=ep) (es:=(ents l).toArray)).length_eq
      simpa [ents] using this
    exact bFu hh hX hl st hb (Array.getElem?_eq_none (by rw [hz]; exact Nat.le_refl _)) fun h' he=>hQ h' s.toks fun b o hb e=>he b o (fun h=>hb (by simp [h])) e
  self:=fun _ s Q E ⟨⟨slot,st,hb⟩,hX⟩ hQ=>by
    have hT:s.TypeIs (.ref I) "set_iterator" := ⟨_,st,rfl⟩
    refine wpAny_pyIter_slot hT aFs (wpAny_call_entry aFs hT aKg ?_ (aMf _))
    show wpAny _ _ (ret (.ref I)) _ _ s
    exact wpAny_pure ⟨_,rfl, "set_iterator",_,hT,si_slot_next.lookup,hQ⟩
theorem bAo {r:Addr} {Q:Bool→Shared→Prop} (hT:s.TypeIs (.ref r) "set") (h:Q false s):wpAny (model prog w) A (Builtin.List.listLengthHint (.ref r)) Q E s:=by
  unfold Builtin.List.listLengthHint
  refine wpAny_bind (wpAny_specialOf hT F.slot_set_len.lookup ?_)
  generalize hid:("set.__len__" : String)=id0
  wp_delta
  rw [show splitId id0=some ("set", "__len__") from by subst hid; decide +kernel]
  subst hid
  refine wpAny_bind (wpAny_isInstance (T := "set") (b:=true) hT (by rw [isSubtype_type]; kernel_rfl) ?_)
  refine wpAny_ite_split (fun hab=>absurd hab (by decide)) (fun _=>?_)
  refine wpAny_ite_split (fun _=>?_) (fun hab=>absurd (by decide +kernel) hab)
  refine wpAny_bind (wpAny_typeOf hT ?_)
  exact wpAny_pure h
theorem SetX.lt {h:Heap} {a:Addr} {led:Bool} {l:List (Nat × Tok)} {ep:Nat} (x:SetX h a led l ep):a < h.objs.size:=let ⟨_,e,_⟩:=x; Heap.lt_size e
theorem bFt {a:Addr} {l:List (Nat × Tok)} {ep:Nat} {f:Nat→Bool} (hl:l.map (·.1)=sel f):KdlSrc prog w "set" a a l.length (fun i v=>∃ e,(aBe w a ep (ents l).toArray)[i]?=some e∧v=e.2) (fun h=>SetX h a (!w.params.followText "set-order") l ep) where
  type:=fun _ ⟨o,e,c,_⟩=>⟨o,e,c.1⟩
  there:=fun _ hm=>⟨hm.lt,hm.lt⟩
  keep:=fun _ _ hm hk=>hm.at' fun o e=>hk a (.inl rfl) o e
  notList:=by decide
  notTuple:=by decide
  hint:=fun _ _ _ _ ⟨o,e,c,_⟩ hq=>bAo ⟨o,e,c.1⟩ hq
  iter:=fun _ _ hh hm=>⟨_,_,(fun _ _ hq=>bAn hm hl hq),aVo hh (Nat.ne_of_lt hm.lt) hl,⟨⟨0,Heap.get?_push_size _ rfl,fun _=>aUo f⟩,hm.at' fun o e=>Heap.get?_push_of_some _ e⟩⟩
theorem bGq {es:List (Int × Value)}:(∀ e∈es,∃ t,e.2=Value.int e.1 t)→IntsAre (es.map (·.2)) (es.map (·.1)):=by
  induction es with
  | nil=>exact fun _=>.nil
  | cons p es ih =>
    intro h
    obtain ⟨k,v⟩:=p
    obtain ⟨t,e⟩:=h _ (.head _)
    dsimp only at e
    subst e
    exact .cons k t (ih fun e m=>h e (.tail _ m))
theorem aSq {a:Addr} {l:List (Nat × Tok)} {ep:Nat} {f:Nat→Bool} {Q:Value→Shared→Prop} (hh:A.handled=none) (hX:SetX s.heap a (!w.params.followText "set-order") l ep) (hl:l.map (·.1)=sel f)
    (h:∀ (D:Addr) (out:List Value) (ns:List Int) h' tk c,s.heap.get? D=none→IntsAre out ns→ns.Perm ((sel f).map fun k=>((k:Nat):Int))→ns.Pairwise (·≤·)→h'.get? D=some (seqObj "list" out.toArray c)→(∀ b o,s.heap.get? b=some o→h'.get? b=some o)→Q (.ref D) { s with heap:=h',toks:=tk }) :
    wpAny (model prog w) A (call (.builtin "sorted") [.ref a]) Q E s:=by
  have hlen:l.length≤5:=by have:=aDc f; rw [← hl,List.length_map] at this; exact this
  refine call_function_entry kind_sorted plain_sorted entry_sorted (args_sorted1 _) ?_
  unfold Builtin.«sorted»
  refine wpAny_bind (m:=checkCount "sorted" 1 1 _) (wpAny_pure ?_)
  refine wpAny_bind (kdu_collect (A:=A.in1) (bFt (ep:=ep) hl) hh hX (by rw [sizeLine_eq]; exact om75 hlen) fun h1 tk acc k1 hacc=>?_)
  have hw:=aGr (w:=w) (a:=a) (ep:=ep) (es:=(ents l).toArray)
  have hv:acc.toList=(aBe w a ep (ents l).toArray).toList.map (·.2):=by
    apply List.ext_getElem?
    intro i
    rw [List.getElem?_map,Array.getElem?_toList,Array.getElem?_toList]
    cases q:acc[i]? with
    | none =>
      have hi:acc.size≤i:=by simpa using q
      rw [hacc.1] at hi
      have hz:=hw.length_eq
      rw [Array.length_toList,Array.length_toList,show (ents l).toArray.size=l.length by simp [ents]] at hz
      rw [Array.getElem?_eq_none (om86 hi hz)]; rfl
    | some v =>
      obtain ⟨e,e1,e2⟩:=hacc.2 i v q
      rw [e1,e2]; rfl
  have hI:IntsAre acc.toList ((aBe w a ep (ents l).toArray).toList.map (·.1)):=by
    rw [hv]
    refine bGq fun e m=>?_
    have m':e∈ents l:=by simpa using hw.mem_iff.mp m
    refine aCm m' fun p _=>?_
    exact ⟨_,rfl⟩
  have hp:((aBe w a ep (ents l).toArray).toList.map (·.1)).Perm ((sel f).map fun k=>((k:Nat):Int)):=by
    refine (hw.map _).trans (List.Perm.of_eq ?_)
    rw [← hl]
    simp [ents,List.map_map,Function.comp_def]
  have hlen2:acc.toList.length=l.length:=by rw [Array.length_toList]; exact hacc.1
  refine wpAny_bind (wpAny_newList ?_ (by rw [hlen2,sizeLine_eq]; exact om75 hlen))
  have k2:∀ b o,h1.get? b=some o→(h1.push { cls:=.type "list",data:=.seq acc.toList.toArray }).get? b=some o:=fun b o e=>Heap.get?_push_of_some _ e
  have hD:(h1.push { cls:=.type "list",data:=.seq acc.toList.toArray }).get? h1.objs.size=some (seqObj "list" acc.toList.toArray 0):=Heap.get?_push_size _ rfl
  have nD:s.heap.get? h1.objs.size=none:=by
    cases q:s.heap.get? h1.objs.size with
    | none=>rfl
    | some o=>exact absurd (Heap.lt_size (k1 _ _ q)) (Nat.lt_irrefl _)
  refine wpAny_bind (wpAny_holding (wpAny_call_entry (s:={ s with heap:=h1.push { cls:=.type "list",data:=.seq acc.toList.toArray },toks:=tk }) slot_list_sort ⟨_,hD,rfl⟩ entry_list_sort
    (list_sort_tree hD hI (om85 hlen hlen2) fun out ns' h2 h3 h4=>⟨_,rfl,wpAny_pure ⟨_,rfl,?_⟩⟩) (args_list_sort _)))
  have ho1:∃ e1,((((h1.push { cls:=.type "list",data:=.seq acc.toList.toArray }).update h1.objs.size (Obj.mapSeq fun _=>#[])).push (seqObj "tuple" acc.toList.toArray 0)).push (seqObj "list" #[] 0)).get? h1.objs.size=some (seqObj "list" #[] e1) :=
    ⟨_,Heap.get?_push_of_some _ (Heap.get?_push_of_some _ (get?_update_seq hD fun _=>#[]))⟩
  obtain ⟨e1,ho1⟩:=ho1
  refine h h1.objs.size out.toList ns' _ tk _ nD h2 (h3.trans hp) h4 (by rw [Array.toArray_toList]; exact get?_update_seq ho1 fun _=>out) fun b o e=>?_
  have hb:b≠h1.objs.size:=fun z=>by rw [z,nD] at e; cases e
  exact (Heap.get?_update_ne _ _ _ _ hb).trans (Heap.get?_push_of_some _ (Heap.get?_push_of_some _ ((Heap.get?_update_ne _ _ _ _ hb).trans (k2 b o (k1 b o e)))))
theorem srcL {a:Addr} {vs:List Value}:SetSrc prog w "list" a vs.length (fun i v=>vs[i]?=some v) (fun h=>h.IsList a vs.toArray) where
  type:=fun _ hm=>hm.typeIs
  there:=fun _ ⟨_,e,_⟩=>Heap.lt_size e
  keep:=fun _ _ ⟨o,e,r⟩ k=>⟨o,k o e,r⟩
  notSet:=by rw [isSubtype_type]; kernel_rfl
  notFrozen:=by rw [isSubtype_type]; kernel_rfl
  notDict:=by decide
  iter:=fun A s hh hm=>by
    have W:=Walks.list (prog:=prog) (w:=w) hh s.heap.objs.size a (let ⟨_,e,_⟩:=hm; Nat.ne_of_lt (Heap.lt_size e)) vs.toArray
    rw [List.size_toArray] at W
    simp only [List.getElem?_toArray] at W
    exact ⟨_,_,(fun _ _ hq=>wpAny_pyIter_list hm hq),W,⟨⟨_,Heap.get?_push_size _ rfl,rfl,rfl⟩,let ⟨o,e,r⟩:=hm; ⟨o,Heap.get?_push_of_some _ e,r⟩⟩⟩
theorem srcT {a:Addr} {vs:List Value}:SetSrc prog w "tuple" a vs.length (fun i v=>vs[i]?=some v) (fun h=>h.IsTuple a vs.toArray) where
  type:=fun _ hm=>hm.typeIs
  there:=fun _ ⟨_,e,_⟩=>Heap.lt_size e
  keep:=fun _ _ ⟨o,e,r⟩ k=>⟨o,k o e,r⟩
  notSet:=by rw [isSubtype_type]; kernel_rfl
  notFrozen:=by rw [isSubtype_type]; kernel_rfl
  notDict:=by decide
  iter:=fun A s hh hm=>by
    have W:=Walks.tuple (prog:=prog) (w:=w) hh s.heap.objs.size a (let ⟨_,e,_⟩:=hm; Nat.ne_of_lt (Heap.lt_size e)) vs.toArray
    rw [List.size_toArray] at W
    simp only [List.getElem?_toArray] at W
    exact ⟨_,_,(fun _ _ hq=>wpAny_pyIter_tuple hm hq),W,⟨⟨_,Heap.get?_push_size _ rfl,rfl,rfl⟩,let ⟨o,e,r⟩:=hm; ⟨o,Heap.get?_push_of_some _ e,r⟩⟩⟩
end
section
noncomputable abbrev LS:=List (Option AV)
noncomputable def lget:LS→Nat→Option AV
  | [],_=>none
  | a :: _,0=>a
  | _ :: l,i+1=>lget l i
noncomputable def lset:LS→Nat→AV→LS
  | [],0,v=>[some v]
  | [],i+1,v=>none :: lset [] i v
  | _ :: l,0,v=>some v :: l
  | a :: l,i+1,v=>a :: lset l i v
noncomputable def VarQ (o:Option AV) (H:AHeap) (Q:AV→AHeap→Prop):Prop:=match o with
  | some v=>Q v H
  | none=>False
noncomputable def onI (a b:AV) (f:Int→Int→Prop) (d:Prop):Prop:=match a with
  | .int i=>(match b with | .int j=>f i j | _=>d)
  | _=>d
noncomputable def onS (a b:AV) (f:Str→Str→Prop) (d:Prop):Prop:=match a with
  | .str i=>(match b with | .str j=>f i j | _=>d)
  | _=>d
noncomputable def onN (b:AV) (p d:Prop):Prop:=match b with
  | .val .none=>p
  | _=>d
noncomputable def onB (a b:AV) (f:Bool→Bool→Prop) (d:Prop):Prop:=match a with
  | .val (.bool i)=>(match b with | .val (.bool j)=>f i j | _=>d)
  | _=>d
theorem tbt {b:Bool} {A B:Prop} (h:cond b A B) (hb:b=true):A:=by cases hb; exact h
theorem tbf {b:Bool} {A B:Prop} (h:cond b A B) (hb:b=false):B:=by cases hb; exact h
theorem tb {b:Bool} {A B:Prop} (h1:b=true→A) (h2:b=false→B):cond b A B:=by
  cases b with
  | true=>exact h1 rfl
  | false=>exact h2 rfl
section
variable (G:Cx) (n:Nat)
noncomputable def BinQ (op:Operator) (a b:AV) (H:AHeap) (Q:AV→AHeap→Prop):Prop:=match op with
  | .Add=>onI a b (fun i j=>Q (.int (i+j)) H) (Bin G n (binaryOp .Add) a b H Q)
  | .Sub=>onI a b (fun i j=>Q (.int (i - j)) H) (Bin G n (binaryOp .Sub) a b H Q)
  | op=>Bin G n (binaryOp op) a b H Q
noncomputable def CmpQ (op:CmpOp) (a b:AV) (H:AHeap) (Q:AV→AHeap→Prop):Prop:=match op with
  | .Lt=>onI a b (fun i j=>Q (.val (.bool (decide (i < j)))) H) (Bin G n (compareOp .Lt) a b H Q)
  | .LtE=>onI a b (fun i j=>Q (.val (.bool (decide (i≤j)))) H) (Bin G n (compareOp .LtE) a b H Q)
  | .Gt=>onI a b (fun i j=>Q (.val (.bool (decide (j < i)))) H) (Bin G n (compareOp .Gt) a b H Q)
  | .GtE=>onI a b (fun i j=>Q (.val (.bool (decide (j≤i)))) H) (Bin G n (compareOp .GtE) a b H Q)
  | .Eq=>onI a b (fun i j=>Q (.val (.bool (decide (i=j)))) H) (onS a b (fun i j=>Q (.val (.bool (i == j))) H) (Bin G n (compareOp .Eq) a b H Q))
  | .NotEq=>onI a b (fun i j=>Q (.val (.bool (decide (i≠j)))) H) (Bin G n (compareOp .NotEq) a b H Q)
  | .Is=>onN b (Q (.val (.bool a.isNone)) H) (onB a b (fun i j=>Q (.val (.bool (decide (i=j)))) H) (Bin G n (compareOp .Is) a b H Q))
  | .IsNot=>onB a b (fun i j=>Q (.val (.bool (decide (i≠j)))) H) (Bin G n (compareOp .IsNot) a b H Q)
  | op=>Bin G n (compareOp op) a b H Q
noncomputable def TruQ (a:AV) (H:AHeap) (Q:Bool→AHeap→Prop):Prop:=match a with
  | .val (.bool b)=>Q b H
  | .val .none=>Q false H
  | a=>Tru G n a H Q
noncomputable def aFf (e:Expr):Bool:=e.ctorIdx != 26
noncomputable def GetI (o i:AV) (H:AHeap) (Q:AV→AHeap→Prop):Prop:=∀ value slice,aFf slice=true→Bin G n (subscriptTail value slice) o i H Q
noncomputable def UptoQ (o i:AV) (H:AHeap) (Q:AV→AHeap→Prop):Prop:=∃ l k,(IsL H o l∨BaseL G o l)∧i=.int (k:Nat)∧l.length≤1000000∧∀ D,H D=none→Q (.val (.ref D)) (H.set D (.list (l.take k)))
noncomputable def FromQ (o i:AV) (H:AHeap) (Q:AV→AHeap→Prop):Prop:=∃ l k,IsL H o l∧i=.int (k:Nat)∧l.length≤1000000∧∀ D,H D=none→Q (.val (.ref D)) (H.set D (.list (l.drop k)))
@[irreducible] noncomputable def MethQ (name:Str) (ov:AV) (H:AHeap) (K:Value→Prop):Prop:=∃ f,Meth G H ov name f∧aDw G f∧K f
noncomputable def FrzQ (a:AV) (H:AHeap) (Q:AV→AHeap→Prop):Prop:=∃ D l,a=.val (.ref D)∧H D=some (.list l)∧Q (.lst l) (H.set D (.frz l))
@[irreducible] noncomputable def SsetQ (v:AV) (H:AHeap) (Q:AV→AHeap→Prop):Prop:=∃ ns:List Int,(IsL H v (ns.map .int)∨v=.tup (ns.map .int))∧(∀ k∈ns,0≤k∧k≤4)∧ns.length≤200 ∧
  ∀ (D:Addr) (ns':List Int),H D=none→ns'.Pairwise (· < ·)→(∀ k,k∈ns'↔k∈ns)→Q (.val (.ref D)) (H.set D (.list (ns'.map .int)))
noncomputable def IterQ (Q:List AV→(AHeap→Prop)→AHeap→Prop) (vals:List AV) (src:AHeap→Prop) (H:AHeap):Prop:=∃ us,SrcQ H src us∧Q vals us H
noncomputable def IterU (v:AV) (H:AHeap) (Q:List AV→(AHeap→Prop)→AHeap→Prop):Prop:=IterV G n v H (IterQ Q)
noncomputable def IterC (f:Value) (l:List AV) (H:AHeap) (Q:List AV→(AHeap→Prop)→AHeap→Prop):Prop :=
  ∀ A s E vs,AOk A n→Inv G H s.heap→VRs H s.heap l vs→wpAny (MD G) A (call f vs) (fun u s1=>wpAny (MD G) A (pyIter u) (PI G n H s (IterQ Q)) E s1) E s
noncomputable def SeqQ (nxt:LS→AHeap→Prop) (Q:AFl→LS→AHeap→Prop) (f:AFl) (L:LS) (H:AHeap):Prop:=match f with
  | .next=>nxt L H
  | f=>Q f L H
noncomputable def FlQ (nxt:LS→AHeap→Prop) (Q:AFl→LS→AHeap→Prop) (f:AFl) (L:LS) (H:AHeap):Prop:=match f with
  | .next | .cont=>nxt L H
  | .brk=>Q .next L H
  | .ret r=>Q (.ret r) L H
noncomputable def FV (tg:AV→LS→AHeap→(LS→AHeap→Prop)→Prop) (body:LS→AHeap→(AFl→LS→AHeap→Prop)→Prop) (us:AHeap→Prop) (Q:AFl→LS→AHeap→Prop) (vals:List AV) (L:LS) (H:AHeap):Prop :=
  ∃ J:Nat→LS→AHeap→Prop,J 0 L H∧(∀ i v L H,vals[i]?=some v→J i L H→us H∧tg v L H fun L1 H1=>body L1 H1 (FlQ (J (i+1)) Q))∧∀ L H,J vals.length L H→us H∧Q .next L H
noncomputable def CVq (tg:AV→LS→AHeap→(LS→AHeap→Prop)→Prop) (f:LS→AHeap→(Bool→AHeap→Prop)→Prop) (el:LS→AHeap→(AV→AHeap→Prop)→Prop) (us:AHeap→Prop) (K:List AV→LS→AHeap→Prop) (vals acc:List AV) (L:LS) (H:AHeap):Prop :=
  ∃ J:Nat→List AV→LS→AHeap→Prop,J 0 acc L H∧(∀ i v acc L H,vals[i]?=some v→J i acc L H→us H∧tg v L H fun L1 H1=>f L1 H1 fun b H2=>cond b (acc.length < 1000000∧el L1 H2 fun y H3=>J (i+1) (acc ++ [y]) L1 H3) (J (i+1) acc L1 H2)) ∧
    ∀ acc L H,J vals.length acc L H→us H∧K acc L H
noncomputable def CVq2 (tg:AV→LS→AHeap→(LS→AHeap→Prop)→Prop) (it1:LS→AHeap→(List AV→(AHeap→Prop)→AHeap→Prop)→Prop) (tg1:AV→LS→AHeap→(LS→AHeap→Prop)→Prop) (el:LS→AHeap→(AV→AHeap→Prop)→Prop) (us:AHeap→Prop) (K:List AV→LS→AHeap→Prop) (vals acc:List AV) (L:LS) (H:AHeap):Prop :=
  ∃ J:Nat→List AV→LS→AHeap→Prop,J 0 acc L H∧(∀ i v acc L H,vals[i]?=some v→J i acc L H→us H∧tg v L H fun L1 H1=>it1 L1 H1 fun vals us1 H2=>CVq tg1 (fun _ H Q=>Q true H) el us1 (fun acc' L3 H3=>J (i+1) acc' L3 H3) vals acc L1 H2) ∧
    ∀ acc L H,J vals.length acc L H→us H∧K acc L H
noncomputable def WhQ (t:LS→AHeap→(Bool→AHeap→Prop)→Prop) (body:LS→AHeap→(AFl→LS→AHeap→Prop)→Prop) (L:LS) (H:AHeap) (Q:AFl→LS→AHeap→Prop):Prop :=
  ∃ (J:Nat→LS→AHeap→Prop) (k0:Nat),J k0 L H∧∀ k L H,J k L H→t L H fun b H1=>cond b (body L H1 (FlQ (fun L2 H2=>∃ m,m < k∧J m L2 H2) Q)) (Q .next L H1)
noncomputable def inner (m:List (Option Nat)) (L:LS):LS:=m.map fun o=>o.bind (lget L)
noncomputable def compK (Q:AV→AHeap→Prop) (acc:List AV) (_:LS) (H:AHeap):Prop:=∀ D,H D=none→Q (.val (.ref D)) (H.set D (.list acc))
noncomputable def aQv:List Nat→List AV→LS→LS
  | i :: is,v :: vs,L=>aQv is vs (lset L i v)
  | _,_,L=>L
noncomputable def SwapQ (is:List Nat) (v:AV) (L:LS) (H:AHeap) (Q:LS→AHeap→Prop):Prop:=match v with
  | .tup l=>l.length=is.length∧Q (aQv is.reverse l.reverse L) H
  | _=>False
end
end
structure KI where
  nm:List (Str × NameKind)
  raw:List (Str × NameKind)
noncomputable def KI.kd (K:KI) (x:Str):Option NameKind:=K.nm.lookup x
noncomputable def KI.own (K:KI) (x:Str):Bool:=K.raw.lookup x == some .cell
structure EnvOk (env:Env) (K:KI):Prop where
  kind:env.scope.kind=.function
  kd:∀ x,env.kindOf x=K.kd x
  cl:∀ x,K.kd x=some .cell→∃ c,env.cells.lookup x=some c∧(K.own x=true→env.locals < c)
noncomputable def locOf:List Str→LS→Loc
  | s :: S,a :: L,x=>if x=s then a else locOf S L x
  | _,_,_=>none
theorem aMs {S:List Str} {x:Str}:locOf S [] x=none:=by cases S <;> rfl
theorem aJh {S:List Str} {s x:Str}:locOf (s :: S) [] x=if x=s then none else locOf S [] x:=by rw [aMs,aMs,ite_self]
theorem aHc {S:List Str} {L:LS} {i:Nat} {x:Str} (hn:S.Nodup) (h:S[i]?=some x):locOf S L x=lget L i:=by
  induction S generalizing L i with
  | nil=>nomatch h
  | cons s S ih =>
    cases L with
    | nil=>rfl
    | cons a L =>
      cases i with
      | zero=>exact if_pos (Option.some.inj h).symm
      | succ i=>exact (if_neg fun (e:x=s)=>(List.nodup_cons.mp hn).1 (e ▸ List.mem_of_getElem? h)).trans (ih (List.nodup_cons.mp hn).2 h)
theorem aRo {α:Type} {y s:Str} {p a q:α}:(if y=s then p else if y=s then a else q)=if y=s then p else q:=by
  by_cases e:y=s
  · rw [if_pos e,if_pos e]
  · rw [if_neg e,if_neg e,if_neg e]
theorem aRn {α:Type} {y x s:Str} {p a q:α} (hx:x≠s):(if y=x then p else if y=s then a else q)=if y=s then a else if y=x then p else q:=by
  by_cases e:y=s
  · rw [if_pos e,if_neg fun z=>hx (z.symm.trans e),if_pos e]
  · rw [if_neg e,if_neg e]
theorem aEq {S:List Str} {L:LS} {i:Nat} {x:Str} {v:AV} (hn:S.Nodup) (h:S[i]?=some x):(locOf S L).set x v=locOf S (lset L i v):=by
  induction S generalizing L i with
  | nil=>nomatch h
  | cons s S ih =>
    funext y
    cases i with
    | zero =>
      cases Option.some.inj h
      cases L with
      | nil=>exact (congrArg (fun z=>if y=x then some v else z) aJh).trans (aRo)
      | cons a L=>exact aRo
    | succ i =>
      have hx:x≠s:=fun e=>(List.nodup_cons.mp hn).1 (e ▸ List.mem_of_getElem? h)
      have ih:=fun L=>congrFun (ih (L:=L) (i:=i) (List.nodup_cons.mp hn).2 h) y
      cases L with
      | nil=>exact (congrArg (fun z=>if y=x then some v else z) aJh).trans ((aRn hx).trans (congrArg (fun z=>if y=s then none else z) (ih [])))
      | cons a L=>exact (aRn hx).trans (congrArg (fun z=>if y=s then a else z) (ih L))
noncomputable def LocLe (L L':Loc):Prop:=∀ x av,L x=some av→L' x=some av
theorem FrI.weak {G:Cx} {env:Env} {L L':Loc} {H:AHeap} {h:Heap} (F:FrI G env L' H h) (k:LocLe L L'):FrI G env L H h where
  kind:=F.kind
  glob:=F.glob
  bts:=F.bts
  ns:=let ⟨m,h1,h2⟩:=F.ns; ⟨m,h1,fun x av q e=>h2 x av q (k x av e)⟩
  offL:=F.offL
  newL:=F.newL
  cell:=fun x c e=>let ⟨⟨ov,h1,h2⟩,h3⟩:=F.cell x c e; ⟨⟨ov,h1,fun av q=>h2 av (k x av q)⟩,h3⟩
  apart:=F.apart
  cnew:=F.cnew
  lno:=F.lno
noncomputable def bKg (e:Expr):Bool:=if h:e.ctorIdx=16 then Expr.Call.elim e h fun f es ks _=>!(es.isEmpty && ks.isEmpty) || (if h:f.ctorIdx=23 then Expr.Name.elim f h fun x _=>x != "super" else true) else true
noncomputable def okE (e:Expr):Bool:=e.ctorIdx != 7 && (e.ctorIdx != 22 && (e.ctorIdx != 26 && bKg e))
theorem or4 {a b c d:Bool} (h:a=true):(a || b || c || d)=true:=by cases h; rfl
theorem aKo {e:Expr} {es:List Expr} {env:Env} (h:okE e=true):starEach (e :: es) env=(false,eval e env) :: starEach es env:=by
  cases e <;> first | rfl | cases h
theorem aGy {e:Expr} {op:CmpOp} (h:okE e=true):behindInMarks op e=false:=by
  cases e <;> first | rfl | cases h
theorem aCr {e:Expr} {env:Env} {x:Value} (h:okE e=true):foldedSetIterable e env x=pure x:=by
  cases e <;> first | rfl | cases h
theorem aWc {e:Expr} (h:okE e=true):aFf e=true:=by
  cases e <;> first | rfl | cases h
theorem aRb {e:Expr} {env:Env} {name:Str} (h:okE e=true):attributeBase e name env (eval e env)=eval e env:=by
  cases e with
  | Call f as ks pos =>
    cases f with
    | Name id p =>
      cases as with
      | nil =>
        cases ks with
        | nil=>exact if_pos (or4 h)
        | cons _ _=>rfl
      | cons _ _=>rfl
    | _=>rfl
  | _=>rfl
noncomputable def aBx (K:KI) (sc:Scope):KI:=⟨sc.names.map fun (n,k)=>if (k == .free && K.kd n == some .cell) then (n,.cell) else (n,k),sc.names⟩
noncomputable def scOk (K:KI) (sc:Scope):Bool:=sc.kind == .function && (aFx (sc.names.map (·.1)) && sc.names.all fun p=>p.2 != .free || K.kd p.1 == some .cell)
theorem aDv {x:Str} {names:List (Str × NameKind)} {n:Nat} {acc:List (Str × Addr)} (h:∀ k,(x,k)∈names→k≠.cell):(cellsFrom n names acc).lookup x=acc.lookup x:=by
  induction names generalizing n acc with
  | nil=>rfl
  | cons p r ih =>
    obtain ⟨y,k⟩:=p
    have hr:∀ k,(x,k)∈r→k≠.cell:=fun k m=>h k (.tail _ m)
    show (if (k == NameKind.cell)=true then cellsFrom (n+1) r ((y,n) :: acc) else cellsFrom n r acc).lookup x=acc.lookup x
    by_cases hk:(k == NameKind.cell)=true
    · rw [if_pos hk,ih hr,List.lookup_cons,beq_false_of_ne fun e=>h k (List.mem_cons.mpr (.inl (congrArg (·,k) e))) (eq_of_beq hk)]
    · rw [if_neg hk]; exact ih hr
theorem aEz {x:Str} {names:List (Str × NameKind)} {n:Nat} {acc:List (Str × Addr)} (hn:(names.map (·.1)).Nodup) (h:names.lookup x=some .cell):∃ c,(cellsFrom n names acc).lookup x=some c∧n≤c:=by
  induction names generalizing n acc with
  | nil=>nomatch h
  | cons p r ih =>
    obtain ⟨y,k⟩:=p
    have hn:=List.nodup_cons.mp hn
    show ∃ c,(if (k == NameKind.cell)=true then cellsFrom (n+1) r ((y,n) :: acc) else cellsFrom n r acc).lookup x=some c∧n≤c
    by_cases e:x=y
    · cases e
      rw [List.lookup_cons_self] at h
      cases h
      rw [if_pos (beq_self_eq_true _),aDv (fun k m=>absurd (List.mem_map.mpr ⟨_,m,rfl⟩) hn.1)]
      exact ⟨n,List.lookup_cons_self,Nat.le_refl _⟩
    · rw [List.lookup_cons,beq_false_of_ne e] at h
      by_cases q:(k == NameKind.cell)=true
      · rw [if_pos q]
        obtain ⟨c,h1,h2⟩:=ih (n:=n+1) (acc:=(y,n) :: acc) hn.2 h
        exact ⟨c,h1,om87 h2⟩
      · rw [if_neg q]; exact ih hn.2 h
theorem bHh (env:Env):∀ (names:List (Str × NameKind)) (acc:List (Str × Addr)),(∀ p∈names,p.2=.free→∃ c,env.cells.lookup p.1=some c) →
    (forIn names acc fun x cs=>if x.2 == NameKind.free then do let c ← cellOf env x.1; pure (ForInStep.yield ((x.1,c) :: cs)) else pure (ForInStep.yield cs):Sem (List (Str × Addr))) =
      pure (names.foldl (fun cs x=>if x.2 == NameKind.free then (match env.cells.lookup x.1 with | some c=>(x.1,c) :: cs | none=>cs) else cs) acc):=by
  intro v
  induction v with
  | nil =>
    exact fun acc _=>rfl
  | cons p r ih =>
    intro acc h
    have ih:=fun acc=>ih acc fun q m=>h q (.tail _ m)
    rw [List.forIn_cons,List.foldl_cons]
    by_cases hk:p.2=.free
    · obtain ⟨c,hc⟩:=h p (.head _) hk
      have hk':(p.2 == NameKind.free)=true:=by simp [hk]
      simp only [hk',if_true]
      unfold cellOf
      rw [hc]
      exact ih _
    · have hk':(p.2 == NameKind.free)=false:=by simp [hk]
      simp only [hk',Bool.false_eq_true,if_false]
      exact ih _
theorem aYj {env:Env} {x:Str} {c:Addr} (hc:env.cells.lookup x=some c):∀ (names:List (Str × NameKind)) (acc:List (Str × Addr)),((x,NameKind.free)∈names∨acc.lookup x=some c) →
    (names.foldl (fun cs x=>if x.2 == NameKind.free then (match env.cells.lookup x.1 with | some c=>(x.1,c) :: cs | none=>cs) else cs) acc).lookup x=some c:=by
  intro v
  induction v with
  | nil =>
    exact fun acc h=>h.elim (fun m=>nomatch m) id
  | cons p r ih =>
    intro acc h
    rw [List.foldl_cons]
    refine ih _ ?_
    rcases h with h | h
    · rcases List.mem_cons.mp h with e | h
      · right
        rw [← e]
        simp [hc]
      · exact .inl h
    · right
      split
      · split
        · rename_i d hd
          rw [List.lookup_cons]
          split
          · rename_i hx
            have:x=p.1:=by simpa using hx
            rw [this] at hc; rw [hc] at hd; exact hd ▸ rfl
          · exact h
        · exact h
      · exact h
theorem bKi {K:KI} {names:List (Str × NameKind)} {x:Str}:(names.map fun (n,k)=>if (k == .free && K.kd n == some .cell) then (n,NameKind.cell) else (n,k)).lookup x=some .cell →
    names.lookup x=some .cell∨(names.lookup x=some .free∧K.kd x=some .cell):=by
  induction names with
  | nil=>intro h; simp at h
  | cons p r ih =>
    obtain ⟨y,k⟩:=p
    intro h
    rw [List.map_cons] at h
    by_cases e:x=y
    · subst e
      dsimp only at h
      split at h
      · rename_i hk
        simp only [Bool.and_eq_true,beq_iff_eq] at hk
        exact .inr ⟨by simp [hk.1],hk.2⟩
      · simp at h
        exact .inl (by simp [h])
    · have hb:(x == y)=false:=beq_eq_false_iff_ne.mpr e
      rw [List.lookup_cons (k:=y),hb]
      dsimp only at h
      split at h <;> (simp only [List.lookup_cons,hb] at h; exact ih h)
theorem aCp {env:Env} {K:KI} {sc:Scope} (E:EnvOk env K) (h:scOk K sc=true):CScope env sc (aDu sc env)∧∀ C,EnvOk (cE sc (aDu sc env) C env) (aBx K sc):=by
  simp only [scOk,Bool.and_eq_true,beq_iff_eq,List.all_eq_true,Bool.or_eq_true,bne_iff_ne] at h
  obtain ⟨h1,h2,h3⟩:=h
  have hn:=aCj h2
  have hf:∀ p∈sc.names,p.2=.free→∃ c,env.cells.lookup p.1=some c:=fun p m e=>by
    obtain ⟨c,hc,_⟩:=E.cl p.1 ((h3 p m).resolve_left (fun z=>z e))
    exact ⟨c,hc⟩
  have hcl:closureFor sc env=pure (aDu sc env):=by
    have e:closureFor sc env=(forIn sc.names [] (fun x cs=>if x.2 == NameKind.free then do let c ← cellOf env x.1; pure (ForInStep.yield ((x.1,c) :: cs)) else pure (ForInStep.yield cs)):Sem (List (Str × Addr))) >>= pure:=by
      unfold closureFor
      rfl
    rw [bind_pure] at e
    rw [e,bHh env sc.names [] hf]
    rfl
  have hm:(relabel sc env).names=(aBx K sc).nm:=by
    unfold relabel aBx
    dsimp only
    rw [E.kind]
    apply List.map_congr_left
    intro p _
    rw [E.kd]
    simp
  refine ⟨⟨h1,hn,hcl⟩,fun C=>⟨?_,fun x=>?_,fun x hx=>?_⟩⟩
  · show (relabel sc env).kind=_
    exact h1
  · show (relabel sc env).names.lookup x=_
    rw [hm]; rfl
  · show ∃ c,(cellsFrom (C+1) sc.names (aDu sc env)).lookup x=some c∧(_→C < c)
    rcases bKi hx with q | ⟨q1,q2⟩
    · obtain ⟨c,h1,h2⟩:=aEz (n:=C+1) (acc:=aDu sc env) hn q
      exact ⟨c,h1,fun _=>h2⟩
    · obtain ⟨c,hc,_⟩:=E.cl x q2
      have hm2:(x,NameKind.free)∈sc.names:=mem_of_lookup q1
      refine ⟨c,?_,fun ho=>?_⟩
      · rw [aDv (fun k m=>?_)]
        · exact aYj hc _ _ (.inl hm2)
        · have:=aBm hn m
          rw [q1] at this
          cases this
          simp
      · have:(aBx K sc).own x=false:=by
          show (sc.names.lookup x == some .cell)=false
          rw [q1]; rfl
        rw [this] at ho; cases ho
theorem bBz {fd:FuncData} {f C:Addr} (hk:fd.scope.kind=.function) (hn:aFx (fd.scope.names.map (·.1))=true):EnvOk (fEnv fd f C) ⟨fd.scope.names,fd.scope.names⟩ where
  kind:=hk
  kd:=fun x=>rfl
  cl:=fun x hx=>by
    obtain ⟨c,h1,h2⟩:=aEz (n:=C+1) (acc:=[]) (aCj hn) (show fd.scope.names.lookup x=some .cell from hx)
    exact ⟨c,h1,fun _=>h2⟩
section
theorem FrzLe.refl (H:AHeap):FrzLe H H:=fun _ _ _ h=>h
theorem FrzLe.trans {H H' H'':AHeap} (x:FrzLe H H') (y:FrzLe H' H''):FrzLe H H'':=fun b l f h=>y b l f (x b l f h)
section
variable {G:Cx} {n:Nat} {env:Env} {H:AHeap} {L:Loc}
theorem WT.frz {e:Expr} {Q:Bool→AHeap→Prop} (x:WT G n env e H L Q):WT G n env e H L fun b H'=>FrzLe H H'∧Q b H':=fun A s E a I F =>
  pbo (x A s E a I F) fun _ _ H' t q=>⟨H',t,t.ext.frz,q⟩
theorem WE.frz {e:Expr} {Q:AV→AHeap→Prop} (x:WE G n env e H L Q):WE G n env e H L fun b H'=>FrzLe H H'∧Q b H':=fun A s E a I F =>
  pvo (x A s E a I F) fun _ _ av H' r t q=>⟨av,H',r,t,t.ext.frz,q⟩
theorem WEs.mono {es:List Expr} {Q Q':List AV→AHeap→Prop} (x:WEs G n env es H L Q) (k:∀ a H',Q a H'→Q' a H'):WEs G n env es H L Q':=fun A s E pos a I F =>
  pvso (x A s E pos a I F) fun _ _ av H' r t q=>⟨av,H',r,t,k _ _ q⟩
theorem WSs.frz {sts:List Stmt} {Q:AFl→AHeap→Loc→Prop} (x:WSs G n env sts H L Q):WSs G n env sts H L fun f H' L'=>FrzLe H H'∧Q f H' L':=fun A s E a I F =>
  pso (x A s E a I F) fun _ _ af H' L' r t f q=>⟨af,H',L',r,t,f,t.ext.frz,q⟩
theorem AW.mono {t:Expr} {v:AV} {Q Q':AHeap→Loc→Prop} (x:AW G n env t v H L Q) (k:∀ H' L',Q H' L'→Q' H' L'):AW G n env t v H L Q':=fun A s E u a I F r =>
  pao (x A s E u a I F r) fun _ _ H' L' t f q=>⟨H',L',t,f,k _ _ q⟩
theorem AW.frz {t:Expr} {v:AV} {Q:AHeap→Loc→Prop} (x:AW G n env t v H L Q):AW G n env t v H L fun H' L'=>FrzLe H H'∧Q H' L':=fun A s E u a I F r =>
  pao (x A s E u a I F r) fun _ _ H' L' t f q=>⟨H',L',t,f,t.ext.frz,q⟩
theorem AW.weak {t:Expr} {v:AV} {L':Loc} {Q:AHeap→Loc→Prop} (x:AW G n env t v H L Q) (k:LocLe L L'):AW G n env t v H L' Q:=fun A s E u a I F r=>x A s E u a I (F.weak k) r
theorem PI.mono {s s1:Shared} {it:Value} {Q Q':List AV→(AHeap→Prop)→AHeap→Prop} (x:PI G n H s Q it s1) (k:∀ vals src H',Q vals src H'→Q' vals src H'):PI G n H s Q' it s1 :=
  let ⟨I,vals,src,wr,fp,K,H2,e,P,q⟩:=x; ⟨I,vals,src,wr,fp,K,H2,e,P,k _ _ _ q⟩
theorem WI.mono {e:Expr} {Q Q':List AV→(AHeap→Prop)→AHeap→Prop} (x:WI G n env e H L Q) (k:∀ vals src H',Q vals src H'→Q' vals src H'):WI G n env e H L Q':=fun A s E a I F =>
  wpAny_mono (x A s E a I F) (fun _ _ h=>wpAny_mono h (fun _ _ p=>p.mono k) fun _ _ e=>e) fun _ _ e=>e
theorem WSs.weak {sts:List Stmt} {L':Loc} {Q:AFl→AHeap→Loc→Prop} (x:WSs G n env sts H L Q) (k:LocLe L L'):WSs G n env sts H L' Q:=fun A s E a I F=>x A s E a I (F.weak k)
theorem bDw {own:List Addr} {s:Shared} {D:Addr} {l:List AV} (I:Inv G H s.heap) (e:H D=some (.list l)):St G own H s (H.set D (.frz l)) s:=by
  obtain ⟨vs,k,e',r⟩:=I.obj _ _ e
  have X:=aPw (o':=.frz l) I e (fun _ _=>rfl) ⟨_,e'⟩ rfl
  exact ⟨bGp I e (fun _ _=>rfl) ⟨vs,k,e',r.mono X.mon⟩ rfl,X.any,Sm.refl s⟩
theorem bJt {e:Expr} {Q:AV→AHeap→Prop} (x:WE G n env e H L fun v H1=>FrzQ v H1 Q):WE G n env e H L Q:=fun A s E a I F =>
  pvo (x A s E a I F) fun _ _ av H' r t qq=>by
    obtain ⟨D,l,e1,e2,q⟩:=qq
    subst e1
    cases r
    exact ⟨.lst l,H'.set D (.frz l),.lst AHeap.set_same,t.trans (bDw t.inv e2),q⟩
theorem bGv {h:Heap} {D:Addr} {l:List AV} {x:Str} (I:Inv G H h) (F:FrI G env L H h) (e:H D=some (.list l)) (ex:L x=some (.val (.ref D))):FrI G env (L.set x (.lst l)) (H.set D (.frz l)) h:=by
  obtain ⟨vs,k,e',r⟩:=I.obj _ _ e
  have X:=aPw (o':=.frz l) I e (fun _ _=>rfl) ⟨_,e'⟩ rfl
  have F':=F.step X
  refine { F' with ns:=?_,cell:=?_ }
  · obtain ⟨m,h1,h2⟩:=F'.ns
    refine ⟨m,h1,fun y av q ey=>?_⟩
    by_cases z:y=x
    · subst z
      rw [Loc.set_same] at ey; cases ey
      obtain ⟨v,e1,e2⟩:=h2 y _ q ex
      cases e2
      exact ⟨_,e1,.lst AHeap.set_same⟩
    · rw [Loc.set_ne z] at ey; exact h2 y av q ey
  · intro y c hc
    obtain ⟨⟨ov,h1,h2⟩,h3⟩:=F'.cell y c hc
    refine ⟨⟨ov,h1,fun av ey=>?_⟩,h3⟩
    by_cases z:y=x
    · subst z
      rw [Loc.set_same] at ey; cases ey
      obtain ⟨v,e1,e2⟩:=h2 _ ex
      cases e2
      exact ⟨_,e1,.lst AHeap.set_same⟩
    · rw [Loc.set_ne z] at ey; exact h2 av ey
theorem bEz {sts:List Stmt} {D:Addr} {l:List AV} {x:Str} {Q:AFl→AHeap→Loc→Prop} (e:H D=some (.list l)) (ex:L x=some (.val (.ref D))) (h:WSs G n env sts (H.set D (.frz l)) (L.set x (.lst l)) Q):WSs G n env sts H L Q:=fun A s E a I F=>by
  have T:=bDw (own:=ownOf env) I e
  exact PS.aft T (h A s E a T.inv (bGv I F e ex))
end
noncomputable def rdV (K:KI) (S:List Str) (i:Nat) (x:Str):Bool:=S[i]? == some x && ((K.kd x == some .local || K.kd x == some .cell) && !(x == ("__debug__" : Str)))
noncomputable def wrV (K:KI) (S:List Str) (i:Nat) (x:Str):Bool:=S[i]? == some x && (K.kd x == some .local || (K.kd x == some .cell && K.own x))
noncomputable def glV (w:World) (K:KI) (x:Str) (f:Value):Bool:=K.kd x == some .globalImplicit && (!(x == ("__debug__" : Str)) && (match f with
  | .ref a=>nsIn (KF w) mainGlobals x == some (some (.ref a)) && keepIn (KF w) (.ref a)
  | .builtin i=>nsIn (KF w) mainGlobals x == some none && (bootBuiltins x == some (.builtin i) && x != "__name__")
  | .type i=>nsIn (KF w) mainGlobals x == some none && (bootBuiltins x == some (.type i) && x != "__name__")
  | _=>false))
noncomputable def aWd (e:Expr):Bool:=e.ctorIdx != 0 && (e.ctorIdx != 3 && (e.ctorIdx != 5 && e.ctorIdx != 15))
noncomputable def innOk (K:KI) (sc:Scope) (S S':List Str) (m:List (Option Nat)):Bool:=aFx S' && (S'.length == m.length && (S'.zip m).all fun p=>match p.2 with
  | none=>true
  | some i=>S[i]? == some p.1 && (sc.names.lookup p.1 != some .local && sc.names.lookup p.1 != some .cell))
noncomputable def okT (e:Expr):Bool:=e.ctorIdx == 20 || (e.ctorIdx == 21 || (e.ctorIdx == 23 || e.ctorIdx == 25))
end
section
variable {G:Cx} {n:Nat} {env:Env} {H:AHeap} {L:Loc}
theorem aCa {P:AV→AV→Prop} {a b:AV} {f:Int→Int→Prop} {d:Prop} (h:onI a b f d) (k:∀ i j,f i j→P (.int i) (.int j)) (k':d→P a b):P a b:=by
  cases a with
  | int i=>cases b with
    | int j=>exact k i j h
    | _=>exact k' h
  | _=>exact k' h
theorem bAy {P:AV→AV→Prop} {a b:AV} {f:Str→Str→Prop} {d:Prop} (h:onS a b f d) (k:∀ i j,f i j→P (.str i) (.str j)) (k':d→P a b):P a b:=by
  cases a with
  | str i=>cases b with
    | str j=>exact k i j h
    | _=>exact k' h
  | _=>exact k' h
theorem bAz {P:AV→Prop} {b:AV} {p d:Prop} (h:onN b p d) (k:p→P (.val .none)) (k':d→P b):P b:=by
  cases b with
  | val v=>cases v with
    | none=>exact k h
    | _=>exact k' h
  | _=>exact k' h
theorem aRa {P:AV→AV→Prop} {a b:AV} {f:Bool→Bool→Prop} {d:Prop} (h:onB a b f d) (k:∀ i j,f i j→P (.val (.bool i)) (.val (.bool j))) (k':d→P a b):P a b:=by
  cases a with
  | val v=>cases v with
    | bool i=>cases b with
      | val u=>cases u with
        | bool j=>exact k i j h
        | _=>exact k' h
      | _=>exact k' h
    | _=>exact k' h
  | _=>exact k' h
theorem binq {op:Operator} {a b:AV} {Q:AV→AHeap→Prop} (h:BinQ G n op a b H Q):Bin G n (binaryOp op) a b H Q:=by
  cases op with
  | Add=>exact aCa (P:=fun a b=>Bin G n (binaryOp .Add) a b H Q) h (fun i j h=>bHy h) id
  | Sub=>exact aCa (P:=fun a b=>Bin G n (binaryOp .Sub) a b H Q) h (fun i j h=>bHq h) id
  | _=>exact h
theorem cmpq {op:CmpOp} {a b:AV} {Q:AV→AHeap→Prop} (h:CmpQ G n op a b H Q):Bin G n (compareOp op) a b H Q:=by
  cases op with
  | Lt=>exact aCa (P:=fun a b=>Bin G n (compareOp .Lt) a b H Q) h (fun i j h=>bLh h) id
  | LtE=>exact aCa (P:=fun a b=>Bin G n (compareOp .LtE) a b H Q) h (fun i j h=>bLi h) id
  | Gt=>exact aCa (P:=fun a b=>Bin G n (compareOp .Gt) a b H Q) h (fun i j h=>bLj h) id
  | GtE=>exact aCa (P:=fun a b=>Bin G n (compareOp .GtE) a b H Q) h (fun i j h=>bLk h) id
  | Eq=>exact aCa (P:=fun a b=>Bin G n (compareOp .Eq) a b H Q) h (fun i j h=>bHw h) fun h=>bAy (P:=fun a b=>Bin G n (compareOp .Eq) a b H Q) h (fun i j h=>bHv h) id
  | NotEq=>exact aCa (P:=fun a b=>Bin G n (compareOp .NotEq) a b H Q) h (fun i j h=>bHt h) id
  | Is=>exact bAz (P:=fun b=>Bin G n (compareOp .Is) a b H Q) h aQg fun h=>aRa (P:=fun a b=>Bin G n (compareOp .Is) a b H Q) h (fun i j h=>aQh h) id
  | IsNot=>exact aRa (P:=fun a b=>Bin G n (compareOp .IsNot) a b H Q) h (fun i j h=>aJa h) id
  | _=>exact h
theorem truq {a:AV} {Q:Bool→AHeap→Prop} (h:TruQ G n a H Q):Tru G n a H Q:=by
  cases a with
  | val v=>cases v with
    | bool b=>exact bAd h
    | none=>exact bAc h
    | _=>exact h
  | _=>exact h
theorem getq {value slice:Expr} {o i:AV} {Q:AV→AHeap→Prop} (hs:okE slice=true) (h:GetI G n o i H Q):Bin G n (subscriptTail value slice) o i H Q:=h value slice (aWc hs)
theorem bGw {S:List Str} {t:Expr} {sts:List Stmt} {tg:AV→LS→AHeap→(LS→AHeap→Prop)→Prop} {body:LS→AHeap→(AFl→LS→AHeap→Prop)→Prop} {src us:AHeap→Prop} {Q:AFl→LS→AHeap→Prop}
    (ht:∀ {v L H K},tg v L H K→AW G n env t v H (locOf S L) fun H1 Lc=>∃ L1,Lc=locOf S L1∧K L1 H1)
    (hb:∀ {L H K},body L H K→WSs G n env sts H (locOf S L) fun f H1 Lc=>∃ L1,Lc=locOf S L1∧K f L1 H1)
    {vals:List AV} {L:LS} {H:AHeap} (hs:SrcQ H src us) (h:FV tg body us Q vals L H):ForV G n env t sts src (fun f H1 Lc=>∃ L1,Lc=locOf S L1∧Q f L1 H1) vals H (locOf S L):=by
  obtain ⟨J,j0,step,fin⟩:=h
  refine bBu (fun i H' Lc=>∃ L',Lc=locOf S L'∧FrzLe H H'∧J i L' H') ⟨L,rfl,FrzLe.refl H,j0⟩ (fun i v H1 Lc hv zz=>?_) fun H1 Lc zz=>zz.elim fun L1 zz=>⟨hs H1 zz.2.1 (fin L1 H1 zz.2.2).1,L1,zz.1,(fin L1 H1 zz.2.2).2⟩
  obtain ⟨L1,rfl,f1,j1⟩:=zz
  obtain ⟨k1,k2⟩:=step i v L1 H1 hv j1
  refine ⟨hs H1 f1 k1,(ht k2).frz.mono fun H2 Lc2 zz=>?_⟩
  obtain ⟨f2,L2,rfl,q2⟩:=zz
  refine (hb q2).frz.mono fun f H3 Lc3 zz=>?_
  obtain ⟨f3,L3,rfl,q3⟩:=zz
  cases f with
  | next=>exact ⟨L3,rfl,(f1.trans f2).trans f3,q3⟩
  | cont=>exact ⟨L3,rfl,(f1.trans f2).trans f3,q3⟩
  | brk=>exact ⟨L3,rfl,q3⟩
  | ret r=>exact ⟨L3,rfl,q3⟩
theorem bLb {S:List Str} {ifs:List Expr} {f:LS→AHeap→(Bool→AHeap→Prop)→Prop} {Q Q':Bool→AHeap→Prop} {Ls:LS} (x:CIf G n env ifs H (locOf S Ls) Q) (k:∀ b H',FrzLe H H'→Q b H'→Q' b H'):CIf G n env ifs H (locOf S Ls) Q':=by
  match ifs,x with
  | [],x=>exact k _ _ (FrzLe.refl H) x
  | [c],x=>exact fun A s E a I F=>wpAny_mono (WT.frz x A s E a I F) (fun b s1 zz=>zz.rec fun H1 t q=>⟨H1,t,k _ _ q.1 q.2⟩) fun _ _ e=>e
theorem cv_of {S:List Str} {t elt:Expr} {ifs:List Expr} {tg:AV→LS→AHeap→(LS→AHeap→Prop)→Prop} {f:LS→AHeap→(Bool→AHeap→Prop)→Prop} {el:LS→AHeap→(AV→AHeap→Prop)→Prop} {src us:AHeap→Prop} {K:List AV→LS→AHeap→Prop}
    (ht:∀ {v L H K},tg v L H K→AW G n env t v H (locOf S L) fun H1 Lc=>∃ L1,Lc=locOf S L1∧K L1 H1)
    (hf:∀ {L H K},f L H K→CIf G n env ifs H (locOf S L) K)
    (he:∀ {L H K},el L H K→WE G n env elt H (locOf S L) K)
    {vals acc:List AV} {L:LS} {H:AHeap} (hs:SrcQ H src us) (h:CVq tg f el us K vals acc L H):CV G n env t ifs elt src (fun acc H1 Lc=>∃ L1,Lc=locOf S L1∧FrzLe H H1∧K acc L1 H1) vals acc H (locOf S L):=by
  obtain ⟨J,j0,step,fin⟩:=h
  refine bKz (fun i acc H' Lc=>∃ L',Lc=locOf S L'∧FrzLe H H'∧J i acc L' H') ⟨L,rfl,FrzLe.refl H,j0⟩ (fun i v acc H1 Lc hv zz=>?_) fun acc H1 Lc zz=>zz.elim fun L1 zz=>⟨hs H1 zz.2.1 (fin acc L1 H1 zz.2.2).1,L1,zz.1,zz.2.1,(fin acc L1 H1 zz.2.2).2⟩
  obtain ⟨L1,rfl,f1,j1⟩:=zz
  obtain ⟨k1,k2⟩:=step i v acc L1 H1 hv j1
  refine ⟨hs H1 f1 k1,(ht k2).frz.mono fun H2 Lc2 zz=>?_⟩
  obtain ⟨f2,L2,rfl,q2⟩:=zz
  exact bLb (f:=f) (hf q2) fun b H3 f3 q3=>⟨fun hb=>⟨(tbt q3 hb).1,(he (tbt q3 hb).2).frz.mono fun y H4 zz=>⟨L2,rfl,((f1.trans f2).trans f3).trans zz.1,zz.2⟩⟩,fun hb=>⟨L2,rfl,(f1.trans f2).trans f3,tbf q3 hb⟩⟩
theorem CV.kt {t elt:Expr} {ifs:List Expr} {src:AHeap→Prop} {K K':List AV→AHeap→Loc→Prop} (k:∀ acc H L,K acc H L→K' acc H L) {vals acc:List AV} {H:AHeap} {L:Loc} (h:CV G n env t ifs elt src K vals acc H L):CV G n env t ifs elt src K' vals acc H L:=by
  induction vals generalizing acc H L with
  | nil=>exact ⟨h.1,k _ _ _ h.2⟩
  | cons v vs ih=>exact ⟨h.1,h.2.mono fun H1 L1 q=>q.mono fun b H2 q2=>⟨fun hb=>⟨(q2.1 hb).1,(q2.1 hb).2.mono fun y H3 q3=>ih q3⟩,fun hb=>ih (q2.2 hb)⟩⟩
theorem bLa {S:List Str} {t t1 i1 elt:Expr} {tg tg1:AV→LS→AHeap→(LS→AHeap→Prop)→Prop} {it1:LS→AHeap→(List AV→(AHeap→Prop)→AHeap→Prop)→Prop} {el:LS→AHeap→(AV→AHeap→Prop)→Prop} {src us:AHeap→Prop} {K:List AV→LS→AHeap→Prop}
    (ht:∀ {v L H K},tg v L H K→AW G n env t v H (locOf S L) fun H1 Lc=>∃ L1,Lc=locOf S L1∧K L1 H1)
    (hi':∀ {L H K},it1 L H K→WI G n env i1 H (locOf S L) (IterQ K))
    (ht1:∀ {v L H K},tg1 v L H K→AW G n env t1 v H (locOf S L) fun H1 Lc=>∃ L1,Lc=locOf S L1∧K L1 H1)
    (he:∀ {L H K},el L H K→WE G n env elt H (locOf S L) K)
    (hfr:∀ {L H Q},WI G n env i1 H L Q→WI G n env i1 H L fun vals src H1=>FrzLe H H1∧Q vals src H1)
    {vals acc:List AV} {L:LS} {H:AHeap} (hs:SrcQ H src us) (h:CVq2 tg it1 tg1 el us K vals acc L H):CV2 G n env t i1 t1 [] elt src (fun acc H1 Lc=>∃ L1,Lc=locOf S L1∧K acc L1 H1) vals acc H (locOf S L):=by
  obtain ⟨J,j0,step,fin⟩:=h
  have key:∀ k i acc L1 H1,i+k=vals.length→FrzLe H H1→J i acc L1 H1→CV2 G n env t i1 t1 [] elt src (fun acc H1 Lc=>∃ L1,Lc=locOf S L1∧K acc L1 H1) (vals.drop i) acc H1 (locOf S L1):=by
    intro k
    induction k with
    | zero =>
      intro i acc L1 H1 hi f1 j1
      obtain rfl:i=vals.length:=om54 hi
      rw [List.drop_length]
      exact ⟨hs H1 f1 (fin acc L1 H1 j1).1,L1,rfl,(fin acc L1 H1 j1).2⟩
    | succ k ih =>
      intro i acc L1 H1 hi f1 j1
      have hlt:i < vals.length:=om53 hi
      rw [List.drop_eq_getElem_cons hlt]
      obtain ⟨k1,k2⟩:=step i _ acc L1 H1 (List.getElem?_eq_getElem hlt) j1
      refine ⟨hs H1 f1 k1,(ht k2).frz.mono fun H2 Lc zz=>?_⟩
      obtain ⟨f2,L2,rfl,q2⟩:=zz
      refine (hfr (hi' q2)).mono fun vals1 src1 H3 zz=>?_
      obtain ⟨f3,us1,hs1,q3⟩:=zz
      refine CV.kt (fun acc' H4 Lc4 hk=>?_) (cv_of (f:=fun _ H Q=>Q true H) ht1 (fun h=>aYk h) he hs1 q3)
      obtain ⟨L4,e4,f4,q4⟩:=hk
      subst e4
      exact ih (i+1) acc' L4 H4 (om52 hi) (((f1.trans f2).trans f3).trans f4) q4
  simpa using key vals.length 0 acc L H om51 (FrzLe.refl H) j0
theorem CV.weak {t elt:Expr} {ifs:List Expr} {src:AHeap→Prop} {K:List AV→AHeap→Prop} {L':Loc} (k:LocLe L L'):∀ {vals acc:List AV} {H:AHeap},CV G n env t ifs elt src (fun acc H _=>K acc H) vals acc H L→CV G n env t ifs elt src (fun acc H _=>K acc H) vals acc H L'
  | [],acc,H,h=>h
  | v :: vs,acc,H,h=>⟨h.1,h.2.weak k⟩
theorem CV2.weak {t t1 i1 elt:Expr} {ifs:List Expr} {src:AHeap→Prop} {K:List AV→AHeap→Prop} {L':Loc} (k:LocLe L L'):∀ {vals acc:List AV} {H:AHeap},CV2 G n env t i1 t1 ifs elt src (fun acc H _=>K acc H) vals acc H L→CV2 G n env t i1 t1 ifs elt src (fun acc H _=>K acc H) vals acc H L'
  | [],acc,H,h=>h
  | v :: vs,acc,H,h=>⟨h.1,h.2.weak k⟩
theorem CV2.kt {t t1 i1 elt:Expr} {ifs:List Expr} {src:AHeap→Prop} {K K':List AV→AHeap→Loc→Prop} (k:∀ acc H L,K acc H L→K' acc H L) {vals acc:List AV} {H:AHeap} {L:Loc} (h:CV2 G n env t i1 t1 ifs elt src K vals acc H L):CV2 G n env t i1 t1 ifs elt src K' vals acc H L:=by
  induction vals generalizing acc H L with
  | nil=>exact ⟨h.1,k _ _ _ h.2⟩
  | cons v vs ih=>exact ⟨h.1,h.2.mono fun H1 L1 q=>q.mono fun vals src1 H2 q2=>CV.kt (fun acc' H3 L3 q3=>ih q3) q2⟩
theorem aLa {K:KI} {sc:Scope} {S S':List Str} {m:List (Option Nat)} (hn:S.Nodup) (h:innOk K sc S S' m=true) (L:LS):S'.Nodup∧LocLe (locOf S' (inner m L)) (compL sc (locOf S L)):=by
  have c:=band h
  have d:=band c.2
  have h2:=eq_of_beq d.1
  have h3:=List.all_eq_true.mp d.2
  refine ⟨aCj c.1,?_⟩
  clear d c h
  induction S' generalizing m with
  | nil=>exact fun x av e=>nomatch (show (none:Option AV)=some av from e)
  | cons s S' ih =>
    cases m with
    | nil=>cases h2
    | cons o m =>
      intro x av e0
      have h3:∀ p∈(s,o) :: S'.zip m,_:=h3
      have e:(if x=s then o.bind (lget L) else locOf S' (inner m L) x)=some av:=e0
      clear e0
      by_cases z:x=s
      · rw [if_pos z] at e
        cases z
        cases o with
        | none=>cases e
        | some i =>
          have g:=band (h3 _ List.mem_cons_self)
          have g2:=band g.2
          exact (bCb (bne_iff_ne.mp g2.1) (bne_iff_ne.mp g2.2)).trans ((aHc hn (eq_of_beq g.1)).trans e)
      · rw [if_neg z] at e
        exact ih (Nat.succ.inj h2) (fun p hp=>h3 p (List.mem_cons_of_mem _ hp)) x av e
end
section
variable {G:Cx} {n:Nat} {env:Env} {H:AHeap} {L:Loc}
theorem aVs {s:Shared} {A:Around} {E:Value→Shared→Prop} {I t:Addr} {i:Int} {Q:Value→Shared→Prop} (hI:IsRv s.heap I t i) (h:Q (.ref I) s):wpAny (MD G) A (pyIter (.ref I)) Q E s:=by
  have hT:s.TypeIs (.ref I) "reversed" := ⟨_,hI,rfl⟩
  refine wpAny_pyIter_slot hT aFu (wpAny_call_entry aFu hT aKh ?_ (aMh _))
  show wpAny _ _ (ret (.ref I)) _ _ s
  exact wpAny_pure ⟨_,rfl, "reversed",_,hT,rv_slot_next.lookup,h⟩
theorem aVq {h:Heap} {I t:Addr} {i:Int} (st:IsRv h I t i):∀ o,h.get? I=some o→¬ aAz o:=fun o e=>by
  rw [IsRv] at st; rw [st] at e; cases e
  exact aDd (o:=aFw t i) (show Value.type "reversed" ≠ Value.type "tuple" by decide) (show Value.type "reversed" ≠ Value.type "range" by decide)
theorem bCn {I t:Addr} {l:List AV} {vs:List Value} {k:Nat} {fq:List Addr} {h0:Heap} {H0:AHeap} (hl:l.length≤1000) (hne:t≠I) (e0:h0.get? t=some (tupO vs k)) (hlen:l.length=vs.length)
    (hv:∀ (H':AHeap) (h':Heap),FrzLe H0 H'→(∀ b∈fq,∀ o,h0.get? b=some o→h'.get? b=some o)→(∀ b∈fq,H' b=none)→VRs H' h' l vs) (hni:I∉fq) :
    AWk G n I l.reverse (FrzLe H0) [I] (I :: t :: fq) (fun i h=>(i≤l.length∧IsRv h I t ((l.length:Int) - 1 - (i:Int)))∧∀ b,b=t∨b∈fq→∀ o,h0.get? b=some o→h.get? b=some o) where
  sub:=fun b hb=>by rw [List.mem_singleton.mp hb]; exact .head _
  frame:=fun i h h' ⟨st,k2⟩ hk=>⟨⟨st.1,hk I (.head _) _ st.2⟩,fun b hb o e=>hk b (by rcases hb with rfl | hb; exact .tail _ (.head _); exact .tail _ (.tail _ hb)) o (k2 b hb o e)⟩
  soft:=fun i h ⟨st,_⟩ b hb o' e=>by
    rw [List.mem_singleton.mp hb] at e; exact aVq st.2 _ e
  item:=fun i av A s H E Q ao hi ⟨⟨hle,st⟩,k2⟩ I0 src hfp hq=>by
    have rs:=hv H s.heap src (fun b hb=>k2 b (.inr hb)) (fun b hb=>hfp b (.tail _ (.tail _ hb)))
    have it:=k2 t (.inl rfl) _ e0
    have hlt:i < l.length:=by have:=(List.getElem?_eq_some_iff.mp hi).1; simpa using this
    have hi':l[l.length - 1 - i]?=some av:=by rw [← hi,List.getElem?_reverse hlt]
    obtain ⟨x,ex,rx⟩:=rs.get hi'
    have e1:(l.length:Int) - 1 - (i:Int)=((l.length - 1 - i:Nat):Int):=om94 hlt
    rw [e1] at st
    refine bFz st it (om93 hl hlen) ex fun h' tk st' sb=>?_
    have kp:∀ b o,b∉[I]→s.heap.get? b=some o→h'.get? b=some o:=fun b o hb e=>sb.extBut b o (fun z=>hb (by simp [z])) e
    have e2:((l.length - 1 - i:Nat):Int) - 1=(l.length:Int) - 1 - ((i+1:Nat):Int):=om92 hlt
    rw [e2] at st'
    refine hq x h' tk (rx.mono ⟨fun b o e q f=>⟨kp b o (fun m=>?_) e,q⟩,fun _ _ _ q=>q⟩) ⟨⟨hlt,st'⟩,fun b hb o e=>kp b o (fun m=>?_) (k2 b hb o e)⟩ (.of kp) fun b o eb=>?_
    · rw [List.mem_singleton.mp m] at e; exact aVq st _ e f
    · have:=List.mem_singleton.mp m
      rcases hb with rfl | hb
      · exact hne this
      · exact hni (this ▸ hb)
    · by_cases z:b=I
      · rw [z]; exact ⟨_,st'⟩
      · exact ⟨o,kp b o (fun m=>z (List.mem_singleton.mp m)) eb⟩
  done:=fun A s H E Q ao ⟨⟨hle,st⟩,k2⟩ I0 src hq=>by
    rw [List.length_reverse,show (l.length:Int) - 1 - (l.length:Int)=-1 from om91] at st
    exact bKc ao.hd st fun h' eb=>hq h' s.toks fun b o hb e=>eb b o (fun z=>hb (by simp [z])) e
  go:=fun i target v A s E Q ⟨st,k2⟩ hq=>aEx (T := "reversed") ⟨_,st.2,rfl⟩ (by decide) (hq _ ⟨st,k2⟩ (fun _ _ _ e=>e) fun b o e=>⟨o,e⟩)
  self:=fun i A s E Q ⟨st,_⟩ hq=>aVs st.2 hq
theorem aKv {l:List AV} {Q:List AV→(AHeap→Prop)→AHeap→Prop} (hl:l.length≤100) (h:Q l.reverse (fun _=>True) H):IterC G n (.type "reversed") [.tup l] H Q:=fun A s E vs ao I r=>by
  refine VRs.c r fun _ _ r rs=>?_
  ·
    refine VRs.n rs ?_
    refine VR.tl r fun _ _ _ e q rs=>?_
    ·
      rename_i t vs k
      obtain ⟨fq,f1,f2⟩:=rs.foot
      have hlen:=rs.length
      have kp:=aAb s.heap (aFw t ((vs.length:Int) - 1))
      have hI:(s.heap.push (aFw t ((vs.length:Int) - 1))).get? s.heap.objs.size=some (aFw t ((vs.length:Int) - 1)):=Heap.get?_push_size _ rfl
      have st:IsRv (s.heap.push (aFw t ((vs.length:Int) - 1))) s.heap.objs.size t ((l.length:Int) - 1 - ((0:Nat):Int)):=by
        rw [show (l.length:Int) - 1 - ((0:Nat):Int)=(vs.length:Int) - 1 from om90 hlen]; exact hI
      refine aNt e (om89 hl hlen) (aVs st ⟨s.heap.objs.size,l.reverse,_,[s.heap.objs.size],s.heap.objs.size :: t :: fq,_,H,rfl,
        ⟨bCn (H0:=H) (h0:=s.heap) (vs:=vs) (k:=k) (fq:=fq) (om88 hl) (fun z=>?_) e rs.length f2 (fun m=>?_),⟨⟨Nat.zero_le _,st⟩,fun b _ o e=>kp b o e⟩,St.keep (t:=s.toks+1+1) I kp,fun b hb=>?_,fun b hb=>?_⟩,⟨_,fun _ f _=>f,h⟩⟩)
      · rw [z,aAa] at e; cases e
      · obtain ⟨_,o,e,_⟩:=f1 _ m; rw [aAa] at e; cases e
      · rcases List.mem_cons.mp hb with rfl | hb
        · exact ⟨.inl aAa,I.fresh',_,hI⟩
        · rcases List.mem_cons.mp hb with rfl | hb
          · exact ⟨.inr ⟨_,e,.inl ⟨rfl,_,_,rfl⟩⟩,q,_,kp _ _ e⟩
          · obtain ⟨g1,o,e,f⟩:=f1 b hb
            exact ⟨.inr ⟨o,e,f⟩,g1,_,kp _ _ e⟩
      · rw [List.mem_singleton.mp hb]; exact aAa
end
section
noncomputable abbrev ZR (h:Heap) (z TI TO:Addr) (f0:Value) (b:Bool):Prop :=
  h.get? z=some { cls:=.type "zip",dict:=none,data:=.fields #[f0,.bool b,.bool false,.ref TI,.ref TO],slots:=#[] }
noncomputable def ZF (v:Value):Prop:=v=.none∨∃ T:Nat,v=rawInt T
section
variable {prog:Program} {w:World} {A:Around} {E:Value→Shared→Prop} {s:Shared}
theorem aGz {it l:Addr} {i:Nat} {items:Array Value} {x:Value} {Q:Value→Shared→Prop} (hit:s.heap.IsTupleIter it l i) (hl:s.heap.IsTuple l items) (hx:items[i]?=some x)
    (hQ:∀ h',h'.IsTupleIter it l (i+1)→Heap.SameBut it s.heap h'→Q x { s with heap:=h' }):wpAny (model prog w) A (Builtin.SmallTypes.nextOf (.ref it)) Q E s:=by
  obtain ⟨o,ho,hc,hd⟩:=id hit
  obtain ⟨ol,hol,_,nl,hdl⟩:=hl
  unfold Builtin.SmallTypes.nextOf
  refine wpAny_bind (wpAny_callSpecial?_slot (name:=Str.ofString "__next__") hit.typeIs F.slot_tuple_iterator_next (wpAny_call_entry F.slot_tuple_iterator_next hit.typeIs F.entry_tuple_iterator_next ?_ (F.args_tuple_iterator_next_1 _)))
  show wpAny _ _ (field (.ref it) 0 >>= _) _ _ s
  refine wpAny_bind (wpAny_field ho hd (x:=.ref l) rfl ?_)
  show wpAny _ _ (if (Value.ref l == Value.none)=true then _ else _) _ _ s
  rw [if_neg (show ¬ ((Value.ref l == Value.none)=true) from Bool.false_ne_true)]
  show wpAny _ _ (field (.ref it) 1 >>= _) _ _ s
  refine wpAny_bind (wpAny_field ho hd (x:=.int i 0) rfl ?_)
  show wpAny _ _ (seqItems? (.ref l) >>= _) _ _ s
  refine wpAny_bind (wpAny_seqItems hol hdl ?_)
  dsimp only; simp -iota only [Int.toNat_natCast,hx]; dsimp only
  refine wpAny_bind (wpAny_setField ho hd (by simp) (wpAny_pure ⟨x,rfl,wpAny_pure (hQ _ ?_ (Heap.SameBut.update ..))⟩))
  exact ⟨_,Heap.get?_update_self _ ho (Obj.isFreed_of_fields (Obj.data_mapFields hd _)),(Obj.cls_mapFields ..).trans hc,by rw [Obj.data_mapFields hd]; simp [rawInt]⟩
theorem aJf {it l:Addr} {i:Nat} {items:Array Value} {Q:Value→Shared→Prop} (hh:A.handled=none) (hit:s.heap.IsTupleIter it l i) (hl:s.heap.IsTuple l items) (hx:items[i]?=none)
    (hE:∀ h' e,Heap.ExtBut it s.heap h'→(∃ o,h'.get? e=some o∧o.cls=.type "StopIteration")→E (.ref e) { s with heap:=h' }):wpAny (model prog w) A (Builtin.SmallTypes.nextOf (.ref it)) Q E s:=by
  obtain ⟨o,ho,hc,hd⟩:=id hit
  obtain ⟨ol,hol,_,nl,hdl⟩:=hl
  unfold Builtin.SmallTypes.nextOf
  refine wpAny_bind (wpAny_callSpecial?_slot (name:=Str.ofString "__next__") hit.typeIs F.slot_tuple_iterator_next (wpAny_call_entry F.slot_tuple_iterator_next hit.typeIs F.entry_tuple_iterator_next ?_ (F.args_tuple_iterator_next_1 _)))
  show wpAny _ _ (field (.ref it) 0 >>= _) _ _ s
  refine wpAny_bind (wpAny_field ho hd (x:=.ref l) rfl ?_)
  show wpAny _ _ (if (Value.ref l == Value.none)=true then _ else _) _ _ s
  rw [if_neg (show ¬ ((Value.ref l == Value.none)=true) from Bool.false_ne_true)]
  show wpAny _ _ (field (.ref it) 1 >>= _) _ _ s
  refine wpAny_bind (wpAny_field ho hd (x:=.int i 0) rfl ?_)
  show wpAny _ _ (seqItems? (.ref l) >>= _) _ _ s
  refine wpAny_bind (wpAny_seqItems hol hdl ?_)
  dsimp only; simp -iota only [Int.toNat_natCast,hx]; dsimp only
  refine wpAny_bind (wpAny_rule (wpAny_bind (wpAny_setField ho hd (by simp) ?_)))
  show wpAny _ _ (newExc (.type "StopIteration") [] >>= _) _ _ _
  refine wpAny_bind ?_
  simp only [newExc,newTuple]
  refine wpAny_bind (wpAny_newObj_type ?_ (by size_fits))
  refine wpAny_bind (m:=firstArgMember _ _) (wpAny_of_eq (a:=Value.none) (by first | rfl | (simp only [firstArgMember]; rfl)) ?_)
  refine wpAny_newObj_type ?_ (by size_fits)
  unfold raiseNew; dsimp only
  refine wpAny_bind (wpAny_handled ?_)
  first | rw [show A.in1.handled=none from hh] | rw [hh]
  refine wpAny_bind (wpAny_pure (wpAny_throw ?_))
  exact hE _ _ (((Heap.SameBut.update ..).extBut.push _).push _) ⟨_,Heap.get?_push_size _ rfl,rfl⟩
theorem aZm {a:Addr} {Q:Option Obj→Shared→Prop} (h:Q (s.heap.get? a) s):wpAny (model prog w) A (loadIfAlive a) Q E s:=fun _ _ _=>h
theorem aUu {z TI TO:Addr} {f0:Value} {b:Bool} {Q:Bool→Shared→Prop} (hz:ZR s.heap z TI TO f0 b) (hf:ZF f0) (h1:Q true s)
    (h0:∀ h' b',ZR h' z TI TO f0 b'→Heap.SameBut z s.heap h'→Q false { s with heap:=h' }):wpAny (model prog w) A (Builtin.SmallTypes.ownedTupleIsFree (.ref z)) Q E s:=by
  unfold Builtin.SmallTypes.ownedTupleIsFree
  refine wpAny_bind (wpAny_field hz rfl (x:=f0) rfl ?_)
  rcases hf with rfl | ⟨T,rfl⟩
  · exact wpAny_pure h1
  · refine wpAny_bind (aZm ?_)
    cases s.heap.get? (T:Int).toNat with
    | none=>exact wpAny_pure h1
    | some o =>
      refine wpAny_bind (wpAny_field hz rfl (x:=.bool b) rfl ?_)
      cases b with
      | true=>exact wpAny_pure (h0 _ _ hz ⟨rfl,fun _ _=>rfl⟩)
      | false=>exact wpAny_bind (wpAny_setField_rec hz (by simp) fun h' e1 e2=>wpAny_pure (h0 _ _ e1 e2))
theorem bEu {z TI TO i1 i2 l1 l2:Addr} {k:Nat} {xs ys:Array Value} {x y a b f0:Value} {bb:Bool} {Q:Value→Shared→Prop} (D:ZipApart z TI TO i1 i2 l1 l2)
    (hz:ZR s.heap z TI TO f0 bb) (hf:ZF f0) (hTI:IsPair s.heap TI (.ref i1) (.ref i2)) (hTO:IsPair s.heap TO a b)
    (h1:s.heap.IsTupleIter i1 l1 k) (h2:s.heap.IsListIter i2 l2 k) (hl1:s.heap.IsTuple l1 xs) (hl2:s.heap.IsList l2 ys) (hx:xs[k]?=some x) (hy:ys[k]?=some y)
    (hQ:∀ h' T f0' b',ZR h' z TI TO f0' b'→ZF f0'→(∃ a b,IsPair h' TO a b)→h'.IsTupleIter i1 l1 (k+1)→h'.IsListIter i2 l2 (k+1)→IsPair h' T x y→s.heap.get? T=none →
      (∀ c o,c≠z→c≠TO→c≠i1→c≠i2→s.heap.get? c=some o→h'.get? c=some o)→Q (.ref T) { s with heap:=h' }) :
    wpAny (model prog w) A (Builtin.«zip.__next__» ⟨[.ref z],[]⟩) (fun fin s'=>∃ v,fin=.done (.ret v)∧Q v s') E s:=by
  show wpAny _ _ (field (.ref z) 2 >>= _) _ _ _
  refine wpAny_bind (wpAny_field hz rfl (x:=.bool false) rfl ?_)
  show wpAny _ _ (field (.ref z) 3 >>= _) _ _ _
  refine wpAny_bind (wpAny_field hz rfl (x:=.ref TI) rfl ?_)
  refine wpAny_bind (wpAny_seqItems hTI rfl ?_)
  show wpAny _ _ (Builtin.SmallTypes.ownedTupleIsFree (.ref z) >>= _) _ _ _
  refine wpAny_bind (aUu hz hf ?_ fun h₁ b' hz₁ hs₁=>?_)
  · simp -iota only [if_true]
    refine wpAny_bind (wpAny_rule ?_)
    refine wpAny_bind (wpAny_field hz rfl (x:=.ref TO) rfl ?_)
    refine wpAny_bind (wpAny_setField_rec hz (by simp) fun h₁ hz₁ hs₁=>?_)
    replace hz₁:ZR h₁ z TI TO .ellipsis bb:=hz₁
    refine wpAny_bind ?_
    simp -iota only [List.zipIdx_cons,List.zipIdx_nil,List.forIn_cons,List.forIn_nil]; dsimp only
    refine wpAny_bind (wpAny_bind (wpAny_onRaise ?_))
    show wpAny _ _ (Builtin.SmallTypes.nextOf (.ref i1) >>= _) _ _ _
    refine wpAny_bind (aGz (h1.extBut hs₁.extBut D.i1z) (hl1.extBut hs₁.extBut D.l1z) hx fun h₂ h1₂ hs₂=>wpAny_pure ?_)
    have hTO₂:IsPair h₂ TO a b:=hs₂.extBut _ _ D.TOi1 (hs₁.extBut _ _ D.TOz hTO)
    refine wpAny_bind (wpAny_seqItems hTO₂ rfl ?_)
    refine wpAny_bind (wpAny_updateSeq_pair hTO₂ fun h₃ hTO₃ hs₃=>?_)
    replace hTO₃:IsPair h₃ TO x b:=hTO₃
    refine wpAny_bind (wpAny_letGo (wpAny_pure ?_))
    refine wpAny_bind (wpAny_bind (wpAny_onRaise ?_))
    show wpAny _ _ (Builtin.SmallTypes.nextOf (.ref i2) >>= _) _ _ _
    refine wpAny_bind (wpAny_nextOf_list_item (((h2.extBut hs₁.extBut D.i2z).extBut hs₂.extBut D.i12.symm).extBut hs₃.extBut D.TOi2.symm)
      (((hl2.extBut hs₁.extBut D.l2z).extBut hs₂.extBut D.l2i1).extBut hs₃.extBut D.l2TO) hy fun h₄ h2₄ hs₄=>wpAny_pure ?_)
    have hTO₄:IsPair h₄ TO x b:=hs₄.extBut _ _ D.TOi2 hTO₃
    refine wpAny_bind (wpAny_seqItems hTO₄ rfl ?_)
    refine wpAny_bind (wpAny_updateSeq_pair hTO₄ fun h₅ hTO₅ hs₅=>?_)
    replace hTO₅:IsPair h₅ TO x y:=hTO₅
    refine wpAny_bind (wpAny_letGo (wpAny_pure (wpAny_pure ?_)))
    refine wpAny_bind (wpAny_seqItems hTO₅ rfl ?_)
    refine wpAny_bind (wpAny_newTuple ?_)
    have hz₅:ZR h₅ z TI TO .ellipsis bb:=hs₅.extBut _ _ D.TOz.symm (hs₄.extBut _ _ D.i2z.symm (hs₃.extBut _ _ D.TOz.symm (hs₂.extBut _ _ D.i1z.symm hz₁)))
    have hk₅:∀ c o,c≠z→c≠TO→c≠i1→c≠i2→s.heap.get? c=some o→h₅.get? c=some o:=fun c o c1 c2 c3 c4 e =>
      hs₅.extBut _ _ c2 (hs₄.extBut _ _ c4 (hs₃.extBut _ _ c2 (hs₂.extBut _ _ c3 (hs₁.extBut _ _ c1 e))))
    have h1₅:h₅.IsTupleIter i1 l1 (k+1):=((h1₂.extBut hs₃.extBut D.TOi1.symm).extBut hs₄.extBut D.i12).extBut hs₅.extBut D.TOi1.symm
    have h2₅:h₅.IsListIter i2 l2 (k+1):=h2₄.extBut hs₅.extBut D.TOi2.symm
    have hsz:h₅.objs.size=s.heap.objs.size:=by rw [hs₅.1,hs₄.1,hs₃.1,hs₂.1,hs₁.1]
    show wpAny _ _ (Builtin.SmallTypes.ownedTupleHandOut (.ref z) (.ref h₅.objs.size) >>= _) _ _ _
    refine wpAny_bind ?_
    unfold Builtin.SmallTypes.ownedTupleHandOut
    have hz₆:ZR (h₅.push { cls:=.type "tuple",data:=.seq #[x,y] }) z TI TO .ellipsis bb:=Heap.get?_push_of_some _ hz₅
    refine wpAny_bind (wpAny_setField_rec hz₆ (by simp) fun h₇ hz₇ hs₇=>?_)
    replace hz₇:ZR h₇ z TI TO (rawInt h₅.objs.size) bb:=hz₇
    refine wpAny_setField_rec hz₇ (by simp) fun h₈ hz₈ hs₈=>?_
    replace hz₈:ZR h₈ z TI TO (rawInt h₅.objs.size) false:=hz₈
    have hzlt:z < h₅.objs.size:=Heap.lt_size hz₅
    have up:∀ c o,c≠z→h₅.get? c=some o→h₈.get? c=some o:=fun c o c1 e=>hs₈.extBut _ _ c1 (hs₇.extBut _ _ c1 (Heap.get?_push_of_some _ e))
    have hT₈:IsPair h₈ h₅.objs.size x y:=hs₈.extBut _ _ (Nat.ne_of_gt hzlt) (hs₇.extBut _ _ (Nat.ne_of_gt hzlt) (Heap.get?_push_size _ rfl))
    refine wpAny_pure ⟨_,rfl,?_⟩
    exact hQ h₈ h₅.objs.size _ _ hz₈ (.inr ⟨_,rfl⟩) ⟨_,_,up _ _ D.TOz hTO₅⟩ (h1₅.at fun o e=>up _ o D.i1z e) (h2₅.at fun o e=>up _ o D.i2z e) hT₈ (by rw [hsz]; exact aAa)
      fun c o c1 c2 c3 c4 e=>up c o c1 (hk₅ c o c1 c2 c3 c4 e)
  · simp -iota only [Bool.false_eq_true,if_false]
    refine wpAny_bind ?_
    simp -iota only [List.forIn_toArray,List.forIn_cons,List.forIn_nil]
    refine wpAny_bind (wpAny_bind (wpAny_holding ?_))
    show wpAny _ _ (Builtin.SmallTypes.nextOf (.ref i1) >>= _) _ _ _
    refine wpAny_bind (aGz (h1.extBut hs₁.extBut D.i1z) (hl1.extBut hs₁.extBut D.l1z) hx fun h₂ h1₂ hs₂=>wpAny_pure ?_)
    refine wpAny_pure ?_
    refine wpAny_bind (wpAny_bind (wpAny_holding ?_))
    show wpAny _ _ (Builtin.SmallTypes.nextOf (.ref i2) >>= _) _ _ _
    refine wpAny_bind (wpAny_nextOf_list_item ((h2.extBut hs₁.extBut D.i2z).extBut hs₂.extBut D.i12.symm) ((hl2.extBut hs₁.extBut D.l2z).extBut hs₂.extBut D.l2i1) hy fun h₄ h2₄ hs₄=>wpAny_pure (wpAny_pure (wpAny_pure ?_)))
    show wpAny _ _ (newTuple [x,y] >>= _) _ _ _
    refine wpAny_bind (wpAny_newTuple (wpAny_pure ⟨_,rfl,?_⟩))
    have hk₄:∀ c o,c≠z→c≠i1→c≠i2→s.heap.get? c=some o→h₄.get? c=some o:=fun c o c1 c3 c4 e=>hs₄.extBut _ _ c4 (hs₂.extBut _ _ c3 (hs₁.extBut _ _ c1 e))
    have hsz:h₄.objs.size=s.heap.objs.size:=by rw [hs₄.1,hs₂.1,hs₁.1]
    refine hQ _ h₄.objs.size _ _ (Heap.get?_push_of_some _ (hs₄.extBut _ _ D.i2z.symm (hs₂.extBut _ _ D.i1z.symm hz₁))) hf ⟨_,_,Heap.get?_push_of_some _ (hk₄ _ _ D.TOz D.TOi1 D.TOi2 hTO)⟩
      ((h1₂.extBut hs₄.extBut D.i12).at fun o e=>Heap.get?_push_of_some _ e) (h2₄.at fun o e=>Heap.get?_push_of_some _ e) (Heap.get?_push_size _ rfl) (by rw [hsz]; exact aAa) fun c o c1 c2 c3 c4 e=>Heap.get?_push_of_some _ (hk₄ c o c1 c3 c4 e)
theorem bJg {z TI TO i1 i2 l1 l2:Addr} {k:Nat} {xs:Array Value} {a b f0:Value} {bb:Bool} {Q:Fin→Shared→Prop} (hh:A.handled=none) (D:ZipApart z TI TO i1 i2 l1 l2)
    (hz:ZR s.heap z TI TO f0 bb) (hf:ZF f0) (hTI:IsPair s.heap TI (.ref i1) (.ref i2)) (h1:s.heap.IsTupleIter i1 l1 k) (hl1:s.heap.IsTuple l1 xs) (hx:xs[k]?=none)
    (hE:∀ h' e,(∀ c o,c≠z→c≠i1→s.heap.get? c=some o→h'.get? c=some o)→(∃ o,h'.get? e=some o∧o.cls=.type "StopIteration")→E (.ref e) { s with heap:=h' }) :
    wpAny (model prog w) A (Builtin.«zip.__next__» ⟨[.ref z],[]⟩) Q E s:=by
  show wpAny _ _ (field (.ref z) 2 >>= _) _ _ _
  refine wpAny_bind (wpAny_field hz rfl (x:=.bool false) rfl ?_)
  show wpAny _ _ (field (.ref z) 3 >>= _) _ _ _
  refine wpAny_bind (wpAny_field hz rfl (x:=.ref TI) rfl ?_)
  refine wpAny_bind (wpAny_seqItems hTI rfl ?_)
  show wpAny _ _ (Builtin.SmallTypes.ownedTupleIsFree (.ref z) >>= _) _ _ _
  refine wpAny_bind (aUu hz hf ?_ fun h₁ b' hz₁ hs₁=>?_)
  · simp -iota only [if_true]
    refine wpAny_bind (wpAny_rule ?_)
    refine wpAny_bind (wpAny_field hz rfl (x:=.ref TO) rfl ?_)
    refine wpAny_bind (wpAny_setField_rec hz (by simp) fun h₁ hz₁ hs₁=>?_)
    replace hz₁:ZR h₁ z TI TO .ellipsis bb:=hz₁
    refine wpAny_bind ?_
    simp -iota only [List.zipIdx_cons,List.zipIdx_nil,List.forIn_cons,List.forIn_nil]; dsimp only
    refine wpAny_bind (wpAny_bind (wpAny_onRaise ?_))
    show wpAny _ _ (Builtin.SmallTypes.nextOf (.ref i1) >>= _) _ _ _
    refine wpAny_bind (aJf hh (h1.extBut hs₁.extBut D.i1z) (hl1.extBut hs₁.extBut D.l1z) hx fun h₂ e hs₂ he=>?_)
    obtain ⟨oe,hoe,hce⟩:=he
    have hz₂:ZR h₂ z TI TO .ellipsis bb:=hs₂ _ _ D.i1z.symm hz₁
    have hez:e≠z:=fun x=>by subst x; rw [hz₂] at hoe; cases hoe; simp at hce
    refine wpAny_setField_rec hz₂ (by simp) fun h₃ _ hs₃=>hE h₃ e (fun c o c1 c3 x=>hs₃.extBut _ _ c1 (hs₂ _ _ c3 (hs₁.extBut _ _ c1 x))) ⟨oe,hs₃.extBut _ _ hez hoe,hce⟩
  · simp -iota only [Bool.false_eq_true,if_false]
    refine wpAny_bind ?_
    simp -iota only [List.forIn_toArray,List.forIn_cons,List.forIn_nil]
    refine wpAny_bind (wpAny_bind (wpAny_holding ?_))
    show wpAny _ _ (Builtin.SmallTypes.nextOf (.ref i1) >>= _) _ _ _
    refine wpAny_bind (aJf hh (h1.extBut hs₁.extBut D.i1z) (hl1.extBut hs₁.extBut D.l1z) hx fun h₂ e hs₂ he=>?_)
    exact hE h₂ e (fun c o c1 c3 x=>hs₂ _ _ c3 (hs₁.extBut _ _ c1 x)) he
theorem bEt {z TI TO i1 i2 l1 l2:Addr} {k:Nat} {xs ys:Array Value} {x y a b f0:Value} {bb:Bool} {Q:Option Value→Shared→Prop} (D:ZipApart z TI TO i1 i2 l1 l2)
    (hz:ZR s.heap z TI TO f0 bb) (hf:ZF f0) (hTI:IsPair s.heap TI (.ref i1) (.ref i2)) (hTO:IsPair s.heap TO a b)
    (h1:s.heap.IsTupleIter i1 l1 k) (h2:s.heap.IsListIter i2 l2 k) (hl1:s.heap.IsTuple l1 xs) (hl2:s.heap.IsList l2 ys) (hx:xs[k]?=some x) (hy:ys[k]?=some y)
    (hQ:∀ h' T f0' b',ZR h' z TI TO f0' b'→ZF f0'→(∃ a b,IsPair h' TO a b)→h'.IsTupleIter i1 l1 (k+1)→h'.IsListIter i2 l2 (k+1)→IsPair h' T x y→s.heap.get? T=none →
      (∀ c o,c≠z→c≠TO→c≠i1→c≠i2→s.heap.get? c=some o→h'.get? c=some o)→Q (some (.ref T)) { s with heap:=h' }) :
    wpAny (model prog w) A (pyNext (.ref z)) Q E s:=by
  have hT:s.TypeIs (.ref z) "zip" := ⟨_,hz,rfl⟩
  unfold pyNext
  exact wpAny_bind (wpAny_attempt (wpAny_callSpecial?_slot (name:=Str.ofString "__next__") hT F.slot_zip_next (wpAny_call_entry F.slot_zip_next hT F.entry_zip_next
      (bEu D hz hf hTI hTO h1 h2 hl1 hl2 hx hy fun h' T f b a1 a2 a3 a4 a5 a6 a7 a8=>wpAny_pure (hQ h' T f b a1 a2 a3 a4 a5 a6 a7 a8)) (F.args_zip_next_1 _))))
theorem bEs {z TI TO i1 i2 l1 l2:Addr} {k:Nat} {xs:Array Value} {a b f0:Value} {bb:Bool} {Q:Option Value→Shared→Prop} (hh:A.handled=none) (D:ZipApart z TI TO i1 i2 l1 l2)
    (hz:ZR s.heap z TI TO f0 bb) (hf:ZF f0) (hTI:IsPair s.heap TI (.ref i1) (.ref i2)) (h1:s.heap.IsTupleIter i1 l1 k) (hl1:s.heap.IsTuple l1 xs) (hx:xs[k]?=none)
    (hQ:∀ h',(∀ c o,c≠z→c≠i1→s.heap.get? c=some o→h'.get? c=some o)→Q none { s with heap:=h' }):wpAny (model prog w) A (pyNext (.ref z)) Q E s:=by
  have hT:s.TypeIs (.ref z) "zip" := ⟨_,hz,rfl⟩
  unfold pyNext
  refine wpAny_bind (wpAny_attempt (wpAny_callSpecial?_slot (name:=Str.ofString "__next__") hT F.slot_zip_next (wpAny_call_entry F.slot_zip_next hT F.entry_zip_next (bJg (a:=a) (b:=b) hh D hz hf hTI h1 hl1 hx fun h' e hk he=>?_) (F.args_zip_next_1 _))))
  obtain ⟨o,ho,hc⟩:=he
  refine wpAny_bind (wpAny_isInstance (T := "StopIteration") (b:=true) ⟨o,ho,hc⟩ isSubtype_stop ?_)
  exact wpAny_pure (hQ _ hk)
theorem aUt {z TI TO:Addr} {f0:Value} {bb:Bool} {Q:Value→Shared→Prop} (hz:ZR s.heap z TI TO f0 bb) (h:Q (.ref z) s):wpAny (model prog w) A (pyIter (.ref z)) Q E s:=by
  have hT:s.TypeIs (.ref z) "zip" := ⟨_,hz,rfl⟩
  refine wpAny_pyIter_slot hT F.slot_zip_iter (wpAny_call_entry F.slot_zip_iter hT F.entry_zip_iter ?_ (F.args_zip_iter_1 _))
  show wpAny _ _ (ret (.ref z)) _ _ s
  exact wpAny_pure ⟨_,rfl, "zip",_,hT,F.slot_zip_next.lookup,h⟩
theorem zp_go {target:Expr} {z TI TO:Addr} {f0 v:Value} {bb:Bool} {Q:Unit→Shared→Prop} (hz:ZR s.heap z TI TO f0 bb) (hf:ZF f0)
    (hQ:∀ h' f,ZR h' z TI TO f bb→ZF f→Heap.SameBut z s.heap h'→Q () { s with heap:=h' }):wpAny (model prog w) A (letOwnedTupleGo target (.ref z) v) Q E s:=by
  have keep:Q () s:=hQ _ _ hz hf ⟨rfl,fun _ _=>rfl⟩
  have body:∀ a:Addr,wpAny (model prog w) A (do
      let o ← load z
      match o.cls,o.data with
      | .type n,.fields vs =>
        if ["enumerate", "zip", "dict_itemiterator", "dict_reverseitemiterator", "odict_iterator", "itertools.zip_longest", "itertools.pairwise"].contains n && vs[0]? == some (rawInt a) then
          rule "for.unpacks-the-owned-tuple"
          updateField z 0 .none
        else pure ()
      | _,_=>pure ():Sem Unit) Q E s:=fun a=>by
    refine wpAny_bind (wpAny_load hz ?_)
    dsimp only
    split
    · refine wpAny_bind (wpAny_rule ?_)
      show wpAny _ _ (setField (.ref z) 0 .none) Q E s
      exact wpAny_setField_rec hz (by simp) fun h' e1 e2=>hQ h' _ e1 (.inl rfl) e2
    · exact wpAny_pure keep
  unfold letOwnedTupleGo
  cases target <;> first | exact wpAny_pure keep | (cases v <;> first | exact wpAny_pure keep | exact body _)
end
noncomputable abbrev zpH1 (h:Heap) (l1:Addr):Heap:=h.push { cls:=.type "tuple_iterator",data:=.fields #[.ref l1,.int 0 0] }
noncomputable abbrev zpH2 (h:Heap) (l1 l2:Addr):Heap:=(zpH1 h l1).push { cls:=.type "list_iterator",data:=.fields #[.ref l2,.int 0 0] }
noncomputable abbrev zpH3 (h:Heap) (l1 l2:Addr):Heap:=(zpH2 h l1 l2).push { cls:=.type "tuple",data:=.seq #[.ref h.objs.size,.ref (zpH1 h l1).objs.size] }
noncomputable abbrev zpH4 (h:Heap) (l1 l2:Addr):Heap:=(zpH3 h l1 l2).push { cls:=.type "tuple",data:=.seq #[.none,.none] }
noncomputable abbrev zpH5 (h:Heap) (l1 l2:Addr):Heap:=(zpH4 h l1 l2).push { cls:=.type "zip",data:=.fields #[.none,.bool false,.bool false,.ref (zpH2 h l1 l2).objs.size,.ref (zpH3 h l1 l2).objs.size] }
theorem aZk (l1 l2:Addr) (xs ys:Array Value) :
    Meets (Builtin.«zip.__new__» ⟨[.type "zip",.ref l1,.ref l2],[]⟩) (fun _ R s=>s.heap.IsTuple l1 xs∧s.heap.IsList l2 ys∧R (.ok (.ret (.ref (zpH4 s.heap l1 l2).objs.size))) { s with heap:=zpH5 s.heap l1 l2 }) :=
  .of_wp fun prog w A R s h=>by
    obtain ⟨hp,g,d,tk,os⟩:=s; obtain ⟨hl1,hl2,h⟩:=h
    have hsub:=sub_zip
    have hL1:Heap.IsTuple (Shared.heap ⟨hp,g,d,tk,os⟩) l1 xs:=hl1
    have hL2:Heap.IsList (Shared.heap ⟨hp.push { cls:=.type "tuple_iterator",data:=.fields #[.ref l1,.int 0 0] },g,d,tk,os⟩) l2 ys:=Heap.IsList.push hl2 _
    wp_walk using wpAny_pyIter_tuple hL1,wpAny_pyIter_list hL2
    exact ⟨_,rfl,h⟩
section
variable {prog:Program} {w:World} {A:Around} {E:Value→Shared→Prop} {s:Shared}
theorem bEv {l1 l2:Addr} {xs ys:Array Value} {Q:Value→Shared→Prop} (hl1:s.heap.IsTuple l1 xs) (hl2:s.heap.IsList l2 ys)
    (h:∀ h',ZR h' (s.heap.objs.size+4) (s.heap.objs.size+2) (s.heap.objs.size+3) .none false→IsPair h' (s.heap.objs.size+2) (.ref s.heap.objs.size) (.ref (s.heap.objs.size+1)) →
      IsPair h' (s.heap.objs.size+3) .none .none→h'.IsTupleIter s.heap.objs.size l1 0→h'.IsListIter (s.heap.objs.size+1) l2 0 →
      (∀ c o,s.heap.get? c=some o→h'.get? c=some o)→Q (.ref (s.heap.objs.size+4)) { s with heap:=h' }) :
    wpAny (model prog w) A (call (.type "zip") [.ref l1,.ref l2]) Q E s:=by
  refine callType_new F.called_zip (by decide) (F.typeCall_zip_2 _ _) (F.newCall_zip_2 _ _) (fun obj=>F.args_object_init_3 obj _ _) F.entry_zip_new (aZk l1 l2 xs ys) ⟨hl1,hl2,?_⟩
  have z1:(zpH1 s.heap l1).objs.size=s.heap.objs.size+1:=Heap.size_push ..
  have z2:(zpH2 s.heap l1 l2).objs.size=s.heap.objs.size+2:=by rw [Heap.size_push,z1]
  have z3:(zpH3 s.heap l1 l2).objs.size=s.heap.objs.size+3:=by rw [Heap.size_push,z2]
  have z4:(zpH4 s.heap l1 l2).objs.size=s.heap.objs.size+4:=by rw [Heap.size_push,z3]
  have up:∀ {h:Heap} {o:Obj} {c x},h.get? c=some x→(h.push o).get? c=some x:=fun e=>Heap.get?_push_of_some _ e
  have g5:(zpH5 s.heap l1 l2).get? (zpH4 s.heap l1 l2).objs.size=some _:=Heap.get?_push_size _ rfl
  have g4:(zpH5 s.heap l1 l2).get? (zpH3 s.heap l1 l2).objs.size=some _:=up (Heap.get?_push_size _ rfl)
  have g3:(zpH5 s.heap l1 l2).get? (zpH2 s.heap l1 l2).objs.size=some _:=up (up (Heap.get?_push_size _ rfl))
  have g2:(zpH5 s.heap l1 l2).get? (zpH1 s.heap l1).objs.size=some _:=up (up (up (Heap.get?_push_size _ rfl)))
  have g1:(zpH5 s.heap l1 l2).get? s.heap.objs.size=some _:=up (up (up (up (Heap.get?_push_size _ rfl))))
  show _∧_
  rw [z2,z3,z4] at g5
  rw [z1,z2] at g3
  rw [z3] at g4
  rw [z1] at g2
  rw [z4]
  exact ⟨⟨_,g5,rfl⟩,h _ g5 g3 g4 ⟨_,g1,rfl,rfl⟩ ⟨_,g2,rfl,rfl⟩ fun c o x=>up (up (up (up (up x))))⟩
end
end
section
variable {G:Cx} {n:Nat} {env:Env} {H:AHeap} {L:Loc}
theorem aUs {h:Heap} {z TI TO i1 i2 t a:Addr} {f:Value} {b:Bool} {i:Nat} (hz:ZR h z TI TO f b) (h1:h.IsTupleIter i1 t i) (h2:h.IsListIter i2 a i):∀ c∈[z,i1,i2],∀ o,h.get? c=some o→¬ aAz o:=fun c hc o e=>by
  obtain ⟨o1,e1,k1,_⟩:=h1
  obtain ⟨o2,e2,k2,_⟩:=h2
  rcases List.mem_cons.mp hc with rfl | hc
  · rw [hz] at e; cases e
    exact aDd (o:={ cls:=Value.type "zip",data:=_ }) (show Value.type "zip" ≠ Value.type "tuple" by decide) (show Value.type "zip" ≠ Value.type "range" by decide)
  rcases List.mem_cons.mp hc with rfl | hc
  · rw [e1] at e; cases e; exact aDd (by rw [k1]; decide) (by rw [k1]; decide)
  · rw [List.mem_singleton.mp hc,e2] at e; cases e; exact aDd (by rw [k2]; decide) (by rw [k2]; decide)
noncomputable def zipV (l l':List AV):List AV:=List.zipWith (fun a b=>.tup [a,b]) l l'
noncomputable def ZpK (h0:Heap) (z TI TO i1 i2 t a:Addr) (fq:List Addr) (i:Nat) (h:Heap):Prop:=∀ P:Prop,(∀ f b,ZR h z TI TO f b→ZF f→IsPair h TI (.ref i1) (.ref i2)→h.IsTupleIter i1 t i→h.IsListIter i2 a i→(∀ b,b=t∨b∈fq→∀ o,h0.get? b=some o→h.get? b=some o)→P)→P
theorem bIa {z TI TO i1 i2 t a:Addr} {l l':List AV} {vs:List Value} {k:Nat} {fq:List Addr} {h0:Heap} {H0:AHeap} (D:ZipApart z TI TO i1 i2 t a) (hll:l.length=l'.length) (e0:h0.get? t=some (tupO vs k)) (hlen:l.length=vs.length)
    (hv:∀ (H':AHeap) (h':Heap),FrzLe H0 H'→(∀ b∈fq,∀ o,h0.get? b=some o→h'.get? b=some o)→(∀ b∈fq,H' b=none)→VRs H' h' l vs) (nz:z∉fq) (n1:i1∉fq) (n2:i2∉fq) (nT:TO∉fq) :
    AWk G n z (zipV l l') (fun H=>FrzLe H0 H∧H TO=some .pair∧LA H a l') [z,i1,i2] (z :: i1 :: i2 :: TI :: t :: fq)
      (ZpK h0 z TI TO i1 i2 t a fq) where
  sub:=fun b hb=>by simp at hb ⊢; rcases hb with rfl | rfl | rfl <;> simp
  frame:=fun i h h' x hk=>x _ fun f b hz hf hTI h1 h2 kf _ k =>
    k f b (hk z (by simp) _ hz) hf (hk TI (by simp) _ hTI) (h1.at fun o e=>hk i1 (by simp) o e) (h2.at fun o e=>hk i2 (by simp) o e) (fun b hb o e=>hk b (by rcases hb with rfl | hb <;> simp [*]) o (kf b hb o e))
  soft:=fun i h x=>x _ fun f b hz hf hTI h1 h2 kf=>aUs hz h1 h2
  item:=fun i av A s H E Q ao hi x I0 src hfp hq=>x _ fun f b hz hf hTI h1 h2 kf=>by
    obtain ⟨s1,s2,s3⟩:=src
    have rs:=hv H s.heap s1 (fun b hb=>kf b (.inr hb)) (fun b hb=>hfp b (by simp [hb]))
    obtain ⟨ws,k',e',rs',il⟩:=la_at I0 s3
    rw [zipV,List.getElem?_zipWith] at hi
    cases c1:l[i]? with
    | none=>rw [c1] at hi; simp at hi
    | some x =>
      cases c2:l'[i]? with
      | none=>rw [c1,c2] at hi; simp at hi
      | some y =>
        rw [c1,c2] at hi
        cases hi
        obtain ⟨u,eu,ru⟩:=rs.get c1
        obtain ⟨v,ev,rv⟩:=rs'.get c2
        have so:=aUs hz h1 h2
        obtain ⟨a0,b0,hTO⟩:=I0.obj _ _ s2
        refine bEt D hz hf hTI hTO h1 h2 (xs:=vs.toArray) (ys:=ws.toArray) ⟨_,kf t (.inl rfl) _ e0,rfl,_,rfl⟩ il (by simpa using eu) (by simpa using ev) fun h' T f' b' g1 g2 g3 g4 g5 g6 g7 g8=>?_
        have kp:Kp H [z,i1,i2] s.heap h':=fun c o nc e=>by
          by_cases zz:c=TO
          · subst zz; exact .inr ⟨s2,g3⟩
          · simp at nc; exact .inl (g8 c o nc.1 zz nc.2.1 nc.2.2 e)
        have m:Mon H s.heap H h':=⟨fun b o e q f=>⟨kp.off q (fun m=>so b m o e f) e,q⟩,fun _ _ _ q=>q⟩
        refine hq (.ref T) h' s.toks (.tup (n:=_) (vs:=[u,v]) g6 (I0.fresh g7) (.cons (ru.mono m) (.cons (rv.mono m) .nil)))
          (fun _ k=>k f' b' g1 g2 (g8 _ _ D.TIz D.TITO D.TIi1 D.TIi2 hTI) g4 g5 fun b hb o e=>kp.off ?_ ?_ (kf b hb o e)) kp fun c o e=>?_
        · exact hfp b (by rcases hb with rfl | hb <;> simp [*])
        · intro hm
          simp at hm
          rcases hb with rfl | hb
          · rcases hm with q | q | q
            · exact D.l1z q
            · exact D.l1i1 q
            · exact D.l1i2 q
          · rcases hm with rfl | rfl | rfl
            · exact nz hb
            · exact n1 hb
            · exact n2 hb
        · by_cases zz:c∈[z,i1,i2]
          · simp at zz
            rcases zz with rfl | rfl | rfl
            · exact ⟨_,g1⟩
            · obtain ⟨o,e,_⟩:=g4; exact ⟨_,e⟩
            · obtain ⟨o,e,_⟩:=g5; exact ⟨_,e⟩
          · rcases kp c o zz e with e | ⟨_,_,_,e⟩ <;> exact ⟨_,e⟩
  done:=fun A s H E Q ao x I0 src hq=>x _ fun f b hz hf hTI h1 h2 kf=>by
    have hl:(zipV l l').length=vs.length:=by rw [zipV,List.length_zipWith]; exact om95 hll hlen
    rw [hl] at h1
    exact bEs (a:=.none) (b:=.none) ao.hd D hz hf hTI h1 (xs:=vs.toArray) ⟨_,kf t (.inl rfl) _ e0,rfl,_,rfl⟩ (by simp) fun h' k=>hq h' s.toks fun b o hb e=>k b o (fun q=>hb (by simp [q])) (fun q=>hb (by simp [q])) e
  go:=fun i target v A s E Q x hq=>x _ fun f b hz hf hTI h1 h2 kf=>by
    refine zp_go hz hf fun h' f' g1 g2 sb=>hq h' (fun _ k=>k f' b g1 g2 (sb.extBut _ _ D.TIz hTI) (h1.extBut sb.extBut D.i1z) (h2.extBut sb.extBut D.i2z) fun b hb o e=>sb.extBut _ _ ?_ (kf b hb o e)) (fun c o hc e=>sb.extBut _ _ (fun q=>hc (by simp [q])) e) fun c o e=>?_
    · rcases hb with rfl | hb
      · exact D.l1z
      · exact fun q=>nz (q ▸ hb)
    · by_cases q:c=z
      · subst q; exact ⟨_,g1⟩
      · exact ⟨o,sb.extBut _ _ q e⟩
  self:=fun i A s E Q x hq=>x _ fun f b hz hf _ _ _ _=>aUt hz hq
theorem aAt {h:Heap} (k:Nat):h.get? (h.objs.size+k)=none:=by
  cases q:h.get? (h.objs.size+k) with
  | none=>rfl
  | some o=>exact absurd (Heap.lt_size q) (Nat.not_lt.mpr (Nat.le_add_right _ _))
theorem aWu {o:AV} {l l':List AV} {Q:List AV→(AHeap→Prop)→AHeap→Prop} (he:IsL H o l') (hll:l.length=l'.length) (h:∀ D,H D=none→Q (zipV l l') (usr o l') (H.set D .pair)):IterC G n (.type "zip") [.tup l,o] H Q:=fun A s E vs ao I r=>by
  refine VRs.c r fun _ _ r rs=>?_
  ·
    cases rs with
    | cons r' rs =>
    refine VRs.n rs ?_
    refine VR.tl r fun _ _ _ e q rs=>?_
    ·
      rename_i t vs k
      obtain ⟨a,ws,k',rfl,la,e',rs',il⟩:=aRp he r' I
      obtain ⟨fq,f1,f2⟩:=rs.foot
      have hlen:=rs.length
      have D:=ktu_apart s.heap.objs.size t a (Heap.lt_size e) (Heap.lt_size e')
      have new:∀ k,s.heap.objs.size+k∉fq:=fun k m=>by obtain ⟨_,o,e,_⟩:=f1 _ m; rw [aAt] at e; cases e
      have hT:H (s.heap.objs.size+3)=none:=I.fresh (aAt 3)
      have hH:∀ k,k≠3→(H.set (s.heap.objs.size+3) .pair) (s.heap.objs.size+k)=none:=fun k z=>by
        rw [AHeap.set_ne (fun q=>z (Nat.add_left_cancel q))]; exact I.fresh (aAt k)
      refine bEv (xs:=vs.toArray) ⟨_,e,rfl,_,rfl⟩ il fun h' hz hTI hTO h1 h2 kp=>?_
      have o1:∃ o,h'.get? s.heap.objs.size=some o:=let ⟨o,e,_⟩:=h1; ⟨o,e⟩
      have o2:∃ o,h'.get? (s.heap.objs.size+1)=some o:=let ⟨o,e,_⟩:=h2; ⟨o,e⟩
      refine aUt (s:={ s with heap:=h' }) hz ⟨s.heap.objs.size+4,zipV l l',_,[s.heap.objs.size+4,s.heap.objs.size,s.heap.objs.size+1],_,_,H.set (s.heap.objs.size+3) .pair,rfl,
        ⟨bIa (H0:=H.set (s.heap.objs.size+3) .pair) (h0:=s.heap) (k:=k) (fq:=fq) D hll e hlen (fun H' h'' fz k1 k2=>f2 H' h'' (fun b x fx ex=>fz b x fx (by rw [AHeap.set_ne (fun z=>by rw [z,hT] at ex; cases ex)]; exact ex)) k1 k2) (new 4) (new 0) (new 1) (new 3),
          (fun _ k=>k _ _ hz (.inl rfl) hTI h1 h2 fun b _ o e=>kp b o e),⟨aBo I (aAt 3) kp ⟨_,_,hTO⟩,aBj I (aAt 3) kp,Sm.mk s h' s.toks⟩,fun b hb=>?_,fun b hb=>?_⟩,
        ⟨usr o l',fun H' fz u=>⟨fz,fz _ _ rfl AHeap.set_same,aVf he r' H' (fun b x fx ex=>fz b x fx (by rw [AHeap.set_ne (fun z=>by rw [z,hT] at ex; cases ex)]; exact ex)) u⟩,h _ hT⟩⟩
      · simp only [List.mem_cons] at hb
        rcases hb with rfl | rfl | rfl | rfl | rfl | hb
        · exact ⟨.inl (aAt 4),hH 4 (by decide),_,hz⟩
        · exact ⟨.inl (aAt 0),hH 0 (by decide),o1⟩
        · exact ⟨.inl (aAt 1),hH 1 (by decide),o2⟩
        · exact ⟨.inl (aAt 2),hH 2 (by decide),_,hTI⟩
        · exact ⟨.inr ⟨_,e,.inl ⟨rfl,_,_,rfl⟩⟩,by rw [AHeap.set_ne (fun z=>by rw [z,aAt] at e; cases e)]; exact q,_,kp _ _ e⟩
        · obtain ⟨g1,o,e,f⟩:=f1 b hb
          exact ⟨.inr ⟨o,e,f⟩,by rw [AHeap.set_ne (fun z=>by rw [z,aAt] at e; cases e)]; exact g1,_,kp _ _ e⟩
      · simp only [List.mem_cons,List.not_mem_nil,or_false] at hb
        rcases hb with rfl | rfl | rfl
        · exact aAt 4
        · exact aAt 0
        · exact aAt 1
end
section
variable {G:Cx} {n:Nat} {env:Env} {H:AHeap}
theorem aRy {x:Str} {xp pos:Pos} {e:Expr} {f:Value} {L:Loc} {Qv:Value→Shared→Prop} {A:Around} {s:Shared} {E:Value→Shared→Prop} (a:AOk A n) (I:Inv G H s.heap) (F:FrI G env L H s.heap) (hname:WE G n env (.Name x xp) H L fun v H1=>v=.val f∧H1=H) (c:aDw G f) (ho:okE e=true)
    (h:∀ s1,St G [] H s H s1→wpAny (MD G) A (eval e env) (fun u s2=>(KF G.w).In s2.heap∧wpAny (MD G) A (call f [u]) Qv E s2) E s1):wpAny (MD G) A (eval (.Call (.Name x xp) [e] [] pos) env) Qv E s:=by
  have he:starEach [e] env=(false,eval e env) :: starEach [] env:=aKo ho
  show wpAny (MD G) A (do callWith pos (← eval (.Name x xp) env) [] (backTo pos (starEach [e] env)) []) _ E s
  refine wpAny_bind (pvo (hname A s E a I F) fun fv s1 av H1 r t qq=>?_)
  obtain ⟨e1,e2⟩:=qq
  subst e1 e2
  cases r
  refine aDn c (by rw [he]; rfl) ?_
  rw [he]
  refine wpAny_bind (wpAny_mono (h s1 t) (fun u s2 ⟨k,q⟩=>?_) fun _ _ e=>e)
  exact wpAny_bind (wpAny_pure (wpAny_bind (wpAny_holding (wpAny_pure (wpAny_pure ⟨k,q⟩)))))
theorem bBo {h:Heap} {ns:List Int} {ws:List Value} {i:Nat} {v:Value} (r:VRs H h (ns.map .int) ws) (e:ws[i]?=some v):∃ t,v=.int (ns.getD i 0) t∧ns.getD i 0∈ns:=by
  induction ns generalizing ws i with
  | nil=>cases r; nomatch e
  | cons k ns ih =>
    cases r with
    | cons r rs =>
      cases i with
      | zero=>cases r with
        | int _ t=>exact ⟨t,(Option.some.inj e).symm,.head _⟩
      | succ i =>
        obtain ⟨t,h1,h2⟩:=ih rs e
        exact ⟨t,h1,List.mem_cons_of_mem _ h2⟩
theorem aIq {l:List Int} (h:l.Pairwise (·≤·)) (hn:l.Nodup):l.Pairwise (· < ·) :=
  (h.and (List.nodup_iff_pairwise_ne.mp hn)).imp fun h=>Int.lt_iff_le_and_ne.mpr h
theorem bAg {ns ns':List Int} (hb:∀ k∈ns,0≤k∧k≤4) (hp:ns'.Perm ((sel (fOf (fun i=>(ns.getD i 0).toNat) ns.length)).map fun k=>((k:Nat):Int))) (hw:ns'.Pairwise (·≤·)):ns'.Pairwise (· < ·)∧∀ k,k∈ns'↔k∈ns:=by
  constructor
  · refine aIq hw (hp.nodup_iff.mpr ?_)
    rw [List.nodup_iff_pairwise_ne,List.pairwise_map]
    refine (List.Pairwise.filter _ (List.nodup_iff_pairwise_ne.mp List.nodup_range)).imp fun h z=>h (om76 z)
  · intro k
    rw [hp.mem_iff,List.mem_map]
    constructor
    · rintro ⟨j,hj,rfl⟩
      obtain ⟨_,h2⟩:=mem_sel.mp hj
      obtain ⟨m,hm,e⟩:=List.any_eq_true.mp h2
      have hm:=List.mem_range.mp hm
      have e:(ns.getD m 0).toNat=j:=beq_iff_eq.mp e
      have hg:ns.getD m 0∈ns:=by rw [List.getD_eq_getElem?_getD,List.getElem?_eq_getElem hm]; exact List.getElem_mem hm
      have:=hb _ hg
      rw [show ((j:Nat):Int)=ns.getD m 0 from om98 e this.1]
      exact hg
    · intro hk
      have:=hb k hk
      obtain ⟨m,hm,e⟩:=List.mem_iff_getElem.mp hk
      refine ⟨k.toNat,mem_sel.mpr ⟨om96 this.2,List.any_eq_true.mpr ⟨m,List.mem_range.mpr hm,?_⟩⟩,om97 this.1⟩
      show ((ns.getD m 0).toNat == k.toNat)=true
      rw [List.getD_eq_getElem?_getD,List.getElem?_eq_getElem hm,Option.getD_some,e,beq_iff_eq]
theorem aVa {h:Heap} {ns:List Int} {ws:List Value} (x:IntsAre ws ns):VRs H h (ns.map .int) ws:=by
  induction x with
  | nil=>exact .nil
  | cons k t _ ih=>exact .cons (.int k t) ih
theorem aJu {L:Loc} {x y:Str} {xp yp pos pos2:Pos} {e:Expr} {Q:AV→AHeap→Prop} (hx:env.kindOf x=some .globalImplicit) (hm1:nsIn (KF G.w) mainGlobals x=some none) (hb1:bootBuiltins x=some (.builtin "sorted")) (hd1:x ≠ "__name__") (hg1:(x == ("__debug__" : Str))=false)
    (hy:env.kindOf y=some .globalImplicit) (hm2:nsIn (KF G.w) mainGlobals y=some none) (hb2:bootBuiltins y=some (.type "set")) (hd2:y ≠ "__name__") (hg2:(y == ("__debug__" : Str))=false) (ho:okE e=true)
    (h:WE G n env e H L fun v H1=>SsetQ v H1 Q) :
    WE G n env (.Call (.Name x xp) [.Call (.Name y yp) [e] [] pos2] [] pos) H L Q:=fun A s E a I F=>by
  refine aRy a I F (aCg hx hm1 hb1 hd1 ⟨rfl,rfl⟩ hg1) aAm rfl fun s1 t1=>?_
  refine aRy a t1.inv (F.step t1.ext) (aCg hy hm2 hb2 hd2 ⟨rfl,rfl⟩ hg2) aDy ho fun s2 t2=>?_
  refine pvo (h A s2 E a t2.inv ((F.step t1.ext).step t2.ext)) fun u s3 v H3 r3 t3 q3=>⟨t3.inv.frag,?_⟩
  have T3:=(t1.trans t2).trans t3
  unfold SsetQ at q3
  obtain ⟨ns,hv,hb,hl,hq⟩:=q3
  have go:∀ {T:String} {r:Addr} {OK:Heap→Prop} {ws:List Value},SetSrc PG G.w T r ws.length (fun i v=>ws[i]?=some v) OK→OK s3.heap→VRs H3 s3.heap (ns.map .int) ws →
      wpAny (MD G) A (call (.type "set") [.ref r]) (fun u s'=>(KF G.w).In s'.heap∧wpAny (MD G) A (call (.builtin "sorted") [u]) (PV G H s Q) E s') E s3:=fun {T r OK ws} K ok rs=>by
    have hlen:ns.length=ws.length:=by have:=rs.length; rwa [List.length_map] at this
    refine aYm K a.hd ok (fun i=>(ns.getD i 0).toNat) (fun i v hi hv=>?_) fun h4 tk l ep hX hl4 k4=>?_
    · obtain ⟨t,rfl,hm⟩:=bBo rs hv
      have:=hb _ hm
      refine ⟨om96 this.2,t,?_⟩
      rw [Int.toNat_of_nonneg this.1]
    · have I4:=T3.inv.of_keep k4
      refine ⟨I4.frag,aSq (s:={ s3 with heap:=h4,toks:=tk }) a.hd hX hl4 fun D out ns' h5 tk5 c nD hI hp hw eD k5=>?_⟩
      rw [← hlen] at hp
      obtain ⟨m1,m2⟩:=bAg hb hp hw
      have T4:=T3.trans (St.keep (own:=[]) (h':=h4) (t:=tk) T3.inv k4)
      have X:=aBj (o':=.list (ns'.map .int)) I4 nD k5
      exact ⟨.ref D,H3.set D (.list (ns'.map .int)),.val _,T4.trans ⟨aBo (o':=.list (ns'.map .int)) I4 nD k5 ⟨out,c,eD,aVa hI⟩,X,Sm.mk _ h5 tk5⟩,hq D ns' (I4.fresh nD) m1 m2⟩
  rcases hv with hv | rfl
  · refine aCx hv r3 T3.inv fun a' ws c la e' rs il=>?_
    exact go srcL il rs
  · cases r3 with
    | tup e' q rs=>exact go srcT ⟨_,e',rfl,_,rfl⟩ rs
theorem bGs {K:KI} {x:Str} {f:Addr} (E:EnvOk env K) (h:glV G.w K x (.ref f)=true):env.kindOf x=some .globalImplicit∧(x == ("__debug__" : Str))=false∧nsIn (KF G.w) mainGlobals x=some (some (.ref f))∧keepIn (KF G.w) (.ref f)=true:=by
  have c:=band h
  have d:=band c.2
  have e:=band d.2
  exact ⟨(E.kd x).trans (eq_of_beq c.1),bnot d.1,eq_of_beq e.1,e.2⟩
theorem glV_b {K:KI} {x:Str} {i:String} (E:EnvOk env K) (h:glV G.w K x (.builtin i)=true):env.kindOf x=some .globalImplicit∧(x == ("__debug__" : Str))=false∧nsIn (KF G.w) mainGlobals x=some none∧bootBuiltins x=some (.builtin i)∧x ≠ "__name__" := by
  have c:=band h
  have d:=band c.2
  have e:=band d.2
  have f:=band e.2
  exact ⟨(E.kd x).trans (eq_of_beq c.1),bnot d.1,eq_of_beq e.1,eq_of_beq f.1,bne_iff_ne.mp f.2⟩
theorem glV_t {K:KI} {x:Str} {i:String} (E:EnvOk env K) (h:glV G.w K x (.type i)=true):env.kindOf x=some .globalImplicit∧(x == ("__debug__" : Str))=false∧nsIn (KF G.w) mainGlobals x=some none∧bootBuiltins x=some (.type i)∧x ≠ "__name__" := by
  have c:=band h
  have d:=band c.2
  have e:=band d.2
  have f:=band e.2
  exact ⟨(E.kd x).trans (eq_of_beq c.1),bnot d.1,eq_of_beq e.1,eq_of_beq f.1,bne_iff_ne.mp f.2⟩
theorem aEa {es:List Expr} (h:(starEach es env).all (fun p=>!p.1)=true) (pos:Pos):(backTo pos (starEach es env)).any (·.1)=false∧(backTo pos (starEach es env)).all (fun p=>!p.1)=true:=by
  constructor
  · unfold backTo
    rw [List.any_map,← Bool.not_eq_true]
    intro z
    obtain ⟨p,m,e⟩:=List.any_eq_true.mp z
    have:=List.all_eq_true.mp h p m
    obtain ⟨b,t⟩:=p
    cases b with
    | true=>cases this
    | false=>cases e
  · unfold backTo
    rw [List.all_map]
    exact List.all_eq_true.mpr fun p m=>List.all_eq_true.mp h p m
theorem bGx {es:List Expr} (h:(starEach es env).all (fun p=>!p.1)=true) (hl:es.length < 30) (pos:Pos):methodCallForm (es.length+0) (backTo pos (starEach es env)) (backToKw pos (keywordEach [] env))=true:=by
  unfold methodCallForm
  rw [(aEa h pos).2]
  exact decide_eq_true hl
theorem aOf {L:Loc} {e:Expr} (h:aWd e=true):∀ whole,isTrue e env whole=(do let v ← whole; standAt e.pos; holding [v] (truthy v)):=fun whole=>by
  cases e with
  | UnaryOp op x p=>cases op <;> first | rfl | cases h
  | _=>first | rfl | cases h
theorem bJo {L:Loc} {e:Expr} {Q:List AV→(AHeap→Prop)→AHeap→Prop} (x:WI G n env e H L Q):WI G n env e H L fun vals src H1=>FrzLe H H1∧Q vals src H1:=fun A s E a I F=>by
  refine wpAny_mono (x A s E a I F) (fun u s1 h=>wpAny_mono h (fun it s2 hh=>hh.rec fun J vals src wr fp K H2 e P q=>⟨J,vals,src,wr,fp,K,H2,e,P,P.st.ext.frz,q⟩) fun _ _ e=>e) fun _ _ e=>e
theorem aKn {t:Expr} {r:List Expr} (h:okT t=true):assignEach (t :: r) env=(false,assign t env) :: assignEach r env:=by
  cases t <;> first | rfl | cases h
end
section
theorem aAk {c:Prop} [d:Decidable c] {F:c→Bool} (h:(if h:c then F h else false)=true):∃ h,F h=true:=by
  cases d with
  | isTrue p=>exact ⟨p,h⟩
  | isFalse p=>cases h
noncomputable def fBin (e:Expr) (F:Expr→Operator→Expr→Bool):Bool:=if h:e.ctorIdx=2 then Expr.BinOp.elim e h fun l o r _=>F l o r else false
@[elab_as_elim] theorem bHb {P:Expr→Prop} {e:Expr} {F:Expr→Operator→Expr→Bool} (c:fBin e F=true) (k:∀ l o r p,F l o r=true→P (.BinOp l o r p)):P e :=
  let ⟨h,c⟩:=aAk c
  Expr.BinOp.elim (motive_1:=fun e=>∀ h:e.ctorIdx=2,Expr.BinOp.elim e h (fun l o r _=>F l o r)=true→P e) e h (fun l o r p _ c=>k l o r p c) h c
noncomputable def fUna (e:Expr) (F:UnaryOp→Expr→Bool):Bool:=if h:e.ctorIdx=3 then Expr.UnaryOp.elim e h fun o x _=>F o x else false
@[elab_as_elim] theorem aXn {P:Expr→Prop} {e:Expr} {F:UnaryOp→Expr→Bool} (c:fUna e F=true) (k:∀ o x p,F o x=true→P (.UnaryOp o x p)):P e :=
  let ⟨h,c⟩:=aAk c
  Expr.UnaryOp.elim (motive_1:=fun e=>∀ h:e.ctorIdx=3,Expr.UnaryOp.elim e h (fun o x _=>F o x)=true→P e) e h (fun o x p _ z=>k o x p z) h c
noncomputable def fIfE (e:Expr) (F:Expr→Expr→Expr→Bool):Bool:=if h:e.ctorIdx=5 then Expr.IfExp.elim e h fun c x y _=>F c x y else false
@[elab_as_elim] theorem bHa {P:Expr→Prop} {e:Expr} {F:Expr→Expr→Expr→Bool} (c:fIfE e F=true) (k:∀ c x y p,F c x y=true→P (.IfExp c x y p)):P e :=
  let ⟨h,c⟩:=aAk c
  Expr.IfExp.elim (motive_1:=fun e=>∀ h:e.ctorIdx=5,Expr.IfExp.elim e h (fun c x y _=>F c x y)=true→P e) e h (fun c x y p _ z=>k c x y p z) h c
noncomputable def fDict (e:Expr) (F:List (Option Expr)→List Expr→Bool):Bool:=if h:e.ctorIdx=6 then Expr.Dict.elim e h fun ks vs _=>F ks vs else false
@[elab_as_elim] theorem aRx {P:Expr→Prop} {e:Expr} {F:List (Option Expr)→List Expr→Bool} (c:fDict e F=true) (k:∀ ks vs p,F ks vs=true→P (.Dict ks vs p)):P e :=
  let ⟨h,c⟩:=aAk c
  Expr.Dict.elim (motive_1:=fun e=>∀ h:e.ctorIdx=6,Expr.Dict.elim e h (fun ks vs _=>F ks vs)=true→P e) e h (fun ks vs p _ z=>k ks vs p z) h c
noncomputable def fLC (e:Expr) (F:Expr→List Comprehension→Scope→Bool):Bool:=if h:e.ctorIdx=8 then Expr.ListComp.elim e h fun el gs sc _=>F el gs sc else false
@[elab_as_elim] theorem aRw {P:Expr→Prop} {e:Expr} {F:Expr→List Comprehension→Scope→Bool} (c:fLC e F=true) (k:∀ el gs sc p,F el gs sc=true→P (.ListComp el gs sc p)):P e :=
  let ⟨h,c⟩:=aAk c
  Expr.ListComp.elim (motive_1:=fun e=>∀ h:e.ctorIdx=8,Expr.ListComp.elim e h (fun el gs sc _=>F el gs sc)=true→P e) e h (fun el gs sc p _ z=>k el gs sc p z) h c
noncomputable def fCmp (e:Expr) (F:Expr→List CmpOp→List Expr→Bool):Bool:=if h:e.ctorIdx=15 then Expr.Compare.elim e h fun l os rs _=>F l os rs else false
@[elab_as_elim] theorem aXq {P:Expr→Prop} {e:Expr} {F:Expr→List CmpOp→List Expr→Bool} (c:fCmp e F=true) (k:∀ l os rs p,F l os rs=true→P (.Compare l os rs p)):P e :=
  let ⟨h,c⟩:=aAk c
  Expr.Compare.elim (motive_1:=fun e=>∀ h:e.ctorIdx=15,Expr.Compare.elim e h (fun l os rs _=>F l os rs)=true→P e) e h (fun l os rs p _ z=>k l os rs p z) h c
noncomputable def fCall (e:Expr) (F:Expr→List Expr→List Keyword→Pos→Bool):Bool:=if h:e.ctorIdx=16 then Expr.Call.elim e h fun f es ks p  => F f es ks p else false
@[elab_as_elim] theorem aDj {P:Expr→Prop} {e:Expr} {F:Expr→List Expr→List Keyword→Pos→Bool} (c:fCall e F=true) (k:∀ f es ks p,F f es ks p=true→P (.Call f es ks p)):P e :=
  let ⟨h,c⟩:=aAk c
  Expr.Call.elim (motive_1:=fun e=>∀ h:e.ctorIdx=16,Expr.Call.elim e h (fun f es ks p  => F f es ks p)=true→P e) e h (fun f es ks p _ z=>k f es ks p z) h c
noncomputable def fCon (e:Expr) (F:Const→Bool):Bool:=if h:e.ctorIdx=19 then Expr.Constant.elim e h fun c _ _=>F c else false
@[elab_as_elim] theorem aXp {P:Expr→Prop} {e:Expr} {F:Const→Bool} (c:fCon e F=true) (k:∀ c kd p,F c=true→P (.Constant c kd p)):P e :=
  let ⟨h,c⟩:=aAk c
  Expr.Constant.elim (motive_1:=fun e=>∀ h:e.ctorIdx=19,Expr.Constant.elim e h (fun c _ _=>F c)=true→P e) e h (fun c kd p _ z=>k c kd p z) h c
noncomputable def fAtt (e:Expr) (F:Expr→Str→Pos→Bool):Bool:=if h:e.ctorIdx=20 then Expr.Attribute.elim e h fun o y p  => F o y p else false
@[elab_as_elim] theorem aPv {P:Expr→Prop} {e:Expr} {F:Expr→Str→Pos→Bool} (c:fAtt e F=true) (k:∀ o y p,F o y p=true→P (.Attribute o y p)):P e :=
  let ⟨h,c⟩:=aAk c
  Expr.Attribute.elim (motive_1:=fun e=>∀ h:e.ctorIdx=20,Expr.Attribute.elim e h (fun o y p  => F o y p)=true→P e) e h (fun o y p _ z=>k o y p z) h c
noncomputable def fSub (e:Expr) (F:Expr→Expr→Bool):Bool:=if h:e.ctorIdx=21 then Expr.Subscript.elim e h fun v s _=>F v s else false
@[elab_as_elim] theorem aLi {P:Expr→Prop} {e:Expr} {F:Expr→Expr→Bool} (c:fSub e F=true) (k:∀ v s p,F v s=true→P (.Subscript v s p)):P e :=
  let ⟨h,c⟩:=aAk c
  Expr.Subscript.elim (motive_1:=fun e=>∀ h:e.ctorIdx=21,Expr.Subscript.elim e h (fun v s _=>F v s)=true→P e) e h (fun v s p _ z=>k v s p z) h c
noncomputable def fNam (e:Expr) (F:Str→Bool):Bool:=if h:e.ctorIdx=23 then Expr.Name.elim e h fun x _=>F x else false
@[elab_as_elim] theorem aLj {P:Expr→Prop} {e:Expr} {F:Str→Bool} (c:fNam e F=true) (k:∀ x p,F x=true→P (.Name x p)):P e :=
  let ⟨h,c⟩:=aAk c
  Expr.Name.elim (motive_1:=fun e=>∀ h:e.ctorIdx=23,Expr.Name.elim e h (fun x _=>F x)=true→P e) e h (fun x p _ z=>k x p z) h c
noncomputable def fLst (e:Expr) (F:List Expr→Bool):Bool:=if h:e.ctorIdx=24 then Expr.List.elim e h fun es _=>F es else false
@[elab_as_elim] theorem bGz {P:Expr→Prop} {e:Expr} {F:List Expr→Bool} (c:fLst e F=true) (k:∀ es p,F es=true→P (.List es p)):P e :=
  let ⟨h,c⟩:=aAk c
  Expr.List.elim (motive_1:=fun e=>∀ h:e.ctorIdx=24,Expr.List.elim e h (fun es _=>F es)=true→P e) e h (fun es p _ z=>k es p z) h c
noncomputable def fTup (e:Expr) (F:List Expr→Bool):Bool:=if h:e.ctorIdx=25 then Expr.Tuple.elim e h fun es _ _=>F es else false
@[elab_as_elim] theorem aLh {P:Expr→Prop} {e:Expr} {F:List Expr→Bool} (c:fTup e F=true) (k:∀ es kd p,F es=true→P (.Tuple es kd p)):P e :=
  let ⟨h,c⟩:=aAk c
  Expr.Tuple.elim (motive_1:=fun e=>∀ h:e.ctorIdx=25,Expr.Tuple.elim e h (fun es _ _=>F es)=true→P e) e h (fun es kd p _ z=>k es kd p z) h c
noncomputable def fSli (e:Expr) (F:Option Expr→Option Expr→Option Expr→Bool):Bool:=if h:e.ctorIdx=26 then Expr.Slice.elim e h fun a b c _=>F a b c else false
@[elab_as_elim] theorem aXo {P:Expr→Prop} {e:Expr} {F:Option Expr→Option Expr→Option Expr→Bool} (c:fSli e F=true) (k:∀ a b c p,F a b c=true→P (.Slice a b c p)):P e :=
  let ⟨h,c⟩:=aAk c
  Expr.Slice.elim (motive_1:=fun e=>∀ h:e.ctorIdx=26,Expr.Slice.elim e h (fun a b c _=>F a b c)=true→P e) e h (fun a b c p _ z=>k a b c p z) h c
noncomputable def fBoo (e:Expr) (F:BoolOp→List Expr→Pos→Bool):Bool:=if h:e.ctorIdx=0 then Expr.BoolOp.elim e h fun o es p  => F o es p else false
@[elab_as_elim] theorem aLk {P:Expr→Prop} {e:Expr} {F:BoolOp→List Expr→Pos→Bool} (c:fBoo e F=true) (k:∀ o es p,F o es p=true→P (.BoolOp o es p)):P e :=
  let ⟨h,c⟩:=aAk c
  Expr.BoolOp.elim (motive_1:=fun e=>∀ h:e.ctorIdx=0,Expr.BoolOp.elim e h (fun o es p  => F o es p)=true→P e) e h (fun o es p _ z=>k o es p z) h c
noncomputable def sRet (e:Stmt) (F:Option Expr→Bool):Bool:=if h:e.ctorIdx=3 then Stmt.Return.elim e h fun e _=>F e else false
@[elab_as_elim] theorem aVp {P:Stmt→Prop} {e:Stmt} {F:Option Expr→Bool} (c:sRet e F=true) (k:∀ e p,F e=true→P (.Return e p)):P e :=
  let ⟨h,c⟩:=aAk c
  Stmt.Return.elim (motive_2:=fun e=>∀ h:e.ctorIdx=3,Stmt.Return.elim e h (fun e _=>F e)=true→P e) e h (fun e p _ z=>k e p z) h c
noncomputable def sAsg (e:Stmt) (F:List Expr→Expr→Pos→Bool):Bool:=if h:e.ctorIdx=5 then Stmt.Assign.elim e h fun ts v p  => F ts v p else false
@[elab_as_elim] theorem aOz {P:Stmt→Prop} {e:Stmt} {F:List Expr→Expr→Pos→Bool} (c:sAsg e F=true) (k:∀ ts v p,F ts v p=true→P (.Assign ts v p)):P e :=
  let ⟨h,c⟩:=aAk c
  Stmt.Assign.elim (motive_2:=fun e=>∀ h:e.ctorIdx=5,Stmt.Assign.elim e h (fun ts v p  => F ts v p)=true→P e) e h (fun ts v p _ z=>k ts v p z) h c
noncomputable def sFor (e:Stmt) (F:Expr→Expr→List Stmt→List Stmt→Bool):Bool:=if h:e.ctorIdx=9 then Stmt.For.elim e h fun t i b o _=>F t i b o else false
@[elab_as_elim] theorem bFx {P:Stmt→Prop} {e:Stmt} {F:Expr→Expr→List Stmt→List Stmt→Bool} (c:sFor e F=true) (k:∀ t i b o p,F t i b o=true→P (.For t i b o p)):P e :=
  let ⟨h,c⟩:=aAk c
  Stmt.For.elim (motive_2:=fun e=>∀ h:e.ctorIdx=9,Stmt.For.elim e h (fun t i b o _=>F t i b o)=true→P e) e h (fun t i b o p _ z=>k t i b o p z) h c
noncomputable def sWhi (e:Stmt) (F:Expr→List Stmt→List Stmt→Bool):Bool:=if h:e.ctorIdx=11 then Stmt.While.elim e h fun c b o _=>F c b o else false
@[elab_as_elim] theorem bFw {P:Stmt→Prop} {e:Stmt} {F:Expr→List Stmt→List Stmt→Bool} (c:sWhi e F=true) (k:∀ c b o p,F c b o=true→P (.While c b o p)):P e :=
  let ⟨h,c⟩:=aAk c
  Stmt.While.elim (motive_2:=fun e=>∀ h:e.ctorIdx=11,Stmt.While.elim e h (fun c b o _=>F c b o)=true→P e) e h (fun c b o p _ z=>k c b o p z) h c
noncomputable def sIf (e:Stmt) (F:Expr→List Stmt→List Stmt→Bool):Bool:=if h:e.ctorIdx=12 then Stmt.If.elim e h fun c x y _=>F c x y else false
@[elab_as_elim] theorem bKb {P:Stmt→Prop} {e:Stmt} {F:Expr→List Stmt→List Stmt→Bool} (c:sIf e F=true) (k:∀ c x y p,F c x y=true→P (.If c x y p)):P e :=
  let ⟨h,c⟩:=aAk c
  Stmt.If.elim (motive_2:=fun e=>∀ h:e.ctorIdx=12,Stmt.If.elim e h (fun c x y _=>F c x y)=true→P e) e h (fun c x y p _ z=>k c x y p z) h c
noncomputable def sExp (e:Stmt) (F:Expr→Bool):Bool:=if h:e.ctorIdx=24 then Stmt.Expr.elim e h fun e _=>F e else false
@[elab_as_elim] theorem bFy {P:Stmt→Prop} {e:Stmt} {F:Expr→Bool} (c:sExp e F=true) (k:∀ e p,F e=true→P (.Expr e p)):P e :=
  let ⟨h,c⟩:=aAk c
  Stmt.Expr.elim (motive_2:=fun e=>∀ h:e.ctorIdx=24,Stmt.Expr.elim e h (fun e _=>F e)=true→P e) e h (fun e p _ z=>k e p z) h c
noncomputable def l1 {α:Type} (l:List α) (F:α→Bool):Bool:=match l with
  | [a]=>F a
  | _=>false
theorem l1_ok {α:Type} {P:List α→Prop} {l:List α} {F:α→Bool} (c:l1 l F=true) (k:∀ a,F a=true→P [a]):P l:=match l,c with
  | [a],c=>k a c
noncomputable def l2 {α:Type} (l:List α) (F:α→α→Bool):Bool:=match l with
  | [a,b]=>F a b
  | _=>false
theorem l2_ok {α:Type} {P:List α→Prop} {l:List α} {F:α→α→Bool} (c:l2 l F=true) (k:∀ a b,F a b=true→P [a,b]):P l:=match l,c with
  | [a,b],c=>k a b c
noncomputable def l0 {α:Type} (l:List α) (b:Bool):Bool:=match l with
  | []=>b
  | _=>false
theorem l0_ok {α:Type} {P:List α→Prop} {l:List α} {b:Bool} (c:l0 l b=true) (k:b=true→P []):P l:=match l,c with
  | [],c=>k c
noncomputable def lc {α:Type} (l:List α) (F:α→List α→Bool):Bool:=match l with
  | a :: r=>F a r
  | []=>false
theorem lc_ok {α:Type} {P:List α→Prop} {l:List α} {F:α→List α→Bool} (c:lc l F=true) (k:∀ a r,F a r=true→P (a :: r)):P l:=match l,c with
  | a :: r,c=>k a r c
noncomputable def oS {α:Type} (o:Option α) (F:α→Bool):Bool:=match o with
  | some a=>F a
  | none=>false
theorem oS_ok {α:Type} {P:Option α→Prop} {o:Option α} {F:α→Bool} (c:oS o F=true) (k:∀ a,F a=true→P (some a)):P o:=match o,c with
  | some a,c=>k a c
noncomputable def oN {α:Type} (o:Option α) (b:Bool):Bool:=match o with
  | some _=>false
  | none=>b
theorem oN_ok {α:Type} {P:Option α→Prop} {o:Option α} {b:Bool} (c:oN o b=true) (k:b=true→P none):P o:=match o,c with
  | none,c=>k c
structure Pl where
  G:Cx
  n:Nat
  env:Env
  K:KI
  S:List Str
  E:EnvOk env K
  hn:S.Nodup
noncomputable abbrev Pl.we (p:Pl) (e:Expr) (H:AHeap) (L:LS) (Q:AV→AHeap→Prop):Prop:=WE p.G p.n p.env e H (locOf p.S L) Q
noncomputable abbrev Pl.wes (p:Pl) (es:List Expr) (H:AHeap) (L:LS) (Q:List AV→AHeap→Prop):Prop:=WEs p.G p.n p.env es H (locOf p.S L) fun vs H1=>vs.length=es.length∧Q vs H1
noncomputable abbrev Pl.wt (p:Pl) (e:Expr) (H:AHeap) (L:LS) (Q:Bool→AHeap→Prop):Prop:=WT p.G p.n p.env e H (locOf p.S L) Q
noncomputable def inS (S:List Str) (Q:LS→AHeap→Prop) (H:AHeap) (Lc:Loc):Prop:=∃ L,Lc=locOf S L∧Q L H
noncomputable abbrev Pl.aw (p:Pl) (e:Expr) (v:AV) (H:AHeap) (L:LS) (Q:LS→AHeap→Prop):Prop:=AW p.G p.n p.env e v H (locOf p.S L) (inS p.S Q)
noncomputable abbrev Pl.aws (p:Pl) (es:List Expr) (vs:List AV) (H:AHeap) (L:LS) (Q:LS→AHeap→Prop):Prop:=AWs p.G p.n p.env es vs H (locOf p.S L) (inS p.S Q)
noncomputable abbrev Pl.wi (p:Pl) (e:Expr) (H:AHeap) (L:LS) (Q:List AV→(AHeap→Prop)→AHeap→Prop):Prop:=WI p.G p.n p.env e H (locOf p.S L) (IterQ Q)
structure IE where
  ve:Cx→Nat→LS→AHeap→(AV→AHeap→Prop)→Prop
  ck:World→KI→List Str→Expr→Bool
  ok:∀ (p:Pl) {e:Expr} {H:AHeap} {L:LS} {Q:AV→AHeap→Prop},ck p.G.w p.K p.S e=true→ve p.G p.n L H Q→p.we e H L Q
structure IEs where
  ve:Cx→Nat→LS→AHeap→(List AV→AHeap→Prop)→Prop
  ck:World→KI→List Str→List Expr→Bool
  ok:∀ (p:Pl) {es:List Expr} {H:AHeap} {L:LS} {Q:List AV→AHeap→Prop},ck p.G.w p.K p.S es=true→ve p.G p.n L H Q→p.wes es H L Q
  st:∀ {w:World} {K:KI} {S:List Str} {es:List Expr} {env:Env},ck w K S es=true→(starEach es env).all (fun p=>!p.1)=true
structure IT where
  ve:Cx→Nat→LS→AHeap→(Bool→AHeap→Prop)→Prop
  ck:World→KI→List Str→Expr→Bool
  ok:∀ (p:Pl) {e:Expr} {H:AHeap} {L:LS} {Q:Bool→AHeap→Prop},ck p.G.w p.K p.S e=true→ve p.G p.n L H Q→p.wt e H L Q
  nl:Bool:=false
  nlo:nl=true→∀ {G:Cx} {n:Nat} {L:LS} {H:AHeap} {Q:Bool→AHeap→Prop},ve G n L H Q→Q true H
structure ITg where
  ve:Cx→Nat→AV→LS→AHeap→(LS→AHeap→Prop)→Prop
  ck:World→KI→List Str→Expr→Bool
  ok:∀ (p:Pl) {e:Expr} {v:AV} {H:AHeap} {L:LS} {Q:LS→AHeap→Prop},ck p.G.w p.K p.S e=true→ve p.G p.n v L H Q→p.aw e v H L Q
structure ITgs where
  fit:List AV→Bool
  ve:Cx→Nat→List AV→LS→AHeap→(LS→AHeap→Prop)→Prop
  ck:World→KI→List Str→List Expr→Bool
  ok:∀ (p:Pl) {es:List Expr} {vs:List AV} {H:AHeap} {L:LS} {Q:LS→AHeap→Prop},ck p.G.w p.K p.S es=true→ve p.G p.n vs L H Q→p.aws es vs H L Q
  st:∀ {w:World} {K:KI} {S:List Str} {es:List Expr} {env:Env},ck w K S es=true→(assignEach es env).findIdx? (·.1)=none
  len:∀ {w:World} {K:KI} {S:List Str} {es:List Expr} {vs:List AV},ck w K S es=true→fit vs=true→es.length=vs.length
structure IIt where
  ve:Cx→Nat→LS→AHeap→(List AV→(AHeap→Prop)→AHeap→Prop)→Prop
  ck:World→KI→List Str→Expr→Bool
  ok:∀ (p:Pl) {e:Expr} {H:AHeap} {L:LS} {Q:List AV→(AHeap→Prop)→AHeap→Prop},ck p.G.w p.K p.S e=true→ve p.G p.n L H Q→p.wi e H L Q
section
variable (G:Cx) (n:Nat)
noncomputable abbrev VE (e:IE):=e.ve G n
noncomputable abbrev VEs (e:IEs):=e.ve G n
noncomputable abbrev VT (e:IT):=e.ve G n
noncomputable abbrev VTg (e:ITg):=e.ve G n
end
noncomputable def conF (e:Expr) (c:Const):Bool:=fCon e fun d=>d == c
theorem aHv {P:Expr→Prop} {e:Expr} {c:Const} (h:conF e c=true) (k:∀ j p,P (.Constant c j p)):P e :=
  aXp h fun d j p z=>(eq_of_beq z:d=c) ▸ k j p
noncomputable def litOk (a:AV) (e:Expr):Bool:=match a with
  | .int j=>conF e (.int j) || fUna e fun o x=>o == .USub && conF x (.int (-j))
  | .str y=>conF e (.str y)
  | .val v=>(match v with
    | .none=>conF e .none
    | .bool b=>conF e (.bool b)
    | _=>false)
  | _=>false
theorem bKj (p:Pl) {a:AV} {e:Expr} {H:AHeap} {L:LS} {Q:AV→AHeap→Prop} (c:litOk a e=true) (h:Q a H):p.we e H L Q:=by
  cases a with
  | int j =>
    rcases Bool.or_eq_true_iff.mp c with c | c
    · exact aHv (P:=fun e=>p.we e H L Q) c fun _ _=>bDu h
    · exact aXn c fun o x q c=>(eq_of_beq (band c).1:o=.USub) ▸ aHv (P:=fun x=>p.we (.UnaryOp .USub x q) H L Q) (band c).2 fun _ _=>bJq (bDu (bFo (by rw [Int.neg_neg]; exact h)))
  | str y=>exact aHv (P:=fun e=>p.we e H L Q) c fun _ _=>bJs h
  | val v=>cases v with
    | none=>exact aHv (P:=fun e=>p.we e H L Q) c fun _ _=>bFe h
    | bool b=>exact aHv (P:=fun e=>p.we e H L Q) c fun _ _=>bFi h
    | _=>cases c
  | _=>cases c
theorem s_var (p:Pl) {i:Nat} {x:Str} {pos:Pos} {H:AHeap} {L:LS} {Q:AV→AHeap→Prop} (c:rdV p.K p.S i x=true) (h:VarQ (lget L i) H Q):p.we (.Name x pos) H L Q:=by
  obtain ⟨c1,c2⟩:=band c
  obtain ⟨c2,c3⟩:=band c2
  have e:=aHc (L:=L) p.hn (eq_of_beq c1)
  cases hv:lget L i with
  | none=>rw [hv] at h; exact h.elim
  | some v =>
    rw [hv] at h e
    rcases Bool.or_eq_true_iff.mp c2 with c2 | c2
    · exact aZt ((p.E.kd x).trans (eq_of_beq c2)) e h (bnot c3)
    · have c2:=eq_of_beq c2
      obtain ⟨c,hc,_⟩:=p.E.cl x c2
      exact bFh ((p.E.kd x).trans c2) hc e h (bnot c3)
theorem s_wr (p:Pl) {i:Nat} {x:Str} {H:AHeap} {L:LS} {v:AV} {Q:LS→AHeap→Prop} (c:wrV p.K p.S i x=true) (h:Q (lset L i v) H):AN p.G p.n p.env x v H (locOf p.S L) (inS p.S Q):=by
  obtain ⟨c1,c2⟩:=band c
  have c1:=eq_of_beq c1
  rcases Bool.or_eq_true_iff.mp c2 with c2 | c2
  · exact aSg ((p.E.kd x).trans (eq_of_beq c2)) ⟨_,aEq p.hn c1,h⟩
  · have c3:=eq_of_beq (band c2).1
    obtain ⟨c,hc,hl⟩:=p.E.cl x c3
    exact bIi ((p.E.kd x).trans c3) hc (hl (band c2).2) ⟨_,aEq p.hn c1,h⟩
noncomputable def IE.lit (a:AV):IE where
  ve _ _ _ H Q:=Q a H
  ck _ _ _ e:=litOk a e
  ok p _ _ _ _ c h:=bKj p c h
noncomputable def IE.var (i:Nat):IE where
  ve _ _ L H Q:=VarQ (lget L i) H Q
  ck _ K S e:=fNam e fun x=>rdV K S i x
  ok p _ _ _ _ c h:=aLj c fun _ _ c=>s_var p c h
noncomputable def IE.bin (op:Operator) (a b:IE):IE where
  ve G n L H Q:=a.ve G n L H fun x H1=>b.ve G n L H1 fun y H2=>BinQ G n op x y H2 Q
  ck w K S e:=fBin e fun l o r=>o == op && (a.ck w K S l && b.ck w K S r)
  ok p e H L Q c h:=bHb c fun l o r _ c=>by
    obtain rfl:o=op:=eq_of_beq (band c).1
    exact bJv ((a.ok p (band (band c).2).1 h).mono fun x H1 h1=>(b.ok p (band (band c).2).2 h1).mono fun y H2 h2=>binq h2)
noncomputable def cmpF (w:World) (K:KI) (S:List Str) (op:CmpOp) (a b:IE) (e:Expr):Bool:=fCmp e fun l os rs=>l1 os fun o=>l1 rs fun r=>o == op && (okE r && (a.ck w K S l && b.ck w K S r))
@[elab_as_elim] theorem aYi {P:Expr→Prop} {w:World} {K:KI} {S:List Str} {op:CmpOp} {a b:IE} {e:Expr} (c:cmpF w K S op a b e=true) (k:∀ l r p,okE r=true→a.ck w K S l=true→b.ck w K S r=true→P (.Compare l [op] [r] p)):P e :=
  aXq c fun l os rs p c=>l1_ok (P:=fun os=>P (.Compare l os rs p)) c fun o c=>l1_ok (P:=fun rs=>P (.Compare l [o] rs p)) c fun r c=>by
    obtain rfl:o=op:=eq_of_beq (band c).1
    exact k l r p (band (band c).2).1 (band (band (band c).2).2).1 (band (band (band c).2).2).2
noncomputable def IE.cmp (op:CmpOp) (a b:IE):IE where
  ve G n L H Q:=a.ve G n L H fun x H1=>b.ve G n L H1 fun y H2=>CmpQ G n op x y H2 Q
  ck w K S e:=cmpF w K S op a b e
  ok p e H L Q c h:=aYi c fun l r _ c0 c1 c2=>bJu ((a.ok p c1 h).mono fun x H1 h1=>(b.ok p c2 h1).mono fun y H2 h2=>cmpq h2) (aGy c0)
noncomputable def IE.sub (a b:IE):IE where
  ve G n L H Q:=a.ve G n L H fun x H1=>b.ve G n L H1 fun y H2=>GetI G n x y H2 Q
  ck w K S e:=fSub e fun v s=>okE s && (a.ck w K S v && b.ck w K S s)
  ok p e H L Q c h:=aLi c fun v s _ c=>bJr ((a.ok p (band (band c).2).1 h).mono fun x H1 h1=>(b.ok p (band (band c).2).2 h1).mono fun y H2 h2=>getq (band c).1 h2)
noncomputable def IE.upto (a b:IE):IE where
  ve G n L H Q:=a.ve G n L H fun x H1=>b.ve G n L H1 fun y H2=>UptoQ G x y H2 Q
  ck w K S e:=fSub e fun v s=>fSli s fun lo up st=>oN lo (oN st (oS up fun u=>a.ck w K S v && b.ck w K S u))
  ok p e H L Q c h:=aLi c fun v s q c=>aXo (P:=fun s=>p.we (.Subscript v s q) H L Q) c fun lo up st r c=>oN_ok (P:=fun lo=>p.we (.Subscript v (.Slice lo up st r) q) H L Q) c fun c=>oN_ok (P:=fun st=>p.we (.Subscript v (.Slice none up st r) q) H L Q) c fun c=>oS_ok (P:=fun up=>p.we (.Subscript v (.Slice none up none r) q) H L Q) c fun u c =>
    aJv ((a.ok p (band c).1 h).mono fun x H1 h1=>b.ok p (band c).2 h1)
noncomputable def IE.fromOn (a b:IE):IE where
  ve G n L H Q:=a.ve G n L H fun x H1=>b.ve G n L H1 fun y H2=>FromQ x y H2 Q
  ck w K S e:=fSub e fun v s=>fSli s fun lo up st=>oN up (oN st (oS lo fun u=>a.ck w K S v && b.ck w K S u))
  ok p e H L Q c h:=aLi c fun v s q c=>aXo (P:=fun s=>p.we (.Subscript v s q) H L Q) c fun lo up st r c=>oN_ok (P:=fun up=>p.we (.Subscript v (.Slice lo up st r) q) H L Q) c fun c=>oN_ok (P:=fun st=>p.we (.Subscript v (.Slice lo none st r) q) H L Q) c fun c=>oS_ok (P:=fun lo=>p.we (.Subscript v (.Slice lo none none r) q) H L Q) c fun u c =>
    aJw ((a.ok p (band c).1 h).mono fun x H1 h1=>b.ok p (band c).2 h1)
noncomputable def IE.attr (a:IE) (x:Str):IE where
  ve G n L H Q:=a.ve G n L H fun v H1=>AtL G x v H1 Q
  ck w K S e:=fAtt e fun o y _=>y == x && (okE o && a.ck w K S o)
  ok p e H L Q c h:=aPv c fun o y _ c=>by
    obtain rfl:y=x:=eq_of_beq (band c).1
    exact bFj (a.ok p (band (band c).2).2 h) (aRb (band (band c).2).1)
noncomputable def IE.tup (l:IEs):IE where
  ve G n L H Q:=l.ve G n L H fun vs H1=>Q (.tup vs) H1
  ck w K S e:=fTup e fun es=>decide (es.length≤1000) && l.ck w K S es
  ok p e H L Q c h:=aLh c fun es _ _ c=>aZs ((l.ok p (band c).2 h).mono fun vs H1 h1=>⟨h1.1 ▸ of_decide_eq_true (band c).1,h1.2⟩)
noncomputable def IE.list (l:IEs):IE where
  ve G n L H Q:=l.ve G n L H fun vs H1=>∀ D,H1 D=none→Q (.val (.ref D)) (H1.set D (.list vs))
  ck w K S e:=fLst e fun es=>decide (es.length≤1000) && l.ck w K S es
  ok p e H L Q c h:=bGz c fun es _ c=>bFf ((l.ok p (band c).2 h).mono fun vs H1 h1=>⟨h1.1 ▸ of_decide_eq_true (band c).1,h1.2⟩)
noncomputable def IE.ite (t:IT) (a b:IE):IE where
  ve G n L H Q:=t.ve G n L H fun c H1=>cond c (a.ve G n L H1 Q) (b.ve G n L H1 Q)
  ck w K S e:=fIfE e fun c x y=>t.ck w K S c && (a.ck w K S x && b.ck w K S y)
  ok p e H L Q c h:=bHa c fun _ _ _ _ c=>aZu ((t.ok p (band c).1 h).mono fun _ H1 h1=>⟨fun hb=>a.ok p (band (band c).2).1 (tbt h1 hb),fun hb=>b.ok p (band (band c).2).2 (tbf h1 hb)⟩)
theorem bHm (p:Pl) {f:Value} {x:Str} {xp pos:Pos} {es:List Expr} {H:AHeap} {L:LS} {Q:AV→AHeap→Prop} (c:glV p.G.w p.K x f=true) (hs:(starEach es p.env).all (fun p=>!p.1)=true) (hw:p.wes es H L fun vs H2=>CW p.G p.n f vs H2 Q) :
    p.we (.Call (.Name x xp) es [] pos) H L Q:=by
  have hw:=hw.mono fun vs H1 h1=>h1.2
  cases f with
  | ref a =>
    obtain ⟨g1,g2,g3,g4⟩:=bGs p.E c
    exact aOi (aUy g1 g3 ⟨_,rfl,aSa g4,hw⟩ g2) fun pos=>(aEa hs pos).1
  | builtin i =>
    obtain ⟨g1,g2,g3,g4,g5⟩:=glV_b p.E c
    exact aOi (aCg g1 g3 g4 g5 ⟨_,rfl,aAm,hw⟩ g2) fun pos=>(aEa hs pos).1
  | type i =>
    obtain ⟨g1,g2,g3,g4,g5⟩:=glV_t p.E c
    exact aOi (aCg g1 g3 g4 g5 ⟨_,rfl,aDy,hw⟩ g2) fun pos=>(aEa hs pos).1
  | _=>cases (band (band c).2).2
noncomputable def callF (f:Expr) (es:List Expr) (ks:List Keyword) (F:Str→List Expr→Bool):Bool:=l0 ks (fNam f fun x=>F x es)
theorem aGq {P:Expr→List Expr→List Keyword→Prop} {f:Expr} {es:List Expr} {ks:List Keyword} {F:Str→List Expr→Bool} (c:callF f es ks F=true) (k:∀ x p,F x es=true→P (.Name x p) es []):P f es ks :=
  l0_ok (P:=fun ks=>P f es ks) c fun c=>aLj (P:=fun f=>P f es []) c fun x p c=>k x p c
noncomputable def IE.call (f:Value) (l:IEs):IE where
  ve G n L H Q:=l.ve G n L H fun vs H1=>CW G n f vs H1 Q
  ck w K S e:=fCall e fun g es ks _=>callF g es ks fun x es=>glV w K x f && l.ck w K S es
  ok p e H L Q c h:=aDj c fun g es ks pos c=>aGq (P:=fun g es ks=>p.we (.Call g es ks pos) H L Q) c fun x _ c=>bHm p (band c).1 (l.st (band c).2) (l.ok p (band c).2 h)
theorem bBg {G:Cx} {name:Str} {ov:AV} {H:AHeap} {K:Value→Prop} (h:MethQ G name ov H K):∃ f,Meth G H ov name f∧aDw G f∧K f:=by unfold MethQ at h; exact h
noncomputable def IE.meth (a:IE) (x:Str) (l:IEs):IE where
  ve G n L H Q:=a.ve G n L H fun v H1=>MethQ G x v H1 fun f=>l.ve G n L H1 fun vs H2=>CW G n f (v :: vs) H2 Q
  ck w K S e:=fCall e fun g es ks pos=>l0 ks (fAtt g fun o y ap=>(y == x && (okE o && (ap.endLine == pos.line && decide (es.length < 30)))) && (a.ck w K S o && l.ck w K S es))
  ok p e H L Q c h:=aDj c fun g es ks pos c=>l0_ok (P:=fun ks=>p.we (.Call g es ks pos) H L Q) c fun c=>aPv (P:=fun g=>p.we (.Call g es [] pos) H L Q) c fun o y ap c=>by
    obtain rfl:y=x:=eq_of_beq (band (band c).1).1
    have c0:=(band (band c).1).2
    have c1:=l.st (env:=p.env) (band (band c).2).2
    exact aUx ((a.ok p (band (band c).2).1 h).mono fun v H1 h1=>let ⟨f,m1,m2,m3⟩:=bBg h1; ⟨f,m1,m2,(l.ok p (band (band c).2).2 m3).mono fun vs H2 h2=>h2.2⟩) (aRb (band c0).1) (bGx c1 (of_decide_eq_true (band (band c0).2).2) pos) (band (band c0).2).1 (aEa c1 pos).1
theorem bCa (p:Pl) {k:Nat} {pos:Pos} {H:AHeap} {L:LS} {Q:AV→AHeap→Prop} (h:∀ D,H D=none→Q (.val (.ref D)) (H.set D (match k with | 0=>.idict [] | _=>.tdict []))):p.we (.Dict [] [] pos) H L Q:=by
  cases k with
  | zero=>exact aSk h
  | succ k=>exact aSj h
noncomputable def IE.dict0 (k:Nat):IE where
  ve _ _ _ H Q:=∀ D,H D=none→Q (.val (.ref D)) (H.set D (match k with | 0=>.idict [] | _=>.tdict []))
  ck _ _ _ e:=fDict e fun ks vs=>l0 ks (l0 vs true)
  ok p e H L Q c h:=aRx c fun ks vs q c=>l0_ok (P:=fun ks=>p.we (.Dict ks vs q) H L Q) c fun c=>l0_ok (P:=fun vs=>p.we (.Dict [] vs q) H L Q) c fun _=>bCa p h
noncomputable def strF (o:Option Expr) (x:Str):Bool:=oS o fun e=>fCon e fun c=>c == .str x
theorem aVe {P:Option Expr→Prop} {o:Option Expr} {x:Str} (c:strF o x=true) (k:∀ j p,P (some (.Constant (.str x) j p))):P o :=
  oS_ok c fun e c=>aXp (P:=fun e=>P (some e)) c fun c' j p z=>(eq_of_beq z:c'=.str x) ▸ k j p
noncomputable def IE.dict2 (x y:Str) (a b:IE):IE where
  ve G n L H Q:=a.ve G n L H fun v H1=>b.ve G n L H1 fun u H2=>∀ D,H2 D=none→Q (.val (.ref D)) (H2.set D (.sdict [(x,v),(y,u)]))
  ck w K S e:=fDict e fun ks vs=>l2 ks fun k1 k2=>l2 vs fun v1 v2=>strF k1 x && (strF k2 y && (x != y && (a.ck w K S v1 && b.ck w K S v2)))
  ok p e H L Q c h:=aRx c fun ks vs q c=>l2_ok (P:=fun ks=>p.we (.Dict ks vs q) H L Q) c fun k1 k2 c=>l2_ok (P:=fun vs=>p.we (.Dict [k1,k2] vs q) H L Q) c fun v1 v2 c=>by
    obtain ⟨c1,c⟩:=band c
    obtain ⟨c2,c⟩:=band c
    obtain ⟨c0,c⟩:=band c
    exact aVe (P:=fun k1=>p.we (.Dict [k1,k2] [v1,v2] q) H L Q) c1 fun _ _=>aVe (P:=fun k2=>p.we (.Dict [_,k2] [v1,v2] q) H L Q) c2 fun _ _=>aZv (bne_iff_ne.mp c0) ((a.ok p (band c).1 h).mono fun v H1 h1=>b.ok p (band c).2 h1)
noncomputable def IE.frz (a:IE):IE where
  ve G n L H Q:=a.ve G n L H fun v H1=>FrzQ v H1 Q
  ck w K S e:=a.ck w K S e
  ok p e H L Q c h:=bJt (a.ok p c h)
noncomputable def ssetF (f:Expr) (es:List Expr) (ks:List Keyword) (F:Str→Str→Expr→Bool):Bool:=callF f es ks fun x es=>l1 es fun e=>fCall e fun f es ks _=>callF f es ks fun y es=>l1 es fun u=>F x y u
noncomputable def IE.sset (a:IE):IE where
  ve G n L H Q:=a.ve G n L H fun v H1=>SsetQ v H1 Q
  ck w K S e:=fCall e fun f es ks _=>ssetF f es ks fun x y u=>(glV w K x (.builtin "sorted") && (glV w K y (.type "set") && okE u)) && a.ck w K S u
  ok p e H L Q c h:=aDj c fun g es ks pos c=>aGq (P:=fun g es ks=>p.we (.Call g es ks pos) H L Q) c fun x xp c=>l1_ok (P:=fun es=>p.we (.Call (.Name x xp) es [] pos) H L Q) c fun e c=>aDj (P:=fun e=>p.we (.Call (.Name x xp) [e] [] pos) H L Q) c fun g es ks po c =>
    aGq (P:=fun g es ks=>p.we (.Call (.Name x xp) [.Call g es ks po] [] pos) H L Q) c fun y yp c=>l1_ok (P:=fun es=>p.we (.Call (.Name x xp) [.Call (.Name y yp) es [] po] [] pos) H L Q) c fun u c=>by
      obtain ⟨c,c4⟩:=band c
      obtain ⟨c1,c⟩:=band c
      obtain ⟨g1,g2,g3,g4,g5⟩:=glV_b p.E c1
      obtain ⟨k1,k2,k3,k4,k5⟩:=glV_t p.E (band c).1
      exact aJu g1 g3 g4 g5 g2 k1 k3 k4 k5 k2 (band c).2 (a.ok p c4 h)
noncomputable def IEs.nil:IEs where
  ve _ _ _ H Q:=Q [] H
  ck _ _ _ es:=l0 es true
  ok p es H L Q c h:=l0_ok (P:=fun es=>p.wes es H L Q) c fun _=>bFd ⟨rfl,h⟩
  st {_ _ _ _ env} c:=l0_ok (P:=fun es=>(starEach es env).all (fun p=>!p.1)=true) c fun _=>rfl
noncomputable def IEs.cons (a:IE) (l:IEs):IEs where
  ve G n L H Q:=a.ve G n L H fun v H1=>l.ve G n L H1 fun vs H2=>Q (v :: vs) H2
  ck w K S es:=lc es fun e r=>okE e && (a.ck w K S e && l.ck w K S r)
  ok p es H L Q c h:=lc_ok (P:=fun es=>p.wes es H L Q) c fun e r c=>aZr ((a.ok p (band (band c).2).1 h).mono fun v H1 h1=>(l.ok p (band (band c).2).2 h1).mono fun vs H2 h2=>⟨congrArg (· + 1) h2.1,h2.2⟩) (aKo (band c).1)
  st {_ _ _ _ env} c:=lc_ok (P:=fun es=>(starEach es env).all (fun p=>!p.1)=true) c fun e r c=>by rw [aKo (band c).1,List.all_cons,l.st (band (band c).2).2]; rfl
theorem cmp_t {G:Cx} {n:Nat} {op:CmpOp} {x y:AV} {H:AHeap} {Q:Bool→AHeap→Prop} (h:CmpQ G n op x y H fun c H3=>TruQ G n c H3 Q):Bin G n (compareOp op) x y H fun c H3=>Tru G n c H3 Q:=fun A s E u v a I r1 r2 =>
  pvo (cmpq h A s E u v a I r1 r2) fun z s' cv H3 r t q=>⟨cv,H3,r,t,truq q⟩
noncomputable def IT.cmp (op:CmpOp) (a b:IE):IT where
  ve G n L H Q:=a.ve G n L H fun x H1=>b.ve G n L H1 fun y H2=>CmpQ G n op x y H2 fun c H3=>TruQ G n c H3 Q
  ck w K S e:=cmpF w K S op a b e
  ok p e H L Q c h:=aYi c fun l r _ c0 c1 c2=>bJk ((a.ok p c1 h).mono fun x H1 h1=>(b.ok p c2 h1).mono fun y H2 h2=>cmp_t h2) (aGy c0)
  nlo h:=Bool.noConfusion h
noncomputable def IT.chain (o q:CmpOp) (a b d:IE):IT where
  ve G n L H Q:=a.ve G n L H fun x H1=>b.ve G n L H1 fun y H2=>CmpQ G n o x y H2 fun c1 H3=>TruQ G n c1 H3 fun t H4=>cond t (d.ve G n L H4 fun z H5=>CmpQ G n q y z H5 fun c2 H6=>TruQ G n c2 H6 Q) (Q false H4)
  ck w K S e:=fCmp e fun x os rs=>l2 os fun o1 o2=>l2 rs fun y z=>o1 == o && (o2 == q && (okE z && (a.ck w K S x && (b.ck w K S y && d.ck w K S z))))
  ok p e H L Q c h:=aXq c fun x os rs po c=>l2_ok (P:=fun os=>p.wt (.Compare x os rs po) H L Q) c fun o1 o2 c=>l2_ok (P:=fun rs=>p.wt (.Compare x [o1,o2] rs po) H L Q) c fun y z c=>by
    obtain ⟨e1,k1⟩:=band c
    obtain ⟨e2,k2⟩:=band k1
    obtain ⟨c0,k3⟩:=band k2
    obtain ⟨c1,k⟩:=band k3
    obtain rfl:o1=o:=eq_of_beq e1
    obtain rfl:o2=q:=eq_of_beq e2
    exact aZn ((a.ok p c1 h).mono fun x H1 h1=>(b.ok p (band k).1 h1).mono fun y H2 h2=>fun A s E' u v a' I r1 r2=>pvo (cmpq h2 A s E' u v a' I r1 r2) fun z s' cv H3 r t q=>⟨cv,H3,r,t,fun A2 s2 E2 u2 a2 I2 r2=>pbo (truq q A2 s2 E2 u2 a2 I2 r2) fun b2 s3 H4 t4 q4=>⟨H4,t4,fun hb=>(d.ok p (band k).2 (tbt q4 hb)).mono fun z2 H5 h5=>cmp_t h5,tbf q4⟩⟩) (show lastMarks _ _=false from aGy c0)
  nlo h:=Bool.noConfusion h
noncomputable def IT.not (t:IT):IT where
  ve G n L H Q:=t.ve G n L H fun b H1=>Q (!b) H1
  ck w K S e:=fUna e fun o x=>o == .Not && t.ck w K S x
  ok p e H L Q c h:=aXn c fun o x q c=>(eq_of_beq (band c).1:o=.Not) ▸ bJj (t.ok p (band c).2 h)
  nlo h:=Bool.noConfusion h
noncomputable def IT.and (t l:IT):IT where
  ve G n L H Q:=t.ve G n L H fun b H1=>cond b (l.ve G n L H1 Q) (Q false H1)
  ck w K S e:=fBoo e fun o es q=>o == .And && lc es fun x r=>t.ck w K S x && l.ck w K S (.BoolOp .And r q)
  ok p e H L Q c h:=aLk c fun o es q c=>(eq_of_beq (band c).1:o=.And) ▸ lc_ok (P:=fun es=>p.wt (.BoolOp .And es q) H L Q) (band c).2 fun x r c=>bJm ((t.ok p (band c).1 h).mono fun b H1 h1=>⟨fun hb=>l.ok p (band c).2 (tbt h1 hb),tbf h1⟩)
  nlo h:=Bool.noConfusion h
noncomputable def IT.or (t l:IT):IT where
  ve G n L H Q:=t.ve G n L H fun b H1=>cond b (Q true H1) (l.ve G n L H1 Q)
  ck w K S e:=fBoo e fun o es q=>o == .Or && lc es fun x r=>t.ck w K S x && l.ck w K S (.BoolOp .Or r q)
  ok p e H L Q c h:=aLk c fun o es q c=>(eq_of_beq (band c).1:o=.Or) ▸ lc_ok (P:=fun es=>p.wt (.BoolOp .Or es q) H L Q) (band c).2 fun x r c=>wt_or ((t.ok p (band c).1 h).mono fun b H1 h1=>⟨fun hb=>l.ok p (band c).2 (tbf h1 hb),tbt h1⟩)
  nlo h:=Bool.noConfusion h
noncomputable def IT.tt:IT where
  ve _ _ _ H Q:=Q true H
  ck _ _ _ e:=fBoo e fun o es _=>o == .And && l0 es true
  ok p e H L Q c h:=aLk c fun o es q c=>(eq_of_beq (band c).1:o=.And) ▸ l0_ok (P:=fun es=>p.wt (.BoolOp .And es q) H L Q) (band c).2 fun _=>bEx h
  nl:=true
  nlo _ _ _ _ _ _ h:=h
noncomputable def IT.ff:IT where
  ve _ _ _ H Q:=Q false H
  ck _ _ _ e:=fBoo e fun o es _=>o == .Or && l0 es true
  ok p e H L Q c h:=aLk c fun o es q c=>(eq_of_beq (band c).1:o=.Or) ▸ l0_ok (P:=fun es=>p.wt (.BoolOp .Or es q) H L Q) (band c).2 fun _=>bJi h
  nlo h:=Bool.noConfusion h
noncomputable def IT.val (a:IE):IT where
  ve G n L H Q:=a.ve G n L H fun v H1=>TruQ G n v H1 Q
  ck w K S e:=aWd e && a.ck w K S e
  ok p e H L Q c h:=bJh ((a.ok p (band c).2 h).mono fun v H1 h1=>truq h1) (aOf (L:=locOf p.S L) (band c).1)
  nlo h:=Bool.noConfusion h
noncomputable def ITg.var (i:Nat):ITg where
  ve _ _ v L H Q:=Q (lset L i v) H
  ck _ K S e:=fNam e fun x=>wrV K S i x
  ok p e v H L Q c h:=aLj c fun x q c=>aYy (s_wr p c h)
noncomputable def ITg.attr (a:IE) (x:Str):ITg where
  ve G n v L H Q:=a.ve G n L H fun o H1=>SetA G n o x v H1 fun H2=>Q L H2
  ck w K S e:=fAtt e fun o y _=>y == x && a.ck w K S o
  ok p e v H L Q c h:=aPv c fun o y _ c=>by
    obtain rfl:y=x:=eq_of_beq (band c).1
    exact bIe ((a.ok p (band c).2 h).mono fun o H1 h1=>fun A s E u uv a I r1 r2=>puo (h1 A s E u uv a I r1 r2) fun _ _ H2 t q=>⟨H2,t,L,rfl,q⟩)
noncomputable def ITg.sub (a b:IE):ITg where
  ve G n v L H Q:=a.ve G n L H fun o H1=>b.ve G n L H1 fun i H2=>SetI G n o i v H2 fun H3=>Q L H3
  ck w K S e:=fSub e fun o i=>a.ck w K S o && b.ck w K S i
  ok p e v H L Q c h:=aLi c fun o i q c=>bLm ((a.ok p (band c).1 h).mono fun o H1 h1=>(b.ok p (band c).2 h1).mono fun i H2 h2=>fun A s E u ui uv a I r1 r2 r3=>wpAny_mono (h2 A s E u ui uv a I r1 r2 r3) (fun _ _ ⟨H3,t,q⟩=>⟨H3,t,L,rfl,q⟩) fun _ _ e=>e)
noncomputable def tupQ (v:AV) (F:List AV→Prop):Prop:=match v with
  | .tup vs=>F vs
  | _=>False
noncomputable def ifB (b:Bool) (P:Prop):Prop:=match b with
  | true=>P
  | false=>False
theorem aXc {b:Bool} {P:Prop} (h:ifB b P):b=true∧P:=by
  cases b with
  | true=>exact ⟨rfl,h⟩
  | false=>exact h.elim
theorem bFp {P:AV→Prop} {v:AV} {F:List AV→Prop} (h:tupQ v F) (k:∀ vs,F vs→P (.tup vs)):P v:=by
  cases v with
  | tup vs=>exact k vs h
  | _=>exact False.elim h
noncomputable def ITg.tup (l:ITgs):ITg where
  ve G n v L H Q:=tupQ v fun vs=>ifB (l.fit vs) (l.ve G n vs L H Q)
  ck w K S e:=fTup e fun es=>l.ck w K S es
  ok p e v H L Q c h:=aLh c fun es _ q c=>bFp (P:=fun v=>p.aw (.Tuple es _ q) v H L Q) h fun vs h=>bCp (l.len c (aXc h).1) (l.ok p c (aXc h).2) (l.st c)
noncomputable def ITgs.nil:ITgs where
  fit vs:=vs.isEmpty
  ve _ _ vs L H Q:=ifB vs.isEmpty (Q L H)
  ck _ _ _ es:=l0 es true
  ok p es vs H L Q c h:=l0_ok (P:=fun es=>p.aws es vs H L Q) c fun _=>bHz ⟨L,rfl,(aXc h).2⟩
  st {_ _ _ _ env} c:=l0_ok (P:=fun es=>(assignEach es env).findIdx? (·.1)=none) c fun _=>rfl
  len {_ _ _ _ vs} c f:=l0_ok (P:=fun es=>es.length=vs.length) c fun _=>by rw [List.isEmpty_iff.mp f]; rfl
noncomputable def ITgs.cons (t:ITg) (l:ITgs):ITgs where
  fit vs:=match vs with
    | []=>false
    | _ :: vs=>l.fit vs
  ve G n vs L H Q:=match vs with
    | []=>False
    | v :: vs=>t.ve G n v L H fun L1 H1=>l.ve G n vs L1 H1 Q
  ck w K S es:=lc es fun e r=>okT e && (t.ck w K S e && l.ck w K S r)
  ok p es vs H L Q c h:=lc_ok (P:=fun es=>p.aws es vs H L Q) c fun e r c=>by
    cases vs with
    | nil=>exact False.elim h
    | cons v vs=>exact bCm ((t.ok p (band (band c).2).1 h).mono fun H1 Lc ⟨L1,e1,q1⟩=>e1 ▸ l.ok p (band (band c).2).2 q1) (aKn (band c).1)
  st {_ _ _ _ env} c:=lc_ok (P:=fun es=>(assignEach es env).findIdx? (·.1)=none) c fun e r c=>by
    rw [aKn (band c).1,List.findIdx?_cons,l.st (band (band c).2).2]; rfl
  len {_ _ _ _ vs} c f:=lc_ok (P:=fun es=>es.length=vs.length) c fun e r c=>by
    cases vs with
    | nil=>cases f
    | cons v vs=>exact congrArg (· + 1) (l.len (band (band c).2).2 f)
noncomputable def IIt.val (a:IE):IIt where
  ve G n L H Q:=a.ve G n L H fun v H1=>IterU G n v H1 Q
  ck w K S e:=a.ck w K S e
  ok p e H L Q c h:=wi_of (a.ok p c h)
noncomputable def isBT (f:Value):Bool:=match f with
  | .builtin _=>true
  | .type _=>true
  | _=>false
theorem bBp (p:Pl) {f:Value} {x:Str} {xp pos:Pos} {es:List Expr} {H:AHeap} {L:LS} {Q:List AV→(AHeap→Prop)→AHeap→Prop} (c:(isBT f && glV p.G.w p.K x f)=true) (hs:(starEach es p.env).all (fun p=>!p.1)=true) (hw:p.wes es H L fun vs H2=>IterC p.G p.n f vs H2 Q) :
    p.wi (.Call (.Name x xp) es [] pos) H L Q:=by
  have hw:=hw.mono fun vs H1 h1=>h1.2
  obtain ⟨b,c⟩:=band c
  cases f with
  | builtin i =>
    obtain ⟨g1,g2,g3,g4,g5⟩:=glV_b p.E c
    exact aQp g1 g3 g4 aAm hw g5 g2 fun pos=>(aEa hs pos).1
  | type i =>
    obtain ⟨g1,g2,g3,g4,g5⟩:=glV_t p.E c
    exact aQp g1 g3 g4 aDy hw g5 g2 fun pos=>(aEa hs pos).1
  | _=>cases b
noncomputable def IIt.call (f:Value) (l:IEs):IIt where
  ve G n L H Q:=l.ve G n L H fun vs H1=>IterC G n f vs H1 Q
  ck w K S e:=fCall e fun g es ks _=>callF g es ks fun x es=>(isBT f && glV w K x f) && l.ck w K S es
  ok p e H L Q c h:=aDj c fun g es ks pos c=>aGq (P:=fun g es ks=>p.wi (.Call g es ks pos) H L Q) c fun x _ c=>bBp p (band c).1 (l.st (band c).2) (l.ok p (band c).2 h)
end
section
noncomputable def swapB (K:KI) (t v:Expr):Bool:=if h:v.ctorIdx=8 then Expr.ListComp.elim v h fun _ _ sc p =>
    (if h:t.ctorIdx=23 then Expr.Name.elim t h fun x tp=>K.kd x == some .local && (tp.line == p.line && !(sc.names.any fun (n,k)=>n == x && (k == .local || k == .cell))) else false)
  else false
noncomputable def aWa (e:Expr):Bool:=e.ctorIdx != 9 && e.ctorIdx != 10
theorem aSc {env:Env} {K:KI} (E:EnvOk env K):env.blockKind=.function:=by
  unfold Env.blockKind
  rw [E.kind]; rfl
theorem aQq {env:Env} {K:KI} (E:EnvOk env K) {t v:Expr} {line:Nat} (hv:aWa v=true):swapsWith v (some t) line env=pure (swapB K t v):=by
  cases v with
  | SetComp _ _ _ _=>cases hv
  | DictComp _ _ _ _ _=>cases hv
  | ListComp el gs sc p =>
    cases t with
    | Name x tp =>
      unfold swapsWith swapB
      dsimp only
      rw [aSc E,E.kd,Bool.and_assoc,Bool.and_assoc]
      rfl
    | _=>rfl
  | _=>rfl
noncomputable def swapF (c c2 c3 c4 c5:Bool) (ns:List Str):Option (Option (List Str)):=cond c (some none) (cond c2 (some none) (cond c3 (some none) (cond c4 (some none) (cond c5 none (some (some ns))))))
theorem swF {c d c2 c3 c4 c5:Bool} {ns:List Str} {r:Option (List Str)} {x:Sem (Option (List Str))} (hd:d=false) (h:swapF c c2 c3 c4 c5 ns=some r) :
    (if (c || d)=true then pure none else if c2=true then pure none else if c3=true then pure none else if c4=true then pure none else if c5=true then x else pure (some ns):Sem (Option (List Str)))=pure r:=by
  cases hd
  cases c with
  | true=>cases h; rfl
  | false=>cases c2 with
    | true=>cases h; rfl
    | false=>cases c3 with
      | true=>cases h; rfl
      | false=>cases c4 with
        | true=>cases h; rfl
        | false=>cases c5 with
          | true=>cases h
          | false=>cases h; rfl
noncomputable def aQr (kd:Str→Option NameKind) (ts:List Expr):List Str:=ts.filterMap fun x=>swappedStores.match_8 (fun _=>Option Str) x (fun id pos=>if (kd id == some NameKind.local && pos.line == (ts.head?.map (·.pos.line)).getD 0)=true then some id else none) fun _=>none
noncomputable def swapN (kd:Str→Option NameKind) (ts vs:List Expr):Option (Option (List Str)) :=
  swapF (!(ts.length == 2 || ts.length == 3) || vs.length != ts.length) (vs.any fun x=>swappedStores.match_5 (fun _=>Bool) x (fun _ _=>true) fun _=>false)
    ((aQr kd ts).length != ts.length || (aQr kd ts).eraseDups.length != (aQr kd ts).length) (vs.all (foldedForSure 8)) (vs.all (constantsAlone 8)) (aQr kd ts)
theorem aJd {env:Env} {K:KI} (E:EnvOk env K) {ts vs:List Expr} {k k':Nat} {p p':Pos} {r:Option (List Str)} (h:swapN K.kd ts vs=some r):swappedStores [.Tuple ts k p] (.Tuple vs k' p') env=pure r :=
  swF (d:=env.blockKind != .function) (by rw [aSc E]; rfl) (show swapN env.kindOf ts vs=some r from (funext E.kd:env.kindOf=K.kd) ▸ h)
noncomputable def noSw (K:KI) (t v:Expr):Bool:=if h:t.ctorIdx=25 then Expr.Tuple.elim t h fun ts _ _=>(if h:v.ctorIdx=25 then Expr.Tuple.elim v h fun vs _ _=>swapN K.kd ts vs == some none else true) else true
theorem bGe {env:Env} {K:KI} (E:EnvOk env K) {t v:Expr} (ht:okT t=true) (h:noSw K t v=true):swappedStores [t] v env=pure none:=by
  cases t with
  | Tuple ts k p =>
    cases v with
    | Tuple vs k' p'=>exact aJd E (eq_of_beq h)
    | _=>rfl
  | _=>first | rfl | cases ht
noncomputable def LQ (S:List Str) (Q:AFl→LS→AHeap→Prop) (f:AFl) (H:AHeap) (Lc:Loc):Prop:=∃ L,Lc=locOf S L∧Q f L H
section
variable {G:Cx} {n:Nat}
theorem s_ans {env:Env} {K:KI} {S:List Str} (E:EnvOk env K) (hn:S.Nodup) {Q:LS→AHeap→Prop} {is:List Nat} {names:List Str} {vs:List AV} {L:LS} {H:AHeap} (e:is.map (S[·]?)=names.map some) (hk:∀ x∈names,K.kd x=some .local) (hl:vs.length=is.length) (h:Q (aQv is vs L) H) :
    ANs G n env names vs H (locOf S L) fun H2 Lc=>∃ L2,Lc=locOf S L2∧Q L2 H2:=by
  induction is generalizing names vs L with
  | nil =>
    cases names with
    | nil=>exact ⟨L,rfl,by cases vs <;> exact h⟩
    | cons _ _=>nomatch e
  | cons i is ih =>
    cases names with
    | nil=>nomatch e
    | cons x names =>
      cases vs with
      | nil=>nomatch hl
      | cons v vs =>
        refine aSg ((E.kd x).trans (hk x (.head _))) ?_
        rw [aEq hn (List.cons.inj e).1]
        exact ih (List.cons.inj e).2 (fun y m=>hk y (.tail _ m)) (Nat.succ.inj hl) h
end
noncomputable abbrev Pl.ws (p:Pl) (st:Stmt) (H:AHeap) (L:LS) (Q:AFl→LS→AHeap→Prop):Prop:=WS p.G p.n p.env st H (locOf p.S L) (LQ p.S Q)
noncomputable abbrev Pl.wss (p:Pl) (sts:List Stmt) (H:AHeap) (L:LS) (Q:AFl→LS→AHeap→Prop):Prop:=WSs p.G p.n p.env sts H (locOf p.S L) (LQ p.S Q)
structure IC where
  ve:Cx→Nat→LS→AHeap→(AV→AHeap→Prop)→Prop
  ck:World→KI→List Str→Expr→Bool
  ok:∀ (p:Pl) {e:Expr} {H:AHeap} {L:LS} {Q:AV→AHeap→Prop},ck p.G.w p.K p.S e=true→ve p.G p.n L H Q→p.we e H L Q
  oka:∀ (p:Pl) {e:Expr} {y:Str} {py pos:Pos} {j:Nat} {H:AHeap} {L:LS} {Q:AFl→LS→AHeap→Prop},ck p.G.w p.K p.S e=true→wrV p.K p.S j y=true→swapsWith e (some (.Name y py)) pos.line p.env=pure true →
    ve p.G p.n L H (fun v H1=>Q .next (lset L j v) H1)→p.ws (.Assign [.Name y py] e pos) H L Q
noncomputable def compB (w:World) (K:KI) (S S':List Str) (m:List (Option Nat)) (tg:ITg) (it:IIt) (sc:Scope) (g:Comprehension):Bool :=
  g.is_async == 0 && (scOk K sc && (innOk K sc S S' m && (okE g.iter && (it.ck w K S g.iter && tg.ck w (aBx K sc) S' g.target))))
noncomputable def ifsB (f:IT) (w:World) (K:KI) (S:List Str) (ifs:List Expr):Bool:=match ifs with
  | []=>f.nl
  | c :: r=>l0 r (f.ck w K S c)
theorem bKr (p:Pl) {f:IT} {ifs:List Expr} {H:AHeap} {L:LS} {Q:Bool→AHeap→Prop} (c:ifsB f p.G.w p.K p.S ifs=true) (h:f.ve p.G p.n L H Q):CIf p.G p.n p.env ifs H (locOf p.S L) Q:=by
  cases ifs with
  | nil=>exact aYk (f.nlo c h)
  | cons e r=>exact l0_ok (P:=fun r=>CIf p.G p.n p.env (e :: r) H (locOf p.S L) Q) c fun c=>bHk (f.ok p c h)
theorem aDm {w:World} {K:KI} {S S':List Str} {m:List (Option Nat)} {tg:ITg} {it:IIt} {sc:Scope} {g:Comprehension} (c:compB w K S S' m tg it sc g=true) :
    g.is_async=0∧scOk K sc=true∧innOk K sc S S' m=true∧okE g.iter=true∧it.ck w K S g.iter=true∧tg.ck w (aBx K sc) S' g.target=true :=
  let ⟨a,c⟩:=band c; let ⟨b,c⟩:=band c; let ⟨d,c⟩:=band c; let ⟨e,c⟩:=band c; ⟨eq_of_beq a,b,d,e,(band c).1,(band c).2⟩
noncomputable def Pl.inn (p:Pl) {S':List Str} {m:List (Option Nat)} {sc:Scope} (b:scOk p.K sc=true) (d:innOk p.K sc p.S S' m=true) (C:Addr):Pl:=⟨p.G,p.n,cE sc (aDu sc p.env) C p.env,aBx p.K sc,S',(aCp p.E b).2 C,(aLa p.hn d []).1⟩
theorem aNp (p:Pl) {S':List Str} {m:List (Option Nat)} {tg:ITg} {it:IIt} {f:IT} {el:IE} {sc:Scope} {g:Comprehension} {elt:Expr} {H:AHeap} {L:LS} {Q:AV→AHeap→Prop} {K':List AV→AHeap→Prop}
    (c:compB p.G.w p.K p.S S' m tg it sc g=true) (cf:ifsB f p.G.w (aBx p.K sc) S' g.ifs=true) (ce:el.ck p.G.w (aBx p.K sc) S' elt=true) (k:∀ acc H2,(∀ D,H2 D=none→Q (.val (.ref D)) (H2.set D (.list acc)))→K' acc H2)
    (h:it.ve p.G p.n L H fun vals us H1=>CVq (fun v L H K=>tg.ve p.G p.n v L H K) (fun L H K=>f.ve p.G p.n L H K) (fun L H K=>el.ve p.G p.n L H K) us (compK Q) vals [] (inner m L) H1) :
    WI p.G p.n p.env g.iter H (locOf p.S L) fun vals src H1=>∀ C,CV p.G p.n (cE sc (aDu sc p.env) C p.env) g.target g.ifs elt src (fun acc H2 _=>K' acc H2) vals [] H1 (compL sc (locOf p.S L)):=by
  obtain ⟨_,b,d,_,ci,ct⟩:=aDm c
  exact (it.ok p ci h).mono fun vals src H1 hx C=>hx.elim fun us hx=>CV.weak (aLa p.hn d L).2 (CV.kt (fun acc H2 Lc hk=>hk.elim fun _ z=>k acc H2 z.2.2)
    (cv_of (env:=cE sc (aDu sc p.env) C p.env) (S:=S') (fun {v L H K} q=>tg.ok (p.inn b d C) ct q) (fun {L H K} q=>bKr (p.inn b d C) cf q) (fun {L H K} q=>el.ok (p.inn b d C) ce q) hx.1 hx.2))
theorem bEq (p:Pl) {y:Str} {py:Pos} {j:Nat} {L:LS} {Q:AFl→LS→AHeap→Prop} (c:wrV p.K p.S j y=true) (acc:List AV) (H2:AHeap) (z:∀ D,H2 D=none→Q .next (lset L j (.val (.ref D))) (H2.set D (.list acc))) :
    ∀ D,H2 D=none→AW p.G p.n p.env (.Name y py) (.val (.ref D)) (H2.set D (.list acc)) (locOf p.S L) fun H3 L3=>LQ p.S Q .next H3 L3:=fun D hD=>aYy (s_wr (Q:=fun L2 H2=>Q .next L2 H2) p c (z D hD))
theorem g_eta {g:Comprehension} (h:g.is_async=0):g=⟨g.target,g.iter,g.ifs,0⟩:=by
  cases g; cases h; rfl
noncomputable def IC.comp (S':List Str) (m:List (Option Nat)) (tg:ITg) (it:IIt) (f:IT) (el:IE):IC where
  ve G n L H Q:=it.ve G n L H fun vals us H1=>CVq (fun v L H K=>tg.ve G n v L H K) (fun L H K=>f.ve G n L H K) (fun L H K=>el.ve G n L H K) us (compK Q) vals [] (inner m L) H1
  ck w K S e:=fLC e fun elt gs sc=>l1 gs fun g=>compB w K S S' m tg it sc g && (ifsB f w (aBx K sc) S' g.ifs && el.ck w (aBx K sc) S' elt)
  ok p e H L Q c h:=aRw c fun elt gs sc q c=>l1_ok (P:=fun gs=>p.we (.ListComp elt gs sc q) H L Q) c fun g c=>by
    have z:=aDm (band c).1
    rw [g_eta z.1]
    exact bFg (aCp p.E z.2.1).1 (aNp p (band c).1 (band (band c).2).1 (band (band c).2).2 (fun _ _ z=>z) h) fun x=>aCr z.2.2.2.1
  oka p {e y py pos j H L Q} c cw hsw h:=aRw (P:=fun e=>swapsWith e (some (.Name y py)) pos.line p.env=pure true→p.ws (.Assign [.Name y py] e pos) H L Q) c (fun elt gs sc q c=>l1_ok (P:=fun gs=>swapsWith (.ListComp elt gs sc q) (some (.Name y py)) pos.line p.env=pure true→p.ws (.Assign [.Name y py] (.ListComp elt gs sc q) pos) H L Q) c fun g c=>by
    have z:=aDm (band c).1
    rw [g_eta z.1]
    exact fun hsw=>bFb (aCp p.E z.2.1).1 hsw (aNp p (band c).1 (band (band c).2).1 (band (band c).2).2 (bEq p cw) h) fun x=>aCr z.2.2.2.1) hsw
noncomputable def bEm (w:World) (K:KI) (S':List Str) (tg1:ITg) (it1:IIt) (g g1:Comprehension):Bool :=
  (g.ifs.isEmpty && (g1.ifs.isEmpty && (g1.is_async == 0 && okE g1.iter))) && (it1.ck w K S' g1.iter && tg1.ck w K S' g1.target)
theorem aJm (p:Pl) {S':List Str} {m:List (Option Nat)} {tg tg1:ITg} {it it1:IIt} {el:IE} {sc:Scope} {g g1:Comprehension} {elt:Expr} {H:AHeap} {L:LS} {Q:AV→AHeap→Prop} {K':List AV→AHeap→Prop}
    (c:compB p.G.w p.K p.S S' m tg it sc g=true) (cf:bEm p.G.w (aBx p.K sc) S' tg1 it1 g g1=true) (ce:el.ck p.G.w (aBx p.K sc) S' elt=true) (k:∀ acc H2,(∀ D,H2 D=none→Q (.val (.ref D)) (H2.set D (.list acc)))→K' acc H2)
    (h:it.ve p.G p.n L H fun vals us H1=>CVq2 (fun v L H K=>tg.ve p.G p.n v L H K) (fun L H K=>it1.ve p.G p.n L H K) (fun v L H K=>tg1.ve p.G p.n v L H K) (fun L H K=>el.ve p.G p.n L H K) us (compK Q) vals [] (inner m L) H1) :
    WI p.G p.n p.env g.iter H (locOf p.S L) fun vals src H1=>∀ C,CV2 p.G p.n (cE sc (aDu sc p.env) C p.env) g.target g1.iter g1.target [] elt src (fun acc H2 _=>K' acc H2) vals [] H1 (compL sc (locOf p.S L)):=by
  obtain ⟨_,b,d,_,ci,ct⟩:=aDm c
  have ci1:=(band (band cf).2).1
  have ct1:=(band (band cf).2).2
  exact (it.ok p ci h).mono fun vals src H1 hx C=>hx.elim fun us hx=>CV2.weak (aLa p.hn d L).2 (CV2.kt (fun acc H2 Lc hk=>hk.elim fun _ z=>k acc H2 z.2)
    (bLa (env:=cE sc (aDu sc p.env) C p.env) (S:=S') (fun {v L H K} q=>tg.ok (p.inn b d C) ct q) (fun {L H K} q=>it1.ok (p.inn b d C) ci1 q) (fun {v L H K} q=>tg1.ok (p.inn b d C) ct1 q) (fun {L H K} q=>el.ok (p.inn b d C) ce q) (fun q=>bJo q) hx.1 hx.2))
theorem aRt {g:Comprehension} (h:g.is_async=0) (h':g.ifs.isEmpty=true):g=⟨g.target,g.iter,[],0⟩:=by
  have:=g_eta h
  rwa [List.isEmpty_iff.mp h'] at this
noncomputable def IC.comp2 (S':List Str) (m:List (Option Nat)) (tg:ITg) (it:IIt) (tg1:ITg) (it1:IIt) (el:IE):IC where
  ve G n L H Q:=it.ve G n L H fun vals us H1=>CVq2 (fun v L H K=>tg.ve G n v L H K) (fun L H K=>it1.ve G n L H K) (fun v L H K=>tg1.ve G n v L H K) (fun L H K=>el.ve G n L H K) us (compK Q) vals [] (inner m L) H1
  ck w K S e:=fLC e fun elt gs sc=>l2 gs fun g g1=>compB w K S S' m tg it sc g && (bEm w (aBx K sc) S' tg1 it1 g g1 && el.ck w (aBx K sc) S' elt)
  ok p e H L Q c h:=aRw c fun elt gs sc q c=>l2_ok (P:=fun gs=>p.we (.ListComp elt gs sc q) H L Q) c fun g g1 c=>by
    have z:=aDm (band c).1
    have y:=band (band (band c).2).1
    have y2:=band y.1
    have y3:=band (band y2.2).2
    rw [aRt z.1 y2.1,aRt (eq_of_beq y3.1) (band y2.2).1]
    exact aZw (aCp p.E z.2.1).1 (aJm p (band c).1 (band (band c).2).1 (band (band c).2).2 (fun _ _ z=>z) h) (fun x=>aCr z.2.2.2.1) fun _ x=>aCr y3.2
  oka p {e y py pos j H L Q} c cw hsw h:=aRw (P:=fun e=>swapsWith e (some (.Name y py)) pos.line p.env=pure true→p.ws (.Assign [.Name y py] e pos) H L Q) c (fun elt gs sc q c=>l2_ok (P:=fun gs=>swapsWith (.ListComp elt gs sc q) (some (.Name y py)) pos.line p.env=pure true→p.ws (.Assign [.Name y py] (.ListComp elt gs sc q) pos) H L Q) c fun g g1 c=>by
    have z:=aDm (band c).1
    have y:=band (band (band c).2).1
    have y2:=band y.1
    have y3:=band (band y2.2).2
    rw [aRt z.1 y2.1,aRt (eq_of_beq y3.1) (band y2.2).1]
    exact fun hsw=>aZq (aCp p.E z.2.1).1 hsw (aJm p (band c).1 (band (band c).2).1 (band (band c).2).2 (bEq p cw) h) (fun x=>aCr z.2.2.2.1) fun _ x=>aCr y3.2) hsw
noncomputable def IC.e (c:IC):IE:=⟨c.ve,c.ck,c.ok⟩
noncomputable abbrev IE.comp (S':List Str) (m:List (Option Nat)) (tg:ITg) (it:IIt) (f:IT) (el:IE):IE:=(IC.comp S' m tg it f el).e
noncomputable abbrev IE.comp2 (S':List Str) (m:List (Option Nat)) (tg:ITg) (it:IIt) (tg1:ITg) (it1:IIt) (el:IE):IE:=(IC.comp2 S' m tg it tg1 it1 el).e
structure IS where
  ve:Cx→Nat→LS→AHeap→(AFl→LS→AHeap→Prop)→Prop
  ck:World→KI→List Str→(List Stmt→Bool)→List Stmt→Bool
  ok:∀ (p:Pl) {k:List Stmt→Bool} {sts:List Stmt} {H:AHeap} {L:LS} {nxt:LS→AHeap→Prop} {Q:AFl→LS→AHeap→Prop},ck p.G.w p.K p.S k sts=true→(∀ {rest:List Stmt} {L1:LS} {H1:AHeap},k rest=true→nxt L1 H1→p.wss rest H1 L1 Q)→ve p.G p.n L H (SeqQ nxt Q)→p.wss sts H L Q
structure ISs where
  ve:Cx→Nat→LS→AHeap→(AFl→LS→AHeap→Prop)→Prop
  ck:World→KI→List Str→List Stmt→Bool
  ok:∀ (p:Pl) {sts:List Stmt} {H:AHeap} {L:LS} {Q:AFl→LS→AHeap→Prop},ck p.G.w p.K p.S sts=true→ve p.G p.n L H Q→p.wss sts H L Q
section
variable (G:Cx) (n:Nat)
noncomputable abbrev VS (e:IS):=e.ve G n
noncomputable abbrev VSs (e:ISs):=e.ve G n
end
theorem bKf (p:Pl) {st:Stmt} {rest:List Stmt} {H:AHeap} {L:LS} {nxt:LS→AHeap→Prop} {Q:AFl→LS→AHeap→Prop} (h:p.ws st H L (SeqQ nxt Q)) (k:∀ {L1:LS} {H1:AHeap},nxt L1 H1→p.wss rest H1 L1 Q):p.wss (st :: rest) H L Q :=
  aZo (h.mono fun f H1 Lc q=>by
    obtain ⟨L1,rfl,q⟩:=q
    cases f with
    | next=>exact k q
    | _=>exact ⟨L1,rfl,q⟩)
noncomputable def IS.one (ve:Cx→Nat→LS→AHeap→(AFl→LS→AHeap→Prop)→Prop) (c1:World→KI→List Str→Stmt→Bool)
    (o:∀ (p:Pl) {st:Stmt} {H:AHeap} {L:LS} {Q:AFl→LS→AHeap→Prop},c1 p.G.w p.K p.S st=true→ve p.G p.n L H Q→p.ws st H L Q):IS where
  ve:=ve
  ck w K S k sts:=lc sts fun st rest=>c1 w K S st && k rest
  ok p _ sts H L _ Q c k h:=lc_ok (P:=fun sts=>p.wss sts H L Q) c fun st rest c=>bKf p (o p (band c).1 h) (k (band c).2)
noncomputable def IS.ret (a:IE):IS:=.one (fun G n L H Q=>a.ve G n L H fun v H1=>Q (.ret v) L H1) (fun w K S st=>sRet st fun e=>oS e fun e=>a.ck w K S e)
  fun p {st H L Q} c h=>aVp c fun e q c=>oS_ok (P:=fun e=>p.ws (.Return e q) H L Q) c fun e c=>aUv ((a.ok p c h).mono fun v H1 h1=>⟨L,rfl,h1⟩)
noncomputable def IS.ret0:IS:=.one (fun _ _ L H Q=>Q (.ret (.val .none)) L H) (fun _ _ _ st=>sRet st fun e=>oN e true)
  fun p {st H L Q} c h=>aVp c fun e q c=>oN_ok (P:=fun e=>p.ws (.Return e q) H L Q) c fun _=>aSi ⟨L,rfl,h⟩
noncomputable def IS.asg (t:ITg) (a:IE):IS:=.one (fun G n L H Q=>a.ve G n L H fun v H1=>t.ve G n v L H1 fun L2 H2=>Q .next L2 H2)
  (fun w K S st=>sAsg st fun ts v _=>l1 ts fun tt=>aWa v && (okT tt && (t.ck w K S tt && (a.ck w K S v && (!swapB K tt v && noSw K tt v)))))
  fun p {st H L Q} c h=>aOz c fun ts v q c=>l1_ok (P:=fun ts=>p.ws (.Assign ts v q) H L Q) c fun tt c=>by
    obtain ⟨c1,d1⟩:=band c
    obtain ⟨c2,d2⟩:=band d1
    obtain ⟨c3,d3⟩:=band d2
    obtain ⟨c4,d4⟩:=band d3
    have hs:=aQq p.E (t:=tt) (line:=q.line) c1
    rw [bnot (band d4).1] at hs
    exact aUw ((a.ok p c4 h).mono fun v H1 h1=>t.ok p c3 h1) hs (bGe p.E c2 (band d4).2) (by rw [aKn c2]; rfl)
noncomputable def IS.asgc (j:Nat) (a:IC):IS:=.one (fun G n L H Q=>a.ve G n L H fun v H1=>Q .next (lset L j v) H1)
  (fun w K S st=>sAsg st fun ts v _=>l1 ts fun tt=>fNam tt fun y=>aWa v && (wrV K S j y && (a.ck w K S v && swapB K tt v)))
  fun p {st H L Q} c h=>aOz c fun ts v q c=>l1_ok (P:=fun ts=>p.ws (.Assign ts v q) H L Q) c fun tt c=>by
    revert c
    intro c
    refine aLj (P:=fun tt'=>tt'=tt→p.ws (.Assign [tt'] v q) H L Q) c (fun y py c e=>?_) rfl
    obtain ⟨c1,d1⟩:=band c
    obtain ⟨c2,d2⟩:=band d1
    have hs:=aQq p.E (t:=tt) (line:=q.line) c1
    rw [(band d2).2,← e] at hs
    exact a.oka p (band d2).1 c2 hs h
noncomputable def oo {α:Type} (o:Option (Option α)) (F:α→Bool):Bool:=o.elim false fun p=>p.elim false F
theorem oo_ok {α:Type} {o:Option (Option α)} {F:α→Bool} (c:oo o F=true):∃ x,o=some (some x)∧F x=true:=by
  cases o with
  | none=>cases c
  | some p=>cases p with
    | none=>cases c
    | some x=>exact ⟨x,rfl,c⟩
theorem SwapQ.tup {is:List Nat} {v:AV} {L:LS} {H:AHeap} {Q:LS→AHeap→Prop} (h:SwapQ is v L H Q):∃ l,v=.tup l∧l.length=is.length∧Q (aQv is.reverse l.reverse L) H:=by
  cases v with
  | tup l=>exact ⟨l,rfl,h⟩
  | _=>exact False.elim h
noncomputable def IS.swap (is:List Nat) (a:IE):IS:=.one (fun G n L H Q=>a.ve G n L H fun v H1=>SwapQ is v L H1 fun L2 H2=>Q .next L2 H2)
  (fun w K S st=>sAsg st fun ts v _=>l1 ts fun tt=>fTup tt fun ts=>fTup v fun vs=>oo (swapN K.kd ts vs) fun names=>is.map (S[·]?) == names.map some && (names.all (fun x=>K.kd x == some .local) && a.ck w K S v))
  fun p {st H L Q} c h=>aOz c fun ts v q c=>l1_ok (P:=fun ts=>p.ws (.Assign ts v q) H L Q) c fun tt c=>aLh (P:=fun tt=>p.ws (.Assign [tt] v q) H L Q) c fun ts k r c=>by
    refine aLh (P:=fun v'=>v'=v→p.ws (.Assign [.Tuple ts k r] v' q) H L Q) c (fun vs k' r' c e=>?_) rfl
    subst e
    obtain ⟨names,hs,c⟩:=oo_ok c
    have c1:=eq_of_beq (band c).1
    have c2:=List.all_eq_true.mp (band (band c).2).1
    refine aIj (aJd p.E hs) ((a.ok p (band (band c).2).2 h).mono fun v H1 h1=>?_) rfl
    obtain ⟨l,e,k1,k2⟩:=h1.tup
    have hl:is.length=names.length:=by have:=congrArg List.length c1; rwa [List.length_map,List.length_map] at this
    refine ⟨l,e,k1.trans hl,s_ans (Q:=fun L2 H2=>Q .next L2 H2) p.E p.hn (is:=is.reverse) ?_ (fun x m=>eq_of_beq (c2 x (List.mem_reverse.mp m))) (by rw [List.length_reverse,List.length_reverse]; exact k1) k2⟩
    rw [List.map_reverse,List.map_reverse,c1]
noncomputable def IS.expr (a:IE):IS:=.one (fun G n L H Q=>a.ve G n L H fun _ H1=>Q .next L H1) (fun w K S st=>sExp st fun e=>fCall e (fun _ _ _ _=>true) && a.ck w K S e)
  fun p {st H L Q} c h=>bFy c fun e q c=>aDj (P:=fun e=>a.ck p.G.w p.K p.S e=true→p.ws (.Expr e q) H L Q) (band c).1 (fun _ _ _ _ _ c=>bFa ((a.ok p c h).mono fun v H1 h1=>⟨L,rfl,h1⟩) (by unfold interactive; rw [p.E.kind]; rfl) rfl) (band c).2
noncomputable def IS.ite (t:IT) (a b:ISs):IS:=.one (fun G n L H Q=>t.ve G n L H fun c H1=>cond c (a.ve G n L H1 Q) (b.ve G n L H1 Q))
  (fun w K S st=>sIf st fun c x y=>t.ck w K S c && (a.ck w K S x && b.ck w K S y))
  fun p {st H L Q} c h=>bKb c fun e x y _ c=>ws_if ((t.ok p (band c).1 h).mono fun b1 H1 h1=>⟨fun hb=>a.ok p (band (band c).2).1 (tbt h1 hb),fun hb=>b.ok p (band (band c).2).2 (tbf h1 hb)⟩)
noncomputable def IS.loop (t:ITg) (it:IIt) (b:ISs):IS:=.one (fun G n L H Q=>it.ve G n L H fun vals us H1=>FV (fun v L H K=>t.ve G n v L H K) (fun L H K=>b.ve G n L H K) us Q vals L H1)
  (fun w K S st=>sFor st fun tt i body o=>l0 o (okE i && (t.ck w K S tt && (it.ck w K S i && b.ck w K S body))))
  fun p {st H L Q} c h=>bFx c fun tt i body o q c=>l0_ok (P:=fun o=>p.ws (.For tt i body o q) H L Q) c fun c=>bJn ((it.ok p (band (band (band c).2).2).1 h).mono fun vals src H1 hx=>hx.elim fun us hx=>bGw (fun {v L H K} q=>t.ok p (band (band c).2).1 q) (fun {L H K} q=>b.ok p (band (band (band c).2).2).2 q) hx.1 hx.2) (fun x=>aCr (band c).1)
noncomputable def IS.while (t:IT) (b:ISs):IS:=.one (fun G n L H Q=>WhQ (fun L H K=>t.ve G n L H K) (fun L H K=>b.ve G n L H K) L H Q)
  (fun w K S st=>sWhi st fun c body o=>l0 o (t.ck w K S c && b.ck w K S body))
  fun p {st H L Q} c h=>bFw c fun e body o q c=>l0_ok (P:=fun o=>p.ws (.While e body o q) H L Q) c fun c=>by
    obtain ⟨J,k0,j0,hj⟩:=h
    refine aZp (fun k H Lc=>∃ L,Lc=locOf p.S L∧J k L H) k0 ⟨L,rfl,j0⟩ fun k H1 Lc zz=>?_
    obtain ⟨L1,rfl,j1⟩:=zz
    refine (t.ok p (band c).1 (hj k L1 H1 j1)).mono fun b1 H2 h2=>⟨fun hb=>(b.ok p (band c).2 (tbt h2 hb)).mono fun f H3 Lc3 ⟨L3,e3,q3⟩=>?_,fun hb=>⟨L1,rfl,tbf h2 hb⟩⟩
    subst e3
    cases f with
    | next=>obtain ⟨m,hm,j⟩:=q3; exact ⟨m,hm,L3,rfl,j⟩
    | cont=>obtain ⟨m,hm,j⟩:=q3; exact ⟨m,hm,L3,rfl,j⟩
    | brk=>exact ⟨L3,rfl,q3⟩
    | ret r=>exact ⟨L3,rfl,q3⟩
noncomputable def IS.frzv (i:Nat):IS where
  ve _ _ L H Q:=∃ D l,lget L i=some (.val (.ref D))∧H D=some (.list l)∧Q .next (lset L i (.lst l)) (H.set D (.frz l))
  ck _ _ S k sts:=(S[i]?).isSome && k sts
  ok p _ sts H L nxt Q c k h:=by
    obtain ⟨D,l,e1,e2,h⟩:=h
    obtain ⟨x,hx⟩:=Option.isSome_iff_exists.mp (band c).1
    refine bEz (x:=x) e2 ((aHc p.hn hx).trans e1) ?_
    rw [aEq p.hn hx]
    exact k (band c).2 h
noncomputable def ISs.nil:ISs where
  ve _ _ L H Q:=Q .next L H
  ck _ _ _ sts:=l0 sts true
  ok p sts H L Q c h:=l0_ok (P:=fun sts=>p.wss sts H L Q) c fun _=>bEy ⟨L,rfl,h⟩
noncomputable def ISs.cons (s:IS) (r:ISs):ISs where
  ve G n L H Q:=s.ve G n L H (SeqQ (fun L1 H1=>r.ve G n L1 H1 Q) Q)
  ck w K S sts:=s.ck w K S (r.ck w K S) sts
  ok p sts H L Q c h:=s.ok p c (fun c h=>r.ok p c h) h
noncomputable abbrev chkEs (w:World) (l:IEs):=l.ck w
noncomputable abbrev chkSs (w:World) (l:ISs):=l.ck w
section
variable {G:Cx} {n:Nat}
theorem sEs (l:IEs) {env:Env} {K:KI} {S:List Str} {es:List Expr} {H:AHeap} {L:LS} {Q:List AV→AHeap→Prop} (E:EnvOk env K) (hn:S.Nodup) (c:chkEs G.w l K S es=true) (h:VEs G n l L H Q):WEs G n env es H (locOf S L) fun vs H1=>vs.length=es.length∧Q vs H1:=l.ok ⟨G,n,env,K,S,E,hn⟩ c h
theorem sSs (l:ISs) {env:Env} {K:KI} {S:List Str} {sts:List Stmt} {H:AHeap} {L:LS} {Q:AFl→LS→AHeap→Prop} (E:EnvOk env K) (hn:S.Nodup) (c:chkSs G.w l K S sts=true) (h:VSs G n l L H Q):WSs G n env sts H (locOf S L) (LQ S Q):=l.ok ⟨G,n,env,K,S,E,hn⟩ c h
end
end
section
noncomputable def frame:Nat→List AV→LS
  | 0,_=>[]
  | k+1,[]=>none :: frame k []
  | k+1,a :: l=>some a :: frame k l
theorem aSd {r:List (Str × AV)} {L:Loc} {x:Str} (h:x∉r.map (·.1)):aBp r L x=L x:=by
  induction r generalizing L with
  | nil=>rfl
  | cons p r ih=>exact (ih fun m=>h (List.mem_cons_of_mem _ m)).trans (Loc.set_ne fun e=>h (List.mem_cons.mpr (.inl e)))
theorem bBk {S:List Str} {k:Nat} {x:Str}:locOf S (frame k []) x=none:=by
  induction S generalizing k with
  | nil=>rfl
  | cons s S ih =>
    cases k with
    | zero=>rfl
    | succ k=>exact (congrArg (fun z=>if x=s then none else z) ih).trans (ite_self _)
theorem aRu {S:List Str} {args:List AV} {k:Nat} {L:Loc} (hn:S.Nodup):LocLe (locOf S (frame k args)) (aBp ((S.take args.length).zip args) L):=by
  induction S generalizing args k L with
  | nil=>exact fun x av e=>nomatch (show (none:Option AV)=some av from e)
  | cons s S ih =>
    cases args with
    | nil=>intro x av e; rw [bBk] at e; cases e
    | cons a args =>
      cases k with
      | zero=>exact fun x av e=>nomatch (show (none:Option AV)=some av from e)
      | succ k =>
        intro x av e
        have e':(if x=s then some a else locOf S (frame k args) x)=some av:=e
        show aBp ((S.take args.length).zip args) (L.set s a) x=some av
        by_cases z:x=s
        · rw [if_pos z] at e'
          subst z
          rw [aSd (fun m=>?_),Loc.set_same]; exact e'
          obtain ⟨p,hp,e⟩:=List.mem_map.mp m
          have:=(List.of_mem_zip (a:=p.1) (b:=p.2) hp).1
          exact (List.nodup_cons.mp hn).1 (e ▸ List.mem_of_mem_take this)
        · rw [if_neg z] at e'
          exact ih (List.nodup_cons.mp hn).2 x av e'
noncomputable def RetQ (Q:AV→AHeap→Prop) (f:AFl) (_:LS) (H:AHeap):Prop:=match f with
  | .ret v=>Q v H
  | .next=>Q (.val .none) H
  | _=>False
noncomputable def asFn:Data→Option FuncData
  | .func fd=>some fd
  | _=>none
theorem bIg {d:Data} {fd:FuncData} (h:asFn d=some fd):d=.func fd:=by
  cases d with
  | func fd'=>exact congrArg _ (Option.some.inj h)
  | _=>cases h
noncomputable def asB:FuncBody→Option (List Stmt)
  | .stmts b=>some b
  | _=>none
theorem bLn {d:FuncBody} {b:List Stmt} (h:asB d=some b):d=.stmts b:=by
  cases d with
  | stmts b'=>exact congrArg _ (Option.some.inj h)
  | _=>cases h
theorem el_ok {α:Type} {o:Option α} {F:α→Bool} (c:o.elim false F=true):∃ x,o=some x∧F x=true:=by
  cases o with
  | none=>cases c
  | some x=>exact ⟨x,rfl,c⟩
noncomputable def fnB (w:World) (f:Addr) (S:List Str) (k:Nat) (ir:ISs):Bool:=((KF w).lookup f).elim false fun o=>(asFn o.data).elim false fun fd=>(asB fd.body).elim false fun body =>
  (codeIn (KF w) fd.code fd.qualname && (fd.closure.isEmpty && ((S.take k).all (fun y=>fd.scope.names.lookup y == some .local || fd.scope.names.lookup y == some .cell) && (aFx (fd.scope.names.map (·.1)) &&
          (fd.globals == mainGlobals && (fd.builtins == builtinsNs && (!fd.scope.isCoroutine && (!fd.scope.isGenerator && fd.scope.kind == .function)))))))) &&
          (aFx S && chkSs w ir ⟨fd.scope.names,fd.scope.names⟩ S body)
section
variable {G:Cx} {n:Nat}
theorem fn_cc {f:Addr} {S:List Str} {k:Nat} {ir:ISs} (hb:fnB G.w f S k ir=true) (hbind:∀ vs:List Value,vs.length=k→bindArgs (fdOf G.w f) ⟨vs,[]⟩=pure ((S.take k).zip vs)) {args:List AV} {H:AHeap} {Q:AV→AHeap→Prop}
    (hk:args.length=k) (h:VSs G n ir (frame S.length args) H (RetQ Q)):CC G (n+1) (.ref f) args H Q:=by
  obtain ⟨o,ho,hb⟩:=el_ok hb
  obtain ⟨fd,hd,hb⟩:=el_ok hb
  obtain ⟨body,hbd,hb⟩:=el_ok hb
  have hd:=bIg hd
  have ef:fdOf G.w f=fd:=by
    unfold fdOf objOf
    rw [ho]
    dsimp only [Option.getD_some]
    rw [hd]
  rw [ef] at hbind
  clear ef
  have x:=band hb
  have y:=band x.2
  have hn:=aCj y.1
  have c:=band x.1
  have c2:=band c.2
  have c3:=band c2.2
  have c4:=band c3.2
  have c5:=band c4.2
  have c6:=band c5.2
  have c7:=band c6.2
  have c8:=band c7.2
  refine bLc (o:=o) (fd:=fd) (body:=body) (names:=S.take k) ho hd (bLn hbd) c.1 (List.isEmpty_iff.mp c2.1) (by rw [hk]; exact hbind) c3.1 (aCj c4.1) (fun C=>?_) (eq_of_beq c5.1) (eq_of_beq c6.1) (bnot c7.1) (bnot c8.1) (eq_of_beq c8.2)
  refine ((sSs ir (bBz (eq_of_beq c8.2) c4.1:EnvOk (fEnv fd f C) ⟨fd.scope.names,fd.scope.names⟩) hn y.2 h).weak (L':=aBp ((S.take k).zip args) fun _=>none) ?_).mono fun fl H' Lc ⟨L1,_,q⟩=>?_
  · rw [← hk]; exact aRu hn
  · cases fl <;> exact q
end
end
section
noncomputable def AllN (k:Nat):(List Value→Prop)→Prop:=k.rec (fun P=>P []) fun _ ih P=>∀ a,ih fun r=>P (a :: r)
theorem allN:∀ {k:Nat} {P:List Value→Prop},AllN k P→∀ vs:List Value,vs.length=k→P vs:=by
  intro k
  induction k with
  | zero=>intro P h vs e; rw [List.length_eq_zero_iff.mp e]; exact h
  | succ k ih =>
    intro P h vs e
    cases vs with
    | nil=>exact (nomatch e)
    | cons a r=>exact ih (P:=fun r=>P (a :: r)) (h a) r (Nat.succ.inj e)
section
variable {G:Cx} {n:Nat} {H:AHeap} {Q:AV→AHeap→Prop}
noncomputable def aKf:List Str:=["found", "low", "high"]
noncomputable def aKz:ISs:=(.cons (.ite (.and (.cmp .Gt (.call (.builtin "len") (.cons (.var 0) .nil)) (.lit (.int 0))) (.and (.cmp .LtE (.var 1) (.bin .Add (.sub (.sub (.var 0) (.lit (.int (-1)))) (.lit (.int 1))) (.lit (.int 1)))) .tt)) (.cons (.ite (.cmp .Gt (.var 2) (.sub (.sub (.var 0) (.lit (.int (-1)))) (.lit (.int 1)))) (.cons (.asg (.sub (.var 0) (.lit (.int (-1)))) (.tup (.cons (.sub (.sub (.var 0) (.lit (.int (-1)))) (.lit (.int 0))) (.cons (.var 2) .nil)))) .nil) .nil) .nil) (.cons (.expr (.meth (.var 0) "append" (.cons (.tup (.cons (.var 1) (.cons (.var 2) .nil))) .nil))) .nil)) .nil)
theorem aLg {a b c:AV} (h:VSs G n aKz (frame 3 [a,b,c]) H (RetQ Q)):CW G (n+1) (.ref 28) [a,b,c] H Q :=
  (fn_cc (S:=aKf) (k:=3) (by kernel_rfl!) (allN (by intro a b c; show bindArgs _ _=_; kernel_rfl!)) rfl h).cw
noncomputable def aIn:List Str:=["numbers", "found", "v"]
noncomputable def aIt:ISs:=(.cons (.asg (.var 1) (.list .nil)) (.cons (.loop (.var 2) (.val (.call (.builtin "sorted") (.cons (.var 0) .nil))) (.cons (.expr (.call (.ref 28) (.cons (.var 1) (.cons (.var 2) (.cons (.var 2) .nil))))) .nil)) (.cons (.ret (.call (.type "tuple") (.cons (.var 1) .nil))) .nil)))
theorem aIw {a:AV} (h:VSs G n aIt (frame 3 [a]) H (RetQ Q)):CW G (n+1) (.ref 35) [a] H Q :=
  (fn_cc (S:=aIn) (k:=1) (by kernel_rfl!) (allN (by intro a; show bindArgs _ _=_; kernel_rfl!)) rfl h).cw
noncomputable def aMd:List Str:=["d", "v", "low", "high"]
noncomputable def aMx:ISs:=(.cons (.loop (.tup (.cons (.var 2) (.cons (.var 3) .nil))) (.val (.var 0)) (.cons (.ite (.cmp .LtE (.var 1) (.var 3)) (.cons (.ret (.call (.builtin "max") (.cons (.var 2) (.cons (.var 1) .nil)))) .nil) .nil) .nil)) (.cons (.ret (.lit (.val .none))) .nil))
theorem aNd {a b:AV} (h:VSs G n aMx (frame 4 [a,b]) H (RetQ Q)):CW G (n+1) (.ref 56) [a,b] H Q :=
  (fn_cc (S:=aMd) (k:=2) (by kernel_rfl!) (allN (by intro a b; show bindArgs _ _=_; kernel_rfl!)) rfl h).cw
noncomputable def bKa:List Str:=["d", "v"]
noncomputable def bKq:ISs:=(.cons (.ret (.cmp .Eq (.call (.ref 56) (.cons (.var 0) (.cons (.var 1) .nil))) (.var 1))) .nil)
theorem bKt {a b:AV} (h:VSs G n bKq (frame 2 [a,b]) H (RetQ Q)):CW G (n+1) (.ref 63) [a,b] H Q :=
  (fn_cc (S:=bKa) (k:=2) (by kernel_rfl!) (allN (by intro a b; show bindArgs _ _=_; kernel_rfl!)) rfl h).cw
noncomputable def aVh:List Str:=["d", "found", "low", "high"]
noncomputable def aWw:ISs:=(.cons (.asg (.var 1) (.list .nil)) (.cons (.loop (.tup (.cons (.var 2) (.cons (.var 3) .nil))) (.val (.var 0)) (.cons (.expr (.meth (.var 1) "extend" (.cons (.call (.type "range") (.cons (.var 2) (.cons (.bin .Add (.var 3) (.lit (.int 1))) .nil))) .nil))) .nil)) (.cons (.ret (.frz (.var 1))) .nil)))
theorem aXd {a:AV} (h:VSs G n aWw (frame 4 [a]) H (RetQ Q)):CW G (n+1) (.ref 70) [a] H Q :=
  (fn_cc (S:=aVh) (k:=1) (by kernel_rfl!) (allN (by intro a; show bindArgs _ _=_; kernel_rfl!)) rfl h).cw
noncomputable def bAi:List Str:=["d", "k"]
noncomputable def bBn:ISs:=(.cons (.ret (.call (.type "tuple") (.cons (.comp [".0", "low", "high", "k"] [none,none,none,some 1] (.tup (.cons (.var 1) (.cons (.var 2) .nil))) (.val (.var 0)) (.cmp .LtE (.var 1) (.var 3)) (.tup (.cons (.var 1) (.cons (.call (.builtin "min") (.cons (.var 2) (.cons (.var 3) .nil))) .nil)))) .nil))) .nil)
theorem bBq {a b:AV} (h:VSs G n bBn (frame 2 [a,b]) H (RetQ Q)):CW G (n+1) (.ref 75) [a,b] H Q :=
  (fn_cc (S:=bAi) (k:=2) (by kernel_rfl!) (allN (by intro a b; show bindArgs _ _=_; kernel_rfl!)) rfl h).cw
noncomputable def aSz:List Str:=["d", "k"]
noncomputable def aTr:ISs:=(.cons (.ret (.call (.type "tuple") (.cons (.comp [".0", "low", "high", "k"] [none,none,none,some 1] (.tup (.cons (.var 1) (.cons (.var 2) .nil))) (.val (.var 0)) (.cmp .GtE (.var 2) (.var 3)) (.tup (.cons (.call (.builtin "max") (.cons (.var 1) (.cons (.var 3) .nil))) (.cons (.var 2) .nil)))) .nil))) .nil)
theorem aUc {a b:AV} (h:VSs G n aTr (frame 2 [a,b]) H (RetQ Q)):CW G (n+1) (.ref 80) [a,b] H Q :=
  (fn_cc (S:=aSz) (k:=2) (by kernel_rfl!) (allN (by intro a b; show bindArgs _ _=_; kernel_rfl!)) rfl h).cw
noncomputable def aSs:List Str:=["d", "v"]
noncomputable def aTi:ISs:=(.cons (.ret (.bin .Add (.call (.ref 75) (.cons (.var 0) (.cons (.bin .Sub (.var 1) (.lit (.int 1))) .nil))) (.call (.ref 80) (.cons (.var 0) (.cons (.bin .Add (.var 1) (.lit (.int 1))) .nil))))) .nil)
theorem aTu {a b:AV} (h:VSs G n aTi (frame 2 [a,b]) H (RetQ Q)):CW G (n+1) (.ref 87) [a,b] H Q :=
  (fn_cc (S:=aSs) (k:=2) (by kernel_rfl!) (allN (by intro a b; show bindArgs _ _=_; kernel_rfl!)) rfl h).cw
noncomputable def bFs:List Str:=["d", "e", "found", "i", "j", "low", "high"]
noncomputable def bGo:ISs:=(.cons (.swap [2,3,4] (.tup (.cons (.list .nil) (.cons (.lit (.int 0)) (.cons (.lit (.int 0)) .nil))))) (.cons (.while (.and (.cmp .Lt (.var 3) (.call (.builtin "len") (.cons (.var 0) .nil))) (.and (.cmp .Lt (.var 4) (.call (.builtin "len") (.cons (.var 1) .nil))) .tt)) (.cons (.swap [5,6] (.tup (.cons (.call (.builtin "max") (.cons (.sub (.sub (.var 0) (.var 3)) (.lit (.int 0))) (.cons (.sub (.sub (.var 1) (.var 4)) (.lit (.int 0))) .nil))) (.cons (.call (.builtin "min") (.cons (.sub (.sub (.var 0) (.var 3)) (.lit (.int 1))) (.cons (.sub (.sub (.var 1) (.var 4)) (.lit (.int 1))) .nil))) .nil)))) (.cons (.ite (.cmp .LtE (.var 5) (.var 6)) (.cons (.expr (.meth (.var 2) "append" (.cons (.tup (.cons (.var 5) (.cons (.var 6) .nil))) .nil))) .nil) .nil) (.cons (.ite (.cmp .Lt (.sub (.sub (.var 0) (.var 3)) (.lit (.int 1))) (.sub (.sub (.var 1) (.var 4)) (.lit (.int 1)))) (.cons (.asg (.var 3) (.bin .Add (.var 3) (.lit (.int 1)))) .nil) (.cons (.asg (.var 4) (.bin .Add (.var 4) (.lit (.int 1)))) .nil)) .nil)))) (.cons (.ret (.call (.type "tuple") (.cons (.var 2) .nil))) .nil)))
theorem bGr {a b:AV} (h:VSs G n bGo (frame 7 [a,b]) H (RetQ Q)):CW G (n+1) (.ref 94) [a,b] H Q :=
  (fn_cc (S:=bFs) (k:=2) (by kernel_rfl!) (allN (by intro a b; show bindArgs _ _=_; kernel_rfl!)) rfl h).cw
noncomputable def aOu:List Str:=["literal", "x", "sign", "k"]
noncomputable def aPi:ISs:=(.cons (.asg (.tup (.cons (.var 1) (.cons (.var 2) (.cons (.var 3) .nil)))) (.var 0)) (.cons (.ite (.cmp .Eq (.var 2) (.lit (.str "<="))) (.cons (.ret (.tup (.cons (.var 1) (.cons (.lit (.str ">=")) (.cons (.bin .Add (.var 3) (.lit (.int 1))) .nil))))) .nil) .nil) (.cons (.ite (.cmp .Eq (.var 2) (.lit (.str ">="))) (.cons (.ret (.tup (.cons (.var 1) (.cons (.lit (.str "<=")) (.cons (.bin .Sub (.var 3) (.lit (.int 1))) .nil))))) .nil) .nil) (.cons (.ret (.ite (.cmp .Eq (.var 2) (.lit (.str "="))) (.tup (.cons (.var 1) (.cons (.lit (.str "!=")) (.cons (.var 3) .nil)))) (.tup (.cons (.var 1) (.cons (.lit (.str "=")) (.cons (.var 3) .nil)))))) .nil))))
theorem aPq {a:AV} (h:VSs G n aPi (frame 4 [a]) H (RetQ Q)):CW G (n+1) (.ref 101) [a] H Q :=
  (fn_cc (S:=aOu) (k:=1) (by kernel_rfl!) (allN (by intro a; show bindArgs _ _=_; kernel_rfl!)) rfl h).cw
noncomputable def aVi:List Str:=["literal", "d", "sign", "k"]
noncomputable def aWx:ISs:=(.cons (.swap [2,3] (.tup (.cons (.sub (.var 0) (.lit (.int 1))) (.cons (.sub (.var 0) (.lit (.int 2))) .nil)))) (.cons (.ite (.cmp .Eq (.var 2) (.lit (.str "<="))) (.cons (.ret (.call (.ref 75) (.cons (.var 1) (.cons (.var 3) .nil)))) .nil) .nil) (.cons (.ite (.cmp .Eq (.var 2) (.lit (.str ">="))) (.cons (.ret (.call (.ref 80) (.cons (.var 1) (.cons (.var 3) .nil)))) .nil) .nil) (.cons (.ret (.ite (.cmp .Eq (.var 2) (.lit (.str "="))) (.call (.ref 94) (.cons (.var 1) (.cons (.tup (.cons (.tup (.cons (.var 3) (.cons (.var 3) .nil))) .nil)) .nil))) (.call (.ref 87) (.cons (.var 1) (.cons (.var 3) .nil))))) .nil))))
theorem aXe {a b:AV} (h:VSs G n aWx (frame 4 [a,b]) H (RetQ Q)):CW G (n+1) (.ref 108) [a,b] H Q :=
  (fn_cc (S:=aVi) (k:=2) (by kernel_rfl!) (allN (by intro a b; show bindArgs _ _=_; kernel_rfl!)) rfl h).cw
noncomputable def aSv:List Str:=["self"]
noncomputable def aTm:ISs:=(.cons (.asg (.attr (.var 0) "domains") (.list .nil)) (.cons (.asg (.attr (.var 0) "firsts") (.list .nil)) (.cons (.asg (.attr (.var 0) "trail") (.list .nil)) (.cons (.asg (.attr (.var 0) "marks") (.list .nil)) (.cons (.asg (.attr (.var 0) "news") (.dict0 0)) (.cons (.asg (.attr (.var 0) "speaker") (.lit (.int (-1)))) (.cons (.asg (.attr (.var 0) "is_failed") (.lit (.val (.bool false)))) (.cons (.asg (.attr (.var 0) "clash") (.tup .nil)) .nil))))))))
theorem aTx {a:AV} (h:VSs G n aTm (frame 1 [a]) H (RetQ Q)):CC G (n+1) (.ref 129) [a] H Q :=
  fn_cc (S:=aSv) (k:=1) (by kernel_rfl!) (allN (by intro a; show bindArgs _ _=_; kernel_rfl!)) rfl h
noncomputable def aKc:List Str:=["self", "domain"]
noncomputable def aKw:ISs:=(.cons (.expr (.meth (.attr (.var 0) "domains") "append" (.cons (.var 1) .nil))) (.cons (.expr (.meth (.attr (.var 0) "firsts") "append" (.cons (.var 1) .nil))) (.cons (.ite (.cmp .Eq (.var 1) (.tup .nil)) (.cons (.expr (.meth (.var 0) "fail" (.cons (.tup .nil) .nil))) .nil) .nil) (.cons (.ret (.bin .Sub (.call (.builtin "len") (.cons (.attr (.var 0) "domains") .nil)) (.lit (.int 1)))) .nil))))
theorem aLd {a b:AV} (h:VSs G n aKw (frame 2 [a,b]) H (RetQ Q)):CW G (n+1) (.ref 136) [a,b] H Q :=
  (fn_cc (S:=aKc) (k:=2) (by kernel_rfl!) (allN (by intro a b; show bindArgs _ _=_; kernel_rfl!)) rfl h).cw
noncomputable def aSt:List Str:=["self"]
noncomputable def aTj:ISs:=(.cons (.ret (.call (.builtin "len") (.cons (.attr (.var 0) "domains") .nil))) .nil)
theorem aTv {a:AV} (h:VSs G n aTj (frame 1 [a]) H (RetQ Q)):CW G (n+1) (.ref 143) [a] H Q :=
  (fn_cc (S:=aSt) (k:=1) (by kernel_rfl!) (allN (by intro a; show bindArgs _ _=_; kernel_rfl!)) rfl h).cw
noncomputable def aVk:List Str:=["self", "x"]
noncomputable def aWz:ISs:=(.cons (.ret (.sub (.attr (.var 0) "domains") (.var 1))) .nil)
theorem aXg {a b:AV} (h:VSs G n aWz (frame 2 [a,b]) H (RetQ Q)):CW G (n+1) (.ref 150) [a,b] H Q :=
  (fn_cc (S:=aVk) (k:=2) (by kernel_rfl!) (allN (by intro a b; show bindArgs _ _=_; kernel_rfl!)) rfl h).cw
noncomputable def aKd:List Str:=["self", "x"]
noncomputable def aKx:ISs:=(.cons (.ret (.sub (.attr (.var 0) "firsts") (.var 1))) .nil)
theorem aLe {a b:AV} (h:VSs G n aKx (frame 2 [a,b]) H (RetQ Q)):CW G (n+1) (.ref 157) [a,b] H Q :=
  (fn_cc (S:=aKd) (k:=2) (by kernel_rfl!) (allN (by intro a b; show bindArgs _ _=_; kernel_rfl!)) rfl h).cw
noncomputable def aOs:List Str:=["self", "literal", "reasons", "speaker", "x", "old", "fresh"]
noncomputable def aPg:ISs:=(.cons (.asg (.var 4) (.sub (.var 1) (.lit (.int 0)))) (.cons (.asg (.var 5) (.sub (.attr (.var 0) "domains") (.var 4))) (.cons (.asg (.var 6) (.call (.ref 108) (.cons (.var 1) (.cons (.var 5) .nil)))) (.cons (.ite (.cmp .Eq (.var 6) (.tup .nil)) (.cons (.ret (.meth (.var 0) "fail" (.cons (.bin .Add (.ite (.cmp .Is (.var 2) (.lit (.val .none))) (.tup .nil) (.var 2)) (.tup (.cons (.call (.ref 101) (.cons (.var 1) .nil)) .nil))) .nil))) .nil) .nil) (.cons (.ite (.cmp .Eq (.var 6) (.var 5)) (.cons (.ret (.lit (.val (.bool true)))) .nil) .nil) (.cons (.expr (.meth (.attr (.var 0) "trail") "append" (.cons (.tup (.cons (.var 4) (.cons (.var 5) (.cons (.var 1) (.cons (.var 2) (.cons (.var 3) .nil)))))) .nil))) (.cons (.asg (.sub (.attr (.var 0) "domains") (.var 4)) (.var 6)) (.cons (.asg (.sub (.attr (.var 0) "news") (.var 4)) (.lit (.val (.bool true)))) (.cons (.ret (.lit (.val (.bool true)))) .nil)))))))))
theorem aPo {a b c d:AV} (h:VSs G n aPg (frame 7 [a,b,c,d]) H (RetQ Q)):CW G (n+1) (.ref 213) [a,b,c,d] H Q :=
  (fn_cc (S:=aOs) (k:=4) (by kernel_rfl!) (allN (by intro a b c d; show bindArgs _ _=_; kernel_rfl!)) rfl h).cw
noncomputable def aMb:List Str:=["self", "literal", "reasons"]
noncomputable def aMv:ISs:=(.cons (.ret (.meth (.var 0) "enter" (.cons (.var 1) (.cons (.call (.type "tuple") (.cons (.var 2) .nil)) (.cons (.attr (.var 0) "speaker") .nil))))) .nil)
theorem aNb {a b c:AV} (h:VSs G n aMv (frame 3 [a,b,c]) H (RetQ Q)):CW G (n+1) (.ref 220) [a,b,c] H Q :=
  (fn_cc (S:=aMb) (k:=3) (by kernel_rfl!) (allN (by intro a b c; show bindArgs _ _=_; kernel_rfl!)) rfl h).cw
noncomputable def aMc:List Str:=["self", "literal"]
noncomputable def aMw:ISs:=(.cons (.ret (.meth (.var 0) "enter" (.cons (.var 1) (.cons (.lit (.val .none)) (.cons (.lit (.int (-1))) .nil))))) .nil)
theorem aNc {a b:AV} (h:VSs G n aMw (frame 2 [a,b]) H (RetQ Q)):CW G (n+1) (.ref 227) [a,b] H Q :=
  (fn_cc (S:=aMc) (k:=2) (by kernel_rfl!) (allN (by intro a b; show bindArgs _ _=_; kernel_rfl!)) rfl h).cw
noncomputable def aSw:List Str:=["self", "reasons"]
noncomputable def aTn:ISs:=(.cons (.asg (.attr (.var 0) "is_failed") (.lit (.val (.bool true)))) (.cons (.asg (.attr (.var 0) "clash") (.call (.type "tuple") (.cons (.var 1) .nil))) (.cons (.ret (.lit (.val (.bool false)))) .nil)))
theorem aTy {a b:AV} (h:VSs G n aTn (frame 2 [a,b]) H (RetQ Q)):CW G (n+1) (.ref 234) [a,b] H Q :=
  (fn_cc (S:=aSw) (k:=2) (by kernel_rfl!) (allN (by intro a b; show bindArgs _ _=_; kernel_rfl!)) rfl h).cw
noncomputable def aSu:List Str:=["self"]
noncomputable def aTk:ISs:=(.cons (.expr (.meth (.attr (.var 0) "marks") "append" (.cons (.call (.builtin "len") (.cons (.attr (.var 0) "trail") .nil)) .nil))) .nil)
theorem aTw {a:AV} (h:VSs G n aTk (frame 1 [a]) H (RetQ Q)):CW G (n+1) (.ref 241) [a] H Q :=
  (fn_cc (S:=aSu) (k:=1) (by kernel_rfl!) (allN (by intro a; show bindArgs _ _=_; kernel_rfl!)) rfl h).cw
noncomputable def aVj:List Str:=["self", "n", "mark", "entry"]
noncomputable def aWy:ISs:=(.cons (.ite (.cmp .Lt (.var 1) (.lit (.int 1))) (.cons .ret0 .nil) .nil) (.cons (.asg (.var 2) (.sub (.attr (.var 0) "marks") (.bin .Sub (.call (.builtin "len") (.cons (.attr (.var 0) "marks") .nil)) (.var 1)))) (.cons (.asg (.attr (.var 0) "marks") (.upto (.attr (.var 0) "marks") (.bin .Sub (.call (.builtin "len") (.cons (.attr (.var 0) "marks") .nil)) (.var 1)))) (.cons (.while (.cmp .Gt (.call (.builtin "len") (.cons (.attr (.var 0) "trail") .nil)) (.var 2)) (.cons (.asg (.var 3) (.meth (.attr (.var 0) "trail") "pop" .nil)) (.cons (.asg (.sub (.attr (.var 0) "domains") (.sub (.var 3) (.lit (.int 0)))) (.sub (.var 3) (.lit (.int 1)))) .nil))) (.cons (.asg (.attr (.var 0) "news") (.dict0 0)) (.cons (.asg (.attr (.var 0) "is_failed") (.cmp .In (.tup .nil) (.attr (.var 0) "firsts"))) (.cons (.asg (.attr (.var 0) "clash") (.tup .nil)) .nil)))))))
theorem aXf {a b:AV} (h:VSs G n aWy (frame 4 [a,b]) H (RetQ Q)):CW G (n+1) (.ref 248) [a,b] H Q :=
  (fn_cc (S:=aVj) (k:=2) (by kernel_rfl!) (allN (by intro a b; show bindArgs _ _=_; kernel_rfl!)) rfl h).cw
noncomputable def aSy:List Str:=["self", "scope", "strength"]
noncomputable def aTq:ISs:=(.cons (.asg (.attr (.var 0) "number") (.lit (.int (-1)))) (.cons (.asg (.attr (.var 0) "scope") (.call (.type "tuple") (.cons (.var 1) .nil))) (.cons (.asg (.attr (.var 0) "strength") (.var 2)) .nil)))
theorem aUb {a b c:AV} (h:VSs G n aTq (frame 3 [a,b,c]) H (RetQ Q)):CC G (n+1) (.ref 283) [a,b,c] H Q :=
  fn_cc (S:=aSy) (k:=3) (by kernel_rfl!) (allN (by intro a b c; show bindArgs _ _=_; kernel_rfl!)) rfl h
noncomputable def aSx:List Str:=["self"]
noncomputable def aTo:ISs:=(.cons (.ret (.tup (.cons (.lit (.str "regular")) (.cons (.attr (.var 0) "scope") (.cons (.attr (.var 0) "states") (.cons (.attr (.var 0) "letters") (.cons (.attr (.var 0) "rows") (.cons (.attr (.var 0) "start") (.cons (.attr (.var 0) "finals") .nil))))))))) .nil)
theorem aTz {a:AV} (h:VSs G n aTo (frame 1 [a]) H (RetQ Q)):CW G (n+1) (.ref 334) [a] H Q :=
  (fn_cc (S:=aSx) (k:=1) (by kernel_rfl!) (allN (by intro a; show bindArgs _ _=_; kernel_rfl!)) rfl h).cw
noncomputable def aOt:List Str:=["self", "numbers", "state", "a"]
noncomputable def aPh:ISs:=(.cons (.asg (.var 2) (.attr (.var 0) "start")) (.cons (.loop (.var 3) (.val (.var 1)) (.cons (.ite (.or (.cmp .Eq (.var 2) (.lit (.int 0))) (.or (.not (.chain .LtE .LtE (.lit (.int 1)) (.var 3) (.attr (.var 0) "letters"))) .ff)) (.cons (.ret (.lit (.val (.bool false)))) .nil) .nil) (.cons (.asg (.var 2) (.sub (.sub (.attr (.var 0) "rows") (.bin .Sub (.var 2) (.lit (.int 1)))) (.bin .Sub (.var 3) (.lit (.int 1))))) .nil))) (.cons (.ret (.cmp .In (.var 2) (.attr (.var 0) "finals"))) .nil)))
theorem aPp {a b:AV} (h:VSs G n aPh (frame 4 [a,b]) H (RetQ Q)):CW G (n+1) (.ref 341) [a,b] H Q :=
  (fn_cc (S:=aOt) (k:=2) (by kernel_rfl!) (allN (by intro a b; show bindArgs _ _=_; kernel_rfl!)) rfl h).cw
noncomputable def aGg:List Str:=["self", "kept", "state", "layer", "found", "letters", "late", "a"]
noncomputable def aGi:ISs:=(.cons (.asgc 3 (.comp [".0", "state", "self"] [none,none,some 0] (.var 1) (.val (.call (.type "range") (.cons (.bin .Add (.attr (.var 0) "states") (.lit (.int 1))) .nil))) .tt (.cmp .Eq (.var 1) (.attr (.var 2) "start")))) (.cons (.frzv 3) (.cons (.asg (.var 4) (.list (.cons (.var 3) .nil))) (.cons (.loop (.var 5) (.val (.var 1)) (.cons (.asg (.var 6) (.bin .Mult (.list (.cons (.lit (.val (.bool false))) .nil)) (.bin .Add (.attr (.var 0) "states") (.lit (.int 1))))) (.cons (.loop (.var 2) (.val (.call (.type "range") (.cons (.lit (.int 1)) (.cons (.bin .Add (.attr (.var 0) "states") (.lit (.int 1))) .nil)))) (.cons (.loop (.var 7) (.val (.ite (.val (.sub (.var 3) (.var 2))) (.var 5) (.list .nil))) (.cons (.asg (.sub (.var 6) (.sub (.sub (.attr (.var 0) "rows") (.bin .Sub (.var 2) (.lit (.int 1)))) (.bin .Sub (.var 7) (.lit (.int 1))))) (.lit (.val (.bool true)))) .nil)) .nil)) (.cons (.asg (.sub (.var 6) (.lit (.int 0))) (.lit (.val (.bool false)))) (.cons (.asg (.var 3) (.var 6)) (.cons (.frzv 3) (.cons (.expr (.meth (.var 4) "append" (.cons (.var 3) .nil))) .nil))))))) (.cons (.ret (.frz (.var 4))) .nil)))))
theorem aGk {a b:AV} (h:VSs G n aGi (frame 8 [a,b]) H (RetQ Q)):CW G (n+1) (.ref 346) [a,b] H Q :=
  (fn_cc (S:=aGg) (k:=2) (by kernel_rfl!) (allN (by intro a b; show bindArgs _ _=_; kernel_rfl!)) rfl h).cw
noncomputable def aIk:List Str:=["self", "kept", "state", "layer", "found", "letters", "early"]
noncomputable def aIr:ISs:=(.cons (.asg (.var 3) (.comp [".0", "state", "self"] [none,none,some 0] (.var 1) (.val (.call (.type "range") (.cons (.bin .Add (.attr (.var 0) "states") (.lit (.int 1))) .nil))) .tt (.cmp .In (.var 1) (.attr (.var 2) "finals")))) (.cons (.asg (.sub (.var 3) (.lit (.int 0))) (.lit (.val (.bool false)))) (.cons (.frzv 3) (.cons (.asg (.var 4) (.list (.cons (.var 3) .nil))) (.cons (.loop (.var 5) (.call (.type "reversed") (.cons (.var 1) .nil)) (.cons (.asg (.var 6) (.bin .Mult (.list (.cons (.lit (.val (.bool false))) .nil)) (.bin .Add (.attr (.var 0) "states") (.lit (.int 1))))) (.cons (.loop (.var 2) (.val (.call (.type "range") (.cons (.lit (.int 1)) (.cons (.bin .Add (.attr (.var 0) "states") (.lit (.int 1))) .nil)))) (.cons (.asg (.sub (.var 6) (.var 2)) (.cmp .In (.lit (.val (.bool true))) (.comp [".0", "a", "layer", "self", "state"] [none,none,some 3,some 0,some 2] (.var 1) (.val (.var 5)) .tt (.sub (.var 2) (.sub (.sub (.attr (.var 3) "rows") (.bin .Sub (.var 4) (.lit (.int 1)))) (.bin .Sub (.var 1) (.lit (.int 1)))))))) .nil)) (.cons (.asg (.var 3) (.var 6)) (.cons (.frzv 3) (.cons (.expr (.meth (.var 4) "append" (.cons (.var 3) .nil))) .nil)))))) (.cons (.expr (.meth (.var 4) "reverse" .nil)) (.cons (.ret (.frz (.var 4))) .nil)))))))
theorem aIu {a b:AV} (h:VSs G n aIr (frame 7 [a,b]) H (RetQ Q)):CW G (n+1) (.ref 351) [a,b] H Q :=
  (fn_cc (S:=aIk) (k:=2) (by kernel_rfl!) (allN (by intro a b; show bindArgs _ _=_; kernel_rfl!)) rfl h).cw
noncomputable def aGu:List Str:=["self", "kept", "alive", "spot", "some", "noted", "k", "late", "state", "a", "goal"]
noncomputable def aHi:ISs:=(.cons (.loop (.var 6) (.val (.call (.type "range") (.cons (.var 3) (.cons (.call (.builtin "len") (.cons (.var 1) .nil)) .nil)))) (.cons (.asg (.var 7) (.list .nil)) (.cons (.loop (.var 8) (.val (.var 4)) (.cons (.loop (.var 9) (.val (.call (.type "range") (.cons (.lit (.int 1)) (.cons (.bin .Add (.attr (.var 0) "letters") (.lit (.int 1))) .nil)))) (.cons (.asg (.var 10) (.sub (.sub (.attr (.var 0) "rows") (.bin .Sub (.var 8) (.lit (.int 1)))) (.bin .Sub (.var 9) (.lit (.int 1))))) (.cons (.ite (.and (.cmp .NotEq (.var 10) (.lit (.int 0))) (.and (.not (.val (.sub (.sub (.var 2) (.bin .Add (.var 6) (.lit (.int 1)))) (.var 10)))) .tt)) (.cons (.expr (.meth (.var 7) "append" (.cons (.var 10) .nil))) .nil) (.cons (.ite (.cmp .NotEq (.var 10) (.lit (.int 0))) (.cons (.asg (.sub (.var 5) (.tup (.cons (.sub (.attr (.var 0) "scope") (.var 6)) (.cons (.lit (.str "!=")) (.cons (.var 9) .nil))))) (.lit (.val (.bool true)))) .nil) .nil) .nil)) .nil))) .nil)) (.cons (.asg (.var 4) (.sset (.var 7))) (.cons (.frzv 4) .nil))))) .nil)
theorem aHn {a b c d e f:AV} (h:VSs G n aHi (frame 11 [a,b,c,d,e,f]) H (RetQ Q)):CW G (n+1) (.ref 358) [a,b,c,d,e,f] H Q :=
  (fn_cc (S:=aGu) (k:=6) (by kernel_rfl!) (allN (by intro a b c d e f; show bindArgs _ _=_; kernel_rfl!)) rfl h).cw
noncomputable def aDo:List Str:=["self", "reached", "spot", "some", "noted", "k", "early", "state", "a"]
noncomputable def aDp:ISs:=(.cons (.loop (.var 5) (.val (.call (.type "range") (.cons (.bin .Sub (.var 2) (.lit (.int 1))) (.cons (.lit (.int (-1))) (.cons (.lit (.int (-1))) .nil))))) (.cons (.asg (.var 6) (.list .nil)) (.cons (.loop (.var 7) (.val (.call (.type "range") (.cons (.lit (.int 1)) (.cons (.bin .Add (.attr (.var 0) "states") (.lit (.int 1))) .nil)))) (.cons (.loop (.var 8) (.val (.call (.type "range") (.cons (.lit (.int 1)) (.cons (.bin .Add (.attr (.var 0) "letters") (.lit (.int 1))) .nil)))) (.cons (.ite (.cmp .In (.sub (.sub (.attr (.var 0) "rows") (.bin .Sub (.var 7) (.lit (.int 1)))) (.bin .Sub (.var 8) (.lit (.int 1)))) (.var 3)) (.cons (.ite (.val (.sub (.sub (.var 1) (.var 5)) (.var 7))) (.cons (.asg (.sub (.var 4) (.tup (.cons (.sub (.attr (.var 0) "scope") (.var 5)) (.cons (.lit (.str "!=")) (.cons (.var 8) .nil))))) (.lit (.val (.bool true)))) .nil) (.cons (.expr (.meth (.var 6) "append" (.cons (.var 7) .nil))) .nil)) .nil) .nil) .nil)) .nil)) (.cons (.asg (.var 3) (.sset (.var 6))) (.cons (.frzv 3) .nil))))) .nil)
theorem aDq {a b c d e:AV} (h:VSs G n aDp (frame 9 [a,b,c,d,e]) H (RetQ Q)):CW G (n+1) (.ref 365) [a,b,c,d,e] H Q :=
  (fn_cc (S:=aDo) (k:=5) (by kernel_rfl!) (allN (by intro a b c d e; show bindArgs _ _=_; kernel_rfl!)) rfl h).cw
noncomputable def aGf:List Str:=["self", "store", "noted"]
noncomputable def aGh:ISs:=(.cons (.ret (.call (.type "tuple") (.cons (.comp [".0", "literal", "store"] [none,none,some 1] (.var 1) (.val (.call (.builtin "sorted") (.cons (.var 2) .nil))) (.val (.call (.ref 63) (.cons (.meth (.var 2) "initial" (.cons (.sub (.var 1) (.lit (.int 0))) .nil)) (.cons (.sub (.var 1) (.lit (.int 2))) .nil)))) (.var 1)) .nil))) .nil)
theorem aGj {a b c:AV} (h:VSs G n aGh (frame 3 [a,b,c]) H (RetQ Q)):CW G (n+1) (.ref 370) [a,b,c] H Q :=
  (fn_cc (S:=aGf) (k:=3) (by kernel_rfl!) (allN (by intro a b c; show bindArgs _ _=_; kernel_rfl!)) rfl h).cw
noncomputable def aKe:List Str:=["self", "store", "kept", "reached", "alive", "spot", "a", "dead", "unreached", "noted", "state", "goal"]
noncomputable def aKy:ISs:=(.cons (.swap [7,8,9] (.tup (.cons (.list .nil) (.cons (.list .nil) (.cons (.dict0 1) .nil))))) (.cons (.loop (.var 10) (.val (.call (.type "range") (.cons (.lit (.int 1)) (.cons (.bin .Add (.attr (.var 0) "states") (.lit (.int 1))) .nil)))) (.cons (.asg (.var 11) (.sub (.sub (.attr (.var 0) "rows") (.bin .Sub (.var 10) (.lit (.int 1)))) (.bin .Sub (.var 6) (.lit (.int 1))))) (.cons (.ite (.and (.cmp .NotEq (.var 11) (.lit (.int 0))) (.and (.not (.val (.sub (.sub (.var 4) (.bin .Add (.var 5) (.lit (.int 1)))) (.var 11)))) .tt)) (.cons (.expr (.meth (.var 7) "append" (.cons (.var 11) .nil))) .nil) (.cons (.ite (.cmp .NotEq (.var 11) (.lit (.int 0))) (.cons (.expr (.meth (.var 8) "append" (.cons (.var 10) .nil))) .nil) .nil) .nil)) .nil))) (.cons (.expr (.meth (.var 0) "note_dead" (.cons (.var 2) (.cons (.var 4) (.cons (.bin .Add (.var 5) (.lit (.int 1))) (.cons (.frz (.sset (.var 7))) (.cons (.var 9) .nil))))))) (.cons (.expr (.meth (.var 0) "note_unreached" (.cons (.var 3) (.cons (.var 5) (.cons (.frz (.var 8)) (.cons (.var 9) .nil)))))) (.cons (.ret (.meth (.var 0) "reasons_of" (.cons (.var 1) (.cons (.var 9) .nil)))) .nil)))))
theorem aLf {a b c d e f g:AV} (h:VSs G n aKy (frame 12 [a,b,c,d,e,f,g]) H (RetQ Q)):CW G (n+1) (.ref 377) [a,b,c,d,e,f,g] H Q :=
  (fn_cc (S:=aKe) (k:=7) (by kernel_rfl!) (allN (by intro a b c d e f g; show bindArgs _ _=_; kernel_rfl!)) rfl h).cw
noncomputable def aFe:List Str:=["self", "reached", "alive", "spot", "a", "state"]
noncomputable def aFh:ISs:=(.cons (.loop (.var 5) (.val (.call (.type "range") (.cons (.lit (.int 1)) (.cons (.bin .Add (.attr (.var 0) "states") (.lit (.int 1))) .nil)))) (.cons (.ite (.and (.val (.sub (.sub (.var 1) (.var 3)) (.var 5))) (.and (.val (.sub (.sub (.var 2) (.bin .Add (.var 3) (.lit (.int 1)))) (.sub (.sub (.attr (.var 0) "rows") (.bin .Sub (.var 5) (.lit (.int 1)))) (.bin .Sub (.var 4) (.lit (.int 1)))))) .tt)) (.cons (.ret (.lit (.val (.bool true)))) .nil) .nil) .nil)) (.cons (.ret (.lit (.val (.bool false)))) .nil))
theorem aFi {a b c d e:AV} (h:VSs G n aFh (frame 6 [a,b,c,d,e]) H (RetQ Q)):CW G (n+1) (.ref 384) [a,b,c,d,e] H Q :=
  (fn_cc (S:=aFe) (k:=5) (by kernel_rfl!) (allN (by intro a b c d e; show bindArgs _ _=_; kernel_rfl!)) rfl h).cw
noncomputable def aEi:List Str:=["self", "store", "x"]
noncomputable def aEt:ISs:=(.cons (.loop (.var 2) (.val (.attr (.var 0) "scope")) (.cons (.ite (.or (.not (.val (.meth (.var 1) "strike" (.cons (.tup (.cons (.var 2) (.cons (.lit (.str ">=")) (.cons (.lit (.int 1)) .nil)))) (.cons (.tup .nil) .nil))))) (.or (.not (.val (.meth (.var 1) "strike" (.cons (.tup (.cons (.var 2) (.cons (.lit (.str "<=")) (.cons (.attr (.var 0) "letters") .nil)))) (.cons (.tup .nil) .nil))))) .ff)) (.cons (.ret (.lit (.val (.bool false)))) .nil) .nil) .nil)) (.cons (.ret (.lit (.val (.bool true)))) .nil))
theorem aEw {a b:AV} (h:VSs G n aEt (frame 3 [a,b]) H (RetQ Q)):CW G (n+1) (.ref 391) [a,b] H Q :=
  (fn_cc (S:=aEi) (k:=2) (by kernel_rfl!) (allN (by intro a b; show bindArgs _ _=_; kernel_rfl!)) rfl h).cw
noncomputable def aEh:List Str:=["self", "store", "kept", "reached", "alive", "noted", "found", "spot", "a", "reasons"]
noncomputable def aEs:ISs:=(.cons (.asgc 2 (.comp [".0", "x", "store"] [none,none,some 1] (.var 1) (.val (.attr (.var 0) "scope")) .tt (.call (.ref 70) (.cons (.meth (.var 2) "dom" (.cons (.var 1) .nil)) .nil)))) (.cons (.frzv 2) (.cons (.swap [3,4] (.tup (.cons (.meth (.var 0) "reached_of" (.cons (.var 2) .nil)) (.cons (.meth (.var 0) "alive_of" (.cons (.var 2) .nil)) .nil)))) (.cons (.ite (.not (.val (.sub (.sub (.var 4) (.lit (.int 0))) (.attr (.var 0) "start")))) (.cons (.asg (.var 5) (.dict0 1)) (.cons (.expr (.meth (.var 0) "note_dead" (.cons (.var 2) (.cons (.var 4) (.cons (.lit (.int 0)) (.cons (.frz (.list (.cons (.attr (.var 0) "start") .nil))) (.cons (.var 5) .nil))))))) (.cons (.expr (.meth (.var 1) "fail" (.cons (.meth (.var 0) "reasons_of" (.cons (.var 1) (.cons (.var 5) .nil))) .nil))) (.cons (.ret (.lit (.int (-1)))) .nil)))) .nil) (.cons (.asg (.var 6) (.lit (.int 0))) (.cons (.loop (.var 7) (.val (.call (.type "range") (.cons (.call (.builtin "len") (.cons (.var 2) .nil)) .nil))) (.cons (.loop (.var 8) (.val (.sub (.var 2) (.var 7))) (.cons (.ite (.not (.val (.meth (.var 0) "has_support" (.cons (.var 3) (.cons (.var 4) (.cons (.var 7) (.cons (.var 8) .nil))))))) (.cons (.asg (.var 9) (.meth (.var 0) "why_not" (.cons (.var 1) (.cons (.var 2) (.cons (.var 3) (.cons (.var 4) (.cons (.var 7) (.cons (.var 8) .nil)))))))) (.cons (.ite (.not (.val (.meth (.var 1) "strike" (.cons (.tup (.cons (.sub (.attr (.var 0) "scope") (.var 7)) (.cons (.lit (.str "!=")) (.cons (.var 8) .nil)))) (.cons (.var 9) .nil))))) (.cons (.ret (.lit (.int (-1)))) .nil) .nil) (.cons (.asg (.var 6) (.lit (.int 1))) .nil))) .nil) .nil)) .nil)) (.cons (.ret (.var 6)) .nil)))))))
theorem aEv {a b:AV} (h:VSs G n aEs (frame 10 [a,b]) H (RetQ Q)):CW G (n+1) (.ref 396) [a,b] H Q :=
  (fn_cc (S:=aEh) (k:=2) (by kernel_rfl!) (allN (by intro a b; show bindArgs _ _=_; kernel_rfl!)) rfl h).cw
noncomputable def aGt:List Str:=["self", "store", "told"]
noncomputable def aHh:ISs:=(.cons (.ite (.not (.val (.meth (.var 0) "keep_letters" (.cons (.var 1) .nil)))) (.cons (.ret (.lit (.val (.bool false)))) .nil) .nil) (.cons (.asg (.var 2) (.meth (.var 0) "strike_round" (.cons (.var 1) .nil))) (.cons (.while (.and (.cmp .Eq (.var 2) (.lit (.int 1))) (.and (.val (.attr (.var 0) "has_twins")) .tt)) (.cons (.asg (.var 2) (.meth (.var 0) "strike_round" (.cons (.var 1) .nil))) .nil)) (.cons (.ret (.cmp .GtE (.var 2) (.lit (.int 0)))) .nil))))
theorem aHm {a b:AV} (h:VSs G n aHh (frame 3 [a,b]) H (RetQ Q)):CW G (n+1) (.ref 403) [a,b] H Q :=
  (fn_cc (S:=aGt) (k:=2) (by kernel_rfl!) (allN (by intro a b; show bindArgs _ _=_; kernel_rfl!)) rfl h).cw
noncomputable def aOy:List Str:=["source", "many", "spot"]
noncomputable def aPn:ISs:=(.cons (.asg (.var 2) (.sub (.var 0) (.lit (.str "spot")))) (.cons (.asg (.sub (.var 0) (.lit (.str "spot"))) (.bin .Add (.var 2) (.lit (.int 1)))) (.cons (.ret (.bin .Mod (.ite (.cmp .Lt (.var 2) (.call (.builtin "len") (.cons (.sub (.var 0) (.lit (.str "cells"))) .nil))) (.sub (.sub (.var 0) (.lit (.str "cells"))) (.var 2)) (.bin .Add (.bin .Add (.bin .Mult (.bin .Mult (.lit (.int 5)) (.var 2)) (.var 2)) (.bin .Mult (.lit (.int 7)) (.var 2))) (.lit (.int 3)))) (.var 1))) .nil)))
theorem aPu {a b:AV} (h:VSs G n aPn (frame 3 [a,b]) H (RetQ Q)):CW G (n+1) (.ref 415) [a,b] H Q :=
  (fn_cc (S:=aOy) (k:=2) (by kernel_rfl!) (allN (by intro a b; show bindArgs _ _=_; kernel_rfl!)) rfl h).cw
noncomputable def aOx:List Str:=["machine", "word", "letters", "rows", "start", "finals", "good", "a"]
noncomputable def aPm:ISs:=(.cons (.asg (.tup (.cons (.var 2) (.cons (.var 3) (.cons (.var 4) (.cons (.var 5) .nil))))) (.var 0)) (.cons (.asg (.var 6) (.call (.type "list") (.cons (.var 5) .nil))) (.cons (.frzv 6) (.cons (.loop (.var 7) (.call (.type "reversed") (.cons (.var 1) .nil)) (.cons (.ite (.not (.chain .LtE .LtE (.lit (.int 1)) (.var 7) (.var 2))) (.cons (.ret (.lit (.val (.bool false)))) .nil) .nil) (.cons (.asg (.var 6) (.comp [".0", "state", "a", "good", "rows"] [none,none,some 7,some 6,some 3] (.var 1) (.val (.call (.type "range") (.cons (.lit (.int 1)) (.cons (.bin .Add (.call (.builtin "len") (.cons (.var 3) .nil)) (.lit (.int 1))) .nil)))) (.cmp .In (.sub (.sub (.var 4) (.bin .Sub (.var 1) (.lit (.int 1)))) (.bin .Sub (.var 2) (.lit (.int 1)))) (.var 3)) (.var 1))) (.cons (.frzv 6) .nil)))) (.cons (.ret (.cmp .In (.var 4) (.var 6))) .nil)))))
theorem aPt {a b:AV} (h:VSs G n aPm (frame 8 [a,b]) H (RetQ Q)):CW G (n+1) (.ref 420) [a,b] H Q :=
  (fn_cc (S:=aOx) (k:=2) (by kernel_rfl!) (allN (by intro a b; show bindArgs _ _=_; kernel_rfl!)) rfl h).cw
noncomputable def aMe:List Str:=["lists", "found", "some"]
noncomputable def aMy:ISs:=(.cons (.asg (.var 1) (.list (.cons (.tup .nil) .nil))) (.cons (.frzv 1) (.cons (.loop (.var 2) (.val (.var 0)) (.cons (.asgc 1 (.comp2 [".0", "word", "a", "some"] [none,none,none,some 2] (.var 1) (.val (.var 1)) (.var 2) (.val (.var 3)) (.bin .Add (.var 1) (.tup (.cons (.var 2) .nil))))) (.cons (.frzv 1) .nil))) (.cons (.ret (.var 1)) .nil))))
theorem aNe {a:AV} (h:VSs G n aMy (frame 3 [a]) H (RetQ Q)):CW G (n+1) (.ref 425) [a] H Q :=
  (fn_cc (S:=aMe) (k:=1) (by kernel_rfl!) (allN (by intro a; show bindArgs _ _=_; kernel_rfl!)) rfl h).cw
noncomputable def aOv:List Str:=["literal", "v", "x", "sign", "k"]
noncomputable def aPj:ISs:=(.cons (.asg (.tup (.cons (.var 2) (.cons (.var 3) (.cons (.var 4) .nil)))) (.var 0)) (.cons (.ret (.ite (.cmp .Eq (.var 3) (.lit (.str "<="))) (.cmp .LtE (.var 1) (.var 4)) (.ite (.cmp .Eq (.var 3) (.lit (.str ">="))) (.cmp .GtE (.var 1) (.var 4)) (.ite (.cmp .Eq (.var 3) (.lit (.str "="))) (.cmp .Eq (.var 1) (.var 4)) (.cmp .NotEq (.var 1) (.var 4)))))) .nil))
theorem aPr {a b:AV} (h:VSs G n aPj (frame 5 [a,b]) H (RetQ Q)):CW G (n+1) (.ref 432) [a,b] H Q :=
  (fn_cc (S:=aOv) (k:=2) (by kernel_rfl!) (allN (by intro a b; show bindArgs _ _=_; kernel_rfl!)) rfl h).cw
noncomputable def aOw:List Str:=["literals", "known"]
noncomputable def aPk:ISs:=(.cons (.ret (.call (.builtin "all") (.cons (.comp2 [".0", "one", "v", "known"] [none,none,none,some 1] (.var 1) (.val (.var 0)) (.var 2) (.val (.sub (.var 3) (.sub (.var 1) (.lit (.int 0))))) (.call (.ref 432) (.cons (.var 1) (.cons (.var 2) .nil)))) .nil))) .nil)
theorem aPs {a b:AV} (h:VSs G n aPk (frame 2 [a,b]) H (RetQ Q)):CW G (n+1) (.ref 437) [a,b] H Q :=
  (fn_cc (S:=aOw) (k:=2) (by kernel_rfl!) (allN (by intro a b; show bindArgs _ _=_; kernel_rfl!)) rfl h).cw
noncomputable def aIm:List Str:=["words", "reasons", "literal", "word"]
noncomputable def aIs:ISs:=(.cons (.loop (.var 3) (.val (.var 0)) (.cons (.ite (.val (.call (.builtin "all") (.cons (.comp [".0", "one", "word"] [none,none,some 3] (.var 1) (.val (.var 1)) .tt (.call (.ref 432) (.cons (.var 1) (.cons (.sub (.var 2) (.sub (.var 1) (.lit (.int 0)))) .nil)))) .nil))) (.cons (.ite (.or (.cmp .Is (.var 2) (.lit (.val .none))) (.or (.not (.val (.call (.ref 432) (.cons (.var 2) (.cons (.sub (.var 3) (.sub (.var 2) (.lit (.int 0)))) .nil))))) .ff)) (.cons (.ret (.lit (.val (.bool false)))) .nil) .nil) .nil) .nil) .nil)) (.cons (.ret (.lit (.val (.bool true)))) .nil))
theorem aIv {a b c:AV} (h:VSs G n aIs (frame 4 [a,b,c]) H (RetQ Q)):CW G (n+1) (.ref 442) [a,b,c] H Q :=
  (fn_cc (S:=aIm) (k:=3) (by kernel_rfl!) (allN (by intro a b c; show bindArgs _ _=_; kernel_rfl!)) rfl h).cw
noncomputable def aCh:List Str:=["store", "words", "known", "entries", "x", "old", "literal", "reasons", "speaker", "late"]
noncomputable def aCn:ISs:=(.cons (.loop (.tup (.cons (.var 4) (.cons (.var 5) (.cons (.var 6) (.cons (.var 7) (.cons (.var 8) .nil)))))) (.val (.var 3)) (.cons (.asgc 9 (.comp [".0", "v", "literal"] [none,none,some 6] (.var 1) (.val (.sub (.var 2) (.var 4))) (.val (.call (.ref 432) (.cons (.var 2) (.cons (.var 1) .nil)))) (.var 1))) (.cons (.frzv 9) (.cons (.ite (.or (.cmp .NotEq (.sub (.var 6) (.lit (.int 0))) (.var 4)) (.or (.cmp .NotEq (.call (.ref 70) (.cons (.var 5) .nil)) (.sub (.var 2) (.var 4))) (.or (.cmp .Eq (.var 9) (.list .nil)) (.or (.cmp .Eq (.var 9) (.sub (.var 2) (.var 4))) (.or (.cmp .Is (.var 7) (.lit (.val .none))) .ff))))) (.cons (.ret (.lit (.val (.bool false)))) .nil) .nil) (.cons (.ite (.or (.not (.val (.call (.ref 437) (.cons (.var 7) (.cons (.var 2) .nil))))) (.or (.not (.val (.call (.ref 442) (.cons (.var 1) (.cons (.var 7) (.cons (.var 6) .nil)))))) .ff)) (.cons (.ret (.lit (.val (.bool false)))) .nil) .nil) (.cons (.asg (.sub (.var 2) (.var 4)) (.var 9)) .nil)))))) (.cons (.ret (.cmp .Eq (.var 2) (.comp [".0", "x", "store"] [none,none,some 0] (.var 1) (.val (.call (.type "range") (.cons (.meth (.var 0) "size" .nil) .nil))) .tt (.call (.ref 70) (.cons (.meth (.var 2) "dom" (.cons (.var 1) .nil)) .nil))))) .nil))
theorem aCo {a b c d:AV} (h:VSs G n aCn (frame 10 [a,b,c,d]) H (RetQ Q)):CW G (n+1) (.ref 447) [a,b,c,d] H Q :=
  (fn_cc (S:=aCh) (k:=4) (by kernel_rfl!) (allN (by intro a b c d; show bindArgs _ _=_; kernel_rfl!)) rfl h).cw
noncomputable def aGv:List Str:=["store", "regular", "words", "known", "left", "mark", "stands"]
noncomputable def aHj:ISs:=(.cons (.asg (.var 3) (.comp [".0", "x", "store"] [none,none,some 0] (.var 1) (.val (.call (.type "range") (.cons (.meth (.var 0) "size" .nil) .nil))) .tt (.call (.ref 70) (.cons (.meth (.var 2) "dom" (.cons (.var 1) .nil)) .nil)))) (.cons (.asg (.var 4) (.comp [".0", "word", "known"] [none,none,some 3] (.var 1) (.val (.var 2)) (.val (.call (.builtin "all") (.cons (.comp [".0", "a", "some"] [none,none,none] (.tup (.cons (.var 1) (.cons (.var 2) .nil))) (.call (.type "zip") (.cons (.var 1) (.cons (.var 2) .nil))) .tt (.cmp .In (.var 1) (.var 2))) .nil))) (.var 1))) (.cons (.frzv 4) (.cons (.asg (.var 5) (.call (.builtin "len") (.cons (.attr (.var 0) "trail") .nil))) (.cons (.asg (.var 6) (.meth (.var 1) "propagate" (.cons (.var 0) .nil))) (.cons (.ite (.not (.val (.call (.ref 447) (.cons (.var 0) (.cons (.var 2) (.cons (.var 3) (.cons (.fromOn (.attr (.var 0) "trail") (.var 5)) .nil))))))) (.cons (.ret (.lit (.val .none))) .nil) .nil) (.cons (.ite (.or (.cmp .IsNot (.var 6) (.cmp .NotEq (.var 4) (.list .nil))) (.or (.cmp .Is (.attr (.var 0) "is_failed") (.var 6)) .ff)) (.cons (.ret (.lit (.val .none))) .nil) .nil) (.cons (.ite (.not (.val (.var 6))) (.cons (.ret (.ite (.and (.val (.call (.ref 437) (.cons (.attr (.var 0) "clash") (.cons (.var 3) .nil)))) (.and (.val (.call (.ref 442) (.cons (.var 2) (.cons (.attr (.var 0) "clash") (.cons (.lit (.val .none)) .nil))))) .tt)) (.lit (.val (.bool false))) (.lit (.val .none)))) .nil) .nil) (.cons (.ite (.cmp .NotEq (.var 3) (.comp [".0", "x", "left"] [none,none,some 4] (.var 1) (.val (.call (.type "range") (.cons (.call (.builtin "len") (.cons (.var 3) .nil)) .nil))) .tt (.sset (.comp [".0", "word", "x"] [none,none,some 1] (.var 1) (.val (.var 2)) .tt (.sub (.var 1) (.var 2)))))) (.cons (.ret (.lit (.val .none))) .nil) .nil) (.cons (.asg (.var 5) (.call (.builtin "len") (.cons (.attr (.var 0) "trail") .nil))) (.cons (.ret (.ite (.and (.cmp .Is (.meth (.var 1) "propagate" (.cons (.var 0) .nil)) (.lit (.val (.bool true)))) (.and (.cmp .Eq (.call (.builtin "len") (.cons (.attr (.var 0) "trail") .nil)) (.var 5)) .tt)) (.lit (.val (.bool true))) (.lit (.val .none)))) .nil)))))))))))
theorem aHo {a b c:AV} (h:VSs G n aHj (frame 7 [a,b,c]) H (RetQ Q)):CW G (n+1) (.ref 452) [a,b,c] H Q :=
  (fn_cc (S:=aGv) (k:=3) (by kernel_rfl!) (allN (by intro a b c; show bindArgs _ _=_; kernel_rfl!)) rfl h).cw
noncomputable def bJz:List Str:=["script", "source", "states", "letters", "many", "rows", "start", "finals", "store", "lists", "x", "mask", "machine", "regular", "words", "before", "stands", "lap", "literal"]
noncomputable def bEf:ISs:=(.cons (.asg (.var 1) (.dict2 "cells" "spot" (.frz (.comp [".0", "cell"] [none,none] (.var 1) (.val (.upto (.var 0) (.lit (.int 40)))) .tt (.call (.builtin "abs") (.cons (.var 1) .nil)))) (.lit (.int 0)))) (.cons (.asg (.tup (.cons (.var 2) (.cons (.var 3) .nil))) (.tup (.cons (.bin .Add (.lit (.int 1)) (.call (.ref 415) (.cons (.var 1) (.cons (.lit (.int 3)) .nil)))) (.cons (.bin .Add (.lit (.int 1)) (.call (.ref 415) (.cons (.var 1) (.cons (.lit (.int 3)) .nil)))) .nil)))) (.cons (.asg (.var 4) (.bin .Add (.lit (.int 1)) (.call (.ref 415) (.cons (.var 1) (.cons (.ite (.cmp .Lt (.var 3) (.lit (.int 3))) (.lit (.int 3)) (.lit (.int 2))) .nil))))) (.cons (.asg (.var 5) (.call (.type "tuple") (.cons (.comp [".0", "state", "letters", "source", "states"] [none,none,some 3,some 1,some 2] (.var 1) (.val (.call (.type "range") (.cons (.var 2) .nil))) .tt (.call (.type "tuple") (.cons (.comp [".0", "a", "source", "states"] [none,none,some 3,some 4] (.var 1) (.val (.call (.type "range") (.cons (.var 2) .nil))) .tt (.call (.ref 415) (.cons (.var 2) (.cons (.bin .Add (.var 3) (.lit (.int 1))) .nil)))) .nil))) .nil))) (.cons (.asg (.var 6) (.bin .Add (.lit (.int 1)) (.call (.ref 415) (.cons (.var 1) (.cons (.var 2) .nil))))) (.cons (.asg (.var 7) (.call (.type "tuple") (.cons (.comp [".0", "state", "source"] [none,none,some 1] (.var 1) (.val (.call (.type "range") (.cons (.lit (.int 1)) (.cons (.bin .Add (.var 2) (.lit (.int 1))) .nil)))) (.cmp .Eq (.call (.ref 415) (.cons (.var 2) (.cons (.lit (.int 2)) .nil))) (.lit (.int 1))) (.var 1)) .nil))) (.cons (.asg (.tup (.cons (.var 8) (.cons (.var 9) .nil))) (.tup (.cons (.call (.ref 265) .nil) (.cons (.list .nil) .nil)))) (.cons (.loop (.var 10) (.val (.call (.type "range") (.cons (.var 4) .nil))) (.cons (.asg (.var 11) (.call (.ref 415) (.cons (.var 1) (.cons (.bin .Pow (.lit (.int 2)) (.bin .Add (.var 3) (.lit (.int 2)))) .nil)))) (.cons (.expr (.meth (.var 9) "append" (.cons (.frz (.comp [".0", "v", "mask"] [none,none,some 11] (.var 1) (.val (.call (.type "range") (.cons (.bin .Add (.var 3) (.lit (.int 2))) .nil))) (.or (.cmp .Eq (.var 2) (.lit (.int 0))) (.or (.cmp .Eq (.bin .BitAnd (.bin .RShift (.var 2) (.var 1)) (.lit (.int 1))) (.lit (.int 1))) .ff)) (.var 1))) .nil))) (.cons (.expr (.meth (.var 8) "new_var" (.cons (.call (.ref 35) (.cons (.sub (.var 9) (.var 10)) .nil)) .nil))) .nil)))) (.cons (.asg (.var 12) (.tup (.cons (.var 3) (.cons (.var 5) (.cons (.var 6) (.cons (.var 7) .nil)))))) (.cons (.asg (.var 13) (.call (.ref 406) (.cons (.call (.type "tuple") (.cons (.call (.type "range") (.cons (.var 4) .nil)) .nil)) (.cons (.var 2) (.cons (.var 3) (.cons (.var 5) (.cons (.var 6) (.cons (.var 7) .nil)))))))) (.cons (.ite (.or (.cmp .NotEq (.meth (.var 13) "told" .nil) (.tup (.cons (.lit (.str "regular")) (.cons (.call (.type "tuple") (.cons (.call (.type "range") (.cons (.var 4) .nil)) .nil)) (.cons (.var 2) (.cons (.var 3) (.cons (.var 5) (.cons (.var 6) (.cons (.var 7) .nil))))))))) (.or (.cmp .NotEq (.attr (.var 13) "strength") (.lit (.str "values"))) .ff)) (.cons (.ret (.lit (.val (.bool false)))) .nil) .nil) (.cons (.asg (.var 14) (.call (.ref 425) (.cons (.var 9) .nil))) (.cons (.ite (.cmp .NotEq (.comp [".0", "word", "machine", "regular"] [none,none,some 12,some 13] (.var 1) (.val (.var 14)) (.cmp .IsNot (.meth (.var 3) "check" (.cons (.call (.type "list") (.cons (.var 1) .nil)) .nil)) (.call (.ref 420) (.cons (.var 2) (.cons (.var 1) .nil)))) (.var 1)) (.list .nil)) (.cons (.ret (.lit (.val (.bool false)))) .nil) .nil) (.cons (.asgc 14 (.comp [".0", "word", "machine"] [none,none,some 12] (.var 1) (.val (.var 14)) (.val (.call (.ref 420) (.cons (.var 2) (.cons (.var 1) .nil)))) (.var 1))) (.cons (.frzv 14) (.cons (.swap [15,16] (.tup (.cons (.list .nil) (.cons (.call (.ref 452) (.cons (.var 8) (.cons (.var 13) (.cons (.var 14) .nil)))) .nil)))) (.cons (.loop (.var 17) (.val (.call (.type "range") (.cons (.lit (.int 3)) .nil))) (.cons (.ite (.cmp .Is (.var 16) (.lit (.val (.bool true)))) (.cons (.expr (.meth (.var 15) "append" (.cons (.frz (.comp [".0", "x", "store"] [none,none,some 8] (.var 1) (.val (.call (.type "range") (.cons (.var 4) .nil))) .tt (.call (.ref 70) (.cons (.meth (.var 2) "dom" (.cons (.var 1) .nil)) .nil)))) .nil))) (.cons (.expr (.meth (.var 8) "push" .nil)) (.cons (.asg (.var 10) (.call (.ref 415) (.cons (.var 1) (.cons (.var 4) .nil)))) (.cons (.asg (.var 18) (.tup (.cons (.var 10) (.cons (.sub (.list (.cons (.lit (.str "<=")) (.cons (.lit (.str ">=")) (.cons (.lit (.str "=")) (.cons (.lit (.str "!=")) .nil))))) (.call (.ref 415) (.cons (.var 1) (.cons (.lit (.int 4)) .nil)))) (.cons (.call (.ref 415) (.cons (.var 1) (.cons (.bin .Add (.var 3) (.lit (.int 2))) .nil))) .nil))))) (.cons (.asg (.var 16) (.ite (.val (.meth (.var 8) "decide" (.cons (.var 18) .nil))) (.call (.ref 452) (.cons (.var 8) (.cons (.var 13) (.cons (.var 14) .nil)))) (.lit (.val (.bool false))))) .nil))))) .nil) .nil)) (.cons (.ite (.cmp .Is (.var 16) (.lit (.val .none))) (.cons (.ret (.lit (.val (.bool false)))) .nil) .nil) (.cons (.while (.cmp .NotEq (.var 15) (.list .nil)) (.cons (.expr (.meth (.var 8) "pop" (.cons (.lit (.int 1)) .nil))) (.cons (.ite (.or (.cmp .NotEq (.comp [".0", "x", "store"] [none,none,some 8] (.var 1) (.val (.call (.type "range") (.cons (.var 4) .nil))) .tt (.call (.ref 70) (.cons (.meth (.var 2) "dom" (.cons (.var 1) .nil)) .nil))) (.meth (.var 15) "pop" .nil)) (.or (.val (.attr (.var 8) "is_failed")) .ff)) (.cons (.ret (.lit (.val (.bool false)))) .nil) .nil) .nil))) (.cons (.ret (.lit (.val (.bool true)))) .nil))))))))))))))))))))
theorem bKs {a:AV} (h:VSs G n bEf (frame 19 [a]) H (RetQ Q)):CW G (n+1) (.ref 457) [a] H Q :=
  (fn_cc (S:=bJz) (k:=1) (by kernel_rfl!) (allN (by intro a; show bindArgs _ _=_; kernel_rfl!)) rfl h).cw
end
end
section
variable {G:Cx} {n:Nat} {H:AHeap} {Q:AV→AHeap→Prop}
theorem aEn {slice:Expr} (h:aFf slice=true):∀ o i,subscripted slice false o i=operate [o,i] (getItem o i):=fun o i=>by
  cases slice <;> first | rfl | cases h
theorem aBq {l:List AV} {k:Int} {v:AV} (h0:0≤k) (hv:l[k.toNat]?=some v) (hl:l.length≤1000) (h:Q v H):GetI G n (.tup l) (.int k) H Q:=fun _ _ hs=>bFr h0 hv hl h (aEn hs)
theorem aAp {l:List AV} {k:Nat} {v:AV} (hv:lget (l.map some) k=some v) (hl:Nat.ble l.length 1000=true) (h:Q v H):GetI G n (.tup l) (.int (.ofNat k)) H Q:=by
  refine aBq (Int.natCast_nonneg k) ?_ (Nat.le_of_ble_eq_true hl) h
  rw [show (Int.ofNat k).toNat=k from rfl]
  clear h hl
  induction l generalizing k with
  | nil=>simp [lget] at hv
  | cons a l ih =>
    cases k with
    | zero=>simpa [lget] using hv
    | succ k=>simpa using ih (show lget (l.map some) k=some v from hv)
theorem aAq {o:AV} {l:List AV} {k:Int} {v:AV} (he:IsL H o l) (h0:0≤k) (hv:l[k.toNat]?=some v) (hl:l.length < 2 ^ 62) (h:Q v H):GetI G n o (.int k) H Q:=fun _ _ hs=>bAe he h0 hv hl h (aEn hs)
theorem aDt {o:AV} {l:List AV} {v:AV} (he:IsL H o l) (hv:l[l.length - 1]?=some v) (hl:l.length < 2 ^ 62) (h:Q v H):GetI G n o (.int (-1)) H Q:=fun _ _ hs=>aKb he hv hl h (aEn hs)
theorem aFj {a:Addr} {l:List (Str × AV)} {x:Str} {v:AV} (he:H a=some (.sdict l)) (hv:l.lookup x=some v) (h:Q v H):GetI G n (.val (.ref a)) (.str x) H Q:=fun _ _ hs=>aVd he hv h (aEn hs)
noncomputable def neB (a b:Str):Bool:=!decide (a=b)
theorem bGj {x y:Str} {v:Option AV} {w:AV} {r:List (Str × AV)} (h:neB x y=true) (e:r.lookup x=v):((y,w) :: r).lookup x=v:=by
  have:(x == y)=false:=by
    rw [beq_eq_false_iff_ne]; intro z; rw [z] at h; simp [neB] at h
  simp [List.lookup_cons,this,e]
theorem aKu {x:Str} {v:AV} {r:List (Str × AV)}:((x,v) :: r).lookup x=some v:=by simp
noncomputable def atB (w:World) (C:Addr) (name:Str):Bool:=plainGet (KF w) C name && hasDictIn (KF w) C && (match findIn (KF w) (.ref C) name with | some none=>true | _=>false) && noGet (KF w) none
theorem aAn {a C dx:Addr} {at':List (Str × AV)} {av:AV} {name:Str} (e1:H a=some (.inst C dx)) (e2:H dx=some (.attrs at')) (hl:at'.lookup name=some av) (hh:aLc av=true) (hb:atB G.w C name=true) (h:Q av H):AtL G name (.val (.ref a)) H Q:=by
  simp only [atB,Bool.and_eq_true] at hb
  obtain ⟨⟨⟨h1,h2⟩,h3⟩,h4⟩:=hb
  split at h3
  · rename_i e; exact ⟨a,C,dx,at',av,none,rfl,e1,e2,hl,hh,h1,h2,e,h4,h⟩
  · cases h3
noncomputable def meB (w:World) (C:Addr) (name:Str) (f:Addr):Bool:=plainGet (KF w) C name && (findIn (KF w) (.ref C) name == some (some (.ref f)) && (isFn (KF w) (.ref f) && keepIn (KF w) (.ref f)))
theorem aAe {a C dx f:Addr} {at':List (Str × AV)} {name:Str} {K:Value→Prop} (e1:H a=some (.inst C dx)) (e2:H dx=some (.attrs at')) (hm:at'.lookup name=none) (hb:meB G.w C name f=true) (h:K (.ref f)):MethQ G name (.val (.ref a)) H K:=by
  simp only [meB,Bool.and_eq_true,beq_iff_eq] at hb
  unfold MethQ
  exact ⟨_,aWg e1 e2 hm hb.1 hb.2.1 hb.2.2.1,aSa hb.2.2.2,h⟩
theorem aAg {a:Addr} {l:List AV} {K:Value→Prop} (he:H a=some (.list l)) (h:K (.builtin "list.append")):MethQ G "append" (.val (.ref a)) H K:=by
  unfold MethQ; exact ⟨_,aPe he,aAm,h⟩
theorem bEb {a:Addr} {l:List AV} {K:Value→Prop} (he:H a=some (.list l)) (h:K (.builtin "list.pop")):MethQ G "pop" (.val (.ref a)) H K:=by
  unfold MethQ; exact ⟨_,bBf he,aAm,h⟩
theorem aTg {a:Addr} {l:List AV} {K:Value→Prop} (he:H a=some (.list l)) (h:K (.builtin "list.reverse")):MethQ G "reverse" (.val (.ref a)) H K:=by
  unfold MethQ; exact ⟨_,aMq he,aAm,h⟩
theorem aWi {a:Addr} {l:List AV} {K:Value→Prop} (he:H a=some (.list l)) (h:K (.builtin "list.extend")):MethQ G "extend" (.val (.ref a)) H K:=by
  unfold MethQ; exact ⟨_,aPd he,aAm,h⟩
theorem aBn {l:List AV} {Q:List AV→(AHeap→Prop)→AHeap→Prop} (h:Q l (fun _=>True) H):IterU G n (.tup l) H Q:=bBm fun _ hs=>⟨_,hs,h⟩
theorem aBi {o:AV} {l:List AV} {Q:List AV→(AHeap→Prop)→AHeap→Prop} (he:IsL H o l) (h:Q l (usr o l) H):IterU G n o H Q:=aMu he fun _ hs=>⟨_,hs,h⟩
theorem aAh {l:List AV} {Q:List AV→(AHeap→Prop)→AHeap→Prop} (h:Q l (fun _=>True) H):IterU G n (.lst l) H Q:=aMu .frz fun _ hs=>⟨_,hs,h⟩
theorem aMt {a b:Int} {k:Nat} {Q:List AV→(AHeap→Prop)→AHeap→Prop} (hs:Builtin.Range.small a b 1=true) (hk:Builtin.Range.rangeSize a b 1=k) (h:Q (rngL a 1 k) (fun _=>True) H):IterU G n (.rng a b 1) H Q:=aRm hs hk ⟨_,SrcQ.refl _ _,h⟩
theorem aWv {o:AV} {l:List AV} {Q:List AV→(AHeap→Prop)→AHeap→Prop} (he:IsL H o l) (h:Q l.reverse (usr o l) H):IterC G n (.type "reversed") [o] H Q:=aOh he fun _ hs=>⟨_,hs,h⟩
theorem aEg {a b:Int} (h1:-1000≤a) (h2:a≤1000) (h3:-1000≤b) (h4:b≤1000):Builtin.Range.small a b 1=true:=by
  have e:Builtin.Range.rangeSize a b 1=if a < b then b - a else 0:=by
    unfold Builtin.Range.rangeSize
    rw [if_pos (by decide),Int.ediv_one]
    split <;> omega
  unfold Builtin.Range.small Builtin.Range.rangeFitsLong
  rw [e]
  simp only [Bool.and_eq_true,Bool.or_eq_true,decide_eq_true_eq,beq_iff_eq]
  refine ⟨⟨⟨⟨om100 h1 h2,om100 h3 h4⟩,by decide⟩,by split <;> omega⟩,.inr ?_⟩
  rw [if_pos (by decide)]
  simp only [decide_eq_true_eq,Bool.and_eq_true]
  exact om99 h3 h4
theorem aGw {a b:Int}:Builtin.Range.rangeSize a b 1=((b - a).toNat:Nat):=by
  unfold Builtin.Range.rangeSize
  rw [if_pos (by decide),Int.ediv_one]
  split <;> omega
end
section
variable {us:AHeap→Prop} {vals:List AV} {L:LS} {H:AHeap} {tg:AV→LS→AHeap→(LS→AHeap→Prop)→Prop}
theorem fvi {body:LS→AHeap→(AFl→LS→AHeap→Prop)→Prop} {Q:AFl→LS→AHeap→Prop} (J:Nat→LS→AHeap→Prop) (h0:J 0 L H) (step:∀ i v L H,vals[i]?=some v→J i L H→us H∧tg v L H fun L1 H1=>body L1 H1 (FlQ (J (i+1)) Q))
    (fin:∀ L H,J vals.length L H→us H∧Q .next L H):FV tg body us Q vals L H:=⟨J,h0,step,fin⟩
theorem cvi {f:LS→AHeap→(Bool→AHeap→Prop)→Prop} {el:LS→AHeap→(AV→AHeap→Prop)→Prop} {K:List AV→LS→AHeap→Prop} {acc:List AV} (J:Nat→List AV→LS→AHeap→Prop) (h0:J 0 acc L H)
    (step:∀ i v acc L H,vals[i]?=some v→J i acc L H→us H∧tg v L H fun L1 H1=>f L1 H1 fun b H2=>cond b (acc.length < 1000000∧el L1 H2 fun y H3=>J (i+1) (acc ++ [y]) L1 H3) (J (i+1) acc L1 H2))
    (fin:∀ acc L H,J vals.length acc L H→us H∧K acc L H):CVq tg f el us K vals acc L H:=⟨J,h0,step,fin⟩
theorem whi {t:LS→AHeap→(Bool→AHeap→Prop)→Prop} {body:LS→AHeap→(AFl→LS→AHeap→Prop)→Prop} {Q:AFl→LS→AHeap→Prop} (J:Nat→LS→AHeap→Prop) (k0:Nat) (h0:J k0 L H)
    (step:∀ k L H,J k L H→t L H fun b H1=>cond b (body L H1 (FlQ (fun L2 H2=>∃ m,m < k∧J m L2 H2) Q)) (Q .next L H1)):WhQ t body L H Q:=⟨J,k0,h0,step⟩
end
noncomputable abbrev aAo (p:Int × Int):AV:=.tup [.int p.1,.int p.2]
noncomputable def domAV (d:List (Int × Int)):AV:=.tup (d.map aAo)
section
noncomputable def aTp:ISs:=(.cons (.asg (.attr (.var 0) "states") (.var 2)) (.cons (.asg (.attr (.var 0) "letters") (.var 3)) (.cons (.asg (.attr (.var 0) "rows") (.var 4)) (.cons (.asg (.attr (.var 0) "start") (.var 5)) (.cons (.asg (.attr (.var 0) "finals") (.var 6))
  (.cons (.asg (.attr (.var 0) "has_twins") (.cmp .Lt (.call (.builtin "len") (.cons (.sset (.var 1)) .nil)) (.call (.builtin "len") (.cons (.var 1) .nil)))) .nil))))))
noncomputable def aTt:IEs:=.cons (.call (.type "tuple") (.cons (.var 1) .nil)) (.cons (.lit (.str "values")) .nil)
noncomputable abbrev cls_:Str := "__class__"
noncomputable abbrev sup (p0 p1 p2 p7 p8:Pos) (es:List Expr):Stmt:=.Expr (.Call (.Attribute (.Call (.Name "super" p0) [] [] p1) "__init__" p2) es [] p7) p8
section
variable {G:Cx} {n:Nat} {H:AHeap} {Q:AV→AHeap→Prop}
theorem aYv {h:Heap} {names:List Str} {args:List AV} {vs:List Value} (r:VRs H h args vs) {L:Loc} {x:Str} {av:AV} (e:aBp (names.zip args) L x=some av) :
    (∃ v,(names.zip vs).reverse.lookup x=some v∧VR H h av v)∨((names.zip vs).reverse.lookup x=none∧L x=some av):=by
  induction names generalizing args vs L with
  | nil=>exact .inr ⟨rfl,e⟩
  | cons y ns ih =>
    cases r with
    | nil=>exact .inr ⟨rfl,e⟩
    | @cons a u l us r rs =>
      rw [List.zip_cons_cons,List.reverse_cons,List.lookup_append]
      rcases ih rs e with ⟨v,e1,e2⟩ | ⟨e1,e2⟩
      · exact .inl ⟨v,by rw [e1]; rfl,e2⟩
      · rw [e1]
        by_cases z:x=y
        · cases z
          rw [Loc.set_same] at e2; cases e2
          exact .inl ⟨u,List.lookup_cons_self,r⟩
        · rw [Loc.set_ne z] at e2
          exact .inr ⟨by show List.lookup x [(y,u)]=none; rw [List.lookup_cons,beq_false_of_ne z]; rfl,e2⟩
theorem aYw {names:List Str} {args:List AV} {x:Str} (h:x∉names):aBp (names.zip args) (fun _=>none) x=none:=by
  rw [aSd fun m=>?_]
  obtain ⟨p,hp,e⟩:=List.mem_map.mp m
  exact h (e ▸ (List.of_mem_zip (a:=p.1) (b:=p.2) hp).1)
theorem aXk {fd:FuncData} {f cc:Addr} {s:Shared} {h₀:Heap} {names:List Str} {args:List AV} {vs:List Value} {x:Value} {oc:Obj} (I:Inv G H s.heap) (r:VRs H s.heap args vs) (hk:fd.scope.kind=.function) (hg:fd.globals=mainGlobals) (hbt:fd.builtins=builtinsNs)
    (hclo:fd.closure=[(cls_,cc)]) (hcc:(KF G.w).lookup cc=some oc) (hoc:oc.data=.cell (some x)) (hfree:fd.scope.names.lookup cls_=some .free) (hloc:∀ y∈names,fd.scope.names.lookup y=some .local)
    (ns:h₀.Ns s.heap.objs.size fun x=>(names.zip vs).reverse.lookup x) (kp:∀ b o,s.heap.get? b=some o→h₀.get? b=some o) :
    FrI G (callEnv fd s.heap.objs.size f) (aBp (names.zip args) fun _=>none) H h₀:=by
  have X:=Ext.of_keep (H:=H) kp
  have hlk:∀ y c,(callEnv fd s.heap.objs.size f).cells.lookup y=some c→y=cls_∧c=cc:=fun y c e=>by
    have e':fd.closure.lookup y=some c:=e
    rw [hclo] at e'
    by_cases z:y=cls_
    · subst z; simp at e'; exact ⟨rfl,e'.symm⟩
    · simp [List.lookup,beq_false_of_ne z] at e'
  have ec:=I.frag _ _ hcc
  have lt:=Heap.lt_size ec
  refine ⟨hk,hg,hbt,⟨_,ns,fun y av hl e=>?_⟩,I.fresh',?_,fun y c e=>?_,fun y z c e1 e2=>(hlk y c e1).1.trans (hlk z c e2).1.symm,fun y c e hlt=>?_,fun y hl=>?_⟩
  · rcases aYv (r.mono X.mon) e with q | ⟨_,q⟩
    · exact q
    · cases q
  · cases q:G.hB.get? s.heap.objs.size with
    | none=>exact q
    | some o=>have:=I.keep _ _ q; rw [aAa] at this; cases this
  · obtain ⟨rfl,rfl⟩:=hlk y c e
    refine ⟨⟨_,⟨_,kp _ _ ec,hoc⟩,fun av q=>?_⟩,(I.base _ _ (G.K _ _ hcc)).2⟩
    rw [aYw fun m=>by rw [hloc _ m] at hfree; cases hfree] at q; cases q
  · obtain ⟨rfl,rfl⟩:=hlk y c e
    exact absurd (Nat.lt_trans hlt lt) (Nat.lt_irrefl _)
  · cases q:(callEnv fd s.heap.objs.size f).cells.lookup y with
    | none=>rfl
    | some c =>
      obtain ⟨rfl,rfl⟩:=hlk y c q
      have hl':fd.scope.names.lookup cls_=some .local:=hl
      rw [hfree] at hl'; cases hl'
theorem aNr {K:Frag} {D:Addr} {cd:ClassData} (h:clsIn K D=some cd):∃ o,K.lookup D=some o∧o.data=.cls cd:=by
  unfold clsIn at h
  split at h
  · rename_i ho
    cases h
    exact ⟨_,ho,rfl⟩
  · cases h
theorem bKh {K:Frag} {h:Heap} {x C:Addr} {cd:ClassData} {o:Obj} (X:K.In h) (hc:clsIn K C=some cd) (e:h.get? x=some o) (ho:∀ c,o.data≠.cls c) (z:x=C):False:=by
  obtain ⟨o',h1,h2⟩:=aNr hc
  have q:=X _ _ h1
  rw [← z,e] at q
  cases q
  exact ho _ h2
theorem aOo {K:Frag} {C D:Addr} {name:Str} {r:Value} (hm:ks_superIn K C D name=some (some r)):∃ cd,clsIn K C=some cd∧alongIn K name ((cd.mro.dropWhile (· != .ref D)).drop 1)=some (some r):=by
  unfold ks_superIn at hm
  cases hc:clsIn K C with
  | none=>rw [hc] at hm; cases hm
  | some cd=>rw [hc] at hm; exact ⟨cd,rfl,hm⟩
theorem aSn {K:Frag} {f:Addr} {T:Value} (h:typeIn K (.ref f)=some T):∃ o,K.lookup f=some o∧o.cls=T:=by
  have h:(K.lookup f).map (·.cls)=some T:=h
  cases z:K.lookup f with
  | none=>rw [z] at h; cases h
  | some o=>rw [z] at h; exact ⟨o,rfl,Option.some.inj h⟩
theorem bCc {f cc cda D C f2 x dx:Addr} {o oc oca:Obj} {fd:FuncData} {S:List Str} {self:Str} {args:List AV} {p0 p1 p2 p7 p8:Pos} {es:List Expr} {rest:List Stmt} {ie:IEs} {ir:ISs} {ar:Arg} {fs:Array Value} {file:Str} {tf:Tok} {cdD:ClassData}
    (hx:H x=some (.inst C dx)) (ho:(KF G.w).lookup f=some o) (hd:o.data=.func fd) (hb:fd.body=.stmts (sup p0 p1 p2 p7 p8 es :: rest)) (hcode:codeIn (KF G.w) fd.code fd.qualname=true)
    (hclo:fd.closure=[(cls_,cc)]) (hcc:(KF G.w).lookup cc=some oc) (hoc:oc.data=.cell (some (.ref D))) (hfree:fd.scope.names.lookup cls_=some .free) (hloc:∀ y∈self :: S,fd.scope.names.lookup y=some .local)
    (hncell:∀ x∈fd.scope.names,x.2≠.cell) (hn:(self :: S).Nodup)
    (hbind:∀ vs:List Value,vs.length=S.length+1→bindArgs fd ⟨vs,[]⟩=pure ((self :: S).zip vs)) (hk:args.length=S.length)
    (hfc:fd.code=.ref cda) (hca:(KF G.w).lookup cda=some oca) (hcf:oca.data=.fields fs) (hvs:fs[2]?=some (.str file tf)) (hfile:((PG.main.file:Str) == file)=true)
    (hp:(fd.params.posonlyargs ++ fd.params.args).head?=some ar) (har:ar.arg=self) (hks:fd.scope.names.lookup ("super" : Str)=some .globalImplicit)
    (hD:clsIn (KF G.w) D=some cdD) (hsub:mroIn (KF G.w) C (.ref D)=some true) (hsuper:nsIn (KF G.w) mainGlobals "super" = some none) (htop:(PG.main.scope.names.lookup ("super" : Str)).isSome=false)
    (hm:ks_superIn (KF G.w) C D "__init__" = some (some (.ref f2))) (ht:typeIn (KF G.w) (.ref f2)=some (.type "function")) (hf2:fnIn (KF G.w) f2=true) (hop:nsIn (KF G.w) cStatics "thirdparty.any" = some none)
    (hes:chkEs G.w ie ⟨fd.scope.names,fd.scope.names⟩ (self :: S) es=true) (hrest:chkSs G.w ir ⟨fd.scope.names,fd.scope.names⟩ (self :: S) rest=true)
    (hform:∀ env:Env,(methodCallForm (es.length+0) (backTo p7 (starEach es env)) (backToKw p7 (keywordEach [] env))=true)∧(backTo p7 (starEach es env)).any (·.1)=false∧swapsWith (.Call (.Attribute (.Call (.Name "super" p0) [] [] p1) "__init__" p2) es [] p7) none p8.line env=pure false) (hl:(p2.endLine == p7.line)=true)
    (hg:fd.globals=mainGlobals) (hbt:fd.builtins=builtinsNs) (hco:fd.scope.isCoroutine=false) (hgen:fd.scope.isGenerator=false) (hkf:fd.scope.kind=.function)
    (h:VEs G n ie (frame (S.length+1) (.ref x :: args)) H fun l H1=>CC G n (.ref f2) (.ref x :: l) H1 fun _ H2=>VSs G n ir (frame (S.length+1) (.ref x :: args)) H2 (RetQ Q)) :
    CC G (n+1) (.ref f) (.ref x :: args) H Q:=fun A s R vs a I r0 hR=>by
  refine VRs.c r0 fun vx vs' rx rs=>?_
  refine VR.vl rx ?_
  clear rx r0
  have r:VRs H s.heap (.ref x :: args) (.ref x :: vs'):=.cons (.val _) rs
  have hlen:=r.length
  refine ks_codeAny_call_defAt (binds:=(self :: S).zip (.ref x :: vs')) (by have:=a.room; exact om12 this) (I.frag _ _ ho) hd (G.lim.keeps I.keep) (codeRec_of I.frag hcode) hb (.of_eq (hbind (.ref x :: vs') (by rw [← hlen]; exact congrArg (· + 1) hk))) hncell (fun y m=>hloc _ (List.of_mem_zip (a:=y.1) (b:=y.2) m).1) (fun h₀ ns kp=>?_) hco hgen hkf
  have a':AOk (A.deeper (callEnv fd s.heap.objs.size f)) n:=⟨a.hd,by have:=a.room; show A.depth+1+n < _; exact om11 this,by have:=a.units; show A.units+3+8 * n+8 < _; exact om10 this⟩
  have F:=aXk (f:=f) I r hkf hg hbt hclo hcc hoc hfree hloc ns kp
  have I0:=I.of_keep kp
  have T0:St G [] H s H { s with heap:=h₀,toks:=s.toks+((self :: S).zip (Value.ref x :: vs')).length }:=St.keep I kp
  obtain ⟨mg,mb,g1,g2,g3⟩:=G.ns
  obtain ⟨oD,hD1,hD2⟩:=aNr hD
  have E0:EnvOk (callEnv fd s.heap.objs.size f) ⟨fd.scope.names,fd.scope.names⟩:=⟨hkf,fun _=>rfl,fun y hy=>absurd rfl (hncell _ (mem_of_lookup hy))⟩
  have hx0:=T0.inv.obj _ _ hx
  refine ks_wpAt_execs_cons (ks_wpAt_Expr_any ?_ (by unfold interactive; rw [show (callEnv fd s.heap.objs.size f).scope.kind=.function from hkf]; rfl) (hform _).2.2)
  rw [arm_eval_Call]
  refine PySem.wpAt_bind (ks_wpAt_super_base (env:=callEnv fd s.heap.objs.size f) hks hfree rfl rfl (I0.frag _ _ ho) hd hp hfc (I0.frag _ _ hca) hcf hvs hfile htop ?_)
  refine ks_loadName_global hkf hks (loadGlobal_builtin (env:=callEnv fd s.heap.objs.size f) (by show h₀.Ns fd.globals mg; rw [hg]; exact g1.keeps I0.keep) (mg_none_of I0.frag (g1.keeps I0.keep) hsuper) (by show h₀.Ns fd.builtins mb; rw [hbt]; exact g2.keeps I0.keep) ((g3 _ (by decide +kernel)).trans (by decide +kernel)) ⟨rfl,?_⟩)
  refine wpAny_loadName_free hkf hfree (c:=cc) (by show fd.closure.lookup cls_=_; rw [hclo]; simp) ⟨_,I0.frag _ _ hcc,hoc⟩ ?_
  refine wpAny_loadName_local (v:=.ref x) hkf (by rw [har]; exact hloc _ (.head _)) ns ?_ ?_
  · rw [har,List.zip_cons_cons,List.reverse_cons,List.lookup_append]
    have:((S.zip vs').reverse.lookup self)=none:=by
      rw [List.lookup_eq_none_iff]
      intro p hp
      have hm:=(List.of_mem_zip (a:=p.1) (b:=p.2) (List.mem_reverse.mp hp)).1
      exact bne_iff_ne.mpr fun (z:self=p.1)=>(List.nodup_cons.mp hn).1 (by rw [z]; exact hm)
    rw [this]; simp
  refine ks_wpAny_isType_cls (I0.frag _ _ hD1) hD2 ⟨rfl,?_⟩
  refine ks_wpAny_call_super (I0.frag _ _ hD1) hD2 hx0 rfl (fun c e=>by cases e) (looks_mroIn I0.frag hsub) (fun h1 e1 k1=>?_)
  have T1:=T0.trans (St.keep (own:=[]) (h':=h1) (t:=s.toks+((self :: S).zip (Value.ref x :: vs')).length) T0.inv k1)
  have F1:=F.step (Ext.of_keep (H:=H) k1)
  refine PySem.wpAt_of_wpAny (wpAny_bind (wpAny_standAt ?_))
  unfold methodCall
  have hf':methodCallForm (es.length+([]:List Keyword).length) (backTo p7 (starEach es (callEnv fd s.heap.objs.size f))) (backToKw p7 (keywordEach [] (callEnv fd s.heap.objs.size f)))=true:=(hform _).1
  rw [hf']
  refine wpAny_bind (wpAny_holding ?_)
  obtain ⟨cdC,hcC,hal⟩:=aOo hm
  obtain ⟨of2,hof,hofc⟩:=aSn ht
  have hxC:x≠C:=fun z=>bKh T1.inv.frag hcC (k1 _ _ hx0) (fun _ q=>nomatch q) z
  refine ks_wpAny_getMethod_super (l₀:=cdC.mro) e1 (looks_opaque T1.inv.frag hop) (fun A Q E s k q=>wpAny_bind ((looks_clsIn T1.inv.frag hcC) A _ E s k (wpAny_pure q))) rfl T1.inv.frag hal (T1.inv.frag _ _ hof) hofc hxC rfl ?_
  have hpos:methodCallPos true (.Call (.Name "super" p0) [] [] p1) (callEnv fd s.heap.objs.size f) p2 p7=pure p7:=by unfold methodCallPos; simp [hl]
  refine wpAny_bind (wpAny_of_eq hpos ?_)
  have k2:=aAb h1 { cls:=.type "method",data:=.fields #[.ref f2,.ref x] }
  have T2:=T1.trans (St.keep (own:=[]) (h':=h1.push { cls:=.type "method",data:=.fields #[.ref f2,.ref x] }) (t:=s.toks+((self :: S).zip (Value.ref x :: vs')).length+1) T1.inv k2)
  have F2:=F1.step (Ext.of_keep (H:=H) k2)
  have em:(h1.push { cls:=.type "method",data:=.fields #[.ref f2,.ref x] }).get? h1.objs.size=some (methodObj (.ref f2) (.ref x)):=Heap.get?_push_size _ rfl
  have nm:H h1.objs.size=none:=T1.inv.fresh'
  have Fw:=F2.weak (L:=locOf (self :: S) (frame (S.length+1) (.ref x :: args))) (by
    have:=aRu (S:=self :: S) (args:=.ref x :: args) (k:=S.length+1) (L:=fun _=>none) hn
    rwa [show (List.take (AV.ref x :: args).length (self :: S))=self :: S by rw [List.take_of_length_le]; simp [hk]] at this)
  refine callWith_of (P:=MethP (KF G.w) h1.objs.size f2 (.ref x)) (by rw [(hform _).2.1]; rfl) (keeps_M hf2) (aDg (pvso (sEs ie E0 hn hes h (A.deeper (callEnv fd s.heap.objs.size f)) { s with heap:=h1.push { cls:=.type "method",data:=.fields #[.ref f2,.ref x] },toks:=s.toks+((self :: S).zip (Value.ref x :: vs')).length+1 } _ p7 a' T2.inv Fw) fun us s3 l H3 r3 t3 q3=>?_) (hform _).2.1)
  have em3:=t3.ext.keep _ _ em nm (fun m=>nomatch m)
  refine ⟨⟨em3,t3.inv.frag⟩,wpAny_call (method_call em3 (q3.2 _ s3 _ (.ref x :: us) a' t3.inv (.cons (.val _) r3) fun v4 s4 ⟨av,H4,r4,t4,q4⟩=>?_))⟩
  refine PySem.wpAt_of_wpAny ?_
  have T4:=(T2.trans t3).trans t4
  have own:∀ b∈ownOf (callEnv fd s.heap.objs.size f),s.heap.get? b=none:=fun b m=>by
    rcases aCk m with rfl | ⟨y,e,hlt⟩
    · exact aAa
    · exact aCb (Nat.le_of_lt hlt)
  refine pso (sSs ir E0 hn hrest q4 _ s4 _ a' t4.inv ((Fw.step t3.ext).step t4.ext)) fun fl s5 af H5 L5 rf t5 F5 qq=>?_
  obtain ⟨L6,_,q5⟩:=qq
  have T5:St G [] H s H5 s5:=by
    have t:=T4.any.trans t5
    exact ⟨t.inv,t.ext.new own,t.same⟩
  cases rf with
  | next=>exact hR _ _ ⟨.none,H5,.val _,T5,q5⟩
  | brk=>exact q5.elim
  | cont=>exact q5.elim
  | ret r2=>exact hR _ _ ⟨_,H5,r2,T5,q5⟩
end
end
section
noncomputable def bJy (fd:FuncData):List Stmt:=match fd.body with
  | .stmts b=>b.drop 1
  | _=>[]
noncomputable def bBw (o:Obj):Array Value:=match o.data with
  | .fields v=>v
  | _=>#[]
noncomputable def clsOf (o:Obj):ClassData:=match o.data with
  | .cls c=>c
  | _=>default
section
variable {G:Cx} {n:Nat} {H:AHeap} {Q:AV→AHeap→Prop}
noncomputable def esI:List Expr:=[.Call (.Name "tuple" ⟨182,25,182,30⟩) [.Name "xs" ⟨182,31,182,33⟩] [] ⟨182,25,182,34⟩,.Constant (.str "values") 0 ⟨182,36,182,44⟩]
theorem aUa {x dx:Addr} {b c d e f g:AV} (hx:H x=some (.inst 406 dx))
    (h:VEs G n aTt (frame 7 [.ref x,b,c,d,e,f,g]) H fun l H1=>CC G n (.ref 283) (.ref x :: l) H1 fun _ H2=>VSs G n aTp (frame 7 [.ref x,b,c,d,e,f,g]) H2 (RetQ Q)):CC G (n+1) (.ref 327) [.ref x,b,c,d,e,f,g] H Q:=by
  have a1:(["self", "xs", "states", "letters", "rows", "start", "finals"]:List Str).all (fun y=>(fdOf G.w 327).scope.names.lookup y == some .local)=true:=by kernel_rfl!
  have a2:((fdOf G.w 327).scope.names.all fun p=>p.2 != .cell)=true:=by kernel_rfl!
  refine bCc (fd:=fdOf G.w 327) (o:=objOf G.w 327) (cc:=315) (cda:=326) (D:=406) (f2:=283) (oc:=objOf G.w 315) (oca:=objOf G.w 326) (fs:=bBw (objOf G.w 326)) (file := "/claim/cut.py") (tf:=584) (cdD:=clsOf (objOf G.w 406)) (ar:=((fdOf G.w 327).params.posonlyargs ++ (fdOf G.w 327).params.args).head?.getD default)
    (p0:=⟨182,8,182,13⟩) (p1:=⟨182,8,182,15⟩) (p2:=⟨182,8,182,24⟩) (p7:=⟨182,8,182,45⟩) (p8:=⟨182,8,182,45⟩) (es:=esI) (rest:=bJy (fdOf G.w 327)) (self := "self") (S:=["xs", "states", "letters", "rows", "start", "finals"])
    hx (by kernel_rfl!) (by kernel_rfl!) (by kernel_rfl!) (by kernel_rfl!) (by kernel_rfl!) (by kernel_rfl!) (by kernel_rfl!) (by kernel_rfl!) (fun y m=>beq_iff_eq.mp (List.all_eq_true.mp a1 y m)) (fun y m=>bne_iff_ne.mp (List.all_eq_true.mp a2 y m)) (aCj (by kernel_rfl!))
    (allN (by intro a b c d e f g; show bindArgs _ _=_; kernel_rfl!)) rfl (by kernel_rfl!) (by kernel_rfl!) (by kernel_rfl!) (by kernel_rfl!) (by kernel_rfl!) (by kernel_rfl!) (by kernel_rfl!) (by kernel_rfl!) (by kernel_rfl!) (by kernel_rfl!) (by kernel_rfl!) (by kernel_rfl!) (by kernel_rfl!) (by kernel_rfl!) (by kernel_rfl!) (by kernel_rfl!)
    (by kernel_rfl!) (by kernel_rfl!) (fun env=>⟨rfl,rfl,rfl⟩) rfl (by kernel_rfl!) (by kernel_rfl!) (by kernel_rfl!) (by kernel_rfl!) (by kernel_rfl!) h
end
end
section
variable {G:Cx} {n:Nat} {H:AHeap} {Q:AV→AHeap→Prop}
noncomputable def aAw:List (Int × Int)→Int→Option Int
  | [],_=>none
  | (lo,hi) :: r,v=>if v≤hi then some (max lo v) else aAw r v
noncomputable def optAV:Option Int→AV
  | none=>AV.none
  | some i=>.int i
theorem aKk {d:List (Int × Int)} {i:Nat} {x:AV} (h:(d.map aAo)[i]?=some x):∃ lo hi,d[i]?=some (lo,hi)∧x=aAo (lo,hi)∧d.drop i=(lo,hi) :: d.drop (i+1)∧d.take (i+1)=d.take i ++ [(lo,hi)]:=by
  rw [List.getElem?_map,Option.map_eq_some_iff] at h
  obtain ⟨⟨lo,hi⟩,ep,rfl⟩:=h
  have hlt:=(List.getElem?_eq_some_iff.mp ep).1
  exact ⟨lo,hi,ep,rfl,by rw [List.drop_eq_getElem_cons hlt,(List.getElem?_eq_some_iff.mp ep).2],by rw [List.take_add_one,ep]; rfl⟩
noncomputable def bJe (H:AHeap) (d:List (Int × Int)) (v:Int) (i:Nat) (L':LS) (H':AHeap):Prop:=∀ P:LS→AHeap→Prop,(∀ (a:Option AV) (b:Option AV) (e3:aAw d v=aAw (d.drop i) v),P [some (domAV d),some (.int v),a,b] H)→P L' H'
theorem aQb {d:List (Int × Int)} {v:Int} (h:Q (optAV (aAw d v)) H):CW G (n+1) (.ref 56) [domAV d,.int v] H Q:=by
  refine aNd (aBn (fvi (bJe H d v) (fun _ k=>k _ _ rfl) ?_ ?_))
  · intro i x L H1 hx hJ; apply hJ; intro a b hn
    obtain ⟨lo,hi,ep,rfl,ed,_⟩:=aKk hx
    rw [ed] at hn
    refine ⟨trivial,tb (fun hc=>aYf ?_) (fun hc=>fun _ k=>k _ _ ?_)⟩
    · rw [hn,aAw,if_pos (of_decide_eq_true hc)] at h; exact h
    · rw [hn,aAw,if_neg (of_decide_eq_false hc)]
  · intro L H1 hJ; apply hJ; intro a b hn
    rw [List.length_map,List.drop_length] at hn
    rw [hn] at h
    exact ⟨trivial,h⟩
theorem c_has {d:List (Int × Int)} {v:Int} (h:Q (.val (.bool (decide (aAw d v=some v)))) H):CW G (n+2) (.ref 63) [domAV d,.int v] H Q:=by
  refine bKt (aQb ?_)
  generalize aAw d v=o at h
  cases o with
  | none=>exact aOc .none (.int v) (by decide) h
  | some i =>
    show Q _ _
    have e:decide (some i=some v)=decide (i=v):=by simp
    rw [e] at h; exact h
noncomputable def aJi (lo hi:Int):List Int:=(List.range (hi - lo).toNat).map fun i=>lo+(i:Nat)
theorem bGb (lo hi:Int):rngL lo 1 (hi - lo).toNat=(aJi lo hi).map .int:=by
  simp [rngL,aJi]
noncomputable def aCz (d:List (Int × Int)):List Int:=d.flatMap fun p=>aJi p.1 (p.2+1)
noncomputable def DOk (d:List (Int × Int)):Prop:=d.length≤20∧∀ p∈d,-20≤p.1∧p.1≤20∧-20≤p.2∧p.2≤20
theorem aSm {d:List (Int × Int)} (h:∀ p∈d,-20≤p.1∧p.1≤20∧-20≤p.2∧p.2≤20):(aCz d).length≤41 * d.length:=by
  induction d with
  | nil=>simp [aCz]
  | cons p d ih =>
    have hp:=h p (.head _)
    have:=ih fun q hq=>h q (.tail _ hq)
    have e:(aCz (p :: d)).length=(aJi p.1 (p.2+1)).length+(aCz d).length:=by simp [aCz]
    have e2:(aJi p.1 (p.2+1)).length=(p.2+1 - p.1).toNat:=by simp [aJi]
    rw [e,e2,List.length_cons]
    exact om108 hp.1 hp.2.2.2 this
theorem aAd {H H':AHeap} {D:Addr} {o:AObj} (hle:HLe H H') (hD:H D=none):HLe H (H'.set D o):=fun a o' e=>by
  rw [AHeap.set_ne (fun z=>by rw [z,hD] at e; cases e)]; exact hle a o' e
noncomputable def bJd (H:AHeap) (d:List (Int × Int)) (D:Addr) (i:Nat) (L':LS) (H':AHeap):Prop:=∀ P:LS→Prop,(∀ (e1:HLe H H') (e2:H' D=some (.list ((aCz (d.take i)).map .int))) a b,P [some (domAV d),some (.val (.ref D)),a,b])→P L'
theorem aLp {d:List (Int × Int)} (hd:DOk d) (h:∀ H',HLe H H'→Q (.lst ((aCz d).map .int)) H'):CW G (n+1) (.ref 70) [domAV d] H Q:=by
  refine aXd fun D hD=>aBn (fvi (bJd H d D) (fun _ k=>k (HLe.new hD) AHeap.set_same _ _) ?_ ?_)
  · intro i x L H1 hx hJ; apply hJ; intro hle hf a b
    obtain ⟨lo,hi,ep,rfl,_,et⟩:=aKk hx
    have hb:=hd.2 _ (List.mem_of_getElem? ep)
    refine ⟨trivial,aWi hf (aNk (aLm (k:=(hi+1 - lo).toNat) hf ?_ (aEg (om107 hb.1) (om106 hb.2.1) (om105 hb.2.2.1) (om104 hb.2.2.2)) aGw (by dsimp only at *; exact om103 hb.1 hb.2.2.2) ?_))⟩
    · have:=aSm (d:=d.take i) (fun p hp=>hd.2 p (List.mem_of_mem_take hp))
      have h2:=hd.1
      have h3:(d.take i).length≤d.length:=by simp; exact Nat.min_le_right _ _
      rw [List.length_map]; exact om102 this h2 h3
    · refine fun _ k=>k (aAd hle hD) ?_ _ _
      rw [AHeap.set_same,bGb,← List.map_append,et]
      simp [aCz]
  · intro L H1 hJ; apply hJ; intro hle hf a b
    rw [List.length_map,List.take_length] at hf
    exact ⟨trivial,D,_,rfl,hf,h _ (aAd hle hD)⟩
noncomputable def upTo (d:List (Int × Int)) (k:Int):List (Int × Int):=(d.filter fun p=>decide (p.1≤k)).map fun p=>(p.1,min p.2 k)
noncomputable def fromOn (d:List (Int × Int)) (k:Int):List (Int × Int):=(d.filter fun p=>decide (k≤p.2)).map fun p=>(max p.1 k,p.2)
theorem aJx (d:List (Int × Int)) (k:Int):(upTo d k).length≤d.length:=by simp only [upTo,List.length_map]; exact List.length_filter_le ..
theorem aFm (d:List (Int × Int)) (k:Int):(fromOn d k).length≤d.length:=by simp only [fromOn,List.length_map]; exact List.length_filter_le ..
theorem aOn {α:Type} (d:List α) (i:Nat):(d.take i).length≤d.length:=by simp; exact Nat.min_le_right _ _
noncomputable def bJc (H:AHeap) (d:List (Int × Int)) (k:Int) (i:Nat) (acc:List AV) (L':LS) (H':AHeap):Prop:=∀ P:LS→AHeap→Prop,(∀ (e2:acc=(upTo (d.take i) k).map aAo) a b c,P [a,b,c,some (.int k)] H)→P L' H'
theorem aYp {d:List (Int × Int)} {k:Int} (hd:d.length≤100) (h:∀ H',HLe H H'→Q (domAV (upTo d k)) H'):CW G (n+1) (.ref 75) [domAV d,.int k] H Q:=by
  refine bBq (aBn (cvi (bJc H d k) (fun _ k=>k rfl _ _ _) ?_ ?_))
  · intro i x acc L H1 hx hJ; apply hJ; rintro rfl a b c
    obtain ⟨lo,hi,ep,rfl,_,et⟩:=aKk hx
    have h1:=aJx (d.take i) k
    have h2:=aOn d i
    refine ⟨trivial,tb (fun hc=>⟨by rw [List.length_map]; exact Nat.lt_of_le_of_lt h1 (Nat.lt_of_le_of_lt h2 (ltL hd rfl)),bEk (fun _ k=>k ?_ _ _ _)⟩) (fun hc=>fun _ k=>k ?_ _ _ _)⟩
    · rw [et]; simp [upTo,of_decide_eq_true hc]
    · rw [et]; simp [upTo,of_decide_eq_false hc]
  · intro acc L H1 hJ; apply hJ; rintro rfl a b c
    rw [List.length_map,List.take_length]
    have h1:=aJx d k
    exact ⟨trivial,fun D hD=>aAi (.own AHeap.set_same) (by rw [List.length_map]; exact Nat.le_trans h1 (leL hd rfl)) (h _ (HLe.new hD))⟩
noncomputable def bJb (H:AHeap) (d:List (Int × Int)) (k:Int) (i:Nat) (acc:List AV) (L':LS) (H':AHeap):Prop:=∀ P:LS→AHeap→Prop,(∀ (e2:acc=(fromOn (d.take i) k).map aAo) a b c,P [a,b,c,some (.int k)] H)→P L' H'
theorem aNy {d:List (Int × Int)} {k:Int} (hd:d.length≤100) (h:∀ H',HLe H H'→Q (domAV (fromOn d k)) H'):CW G (n+1) (.ref 80) [domAV d,.int k] H Q:=by
  refine aUc (aBn (cvi (bJb H d k) (fun _ k=>k rfl _ _ _) ?_ ?_))
  · intro i x acc L H1 hx hJ; apply hJ; rintro rfl a b c
    obtain ⟨lo,hi,ep,rfl,_,et⟩:=aKk hx
    have h1:=aFm (d.take i) k
    have h2:=aOn d i
    refine ⟨trivial,tb (fun hc=>⟨by rw [List.length_map]; exact Nat.lt_of_le_of_lt h1 (Nat.lt_of_le_of_lt h2 (ltL hd rfl)),aYf (fun _ k=>k ?_ _ _ _)⟩) (fun hc=>fun _ k=>k ?_ _ _ _)⟩
    · rw [et]; simp [fromOn,of_decide_eq_true hc]
    · rw [et]; simp [fromOn,of_decide_eq_false hc]
  · intro acc L H1 hJ; apply hJ; rintro rfl a b c
    rw [List.length_map,List.take_length]
    have h1:=aFm d k
    exact ⟨trivial,fun D hD=>aAi (.own AHeap.set_same) (by rw [List.length_map]; exact Nat.le_trans h1 (leL hd rfl)) (h _ (HLe.new hD))⟩
noncomputable def aJt (d:List (Int × Int)) (v:Int):List (Int × Int):=upTo d (v - 1) ++ fromOn d (v+1)
theorem aYn {d:List (Int × Int)} {v:Int} (hd:d.length≤100) (h:∀ H',HLe H H'→Q (domAV (aJt d v)) H'):CW G (n+2) (.ref 87) [domAV d,.int v] H Q:=by
  refine aTu (aYp hd fun H1 h1=>aNy hd fun H2 h2=>aCw ?_ ?_)
  · have:=aJx d (v - 1); have:=aFm d (v+1); simp only [List.length_map]; exact om101 hd (by assumption) this
  · rw [← List.map_append]
    exact h _ (h1.trans h2)
end
section
inductive Sg where
  | le | ge | eq | ne
  deriving DecidableEq
noncomputable def Sg.str:Sg→Str
  | .le => "<="
  | .ge => ">="
  | .eq => "="
  | .ne => "!="
structure Lit where
  x:Int
  sg:Sg
  k:Int
  deriving DecidableEq
noncomputable def litAV (l:Lit):AV:=.tup [.int l.x,.str l.sg.str,.int l.k]
noncomputable def aBb (l:Lit):Lit:=match l.sg with
  | .le=>⟨l.x,.ge,l.k+1⟩
  | .ge=>⟨l.x,.le,l.k - 1⟩
  | .eq=>⟨l.x,.ne,l.k⟩
  | .ne=>⟨l.x,.eq,l.k⟩
section
variable {G:Cx} {n:Nat} {H:AHeap} {Q:AV→AHeap→Prop}
theorem aJn {l:Lit} (h:Q (litAV (aBb l)) H):CW G (n+1) (.ref 101) [litAV l] H Q:=by
  obtain ⟨x,sg,k⟩:=l
  refine aPq ?_
  cases sg with
  | le=>exact h
  | ge=>exact h
  | eq=>exact h
  | ne=>exact h
noncomputable def meetG:Nat→List (Int × Int)→List (Int × Int)→List (Int × Int)
  | n+1,a :: d,b :: e=>(if max a.1 b.1≤min a.2 b.2 then [(max a.1 b.1,min a.2 b.2)] else []) ++ (if a.2 < b.2 then meetG n d (b :: e) else meetG n (a :: d) e)
  | _,_,_=>[]
noncomputable def meetF (d e:List (Int × Int)):List (Int × Int):=meetG (d.length+e.length) d e
theorem aJg {a b:Int × Int} {d e:List (Int × Int)}:meetF (a :: d) (b :: e)=(if max a.1 b.1≤min a.2 b.2 then [(max a.1 b.1,min a.2 b.2)] else []) ++ (if a.2 < b.2 then meetF d (b :: e) else meetF (a :: d) e) :=
  congrArg (fun n=>(if max a.1 b.1≤min a.2 b.2 then [(max a.1 b.1,min a.2 b.2)] else []) ++ (if a.2 < b.2 then meetG n d (b :: e) else meetG (d.length+1+e.length) (a :: d) e)) (Nat.add_right_comm d.length 1 e.length)
theorem aMr {d:List (Int × Int)}:meetF d []=[]:=by cases d <;> rfl
theorem aTf {d:List (Int × Int)}:meetF [] d=[]:=by cases d <;> rfl
theorem aQz {d:List (Int × Int)} {i:Nat} {p:Int × Int} (h:d[i]?=some p):(d.map aAo)[(i:Int).toNat]?=some (aAo p):=by simp [h]
theorem bLg {d e:List (Int × Int)} (hd:d.length≤100) (he:e.length≤100) (h:∀ H',HLe H H'→Q (domAV (meetF d e)) H'):CW G (n+1) (.ref 94) [domAV d,domAV e] H Q:=by
  have hdl:(d.map aAo).length=d.length:=by simp
  have hel:(e.map aAo).length=e.length:=by simp
  refine bGr fun D hD=>⟨rfl,whi (fun k L' H'=>∃ (i j:Nat) (f:List (Int × Int)) (a b:Option AV),L'=[some (domAV d),some (domAV e),some (.val (.ref D)),some (.int i),some (.int j),a,b]∧HLe H H'∧H' D=some (.list (f.map aAo)) ∧
    f ++ meetF (d.drop i) (e.drop j)=meetF d e∧k=(d.length - i)+(e.length - j)∧f.length≤i+j∧i≤d.length∧j≤e.length) _ ⟨0,0,[],_,_,rfl,HLe.new hD,AHeap.set_same,by simp,rfl,by simp,by simp,by simp⟩ ?_⟩
  rintro k L H1 ⟨i,j,f,a,b,rfl,hle,hf,hm,rfl,hlen,hi,hj⟩
  have fin:¬ (i < d.length∧j < e.length)→Q (.tup (f.map aAo)) H1:=fun hn=>by
    have:=h H1 hle
    rw [← hm] at this
    by_cases hi':i < d.length
    · rw [List.drop_eq_nil_of_le (show e.length≤j from om118 hn hi'),aMr,List.append_nil] at this; exact this
    · rw [List.drop_eq_nil_of_le (show d.length≤i from om38 hi'),aTf,List.append_nil] at this; exact this
  have done:¬ (i < d.length∧j < e.length)→CW G n (.type "tuple") [.val (.ref D)] H1 Q:=fun hn=>aAi (.own hf) (by rw [List.length_map]; exact om117 hd he hlen hi hj) (fin hn)
  refine aDk (eqLt hdl (ltL hd rfl)) ?_
  rw [hdl]
  refine tb (fun hc=>aDk (eqLt hel (ltL he rfl)) ?_) (fun hc=>done fun z=>by have:=of_decide_eq_false hc; exact om116 z.1 this)
  rw [hel]
  refine tb (fun hc2=>?_) (fun hc2=>done fun z=>by have:=of_decide_eq_false hc2; exact om116 z.2 this)
  have hi':i < d.length:=by have:=of_decide_eq_true hc; exact om115 this
  have hj':j < e.length:=by have:=of_decide_eq_true hc2; exact om115 this
  obtain ⟨⟨a1,a2⟩,ea⟩:∃ p,d[i]?=some p:=⟨_,List.getElem?_eq_getElem hi'⟩
  obtain ⟨⟨b1,b2⟩,eb⟩:∃ p,e[j]?=some p:=⟨_,List.getElem?_eq_getElem hj'⟩
  have dA:∀ {H Q},Q (aAo (a1,a2)) H→GetI G n (domAV d) (.int (i:Nat)) H Q:=aBq (Int.natCast_nonneg _) (aQz ea) (eqLe hdl (leL hd rfl))
  have eA:∀ {H Q},Q (aAo (b1,b2)) H→GetI G n (domAV e) (.int (j:Nat)) H Q:=aBq (Int.natCast_nonneg _) (aQz eb) (eqLe hel (leL he rfl))
  have p0:∀ {a b:Int} {H Q},Q (.int a) H→GetI G n (aAo (a,b)) (.int 0) H Q:=aAp (k:=0) rfl rfl
  have p1:∀ {a b:Int} {H Q},Q (.int b) H→GetI G n (aAo (a,b)) (.int 1) H Q:=aAp (k:=1) rfl rfl
  refine dA (p0 (eA (p0 (aYf (dA (p1 (eA (p1 (bEk ⟨rfl,?_⟩)))))))))
  have hdr:meetF (d.drop i) (e.drop j)=(if max a1 b1≤min a2 b2 then [(max a1 b1,min a2 b2)] else []) ++ (if a2 < b2 then meetF (d.drop (i+1)) (e.drop j) else meetF (d.drop i) (e.drop (j+1))):=by
    rw [List.drop_eq_getElem_cons hi',List.drop_eq_getElem_cons hj',(List.getElem?_eq_some_iff.mp ea).2,(List.getElem?_eq_some_iff.mp eb).2]
    exact aJg
  rw [hdr] at hm
  have tl:∀ (f':List (Int × Int)) (H2:AHeap),HLe H H2→H2 D=some (.list (f'.map aAo))→f' ++ (if a2 < b2 then meetF (d.drop (i+1)) (e.drop j) else meetF (d.drop i) (e.drop (j+1)))=meetF d e→f'.length≤i+j+1 →
      VSs G n (.cons (.ite (.cmp .Lt (.sub (.sub (.var 0) (.var 3)) (.lit (.int 1))) (.sub (.sub (.var 1) (.var 4)) (.lit (.int 1)))) (.cons (.asg (.var 3) (.bin .Add (.var 3) (.lit (.int 1)))) .nil) (.cons (.asg (.var 4) (.bin .Add (.var 4) (.lit (.int 1)))) .nil)) .nil)
        [some (domAV d),some (domAV e),some (.val (.ref D)),some (.int i),some (.int j),some (.int (max a1 b1)),some (.int (min a2 b2))] H2
        (FlQ (fun L2 H2=>∃ m,m < (d.length - i)+(e.length - j)∧∃ (i' j':Nat) (f:List (Int × Int)) (a b:Option AV),L2=[some (domAV d),some (domAV e),some (.val (.ref D)),some (.int i'),some (.int j'),a,b]∧HLe H H2∧H2 D=some (.list (f.map aAo)) ∧
          f ++ meetF (d.drop i') (e.drop j')=meetF d e∧m=(d.length - i')+(e.length - j')∧f.length≤i'+j'∧i'≤d.length∧j'≤e.length) (SeqQ (fun L1 H1=>VSs G n (.cons (.ret (.call (.type "tuple") (.cons (.var 2) .nil))) .nil) L1 H1 (RetQ Q)) (RetQ Q))):=by
    intro f' H2 hle2 hf2 hm2 hl2
    refine dA (p1 (eA (p1 (tb (fun hq=>?_) (fun hq=>?_)))))
    · rw [if_pos (of_decide_eq_true hq)] at hm2
      exact ⟨_,om114 hi',i+1,j,f',_,_,rfl,hle2,hf2,hm2,rfl,leEq hl2 (Nat.add_right_comm _ _ _),Nat.succ_le_of_lt hi',hj⟩
    · rw [if_neg (of_decide_eq_false hq)] at hm2
      exact ⟨_,om113 hj',i,j+1,f',_,_,rfl,hle2,hf2,hm2,rfl,om112 hl2,hi,om111 hj'⟩
  refine tb (fun hq=>aAg hf (aAj hf (by rw [List.length_map]; exact om110 hd he hlen hj hi') (tl (f ++ [(max a1 b1,min a2 b2)]) _ (aAd hle hD) ?_ ?_ (by simp; exact hlen)))) (fun hq=>tl f _ hle hf ?_ (om109 hlen))
  · rw [AHeap.set_same]; simp
  · rw [if_pos (of_decide_eq_true hq),← List.append_assoc] at hm; exact hm
  · rw [if_neg (of_decide_eq_false hq)] at hm; exact hm
noncomputable def aDa (sg:Sg) (k:Int) (d:List (Int × Int)):List (Int × Int):=match sg with
  | .le=>upTo d k
  | .ge=>fromOn d k
  | .eq=>meetF d [(k,k)]
  | .ne=>aJt d k
theorem bCd {l:Lit} {d:List (Int × Int)} (hd:d.length≤100) (h:∀ H',HLe H H'→Q (domAV (aDa l.sg l.k d)) H'):CW G (n+3) (.ref 108) [litAV l,domAV d] H Q:=by
  obtain ⟨x,sg,k⟩:=l
  refine aXe (aAp (k:=1) rfl rfl (aAp (k:=2) rfl rfl ⟨rfl,?_⟩))
  cases sg with
  | le=>exact aYp hd h
  | ge=>exact aNy hd h
  | eq=>exact bLg (e:=[(k,k)]) hd (by simp) h
  | ne=>exact aYn hd h
end
end
section
variable {G:Cx} {n:Nat} {H:AHeap} {Q:AV→AHeap→Prop}
noncomputable def putB (l:List (Int × Int)) (lo hi:Int):List (Int × Int):=match l.getLast? with
  | none=>l ++ [(lo,hi)]
  | some p=>if lo≤p.2+1 then (if p.2 < hi then l.set (l.length - 1) (p.1,hi) else l) else l ++ [(lo,hi)]
theorem aNv {a:Addr} {l:List (Int × Int)} {lo hi:Int} (he:H a=some (.list (l.map aAo))) (hl:l.length≤1000) (h:∀ H',HBut [a] H H'→H' a=some (.list ((putB l lo hi).map aAo))→Q .none H'):CW G (n+1) (.ref 28) [.val (.ref a),.int lo,.int hi] H Q:=by
  have hml:(l.map aAo).length=l.length:=by simp
  have app:putB l lo hi=l ++ [(lo,hi)]→MethQ G "append" (.val (.ref a)) H fun f=>CW G n f [.val (.ref a),.tup [.int lo,.int hi]] H fun _ H1=>Q .none H1:=fun e=>by
    refine aAg he (aAj he (eqLt hml (ltL hl rfl)) (h _ ((HLe.refl H).but.set (.head _)) ?_))
    rw [AHeap.set_same,e]; simp
  refine aLg (aAf (.own he) (eqLt hml (ltL hl rfl)) ?_)
  rw [hml]
  refine tb (fun hc=>?_) (fun hc=>app ?_)
  · have hc':0 < l.length:=by have:=of_decide_eq_true hc; exact om123 this
    obtain ⟨p,ep⟩:∃ p,l.getLast?=some p:=by
      cases q:l.getLast? with
      | none=>rw [List.getLast?_eq_none_iff] at q; subst q; simp at hc'
      | some p=>exact ⟨p,rfl⟩
    have ep':l[l.length - 1]?=some p:=by rw [← List.getLast?_eq_getElem?]; exact ep
    have epm:(l.map aAo)[(l.map aAo).length - 1]?=some (aAo p):=by rw [hml,List.getElem?_map,ep']; rfl
    have at_:∀ {Q},Q (.int p.2) H→GetI G n (.val (.ref a)) (.int (-1)) H fun x H1=>GetI G n x (.int 1) H1 Q:=fun q=>aDt (.own he) epm (eqLt hml (ltL hl rfl)) (aAp (k:=1) rfl rfl q)
    have at0:∀ {Q},Q (.int p.1) H→GetI G n (.val (.ref a)) (.int (-1)) H fun x H1=>GetI G n x (.int 0) H1 Q:=fun q=>aDt (.own he) epm (eqLt hml (ltL hl rfl)) (aAp (k:=0) rfl rfl q)
    refine at_ (tb (fun hq=>at_ (tb (fun hr=>at0 (aIo he (ltEq hc' hml) (eqLt hml (ltL hl rfl)) (h _ ((HLe.refl H).but.set (.head _)) ?_))) (fun hr=>h _ (HLe.refl H).but ?_))) (fun hq=>app ?_))
    · rw [AHeap.set_same]
      simp only [putB,ep,if_pos (of_decide_eq_true hq),if_pos (of_decide_eq_true hr),List.map_set,hml]
    · simp only [putB,ep,if_pos (of_decide_eq_true hq),if_neg (of_decide_eq_false hr)]
      exact he
    · simp only [putB,ep,if_neg (of_decide_eq_false hq)]
  · have hc':l=[]:=List.eq_nil_of_length_eq_zero (by have:=of_decide_eq_false hc; exact om122 this)
    subst hc'; rfl
noncomputable def aDi (ns:List Int):List (Int × Int):=ns.foldl (fun f v=>putB f v v) []
theorem bAu (l:List (Int × Int)) (lo hi:Int):(putB l lo hi).length≤l.length+1:=by
  unfold putB
  split
  · simp
  · split
    · split <;> simp
    · simp
theorem aFz (ns:List Int):(aDi ns).length≤ns.length:=by
  have key:∀ (ns:List Int) (f:List (Int × Int)),(ns.foldl (fun f v=>putB f v v) f).length≤f.length+ns.length:=by
    intro ns
    induction ns with
    | nil=>intro f; simp
    | cons n ns ih=>intro f; have:=ih (putB f n n); have:=bAu f n n; simp only [List.foldl_cons,List.length_cons]; exact om121 (by assumption) this
  have:=key ns []
  simpa [aDi] using this
noncomputable def bJa (H:AHeap) (o:AV) (D:Addr) (E:Addr) (ns':List Int) (i:Nat) (L':LS) (H':AHeap):Prop:=∀ P:LS→Prop,(∀ (e1:HLe H H') (e2:H' D=some (.list ((aDi (ns'.take i)).map aAo))) (e3:H' E=some (.list (ns'.map .int))) a,P [some o,some (.val (.ref D)),a])→P L'
theorem aLr {o:AV} {ns:List Int} (he:∀ H',HLe H H'→IsL H' o (ns.map .int)) (hl:ns.length < 64) (h:∀ H' ns',HLe H H'→List.Perm ns' ns→ns'.Pairwise (·≤·)→Q (domAV (aDi ns')) H'):CW G (n+2) (.ref 35) [o] H Q:=by
  refine aIw fun D hD=>aYd (he _ (HLe.new hD)) hl fun E ns' hE hp hw=>?_
  have hDE:D≠E:=fun z=>by rw [z,AHeap.set_same] at hE; cases hE
  have hnl:ns'.length=ns.length:=hp.length_eq
  refine aBi (.own AHeap.set_same) (fvi (bJa H o D E ns') (fun _ k=>k ((HLe.new hD).set hE) (by rw [AHeap.set_ne hDE,AHeap.set_same]; rfl) AHeap.set_same _) ?_ ?_)
  · intro i v L H1 hv hJ; apply hJ; intro hle hf hs a
    refine aAu hv fun v ev=>?_
    refine ⟨hs,aNv hf ?_ fun H2 hb h2=>(fun _ k=>k (fun b o e=>?_) ?_ ?_ _)⟩
    · have:=aFz (ns'.take i); have:=aOn ns' i; exact om120 hl hnl (by assumption) this
    · exact hb.1 b o (fun m=>by rw [List.mem_singleton.mp m,hD] at e; cases e) (hle b o e)
    · rw [h2,List.take_add_one,ev]; simp [aDi,List.foldl_append]
    · exact hb.1 E _ (fun m=>hDE (List.mem_singleton.mp m).symm) hs
  · intro L H1 hJ; apply hJ; intro hle hf hs a
    rw [List.length_map,List.take_length] at hf
    refine ⟨hs,aAi (.own hf) ?_ (h _ _ hle hp hw)⟩
    have:=aFz ns'
    rw [List.length_map]; exact om119 hl hnl this
end
section
noncomputable def AllO (H:AHeap):List (Addr × AObj)→Prop
  | []=>True
  | p :: r=>H p.1=some p.2∧AllO H r
theorem AllO.get {H:AHeap} {l:List (Addr × AObj)}:AllO H l→∀ {i:Nat} {p:Addr × AObj},l[i]?=some p→H p.1=some p.2:=by
  induction l with
  | nil=>intro _ i p e; simp at e
  | cons q l ih =>
    intro h i p e
    cases i with
    | zero=>simp at e; subst e; exact h.1
    | succ i=>exact ih h.2 (by simpa using e)
theorem AllO.but {H H':AHeap} {ds:List Addr} (x:HBut ds H H') {l:List (Addr × AObj)}:AllO H l→(∀ a∈l.map (·.1),a∉ds)→AllO H' l :=
  l.rec (fun _ _=>trivial) fun p l ih h k=>⟨x.1 _ _ (k _ (.head _)) h.1,ih h.2 fun a m=>k a (.tail _ m)⟩
theorem AllO.le {H H':AHeap} (x:HLe H H') {l:List (Addr × AObj)}:AllO H l→AllO H' l :=
  l.rec (fun _=>trivial) fun p l ih h=>⟨x _ _ h.1,ih h.2⟩
theorem AllO.out {H:AHeap} {a:Addr} {o:AObj} {l:List (Addr × AObj)}:AllO H l→a∉l.map (·.1)→AllO (H.set a o) l :=
  l.rec (fun _ _=>trivial) fun p l ih h k=>⟨(AHeap.set_ne (fun z=>k (by rw [← z]; exact .head _))).trans h.1,ih h.2 fun m=>k (.tail _ m)⟩
theorem AllO.set {H:AHeap} {a:Addr} {o o0:AObj} {l:List (Addr × AObj)}:∀ {i:Nat},AllO H l→(l.map (·.1)).Nodup→l[i]?=some (a,o0)→AllO (H.set a o) (l.set i (a,o)):=by
  induction l with
  | nil=>intro i _ _ e; simp at e
  | cons p l ih =>
    intro i h nd e
    cases i with
    | zero =>
      simp at e; subst e
      exact ⟨AHeap.set_same,h.2.out (List.nodup_cons.mp nd).1⟩
    | succ i =>
      simp at e
      have hm:a∈l.map (·.1):=List.mem_map.mpr ⟨_,List.mem_of_getElem? e,rfl⟩
      exact ⟨(AHeap.set_ne (fun z=>(List.nodup_cons.mp nd).1 (by show p.1∈_; rw [z]; exact hm))).trans h.1,ih h.2 (List.nodup_cons.mp nd).2 e⟩
theorem AllO.fresh {H:AHeap} {D:Addr} (hD:H D=none) {l:List (Addr × AObj)}:AllO H l→D∉l.map (·.1):=by
  induction l with
  | nil=>exact fun _ m=>nomatch m
  | cons p l ih =>
    intro h m
    rcases List.mem_cons.mp m with e | m
    · rw [e,h.1] at hD; cases hD
    · exact ih h.2 m
noncomputable abbrev Dom:=List (Int × Int)
structure Entry where
  x:Int
  old:Dom
  lit:Lit
  why:Option (List Lit)
  by_:Int
noncomputable def aBg (l:List Lit):AV:=.tup (l.map litAV)
noncomputable def whyAV:Option (List Lit)→AV
  | none=>AV.none
  | some l=>aBg l
noncomputable def aBy (e:Entry):AV:=.tup [.int e.x,domAV e.old,litAV e.lit,whyAV e.why,.int e.by_]
structure SSt where
  doms:List Dom
  firsts:List Dom
  trail:List Entry
  marks:List Int
  failed:Bool
  clash:List Lit
structure SA where
  st:Addr
  dx:Addr
  ld:Addr
  lf:Addr
  lt:Addr
  lm:Addr
  ln:Addr
noncomputable def SA.all (F:SA):List Addr:=[F.st,F.dx,F.ld,F.lf,F.lt,F.lm,F.ln]
noncomputable def aBf (F:SA) (b:Bool) (c:List Lit):List (Str × AV):=[("domains",.val (.ref F.ld)),("firsts",.val (.ref F.lf)),("trail",.val (.ref F.lt)),("marks",.val (.ref F.lm)),("news",.val (.ref F.ln)),("speaker",.int (-1)),("is_failed",.val (.bool b)),("clash",aBg c)]
noncomputable def sObs (F:SA) (S:SSt) (ks:List Int):List (Addr × AObj):=[(F.st,.inst 265 F.dx),(F.dx,.attrs (aBf F S.failed S.clash)),(F.ld,.list (S.doms.map domAV)),(F.lf,.list (S.firsts.map domAV)),(F.lt,.list (S.trail.map aBy)),(F.lm,.list (S.marks.map .int)),(F.ln,.idict ks)]
noncomputable def NewsOk (ks:List Int):Prop:=ks.Nodup∧∀ k∈ks,0≤k∧k < 3
theorem aHa (n:Nat):∀ (l:List Nat),l.Nodup→(∀ k∈l,k < n)→l.length≤n:=by
  induction n with
  | zero =>
    intro l _ h
    cases l with
    | nil=>simp
    | cons a l=>exact absurd (h a (.head _)) (Nat.not_lt_zero _)
  | succ n ih =>
    intro l hn h
    have h2:∀ k∈l.erase n,k < n:=fun k hk=>by
      have:=h k (List.mem_of_mem_erase hk)
      have hne:k≠n:=fun z=>by subst z; exact (List.Nodup.not_mem_erase hn) hk
      exact Nat.lt_of_le_of_ne (Nat.le_of_lt_succ this) hne
    have:=ih _ (hn.erase n) h2
    by_cases hm:n∈l
    · rw [List.length_erase_of_mem hm] at this; exact om126 this
    · rw [List.erase_of_not_mem hm] at this; exact Nat.le_trans this (Nat.le_add_right _ _)
theorem NewsOk.len {ks:List Int} (h:NewsOk ks):ks.length≤1000:=by
  have h1:(ks.map Int.toNat).Nodup:=by
    rw [List.nodup_iff_pairwise_ne,List.pairwise_map]
    refine List.Pairwise.imp_of_mem (fun {a b} ha hb hab=>?_) (List.nodup_iff_pairwise_ne.mp h.1)
    have:=h.2 a ha; have:=h.2 b hb
    exact om125 hab (by assumption) this.1
  have:=aHa 3 _ h1 fun k hk=>by
    refine aCm hk fun a ha=>?_
    have:=h.2 a ha; exact om124 this.2
  rw [List.length_map] at this; exact leL this rfl
theorem aFy {K:Type} [DecidableEq K] {l:List K} {k:K} (h:l.Nodup):(aBh l k).Nodup:=by
  unfold aBh
  split
  · exact h
  · rename_i hn
    rw [List.nodup_append]
    exact ⟨h,by simp,fun a ha b hb=>by rw [List.mem_singleton.mp hb]; exact fun z=>hn (z ▸ ha)⟩
theorem mem_keyPut {K:Type} [DecidableEq K] {l:List K} {k x:K}:x∈aBh l k↔x∈l∨x=k:=by
  unfold aBh
  split
  · rename_i h
    exact ⟨.inl,fun z=>z.elim id fun e=>e ▸ h⟩
  · simp
theorem NewsOk.put {ks:List Int} {x:Int} (h:NewsOk ks) (h0:0≤x∧x < 3):NewsOk (aBh ks x):=⟨aFy h.1,fun k hk=>(mem_keyPut.mp hk).elim (h.2 k) fun e=>e ▸ h0⟩
structure StoreAt (H:AHeap) (F:SA) (S:SSt):Prop where
  nd:F.all.Nodup
  ob:∃ ks,NewsOk ks∧AllO H (sObs F S ks)
section
variable {H:AHeap} {F:SA} {S:SSt}
theorem StoreAt.inst (x:StoreAt H F S):H F.st=some (.inst 265 F.dx):=let ⟨_,_,h⟩:=x.ob; h.1
theorem StoreAt.attrs (x:StoreAt H F S):H F.dx=some (.attrs (aBf F S.failed S.clash)):=let ⟨_,_,h⟩:=x.ob; h.2.1
theorem StoreAt.doms (x:StoreAt H F S):H F.ld=some (.list (S.doms.map domAV)):=let ⟨_,_,h⟩:=x.ob; h.2.2.1
theorem StoreAt.firsts (x:StoreAt H F S):H F.lf=some (.list (S.firsts.map domAV)):=let ⟨_,_,h⟩:=x.ob; h.2.2.2.1
theorem StoreAt.trail (x:StoreAt H F S):H F.lt=some (.list (S.trail.map aBy)):=let ⟨_,_,h⟩:=x.ob; h.2.2.2.2.1
theorem StoreAt.marks (x:StoreAt H F S):H F.lm=some (.list (S.marks.map .int)):=let ⟨_,_,h⟩:=x.ob; h.2.2.2.2.2.1
theorem StoreAt.news (x:StoreAt H F S):∃ ks,NewsOk ks∧H F.ln=some (.idict ks):=let ⟨ks,k,h⟩:=x.ob; ⟨ks,k,h.2.2.2.2.2.2.1⟩
theorem StoreAt.but {H':AHeap} {ds:List Addr} (x:StoreAt H F S) (h:HBut ds H H') (n:∀ a∈F.all,a∉ds):StoreAt H' F S:=let ⟨ks,k,o⟩:=x.ob; ⟨x.nd,ks,k,o.but h n⟩
theorem StoreAt.le {H':AHeap} (x:StoreAt H F S) (h:HLe H H'):StoreAt H' F S:=let ⟨ks,k,o⟩:=x.ob; ⟨x.nd,ks,k,o.le h⟩
theorem StoreAt.fresh {D:Addr} (x:StoreAt H F S) (h:H D=none):D∉F.all:=let ⟨ks,k,o⟩:=x.ob; o.fresh h
theorem StoreAt.set_doms (x:StoreAt H F S) (ds:List Dom):StoreAt (H.set F.ld (.list (ds.map domAV))) F { S with doms:=ds }:=let ⟨ks,k,o⟩:=x.ob; ⟨x.nd,ks,k,o.set (i:=2) x.nd rfl⟩
theorem StoreAt.set_firsts (x:StoreAt H F S) (ds:List Dom):StoreAt (H.set F.lf (.list (ds.map domAV))) F { S with firsts:=ds }:=let ⟨ks,k,o⟩:=x.ob; ⟨x.nd,ks,k,o.set (i:=3) x.nd rfl⟩
theorem StoreAt.set_trail (x:StoreAt H F S) (t:List Entry):StoreAt (H.set F.lt (.list (t.map aBy))) F { S with trail:=t }:=let ⟨ks,k,o⟩:=x.ob; ⟨x.nd,ks,k,o.set (i:=4) x.nd rfl⟩
theorem StoreAt.set_marks (x:StoreAt H F S) (t:List Int):StoreAt (H.set F.lm (.list (t.map .int))) F { S with marks:=t }:=let ⟨ks,k,o⟩:=x.ob; ⟨x.nd,ks,k,o.set (i:=5) x.nd rfl⟩
theorem StoreAt.set_news (x:StoreAt H F S) (ks':List Int) (hk:NewsOk ks'):StoreAt (H.set F.ln (.idict ks')) F S:=let ⟨ks,k,o⟩:=x.ob; ⟨x.nd,ks',hk,o.set (i:=6) x.nd rfl⟩
theorem StoreAt.set_attrs (x:StoreAt H F S) (b:Bool) (c:List Lit):StoreAt (H.set F.dx (.attrs (aBf F b c))) F { S with failed:=b,clash:=c }:=let ⟨ks,k,o⟩:=x.ob; ⟨x.nd,ks,k,o.set (i:=1) x.nd rfl⟩
theorem bEa {l:List Addr} {D:Addr} (nd:l.Nodup) (hD:D∉l):∀ (i:Nat),(l.set i D).Nodup:=by
  induction l with
  | nil=>intro i; simp
  | cons a l ih =>
    intro i
    simp only [List.mem_cons,not_or] at hD
    obtain ⟨h1,h2⟩:=List.nodup_cons.mp nd
    cases i with
    | zero=>exact List.nodup_cons.mpr ⟨hD.2,h2⟩
    | succ i =>
      refine List.nodup_cons.mpr ⟨fun m=>?_,ih h2 hD.2 i⟩
      rcases List.mem_or_eq_of_mem_set m with m | m
      · exact h1 m
      · exact hD.1 m.symm
theorem StoreAt.turn_marks (x:StoreAt H F S) {D:Addr} (hD:H D=none) (ms:List Int):StoreAt ((H.set D (.list (ms.map .int))).set F.dx (.attrs (aBf { F with lm:=D } S.failed S.clash))) { F with lm:=D } { S with marks:=ms }:=by
  obtain ⟨ks,k,o⟩:=x.ob
  have nD:=x.fresh hD
  have y:=(show AllO _ ((D,AObj.list (ms.map .int)) :: sObs F S ks) from ⟨AHeap.set_same,o.out nD⟩).set (i:=2) (o:=.attrs (aBf { F with lm:=D } S.failed S.clash)) (List.nodup_cons.mpr ⟨nD,x.nd⟩) rfl
  exact ⟨bEa x.nd nD 5,ks,k,y.2.1,y.2.2.1,y.2.2.2.1,y.2.2.2.2.1,y.2.2.2.2.2.1,y.1,y.2.2.2.2.2.2.2⟩
theorem StoreAt.turn_news (x:StoreAt H F S) {D:Addr} (hD:H D=none):StoreAt ((H.set D (.idict [])).set F.dx (.attrs (aBf { F with ln:=D } S.failed S.clash))) { F with ln:=D } S:=by
  obtain ⟨ks,k,o⟩:=x.ob
  have nD:=x.fresh hD
  have y:=(show AllO _ ((D,AObj.idict []) :: sObs F S ks) from ⟨AHeap.set_same,o.out nD⟩).set (i:=2) (o:=.attrs (aBf { F with ln:=D } S.failed S.clash)) (List.nodup_cons.mpr ⟨nD,x.nd⟩) rfl
  exact ⟨bEa x.nd nD 6,[],⟨.nil,fun _ m=>nomatch m⟩,y.2.1,y.2.2.1,y.2.2.2.1,y.2.2.2.2.1,y.2.2.2.2.2.1,y.2.2.2.2.2.2.1,y.1,trivial⟩
end
noncomputable def seB (w:World) (C:Addr) (name:Str):Bool:=findIn (KF w) (.ref C) "__setattr__" == some (some (.builtin "object.__setattr__")) && (plainOver (KF w) C && ((match takerIn (KF w) C name with | some none=>true | _=>false) && (clsIn (KF w) C).any (·.hasDict)))
section
variable {G:Cx} {n:Nat} {H:AHeap} {Q:AV→AHeap→Prop}
theorem aDx {a C dx:Addr} {at':List (Str × AV)} {name:Str} {v:AV} {Q:AHeap→Prop} (e1:H a=some (.inst C dx)) (e2:H dx=some (.attrs at')) (hz:Nat.ble at'.length 900=true) (hb:seB G.w C name=true) (h:Q (H.set dx (.attrs (putA at' name v)))):SetA G n (.val (.ref a)) name v H Q:=by
  simp only [seB,Bool.and_eq_true,beq_iff_eq] at hb
  obtain ⟨h1,h2,h3,h4⟩:=hb
  split at h3
  · rename_i e; exact aVn e1 e2 (Nat.le_of_ble_eq_true hz) h1 h2 e h4 h
  · cases h3
theorem aJe (F:SA) (S:SSt) (b:Bool):putA (aBf F S.failed S.clash) "is_failed" (.val (.bool b))=aBf F b S.clash:=by kernel_rfl!
theorem aMm (F:SA) (S:SSt) (c:List Lit):putA (aBf F S.failed S.clash) "clash" (aBg c)=aBf F S.failed c:=by kernel_rfl!
theorem aVz (F:SA) (S:SSt) (D:Addr):putA (aBf F S.failed S.clash) "marks" (.val (.ref D))=aBf { F with lm:=D } S.failed S.clash:=by kernel_rfl!
theorem bAt (F:SA) (S:SSt) (D:Addr):putA (aBf F S.failed S.clash) "news" (.val (.ref D))=aBf { F with ln:=D } S.failed S.clash:=by kernel_rfl!
variable {F:SA} {S:SSt}
theorem aEb (x:StoreAt H F S) (h:Q (.val (.ref F.ld)) H):AtL G "domains" (.val (.ref F.st)) H Q:=aAn x.inst x.attrs aKu rfl (by kernel_rfl!) h
theorem aIe (x:StoreAt H F S) (h:Q (.val (.ref F.lf)) H):AtL G "firsts" (.val (.ref F.st)) H Q:=aAn x.inst x.attrs (by kernel_rfl!) rfl (by kernel_rfl!) h
theorem aBr (x:StoreAt H F S) (h:Q (.val (.ref F.lt)) H):AtL G "trail" (.val (.ref F.st)) H Q:=aAn x.inst x.attrs (by kernel_rfl!) rfl (by kernel_rfl!) h
theorem aFd (x:StoreAt H F S) (h:Q (.val (.ref F.lm)) H):AtL G "marks" (.val (.ref F.st)) H Q:=aAn x.inst x.attrs (by kernel_rfl!) rfl (by kernel_rfl!) h
theorem bIf (x:StoreAt H F S) (h:Q (.val (.ref F.ln)) H):AtL G "news" (.val (.ref F.st)) H Q:=aAn x.inst x.attrs (by kernel_rfl!) rfl (by kernel_rfl!) h
theorem aUq (x:StoreAt H F S) (h:Q (.int (-1)) H):AtL G "speaker" (.val (.ref F.st)) H Q:=aAn x.inst x.attrs (by kernel_rfl!) rfl (by kernel_rfl!) h
theorem aIg (x:StoreAt H F S) (h:Q (.val (.bool S.failed)) H):AtL G "is_failed" (.val (.ref F.st)) H Q:=aAn x.inst x.attrs (by kernel_rfl!) rfl (by kernel_rfl!) h
theorem aSf (x:StoreAt H F S) (h:Q (aBg S.clash) H):AtL G "clash" (.val (.ref F.st)) H Q:=aAn x.inst x.attrs (by kernel_rfl!) rfl (by kernel_rfl!) h
theorem c_dom {i:Nat} {d:Dom} (x:StoreAt H F S) (hd:S.doms[i]?=some d) (hl:S.doms.length≤100) (h:Q (domAV d) H):CW G (n+1) (.ref 150) [.val (.ref F.st),.int i] H Q :=
  aXg (aEb x (aAq (.own x.doms) (Int.natCast_nonneg _) (by rw [List.getElem?_map,Int.toNat_natCast,hd]; rfl) (by rw [List.length_map]; exact ltL hl rfl) h))
theorem aYt {i:Nat} {d:Dom} (x:StoreAt H F S) (hd:S.firsts[i]?=some d) (hl:S.firsts.length≤100) (h:Q (domAV d) H):CW G (n+1) (.ref 157) [.val (.ref F.st),.int i] H Q :=
  aLe (aIe x (aAq (.own x.firsts) (Int.natCast_nonneg _) (by rw [List.getElem?_map,Int.toNat_natCast,hd]; rfl) (by rw [List.length_map]; exact ltL hl rfl) h))
theorem bLe (x:StoreAt H F S) (hl:S.doms.length≤100) (h:Q (.int S.doms.length) H):CW G (n+1) (.ref 143) [.val (.ref F.st)] H Q :=
  aTv (aEb x (aAf (.own x.doms) (by rw [List.length_map]; exact ltL hl rfl) (by rw [List.length_map]; exact h)))
theorem aJq (F:SA):F.dx∈F.all:=.tail _ (.head _)
theorem aZa (F:SA):F.ld∈F.all:=.tail _ (.tail _ (.head _))
theorem bLq (F:SA):F.lf∈F.all:=.tail _ (.tail _ (.tail _ (.head _)))
theorem bEr (F:SA):F.lt∈F.all:=.tail _ (.tail _ (.tail _ (.tail _ (.head _))))
theorem bLp (F:SA):F.lm∈F.all:=.tail _ (.tail _ (.tail _ (.tail _ (.tail _ (.head _)))))
theorem bLo (F:SA):F.ln∈F.all:=.tail _ (.tail _ (.tail _ (.tail _ (.tail _ (.tail _ (.head _))))))
theorem bEp {c:List Lit} (x:StoreAt H F S) (h:∀ H',StoreAt H' F { S with failed:=true,clash:=c }→HBut F.all H H'→Q (.val (.bool false)) H'):CW G (n+1) (.ref 234) [.val (.ref F.st),aBg c] H Q:=by
  refine aTy (aDx x.inst x.attrs (by kernel_rfl!) (by kernel_rfl!) ?_)
  rw [aJe]
  have x1:=x.set_attrs true S.clash
  refine aCd (aDx x1.inst x1.attrs (by kernel_rfl!) (by kernel_rfl!) ?_)
  have e:=aMm F { S with failed:=true } c
  rw [show AV.tup (c.map litAV)=aBg c from rfl,e]
  exact h _ (x1.set_attrs true c) (((HLe.refl H).but.set (aJq F)).set (aJq F))
end
end
section
noncomputable def aDh (S:SSt) (l:Lit) (why:Option (List Lit)) (by_:Int) (old:Dom):Bool × SSt :=
  if aDa l.sg l.k old=[] then (false,{ S with failed:=true,clash:=(why.getD []) ++ [aBb l] })
  else if aDa l.sg l.k old=old then (true,S)
  else (true,{ S with trail:=S.trail ++ [⟨l.x,old,l,why,by_⟩],doms:=S.doms.set l.x.toNat (aDa l.sg l.k old) })
noncomputable def domPD (d:Dom):PyData:=.tuple (d.map fun p=>.tuple [.int p.1,.int p.2])
theorem aXx {H:AHeap}:∀ d:Dom,RDs H (d.map aAo) (d.map fun p=>.tuple [.int p.1,.int p.2])
  | []=>.nil
  | p :: d=>.cons (.tup (.cons (.int _) (.cons (.int _) .nil))) (aXx d)
theorem aXw (d:Dom):PyData.depthAll (d.map fun p=>.tuple [.int p.1,.int p.2])≤1:=by
  induction d with
  | nil=>simp [PyData.depthAll]
  | cons p d this =>
    simp only [List.map_cons,PyData.depthAll,PyData.depth]
    exact om144 this
theorem aPy (d:Dom):(domPD d).depth≤8:=by
  have:=aXw d
  simp only [domPD,PyData.depth]; exact Nat.succ_le_succ (leL this rfl)
theorem aXy (a b:Dom):PyData.eqv (domPD a) (domPD b)=decide (a=b):=by
  simp only [domPD,PyData.eqv]
  induction a generalizing b with
  | nil=>cases b <;> simp [PyData.eqvAll]
  | cons p a ih =>
    cases b with
    | nil=>simp [PyData.eqvAll]
    | cons q b =>
      simp only [List.map_cons,PyData.eqvAll,PyData.eqv,ih]
      obtain ⟨p1,p2⟩:=p
      obtain ⟨q1,q2⟩:=q
      by_cases h1:p1=q1 <;> by_cases h2:p2=q2 <;> by_cases h3:a=b <;> simp [h1,h2,h3]
section
variable {G:Cx} {n:Nat} {H:AHeap} {Q:AV→AHeap→Prop} {F:SA} {S:SSt}
theorem aFp {a b:Dom} (h:Q (.val (.bool (decide (a=b)))) H):Bin G n (compareOp .Eq) (domAV a) (domAV b) H Q :=
  aOc (.tup (aXx a)) (.tup (aXx b)) (aPy a) (show Q (.val (.bool (PyData.eqv (domPD a) (domPD b)))) H by rw [aXy]; exact h)
theorem aYu {l:Lit} {why:Option (List Lit)} {b:Int} {old:Dom} (x:StoreAt H F S) (h0:0≤l.x∧l.x < 3) (ho:S.doms[l.x.toNat]?=some old) (hl:S.doms.length≤100) (hd:old.length≤100) (hw:(why.getD []).length≤500) (ht:S.trail.length≤900)
    (h:∀ H',StoreAt H' F (aDh S l why b old).2→HBut F.all H H'→Q (.val (.bool (aDh S l why b old).1)) H'):CW G (n+4) (.ref 213) [.val (.ref F.st),litAV l,whyAV why,.int b] H Q:=by
  have hlt:=(List.getElem?_eq_some_iff.mp ho).1
  have e:(S.doms.map domAV)[l.x.toNat]?=some (domAV old):=by rw [List.getElem?_map,ho]; rfl
  refine aPo (aAp (k:=0) rfl rfl (aEb x (aAq (.own x.doms) h0.1 e (by rw [List.length_map]; exact ltL hl rfl) (bCd hd fun H1 hle=>?_))))
  have x1:=x.le hle
  refine aFp (b:=[]) (tb (fun hc=>?_) (fun hc=>aFp (tb (fun hq=>?_) (fun hq=>?_))))
  · simp only [aDh,if_pos (of_decide_eq_true hc)] at h
    have fin:CW G (n+3) (.ref 234) [.val (.ref F.st),aBg (why.getD [] ++ [aBb l])] H1 Q:=bEp x1 fun H' x' hb=>h H' x' (hle.but.trans hb)
    rw [aBg,List.map_append] at fin
    refine aAe x1.inst x1.attrs (by kernel_rfl!) (by kernel_rfl!:meB G.w 265 "fail" 234=true) ?_
    cases why with
    | none=>exact aJn (aCw (by simp) fin)
    | some w=>exact aJn (aCw (by simp at hw ⊢; exact leL hw rfl) fin)
  · simp only [aDh,if_neg (of_decide_eq_false hc),if_pos (of_decide_eq_true hq)] at h
    exact h _ x1 hle.but
  · simp only [aDh,if_neg (of_decide_eq_false hc),if_neg (of_decide_eq_false hq)] at h
    refine aBr x1 (aAg x1.trail (aAj x1.trail (by rw [List.length_map]; exact ltL ht rfl) ?_))
    have x2:=x1.set_trail (S.trail ++ [(⟨l.x,old,l,why,b⟩:Entry)])
    rw [List.map_append] at x2
    refine aEb x2 (aBt x2.doms h0.1 (by simp; exact om143 hlt) (by simp; exact ltL hl rfl) ?_)
    rw [← List.map_set]
    have x3:=x2.set_doms (S.doms.set l.x.toNat (aDa l.sg l.k old))
    obtain ⟨ks,hk,ek⟩:=x3.news
    exact bIf x3 (aTc ek hk.len (h _ (x3.set_news _ (hk.put h0)) (((hle.but.set (bEr F)).set (aZa F)).set (bLo F))))
theorem bCe {l:Lit} {why:List Lit} {old:Dom} (x:StoreAt H F S) (h0:0≤l.x∧l.x < 3) (ho:S.doms[l.x.toNat]?=some old) (hl:S.doms.length≤100) (hd:old.length≤100) (hw:why.length≤500) (ht:S.trail.length≤900)
    (h:∀ H',StoreAt H' F (aDh S l (some why) (-1) old).2→HBut F.all H H'→Q (.val (.bool (aDh S l (some why) (-1) old).1)) H'):CW G (n+5) (.ref 220) [.val (.ref F.st),litAV l,aBg why] H Q :=
  aNb (aAe x.inst x.attrs (by kernel_rfl!) (by kernel_rfl!:meB G.w 265 "enter" 213=true) (aCd (aUq x (aYu (why:=some why) x h0 ho hl hd hw ht h))))
theorem bCg {l:Lit} {old:Dom} (x:StoreAt H F S) (h0:0≤l.x∧l.x < 3) (ho:S.doms[l.x.toNat]?=some old) (hl:S.doms.length≤100) (hd:old.length≤100) (ht:S.trail.length≤900)
    (h:∀ H',StoreAt H' F (aDh S l none (-1) old).2→HBut F.all H H'→Q (.val (.bool (aDh S l none (-1) old).1)) H'):CW G (n+5) (.ref 227) [.val (.ref F.st),litAV l] H Q :=
  aNc (aAe x.inst x.attrs (by kernel_rfl!) (by kernel_rfl!:meB G.w 265 "enter" 213=true) (aYu (why:=none) x h0 ho hl hd (Nat.zero_le _) ht h))
theorem bLf (x:StoreAt H F S) (hm:S.marks.length≤100) (ht:S.trail.length≤900) (h:∀ H',StoreAt H' F { S with marks:=S.marks ++ [(S.trail.length:Int)] }→HBut F.all H H'→Q .none H'):CW G (n+1) (.ref 241) [.val (.ref F.st)] H Q:=by
  refine aTw (aFd x (aAg x.marks (aBr x (aAf (.own x.trail) (by rw [List.length_map]; exact ltL ht rfl) (aAj x.marks (by rw [List.length_map]; exact ltL hm rfl) ?_)))))
  have x2:=x.set_marks (S.marks ++ [(S.trail.length:Int)])
  rw [List.map_append] at x2
  rw [List.length_map]
  exact h _ x2 ((HLe.refl H).but.set (bLp F))
theorem aYs {d:Dom} (x:StoreAt H F S) (hd:d≠[]) (hl:S.doms.length≤10) (hl2:S.firsts.length≤10) (h:∀ H',StoreAt H' F { S with doms:=S.doms ++ [d],firsts:=S.firsts ++ [d] }→HBut F.all H H'→Q (.int S.doms.length) H'):CW G (n+1) (.ref 136) [.val (.ref F.st),domAV d] H Q:=by
  refine aLd (aEb x (aAg x.doms (aAj x.doms (by rw [List.length_map]; exact ltL hl rfl) ?_)))
  have x1:=x.set_doms (S.doms ++ [d])
  rw [List.map_append] at x1
  refine aIe x1 (aAg x1.firsts (aAj x1.firsts (by rw [List.length_map]; show S.firsts.length < _; exact ltL hl2 rfl) ?_))
  have x2:=x1.set_firsts (S.firsts ++ [d])
  rw [List.map_append] at x2
  refine aFp (b:=[]) (tb (fun hc=>absurd (of_decide_eq_true hc) hd) (fun _=>aEb x2 (aAf (.own x2.doms) (by simp; exact Nat.lt_succ_of_le (Nat.succ_le_succ (leL hl rfl))) ?_)))
  have:=h _ x2 (((HLe.refl H).but.set (aZa F)).set (bLq F))
  show Q (.int (((S.doms ++ [d]).map domAV).length - 1)) _
  rw [List.length_map,List.length_append,show (((S.doms.length + [d].length:Nat):Int) - 1)=(S.doms.length:Nat) by simp]
  exact this
noncomputable def undo (tr:List Entry) (ds:List Dom):List Dom:=tr.foldr (fun e ds=>ds.set e.x.toNat e.old) ds
theorem aZz (tr:List Entry) (ds:List Dom):(undo tr ds).length=ds.length:=by
  induction tr with
  | nil=>rfl
  | cons e tr ih=>simp only [undo,List.foldr_cons,List.length_set] at *; exact ih
noncomputable def popF (S:SSt) (m:Nat) (ms:List Int):SSt:={ S with marks:=ms,trail:=S.trail.take m,doms:=undo (S.trail.drop m) S.doms,failed:=false,clash:=[] }
noncomputable def bIz (H:AHeap) (F:SA) (S:SSt) (m:Nat) (ms:List Int) (D:Addr) (k:Nat) (L':LS) (H':AHeap):Prop:=∀ P:LS→Prop,(∀ (e1:k+m≤S.trail.length) (e2:StoreAt H' { F with lm:=D } { S with marks:=ms,trail:=S.trail.take (m+k),doms:=undo (S.trail.drop (m+k)) S.doms }) (e3:HBut F.all H H') a,P [some (.val (.ref F.st)),some (.int 1),some (.int m),a])→P L'
theorem c_pop {m:Nat} {ms:List Int} (x:StoreAt H F S) (hm:S.marks=ms ++ [(m:Int)]) (hml:ms.length≤100) (ht:S.trail.length≤900) (hmt:m≤S.trail.length) (hx:∀ e∈S.trail,0≤e.x∧e.x.toNat < S.doms.length) (hdl:S.doms.length≤100) (hf:∀ d∈S.firsts,d≠[])
    (h:∀ H' F',StoreAt H' F' (popF S m ms)→HBut F.all H H'→F'.st=F.st→(∀ a∈F'.all,a∈F.all∨H a=none)→Q .none H'):CW G (n+1) (.ref 248) [.val (.ref F.st),.int 1] H Q:=by
  have hlen:(S.marks.map AV.int).length=ms.length+1:=by rw [hm]; simp
  refine aXf (aFd x (aFd x (aAf (.own x.marks) (om141 hml hlen) (aAq (v:=.int m) (.own x.marks) (om142 hlen) ?_ (om141 hml hlen) (aFd x (aFd x (aAf (.own x.marks) (om141 hml hlen) ⟨S.marks.map .int,ms.length,.inl (.own x.marks),by rw [hlen]; congr 1; exact om140,eqLe hlen (Nat.succ_le_succ (leL hml rfl)),fun D hD=>?_⟩)))))))
  · rw [show ((((S.marks.map AV.int).length:Nat):Int) - 1).toNat=ms.length from om139 hlen,hm]; simp
  rw [show (S.marks.map AV.int).take ms.length=ms.map AV.int by rw [hm]; simp]
  have hle1:HLe H (H.set D (.list (ms.map .int))):=HLe.new hD
  have x1:=x.le hle1
  refine aDx x1.inst x1.attrs (by kernel_rfl!) (by kernel_rfl!) ?_
  rw [aVz]
  have x2:=x.turn_marks hD ms
  have b2:HBut F.all H ((H.set D (.list (ms.map .int))).set F.dx (.attrs (aBf { F with lm:=D } S.failed S.clash))):=hle1.but.set (aJq F)
  generalize ((H.set D (.list (ms.map .int))).set F.dx (.attrs (aBf { F with lm:=D } S.failed S.clash)))=H2 at x2 b2 ⊢
  refine whi (bIz H F S m ms D) (S.trail.length - m) (fun _ k=>k (Nat.le_of_eq (Nat.sub_add_cancel hmt)) ?_ b2 _) ?_
  · rw [show m+(S.trail.length - m)=S.trail.length from om138 hmt,List.take_length,List.drop_length]
    exact x2
  · intro k L H3 hJ; apply hJ; intro hk x3 b3 a
    have hdl3:=aZz (S.trail.drop (m+k)) S.doms
    have htk:(S.trail.take (m+k)).length=m+k:=by simp; exact om137 hk
    refine aBr (F:={ F with lm:=D }) x3 (aAf (.own x3.trail) (by rw [List.length_map,htk]; exact eqLt (Nat.add_comm _ _) (Nat.lt_of_le_of_lt hk (ltL ht rfl))) ?_)
    rw [List.length_map]
    dsimp only
    rw [htk]
    refine tb (fun hc=>?_) (fun hc=>?_)
    · have hc':0 < k:=by have:=of_decide_eq_true hc; exact om136 this
      obtain ⟨e,ee⟩:∃ e,S.trail[m+(k - 1)]?=some e:=⟨_,List.getElem?_eq_getElem (om134 hk hc')⟩
      have et:S.trail.take (m+k)=S.trail.take (m+(k - 1)) ++ [e]:=by
        rw [show m+k=(m+(k - 1))+1 from om135 hc',List.take_add_one,ee]; rfl
      have ed:undo (S.trail.drop (m+(k - 1))) S.doms=(undo (S.trail.drop (m+k)) S.doms).set e.x.toNat e.old:=by
        have hlt:m+(k - 1) < S.trail.length:=om134 hk hc'
        rw [List.drop_eq_getElem_cons hlt,(List.getElem?_eq_some_iff.mp ee).2,show m+(k - 1)+1=m+k from om133 hc']
        rfl
      have he:=hx e (List.mem_of_getElem? ee)
      have htr:=x3.trail
      dsimp only at htr
      rw [et,List.map_append] at htr
      refine aBr (F:={ F with lm:=D }) x3 (bEb htr (bEj htr (by simp; exact om132 ht) ?_))
      have x4:=x3.set_trail (S.trail.take (m+(k - 1)))
      refine aAp (k:=1) rfl rfl (aEb (F:={ F with lm:=D }) x4 (aAp (k:=0) rfl rfl (aBt x4.doms he.1 (by rw [List.length_map]; dsimp only; exact om131 hdl3 he.2) (by rw [List.length_map]; dsimp only; exact om130 hdl hdl3) ?_)))
      rw [← List.map_set]
      dsimp only
      have x5:=x4.set_doms ((undo (S.trail.drop (m+k)) S.doms).set e.x.toNat e.old)
      rw [← ed] at x5
      exact ⟨k - 1,om129 hc',fun _ k=>k (om128 hk) (by rw [← ed]; exact x5) ((b3.set (bEr F)).set (aZa F)) _⟩
    · obtain rfl:k=0:=by have:=of_decide_eq_false hc; exact om127 this
      rw [Nat.add_zero] at x3
      intro E hE
      have x4:=x3.turn_news hE
      have x3':=x3.le (HLe.new (o:=.idict []) hE)
      refine aDx x3'.inst x3'.attrs (by kernel_rfl!) (by kernel_rfl!) ?_
      rw [bAt]
      have hEH:H E=none:=b3.fresh hE
      refine aIe (F:={ F with lm:=D,ln:=E }) x4 (aOd (l:=S.firsts.map fun d=>d.map aAo) (.own (x4.firsts.trans (by rw [List.map_map]; rfl))) (fun y hy=>?_) ?_)
      · refine aCm hy fun d hd=>?_
        have:=hf d hd
        simpa using this
      refine aDx x4.inst x4.attrs (by kernel_rfl!) (by kernel_rfl!) ?_
      rw [aJe]
      have x5:=x4.set_attrs false S.clash
      refine aDx x5.inst x5.attrs (by kernel_rfl!) (by kernel_rfl!) ?_
      rw [show AV.tup []=aBg [] from rfl,aMm]
      refine h _ { F with lm:=D,ln:=E } (x5.set_attrs false []) ((((b3.setn hE).set (aJq F)).set (aJq F)).set (aJq F)) rfl fun a ha=>?_
      simp only [SA.all,List.mem_cons,List.not_mem_nil,or_false] at ha ⊢
      rcases ha with rfl | rfl | rfl | rfl | rfl | rfl | rfl
      · simp
      · simp
      · simp
      · simp
      · simp
      · exact .inr hD
      · exact .inr hEH
end
end
section
structure Mk (Hb H:AHeap) (l:List (Addr × AObj)):Prop where
  nd:(l.map (·.1)).Nodup
  all:AllO H l
  le:HLe Hb H
  fr:∀ a∈l.map (·.1),Hb a=none
theorem Mk.start {Hb:AHeap} {C x dx:Addr} (hx:Hb x=none) (hd:Hb dx=none) (hne:x≠dx):Mk Hb ((Hb.set dx (.attrs [])).set x (.inst C dx)) [(x,.inst C dx),(dx,.attrs [])] where
  nd:=List.nodup_cons.mpr ⟨fun m=>hne (List.mem_singleton.mp m),List.nodup_cons.mpr ⟨(nomatch ·),List.nodup_nil⟩⟩
  all:=⟨AHeap.set_same,(AHeap.set_ne (Ne.symm hne)).trans AHeap.set_same,trivial⟩
  le:=(HLe.new hd).set ((AHeap.set_ne hne).trans hx)
  fr:=fun a m=>(List.mem_cons.mp m).elim (fun e=>by rw [e]; exact hx) fun m=>by rw [List.mem_singleton.mp m]; exact hd
theorem Mk.alloc {Hb H:AHeap} {l:List (Addr × AObj)} (m:Mk Hb H l) {D:Addr} {o:AObj} (hD:H D=none):Mk Hb (H.set D o) ((D,o) :: l) where
  nd:=List.nodup_cons.mpr ⟨m.all.fresh hD,m.nd⟩
  all:=⟨AHeap.set_same,m.all.out (m.all.fresh hD)⟩
  le:=m.le.set hD
  fr:=fun a h=>(List.mem_cons.mp h).elim (fun e=>by rw [e]; exact m.le.fresh hD) fun h=>m.fr a h
theorem aHb {l:List (Addr × AObj)} {i:Nat} {a:Addr} {o o0:AObj} (h:l[i]?=some (a,o0)):(l.set i (a,o)).map (·.1)=l.map (·.1):=by
  induction l generalizing i with
  | nil=>rfl
  | cons p l ih =>
    cases i with
    | zero=>simp at h; subst h; rfl
    | succ i=>simp at h; simp [ih h]
theorem Mk.turn {Hb H:AHeap} {l:List (Addr × AObj)} (m:Mk Hb H l) {i:Nat} {a:Addr} {o o0:AObj} (h:l[i]?=some (a,o0)):Mk Hb (H.set a o) (l.set i (a,o)) where
  nd:=by rw [aHb h]; exact m.nd
  all:=m.all.set m.nd h
  le:=aAd m.le (m.fr a (List.mem_map.mpr ⟨_,List.mem_of_getElem? h,rfl⟩))
  fr:=by rw [aHb h]; exact m.fr
section
variable {G:Cx} {n:Nat} {H:AHeap} {Q:AV→AHeap→Prop}
theorem se_mk {Hb:AHeap} {l:List (Addr × AObj)} {i j:Nat} {x dx C:Addr} {at':List (Str × AV)} {name:Str} {v:AV} {Q:AHeap→Prop} (m:Mk Hb H l) (h1:l[i]?=some (x,.inst C dx)) (h2:l[j]?=some (dx,.attrs at')) (hz:Nat.ble at'.length 900=true) (hb:seB G.w C name=true)
    (h:Mk Hb (H.set dx (.attrs (putA at' name v))) (l.set j (dx,.attrs (putA at' name v)))→Q (H.set dx (.attrs (putA at' name v)))):SetA G n (.val (.ref x)) name v H Q :=
  aDx (m.all.get h1) (m.all.get h2) hz hb (h (m.turn h2))
theorem perm7 {x dx a b c d e:Addr}:List.Perm [e,d,c,b,a,x,dx] ([x,dx] ++ [a,b,c,d,e]):=((List.reverse_perm [a,b,c,d,e]).append_right [x,dx]).trans List.perm_append_comm
theorem bHo (h:∀ H' F,StoreAt H' F ⟨[],[],[],[],false,[]⟩→HLe H H'→(∀ a∈F.all,H a=none)→Q (.val (.ref F.st)) H'):CW G (n+2) (.ref 265) [] H Q:=by
  refine aYg (fI:=129) (by kernel_rfl!) (by kernel_rfl!) (by kernel_rfl!) fun x dx hx hdx hne=>aTx fun D1 h1=>?_
  refine se_mk (i:=1) (j:=2) ((Mk.start (C:=265) hx hdx hne).alloc h1) rfl rfl (by kernel_rfl!) (by kernel_rfl!) fun m=>fun D2 h2=>?_
  refine se_mk (i:=2) (j:=3) (m.alloc h2) rfl rfl (by kernel_rfl!) (by kernel_rfl!) fun m=>fun D3 h3=>?_
  refine se_mk (i:=3) (j:=4) (m.alloc h3) rfl rfl (by kernel_rfl!) (by kernel_rfl!) fun m=>fun D4 h4=>?_
  refine se_mk (i:=4) (j:=5) (m.alloc h4) rfl rfl (by kernel_rfl!) (by kernel_rfl!) fun m=>fun D5 h5=>?_
  refine se_mk (i:=5) (j:=6) (m.alloc h5) rfl rfl (by kernel_rfl!) (by kernel_rfl!) fun m=>?_
  refine se_mk (i:=5) (j:=6) m rfl rfl (by kernel_rfl!) (by kernel_rfl!) fun m=>?_
  refine se_mk (i:=5) (j:=6) m rfl rfl (by kernel_rfl!) (by kernel_rfl!) fun m=>?_
  refine se_mk (i:=5) (j:=6) m rfl rfl (by kernel_rfl!) (by kernel_rfl!) fun m=>?_
  have ea:putA (putA (putA (putA (putA (putA (putA (putA [] "domains" (.val (.ref D1))) "firsts" (.val (.ref D2))) "trail" (.val (.ref D3))) "marks" (.val (.ref D4))) "news" (.val (.ref D5))) "speaker" (.int (-1))) "is_failed" (.val (.bool false))) "clash" (.tup [])=aBf ⟨x,dx,D1,D2,D3,D4,D5⟩ false []:=by kernel_rfl!
  rw [ea] at m ⊢
  have nd:[D5,D4,D3,D2,D1,x,dx].Nodup:=m.nd
  refine ⟨rfl,h _ ⟨x,dx,D1,D2,D3,D4,D5⟩ ⟨?_,[],⟨.nil,fun _ m=>nomatch m⟩,m.all.2.2.2.2.2.1,m.all.2.2.2.2.2.2.1,m.all.2.2.2.2.1,m.all.2.2.2.1,m.all.2.2.1,m.all.2.1,m.all.1,trivial⟩ m.le fun a ha=>m.fr a ?_⟩
  · exact perm7.nodup_iff.mp nd
  · exact perm7.mem_iff.mpr ha
end
structure Mach where
  many:Nat
  states:Nat
  letters:Nat
  rows:List (List Nat)
  start:Nat
  finals:List Nat
structure MOk (M:Mach):Prop where
  m1:1≤M.many
  m2:M.many≤3
  s1:1≤M.states
  s2:M.states≤3
  l1:1≤M.letters
  l2:M.letters≤3
  rl:M.rows.length=M.states
  rw:∀ r∈M.rows,r.length=M.letters∧∀ k∈r,k≤M.states
  t1:1≤M.start
  t2:M.start≤M.states
  fl:M.finals.length≤3
  ff:∀ s∈M.finals,1≤s∧s≤M.states
noncomputable def natAV (k:Nat):AV:=.int (k:Nat)
noncomputable def aAc (l:List Nat):AV:=.tup (l.map natAV)
noncomputable def aCi (r:List (List Nat)):AV:=.tup (r.map aAc)
structure RA where
  rg:Addr
  dx:Addr
noncomputable def bKd (M:Mach) (tw:Bool):List (Str × AV):=[("number",.int (-1)),("scope",aAc (List.range M.many)),("strength",.str "values"),("states",natAV M.states),("letters",natAV M.letters),("rows",aCi M.rows),("start",natAV M.start),("finals",aAc M.finals),("has_twins",.val (.bool tw))]
structure RegAt (H:AHeap) (R:RA) (M:Mach):Prop where
  inst:H R.rg=some (.inst 406 R.dx)
  attrs:H R.dx=some (.attrs (bKd M false))
theorem RegAt.le {H H':AHeap} {R:RA} {M:Mach} (x:RegAt H R M) (h:HLe H H'):RegAt H' R M:=⟨h _ _ x.inst,h _ _ x.attrs⟩
theorem RegAt.but {H H':AHeap} {R:RA} {M:Mach} {ds:List Addr} (x:RegAt H R M) (h:HBut ds H H') (h1:R.rg∉ds) (h2:R.dx∉ds):RegAt H' R M:=⟨h.1 _ _ h1 x.inst,h.1 _ _ h2 x.attrs⟩
noncomputable def mv (M:Mach) (s a:Nat):Nat:=((M.rows.getD (s - 1) []).getD (a - 1) 0)
theorem MOk.row {M:Mach} (ok:MOk M) {s:Nat} (h1:1≤s) (h2:s≤M.states):∃ r,M.rows[s - 1]?=some r∧r.length=M.letters∧∀ k∈r,k≤M.states:=by
  have hlt:s - 1 < M.rows.length:=by rw [ok.rl]; exact om153 h1 h2
  exact ⟨_,List.getElem?_eq_getElem hlt,ok.rw _ (List.getElem_mem hlt)⟩
theorem MOk.cell {M:Mach} (ok:MOk M) {s a:Nat} {r:List Nat} (hr:M.rows[s - 1]?=some r) (hl:r.length=M.letters) (h1:1≤a) (h2:a≤M.letters):r[a - 1]?=some (mv M s a):=by
  have hlt:a - 1 < r.length:=om152 hl h1 h2
  simp only [mv,List.getD_eq_getElem?_getD,hr,Option.getD_some,List.getElem?_eq_getElem hlt]
theorem MOk.mv_le {M:Mach} (ok:MOk M) {s a:Nat} (h1:1≤s) (h2:s≤M.states) (h3:1≤a) (h4:a≤M.letters):mv M s a≤M.states:=by
  obtain ⟨r,e,l,hk⟩:=ok.row h1 h2
  exact hk _ (List.mem_of_getElem? (ok.cell e l h3 h4))
noncomputable def goF (M:Mach):List Int→Nat→Bool
  | [],s=>decide (s∈M.finals)
  | a :: w,s=>if s=0∨¬ (1≤a∧a≤M.letters) then false else goF M w (mv M s a.toNat)
section
variable {G:Cx} {n:Nat} {H:AHeap} {Q:AV→AHeap→Prop} {R:RA} {M:Mach}
theorem aFc (x:RegAt H R M) (h:Q (aAc (List.range M.many)) H):AtL G "scope" (.val (.ref R.rg)) H Q:=aAn x.inst x.attrs (by kernel_rfl!) rfl (by kernel_rfl!) h
theorem aQj (x:RegAt H R M) (h:Q (.str "values") H):AtL G "strength" (.val (.ref R.rg)) H Q:=aAn x.inst x.attrs (by kernel_rfl!) rfl (by kernel_rfl!) h
theorem aBd (x:RegAt H R M) (h:Q (natAV M.states) H):AtL G "states" (.val (.ref R.rg)) H Q:=aAn x.inst x.attrs (by kernel_rfl!) rfl (by kernel_rfl!) h
theorem aCq (x:RegAt H R M) (h:Q (natAV M.letters) H):AtL G "letters" (.val (.ref R.rg)) H Q:=aAn x.inst x.attrs (by kernel_rfl!) rfl (by kernel_rfl!) h
theorem aYz (x:RegAt H R M) (h:Q (aCi M.rows) H):AtL G "rows" (.val (.ref R.rg)) H Q:=aAn x.inst x.attrs (by kernel_rfl!) rfl (by kernel_rfl!) h
theorem aFb (x:RegAt H R M) (h:Q (natAV M.start) H):AtL G "start" (.val (.ref R.rg)) H Q:=aAn x.inst x.attrs (by kernel_rfl!) rfl (by kernel_rfl!) h
theorem aIf (x:RegAt H R M) (h:Q (aAc M.finals) H):AtL G "finals" (.val (.ref R.rg)) H Q:=aAn x.inst x.attrs (by kernel_rfl!) rfl (by kernel_rfl!) h
theorem bCq (x:RegAt H R M) (h:Q (.val (.bool false)) H):AtL G "has_twins" (.val (.ref R.rg)) H Q:=aAn x.inst x.attrs (by kernel_rfl!) rfl (by kernel_rfl!) h
theorem aId {s:Nat} {l:List Nat} (h:Q (.val (.bool (decide (s∈l)))) H):Bin G n (compareOp .In) (natAV s) (aAc l) H Q:=by
  have e:aAc l=.tup ((l.map fun k=>((k:Nat):Int)).map .int):=by rw [List.map_map]; rfl
  rw [e]
  refine aIc ?_
  have:((l.map fun k=>((k:Nat):Int)).any fun x=>x == (s:Int))=decide (s∈l):=by
    rw [Bool.eq_iff_iff]
    simp only [List.any_map,List.any_eq_true,decide_eq_true_eq,Function.comp,beq_iff_eq]
    constructor
    · rintro ⟨x,hx,e⟩
      have:x=s:=om76 e
      exact this ▸ hx
    · exact fun hx=>⟨s,hx,rfl⟩
  rw [this]; exact h
theorem bBd {l:List Nat} {i k:Nat} (h:l[i]?=some k):(l.map natAV)[i]?=some (natAV k):=by rw [List.getElem?_map,h]; rfl
theorem aRr (ok:MOk M) {s:Int} (h1:1≤s) (h2:s≤M.states) (h:∀ r,M.rows[s.toNat - 1]?=some r→r.length=M.letters→Q (aAc r) H):GetI G n (aCi M.rows) (.int (s - 1)) H Q:=by
  obtain ⟨r,er,lr,_⟩:=ok.row (s:=s.toNat) (om147 h1) (om146 h2)
  refine aBq (v:=aAc r) (om150 h1) ?_ (by have:=ok.rl; have:=ok.s2; rw [List.length_map]; exact om151 (by assumption) this) (h r er lr)
  rw [show (s - 1).toNat=s.toNat - 1 from om149,List.getElem?_map,er]; rfl
theorem aXh (ok:MOk M) {s:Nat} {a:Int} {r:List Nat} (er:M.rows[s - 1]?=some r) (lr:r.length=M.letters) (h1:1≤a) (h2:a≤M.letters) (h:Q (natAV (mv M s a.toNat)) H):GetI G n (aAc r) (.int (a - 1)) H Q:=by
  refine aBq (v:=natAV (mv M s a.toNat)) (om150 h1) ?_ (by have:=ok.l2; rw [List.length_map]; exact eqLe lr (leL this rfl)) h
  rw [show (a - 1).toNat=a.toNat - 1 from om149]
  exact bBd (ok.cell er lr (om147 h1) (om146 h2))
theorem bEg (ok:MOk M) (x:RegAt H R M) {s a:Int} (h1:1≤s) (h2:s≤M.states) (h3:1≤a) (h4:a≤M.letters) (h:Q (natAV (mv M s.toNat a.toNat)) H) :
    AtL G "rows" (.val (.ref R.rg)) H fun v H1=>GetI G n v (.int (s - 1)) H1 fun v H2=>GetI G n v (.int (a - 1)) H2 Q :=
  aYz x (aRr ok h1 h2 fun r er lr=>aXh ok er lr h3 h4 h)
theorem aFk (ok:MOk M) (x:RegAt H R M) {s a:Nat} (h1:1≤s∧s≤M.states) (h3:1≤a) (h4:a≤M.letters) (h:Q (natAV (mv M s a)) H) :
    AtL G "rows" (.val (.ref R.rg)) H fun v H1=>GetI G n v (.int ((s:Nat) - 1)) H1 fun v H2=>GetI G n v (.int ((a:Nat) - 1)) H2 Q:=bEg ok x (natI h1.1) (natI h1.2) (natI h3) (natI h4) h
noncomputable def bIy (H:AHeap) (R:RA) (M:Mach) (o:AV) (w:List Int) (i:Nat) (L':LS) (H':AHeap):Prop:=∀ P:LS→AHeap→Prop,(∀ (s:Nat) (a:Option AV) (e1:s≤M.states) (e4:goF M w M.start=goF M (w.drop i) s),P [some (.val (.ref R.rg)),some o,some (natAV s),a] H)→P L' H'
theorem bHp (ok:MOk M) (x:RegAt H R M) {o:AV} {w:List Int} (he:IsL H o (w.map .int)) (hu:usr o (w.map .int) H) (h:Q (.val (.bool (goF M w M.start))) H):CW G (n+1) (.ref 341) [.val (.ref R.rg),o] H Q:=by
  refine aPp (aFb x (aBi he (fvi (bIy H R M o w) (fun _ k=>k M.start _ ok.t2 rfl) ?_ ?_)))
  · intro i v L H1 hv hJ; apply hJ; intro s a hs hg
    refine ⟨hu,?_⟩
    refine aAu hv fun b eb=>?_
    have hlt:=(List.getElem?_eq_some_iff.mp eb).1
    rw [List.drop_eq_getElem_cons hlt,(List.getElem?_eq_some_iff.mp eb).2,goF] at hg
    have bad:(s=0∨¬ (1≤b∧b≤M.letters))→Q (.val (.bool false)) H:=fun hb=>by
      rw [hg,if_pos hb] at h; exact h
    refine tb (fun hs0=>?_) (fun hs0=>?_)
    · have hs1:s=0:=by have:(s:Int)=0:=of_decide_eq_true (by simpa using hs0); exact om145 this
      exact bad (.inl hs1)
    · have hs1:s≠0:=fun z=>by subst z; exact absurd hs0 (by decide)
      refine tb (fun h1=>aCq x ?_) (fun h1=>bad (.inr fun z=>absurd z.1 (of_decide_eq_false h1)))
      have h1':=of_decide_eq_true h1
      by_cases h2:b≤M.letters
      · show cond (!decide (b≤(M.letters:Int))) _ _
        rw [decide_eq_true h2]
        refine bEg ok x (natI (posN hs1)) (natI hs) h1' h2 (fun _ k=>k _ _ (ok.mv_le (om148 hs1) (eqLe (Int.toNat_natCast _) hs) (om147 h1') (om146 h2)) ?_)
        rw [hg,if_neg (fun z=>z.elim hs1 fun z=>z ⟨h1',h2⟩)]; rfl
      · show cond (!decide (b≤(M.letters:Int))) _ _
        rw [decide_eq_false h2]
        exact bad (.inr fun z=>h2 z.2)
  · intro L H1 hJ; apply hJ; intro s a hs hg
    rw [List.length_map,List.drop_length] at hg
    refine ⟨hu,aIf x (aId ?_)⟩
    rw [hg] at h; exact h
theorem bLd (x:RegAt H R M) (h:Q (.tup [.str "regular",aAc (List.range M.many),natAV M.states,natAV M.letters,aCi M.rows,natAV M.start,aAc M.finals]) H):CW G (n+1) (.ref 334) [.val (.ref R.rg)] H Q :=
  aTz (aFc x (aBd x (aCq x (aYz x (aFb x (aIf x h))))))
end
end
section
variable {us:AHeap→Prop} {L:LS} {H:AHeap} {tg:AV→LS→AHeap→(LS→AHeap→Prop)→Prop} {a:Int} {k:Nat}
theorem bDz {i:Nat} {v:AV} (h:(rngL a 1 k)[i]?=some v):i < k∧v=.int (a+i):=by
  simp only [rngL,List.getElem?_map,Option.map_eq_some_iff] at h
  obtain ⟨j,e,rfl⟩:=h
  obtain ⟨hlt,ej⟩:=List.getElem?_eq_some_iff.mp e
  simp at hlt ej
  subst ej
  exact ⟨hlt,by rw [Int.mul_one]⟩
theorem aVx:(rngL a 1 k).length=k:=by simp [rngL]
theorem fvr {body:LS→AHeap→(AFl→LS→AHeap→Prop)→Prop} {Q:AFl→LS→AHeap→Prop} (J:Nat→LS→AHeap→Prop) (h0:J 0 L H) (step:∀ (i:Nat) L H,i < k→J i L H→tg (.int (a+i)) L H fun L1 H1=>body L1 H1 (FlQ (J (i+1)) Q))
    (fin:∀ L H,J k L H→Q .next L H):FV tg body (fun _=>True) Q (rngL a 1 k) L H :=
  fvi J h0 (fun i v L H hv j=>by obtain ⟨h,rfl⟩:=bDz hv; exact ⟨trivial,step i L H h j⟩) fun L H j=>⟨trivial,fin L H (by rw [aVx] at j; exact j)⟩
theorem cvr {f:LS→AHeap→(Bool→AHeap→Prop)→Prop} {el:LS→AHeap→(AV→AHeap→Prop)→Prop} {K:List AV→LS→AHeap→Prop} {acc:List AV} (J:Nat→List AV→LS→AHeap→Prop) (h0:J 0 acc L H)
    (step:∀ (i:Nat) acc L H,i < k→J i acc L H→tg (.int (a+i)) L H fun L1 H1=>f L1 H1 fun b H2=>cond b (acc.length < 1000000∧el L1 H2 fun y H3=>J (i+1) (acc ++ [y]) L1 H3) (J (i+1) acc L1 H2))
    (fin:∀ acc L H,J k acc L H→K acc L H):CVq tg f el (fun _=>True) K (rngL a 1 k) acc L H :=
  cvi J h0 (fun i v acc L H hv j=>by obtain ⟨h,rfl⟩:=bDz hv; exact ⟨trivial,step i acc L H h j⟩) fun acc L H j=>⟨trivial,fin acc L H (by rw [aVx] at j; exact j)⟩
theorem fvr1 {k:Nat} {tg:AV→LS→AHeap→(LS→AHeap→Prop)→Prop} {L:LS} {H:AHeap} {body:LS→AHeap→(AFl→LS→AHeap→Prop)→Prop} {Q:AFl→LS→AHeap→Prop} (J:Nat→LS→AHeap→Prop) (h0:J 0 L H) (step:∀ (i:Nat) L H,i < k→J i L H→tg (.int ((i+1:Nat):Int)) L H fun L1 H1=>body L1 H1 (FlQ (J (i+1)) Q))
    (fin:∀ L H,J k L H→Q .next L H):FV tg body (fun _=>True) Q (rngL 1 1 k) L H:=fvr J h0 (fun i L H hi j=>by rw [om190]; exact step i L H hi j) fin
theorem fvr0 {k:Nat} {tg:AV→LS→AHeap→(LS→AHeap→Prop)→Prop} {L:LS} {H:AHeap} {body:LS→AHeap→(AFl→LS→AHeap→Prop)→Prop} {Q:AFl→LS→AHeap→Prop} (J:Nat→LS→AHeap→Prop) (h0:J 0 L H) (step:∀ (i:Nat) L H,i < k→J i L H→tg (.int (i:Nat)) L H fun L1 H1=>body L1 H1 (FlQ (J (i+1)) Q))
    (fin:∀ L H,J k L H→Q .next L H):FV tg body (fun _=>True) Q (rngL 0 1 k) L H:=fvr J h0 (fun i L H hi j=>by rw [om242]; exact step i L H hi j) fin
theorem cvr0 {k:Nat} {tg:AV→LS→AHeap→(LS→AHeap→Prop)→Prop} {L:LS} {H:AHeap} {f:LS→AHeap→(Bool→AHeap→Prop)→Prop} {el:LS→AHeap→(AV→AHeap→Prop)→Prop} {K:List AV→LS→AHeap→Prop} {acc:List AV} (J:Nat→List AV→LS→AHeap→Prop) (h0:J 0 acc L H)
    (step:∀ (i:Nat) acc L H,i < k→J i acc L H→tg (.int (i:Nat)) L H fun L1 H1=>f L1 H1 fun b H2=>cond b (acc.length < 1000000∧el L1 H2 fun y H3=>J (i+1) (acc ++ [y]) L1 H3) (J (i+1) acc L1 H2))
    (fin:∀ acc L H,J k acc L H→K acc L H):CVq tg f el (fun _=>True) K (rngL 0 1 k) acc L H:=cvr J h0 (fun i acc L H hi j=>by rw [om242]; exact step i acc L H hi j) fin
end
section
variable {G:Cx} {n:Nat} {H:AHeap}
theorem rng2 {a b:Int} {Q:List AV→(AHeap→Prop)→AHeap→Prop} (h0:-1000≤a∧a≤1000∧-1000≤b∧b≤1000) (h:Q (rngL a 1 (b - a).toNat) (fun _=>True) H):CW G n (.type "range") [.int a,.int b] H fun v H1=>IterU G n v H1 Q :=
  aNk (aMt (aEg h0.1 h0.2.1 h0.2.2.1 h0.2.2.2) aGw h)
theorem rng1 {b:Int} {Q:List AV→(AHeap→Prop)→AHeap→Prop} (h0:0≤b∧b≤1000) (h:Q (rngL 0 1 b.toNat) (fun _=>True) H):CW G n (.type "range") [.int b] H fun v H1=>IterU G n v H1 Q :=
  aHs (aMt (k:=b.toNat) (aEg (by decide) (by decide) (om167 h0.1) h0.2) (by rw [aGw,Int.sub_zero]) h)
theorem rngk {k:Nat} {Q:List AV→(AHeap→Prop)→AHeap→Prop} (h0:k≤1000) (h:Q (rngL 0 1 k) (fun _=>True) H):CW G n (.type "range") [.int (k:Nat)] H fun v H1=>IterU G n v H1 Q:=rng1 ⟨Int.natCast_nonneg _,natI h0⟩ h
theorem aHu {o:AV} {l:List AV} {k:Nat} {Q:AV→AHeap→Prop} (he:IsL H o l) (e:l.length=k) (hk:k≤1000000) (h:Q (.int (k:Nat)) H):CW G n (.builtin "len") [o] H Q:=aAf he (by rw [e]; exact ltL hk rfl) (by rw [e]; exact h)
theorem aYq {F:SA} {S:SSt} {k:Nat} {Q:AV→AHeap→Prop} (x:StoreAt H F S) (e:S.doms.length=k) (hk:k≤100) (h:Q (.int (k:Nat)) H):CW G (n+1) (.ref 143) [.val (.ref F.st)] H Q:=bLe x (by rw [e]; exact hk) (by rw [e]; exact h)
variable {Q:AV→AHeap→Prop} {R:RA} {M:Mach}
noncomputable def layAV (M:Mach) (f:Nat→Bool):List AV:=(List.range (M.states+1)).map fun s=>.val (.bool (f s))
noncomputable def layV (M:Mach) (f:Nat→Bool):AV:=.lst (layAV M f)
noncomputable def laysV (M:Mach) (fs:List (Nat→Bool)):AV:=.lst (fs.map (layV M))
noncomputable def kV (k:List Nat):AV:=.lst (k.map natAV)
noncomputable def keptV (ks:List (List Nat)):AV:=.lst (ks.map kV)
noncomputable def nextR (M:Mach) (f:Nat→Bool) (letters:List Nat):Nat→Bool:=fun t=>t != 0 && (List.range M.states).any fun s=>f (s+1) && letters.any fun a=>mv M (s+1) a == t
noncomputable def prevA (M:Mach) (f:Nat→Bool) (letters:List Nat):Nat→Bool:=fun s=>s != 0 && letters.any fun a=>f (mv M s a)
noncomputable def aAs (M:Mach):(Nat→Bool)→List (List Nat)→List (Nat→Bool)
  | f,[]=>[f]
  | f,k :: ks=>f :: aAs M (nextR M f k) ks
noncomputable def aAr (M:Mach) (f:Nat→Bool):List (List Nat)→List (Nat→Bool)
  | []=>[f]
  | k :: ks=>prevA M ((aAr M f ks).headD f) k :: aAr M f ks
theorem aBc (M:Mach) (f:Nat→Bool):(layAV M f).length=M.states+1:=by simp [layAV]
theorem aWp (M:Mach) (f:Nat→Bool) {s:Nat} (h:s≤M.states):(layAV M f)[s]?=some (.val (.bool (f s))):=by
  have:s < M.states+1:=Nat.lt_of_le_of_lt h (Nat.lt_succ_self _)
  simp [layAV,this]
theorem aBw {M:Mach} {f g:Nat→Bool} (h:∀ s,s≤M.states→f s=g s):layAV M f=layAV M g:=by
  simp only [layAV]
  apply List.map_congr_left
  intro s hs
  rw [h s (by have:=List.mem_range.mp hs; exact Nat.le_of_lt_succ this)]
theorem aEr (M:Mach) (f g:Nat→Bool) {t:Nat} {b:Bool} (h:∀ s,s≤M.states→(if s=t then b else f s)=g s):(layAV M f).set t (.val (.bool b))=layAV M g:=by
  rw [← aBw h]
  apply List.ext_getElem?
  intro i
  rw [List.getElem?_set]
  simp only [layAV,List.length_map,List.length_range,List.getElem?_map]
  by_cases hi:i < M.states+1
  · rw [List.getElem?_range hi]
    by_cases h:t=i
    · subst h; simp [hi]
    · simp [h,Ne.symm h,show ¬ i=t from fun z=>h z.symm]
  · rw [List.getElem?_eq_none (by simp; exact Nat.le_of_not_lt hi)]
    by_cases h:t=i
    · subst h; simp [hi]
    · simp [h]
theorem aWo (M:Mach):List.replicate (M.states+1) (AV.bool false)=layAV M fun _=>false:=by
  apply List.ext_getElem?
  intro i
  simp only [layAV,List.getElem?_map,List.getElem?_replicate]
  by_cases h:i < M.states+1
  · simp [h]
  · simp [h]
noncomputable def KOk (M:Mach) (l:List Nat):Prop:=l.length≤10∧∀ a∈l,1≤a∧a≤M.letters
theorem aXi (ok:MOk M) {f:Nat→Bool} {s:Int} (h0:0≤s) (h1:s.toNat≤M.states) (h:Q (.val (.bool (f s.toNat))) H):GetI G n (layV M f) (.int s) H Q :=
  aAq .frz h0 (aWp M f h1) (by have:=ok.s2; rw [aBc]; exact Nat.lt_succ_of_le (Nat.succ_le_succ (leL this rfl))) h
theorem aRs {fs:List (Nat→Bool)} {f:Nat→Bool} {p:Int} (hp:0≤p) (hf:fs[p.toNat]?=some f) (hl:fs.length≤10) (h:Q (layV M f) H):GetI G n (laysV M fs) (.int p) H Q :=
  aAq .frz hp (by rw [List.getElem?_map,hf]; rfl) (by rw [List.length_map]; exact ltL hl rfl) h
theorem rng13 {a:Nat} (h:a≤3):-1000≤(1:Int)∧(1:Int)≤1000∧-1000≤(a:Int)+1∧(a:Int)+1≤1000:=⟨by decide,by decide,Int.le_trans (by decide) (natI (Nat.zero_le (a+1))),Int.le_trans (natI (Nat.add_le_add_right h 1)) (by decide)⟩
theorem sub1 (k:Nat):((k:Int)+1 - 1).toNat=k:=om165
theorem rngS {k:Nat} {Q:List AV→(AHeap→Prop)→AHeap→Prop} (h0:k≤3) (h:Q (rngL 1 1 k) (fun _=>True) H):CW G n (.type "range") [.int 1,.int ((k:Nat)+1)] H fun v H1=>IterU G n v H1 Q:=rng2 (rng13 h0) (by rw [sub1]; exact h)
theorem aCu (ok:MOk M) {f:Nat→Bool} {s:Nat} (h1:s≤M.states) (h:Q (.val (.bool (f s))) H):GetI G n (layV M f) (.int (s:Nat)) H Q:=aXi ok (Int.natCast_nonneg _) h1 h
theorem aDf {fs:List (Nat→Bool)} {f:Nat→Bool} {p:Nat} (hf:fs[p]?=some f) (hl:fs.length≤10) (h:Q (layV M f) H):GetI G n (laysV M fs) (.int (p:Nat)) H Q:=aRs (Int.natCast_nonneg _) hf hl h
theorem aLt (p:Nat→Bool) (i:Nat):(List.range (i+1)).any p=((List.range i).any p || p i):=by rw [List.range_succ,List.any_append]; simp
noncomputable def bIx (H:AHeap) (R:RA) (M:Mach) (rs:List (Nat→Bool)) (ls:List (Nat→Bool)) (f:Nat→Bool) (g:Nat→Bool) (p:Nat) (a:Nat) (i:Nat) (L':LS) (H':AHeap):Prop:=∀ P:LS→AHeap→Prop,(∀ (z:Option AV) (e3:((List.range i).any fun s=>f (s+1) && g (mv M (s+1) a))=false),P [some (.val (.ref R.rg)),some (laysV M rs),some (laysV M ls),some (natAV p),some (natAV a),z] H)→P L' H'
theorem aLq (ok:MOk M) (x:RegAt H R M) {rs ls:List (Nat→Bool)} {f g:Nat→Bool} {p a:Nat} (hf:rs[p]?=some f) (hg:ls[p+1]?=some g) (hrl:rs.length≤10) (hll:ls.length≤10) (h1:1≤a) (h2:a≤M.letters)
    (h:Q (.val (.bool ((List.range M.states).any fun s=>f (s+1) && g (mv M (s+1) a)))) H):CW G (n+1) (.ref 384) [.val (.ref R.rg),laysV M rs,laysV M ls,natAV p,natAV a] H Q:=by
  refine aFi (aBd x (rngS ok.s2 (fvr1 (bIx H R M rs ls f g p a) (fun _ κ=>κ _ rfl) ?_ ?_)))
  · intro i L H1 hi hJ; apply hJ; intro z hn
    have nxt:(f (i+1) && g (mv M (i+1) a))=false→((List.range (i+1)).any fun s=>f (s+1) && g (mv M (s+1) a))=false:=fun hz=>by rw [aLt,hn,hz]; rfl
    refine aDf hf hrl (aCu ok (Nat.succ_le_of_lt hi) ?_)
    refine tb (fun hq=>aDf (p:=p+1) hg hll (aFk ok x (s:=i+1) ⟨Nat.le_add_left _ _,Nat.succ_le_of_lt hi⟩ h1 h2 (aCu ok (ok.mv_le (Nat.le_add_left _ _) (Nat.succ_le_of_lt hi) h1 h2) ?_))) (fun hq=>fun _ κ=>κ _ (nxt (by rw [hq]; rfl)))
    refine tb (fun hq2=>?_) (fun hq2=>fun _ κ=>κ _ (nxt (by rw [hq2,Bool.and_false])))
    have e:((List.range M.states).any fun s=>f (s+1) && g (mv M (s+1) a))=true:=List.any_eq_true.mpr ⟨i,List.mem_range.mpr hi,by rw [hq,hq2]; rfl⟩
    rw [e] at h; exact h
  · intro L H1 hJ; apply hJ; intro z hn
    rw [hn] at h; exact h
theorem blank (ok:MOk M) (x:RegAt H R M) {K:AV→AHeap→Prop} (h:∀ H' E,HLe H H'→H E=none→H' E=some (.list (layAV M fun _=>false))→K (.val (.ref E)) H'):∀ D,H D=none→AtL G "states" (.val (.ref R.rg)) (H.set D (.list [.val (.bool false)])) fun v H2=>BinQ G n .Add v (.int 1) H2 fun y H3=>BinQ G n .Mult (.val (.ref D)) y H3 K:=fun D hD=>by
  have hs:=ok.s2
  refine aBd (x.le (HLe.new hD)) (aOb AHeap.set_same om164 (om163 hs) fun E hE=>?_)
  rw [show ((M.states:Int)+1).toNat=M.states+1 from om159,aWo]
  exact h _ E ((HLe.new hD).set hE) ((HLe.new hD).fresh hE) AHeap.set_same
theorem HBut.setf {ds:List Addr} {H H':AHeap} {D:Addr} {o:AObj} (x:HBut ds H H') (h:H D=none):HBut ds H (H'.set D o):=⟨fun a o' n e=>by
  rw [AHeap.set_ne (fun z=>by rw [z,h] at e; cases e)]; exact x.1 a o' n e,fun a o' e=>let ⟨_,e'⟩:=x.2 a o' e; aDb a _ e'⟩
theorem aBv {E:Addr} {H H' H'':AHeap} (le:HLe H H') (hE:H E=none) (b:HBut [E] H' H''):HLe H H'':=fun a o e=>b.1 a o (fun m=>by rw [List.mem_singleton.mp m,hE] at e; cases e) (le a o e)
noncomputable def bIw (H:AHeap) (R:RA) (M:Mach) (i:Nat) (acc:List AV) (L':LS) (H':AHeap):Prop:=∀ P:LS→AHeap→Prop,(∀ (e2:acc=(List.range i).map (fun s=>.val (.bool (s == M.start)))) a b,P [a,b,some (.val (.ref R.rg))] H)→P L' H'
noncomputable def bIv (R:RA) (M:Mach) (ks:List (List Nat)) (H1:AHeap) (D:Addr) (i:Nat) (L':LS) (H':AHeap):Prop:=∀ P:LS→Prop,(∀ (e1:HLe H1 H') (pre:List (Nat→Bool)) (f:Nat→Bool) (a:Option AV) (b:Option AV) (c:Option AV) (d:Option AV) (e2:H' D=some (.list ((pre ++ [f]).map (layV M)))) (e3:pre ++ aAs M f (ks.drop i)=aAs M (fun s=>s == M.start) ks) (e4:pre.length=i),P [some (.val (.ref R.rg)),some (keptV ks),a,some (layV M f),some (.val (.ref D)),b,c,d])→P L'
noncomputable def bIu (R:RA) (M:Mach) (ks:List (List Nat)) (D:Addr) (H4:AHeap) (f:Nat→Bool) (k:List Nat) (E:Addr) (i:Nat) (L':LS) (H':AHeap):Prop:=∀ P:LS→Prop,(∀ (e1:HBut [E] H4 H') (e2:H' E=some (.list (layAV M fun t=>(List.range i).any fun s=>f (s+1) && k.any fun a=>mv M (s+1) a == t))) a b,P [some (.val (.ref R.rg)),some (keptV ks),a,some (layV M f),some (.val (.ref D)),some (kV k),some (.val (.ref E)),b])→P L'
noncomputable def bIt (R:RA) (M:Mach) (ks:List (List Nat)) (D:Addr) (H4:AHeap) (f:Nat→Bool) (k:List Nat) (E:Addr) (s:Nat) (j:Nat) (L':LS) (H':AHeap):Prop:=∀ P:LS→Prop,(∀ (e1:HBut [E] H4 H') (e2:H' E=some (.list (layAV M fun t=>((List.range s).any fun s=>f (s+1) && k.any fun a=>mv M (s+1) a == t) || (k.take j).any fun a=>mv M (s+1) a == t))) b,P [some (.val (.ref R.rg)),some (keptV ks),some (.int ((s+1:Nat):Int)),some (layV M f),some (.val (.ref D)),some (kV k),some (.val (.ref E)),b])→P L'
noncomputable def bIs (R:RA) (M:Mach) (ks:List (List Nat)) (D:Addr) (f:Nat→Bool) (k:List Nat) (E:Addr) (s:Nat) (H6:AHeap) (Z:Addr) (j:Nat) (L':LS) (H':AHeap):Prop:=∀ P:LS→AHeap→Prop,(∀ (e1:j=0) b,P [some (.val (.ref R.rg)),some (keptV ks),some (.int ((s+1:Nat):Int)),some (layV M f),some (.val (.ref D)),some (kV k),some (.val (.ref E)),b] (H6.set Z (.list [])))→P L' H'
theorem aNu (ok:MOk M) (x:RegAt H R M) {ks:List (List Nat)} (hks:∀ k∈ks,KOk M k) (hkl:ks.length≤10)
    (h:∀ H',HLe H H'→Q (laysV M (aAs M (fun s=>s == M.start) ks)) H'):CW G (n+1) (.ref 346) [.val (.ref R.rg),keptV ks] H Q:=by
  have hsl:=ok.s2
  refine aGk (aBd x (rng1 (om162 hsl) (cvr (bIw H R M) (fun _ κ=>κ rfl _ _) ?_ ?_)))
  · intro i acc L H1 hi hJ; apply hJ; rintro rfl a b
    refine ⟨by simp; exact om161 hsl hi,aFb x (fun _ κ=>κ ?_ _ _)⟩
    rw [List.range_succ,List.map_append]
    have e:decide ((0:Int)+(i:Int)=(M.start:Int))=(i == M.start):=by
      by_cases e:i=M.start
      · simp [e]
      · have:¬ (0:Int)+(i:Int)=(M.start:Int):=om160 e
        rw [decide_eq_false this]; simp [e]
    rw [e]; rfl
  · intro acc L H1 hJ; apply hJ; rintro rfl a b
    intro D0 hD0
    rw [show ((M.states:Int)+1).toNat=M.states+1 from om159]
    refine ⟨D0,_,rfl,AHeap.set_same,fun D hD=>?_⟩
    have l0:HLe H ((H.set D0 (.list ((List.range (M.states+1)).map fun s=>AV.val (.bool (s == M.start))))).set D0 (.frz ((List.range (M.states+1)).map fun s=>AV.val (.bool (s == M.start))))):=aAd (HLe.new hD0) hD0
    have hDH:H D=none:=l0.fresh hD
    refine aAh (fvi (bIv R M ks H D) (fun _ κ=>κ (l0.set hD) [] (fun s=>s == M.start) _ _ _ _ AHeap.set_same rfl rfl) ?_ ?_)
    · intro i v L H4 hv hJ; apply hJ; intro le4 pre f a b c d e1 e4 e5
      refine aAu hv fun k ek=>?_
      have hko:=hks k (List.mem_of_getElem? ek)
      have hlt:=(List.getElem?_eq_some_iff.mp ek).1
      rw [List.drop_eq_getElem_cons hlt,(List.getElem?_eq_some_iff.mp ek).2] at e4
      refine ⟨trivial,blank ok (x.le le4) fun H5 E le5 hE4 dE=>?_⟩
      have nD:D≠E:=fun z=>by rw [z,hE4] at e1; cases e1
      have xb:∀ {H6},HBut [E] H4 H6→RegAt H6 R M:=fun hb=>(x.le le4).le (aBv (HLe.refl _) hE4 hb)
      refine aBd (x.le (le4.trans le5)) (rngS ok.s2 (fvr1 (bIu R M ks D H4 f k E) (fun _ κ=>κ le5.but (by simpa using dE) _ _) ?_ ?_))
      · intro s L H6 hs hJ; apply hJ; intro hb6 eE a b
        refine aCu ok (Nat.succ_le_of_lt hs) ?_
        refine tb (fun hq=>aAh (fvi (bIt R M ks D H4 f k E s) (fun _ κ=>κ hb6 (by simpa using eE) _) ?_ ?_)) (fun hq=>?_)
        · intro j v L H7 hv7 hJ; apply hJ; intro hb7 eE7 b
          refine aAu hv7 fun a ea=>?_
          have hak:=hko.2 a (List.mem_of_getElem? ea)
          refine ⟨trivial,aFk ok (xb hb7) (s:=s+1) ⟨Nat.le_add_left _ _,Nat.succ_le_of_lt hs⟩ hak.1 hak.2 (aBt eE7 (Int.natCast_nonneg _) (by rw [aBc]; have:=ok.mv_le (s:=s+1) (a:=a) (Nat.le_add_left _ _) (Nat.succ_le_of_lt hs) hak.1 hak.2; exact natJ (Nat.lt_of_le_of_lt this (Nat.lt_succ_self _))) (by rw [aBc]; exact Nat.lt_succ_of_le (Nat.succ_le_succ (leL hsl rfl))) (fun _ κ=>κ (hb7.set (.head _)) ?_ _))⟩
          rw [AHeap.set_same]
          refine congrArg some (congrArg AObj.list (aEr M _ _ fun t _=>?_))
          rw [List.take_add_one,ea]
          by_cases ht:t=mv M (s+1) a
          · subst ht; simp
          · have ht':(mv M (s+1) a == t)=false:=by simpa using fun z=>ht z.symm
            simp [ht,ht']
        · intro L H7 hJ; apply hJ; intro hb7 eE7 b
          refine ⟨trivial,fun _ κ=>κ hb7 ?_ _ _⟩
          rw [eE7,List.length_map,List.take_length]
          refine congrArg some (congrArg AObj.list (aBw fun t _=>?_))
          rw [aLt,hq,Bool.true_and]
        · intro Z hZ
          refine aBi (.own AHeap.set_same) (fvi (bIs R M ks D f k E s H6 Z) (fun _ κ=>κ rfl _) (fun i v L H hv=>by simp at hv) ?_)
          intro L H7 hJ; apply hJ; intro _ b
          refine ⟨AHeap.set_same,fun _ κ=>κ (hb6.setn hZ) ?_ _ _⟩
          rw [HLe.new hZ _ _ eE]
          refine congrArg some (congrArg AObj.list (aBw fun t _=>?_))
          rw [aLt,hq,Bool.false_and,Bool.or_false]
      · intro L H6 hJ; apply hJ; intro hb6 eE6 a b
        refine aBt eE6 (by decide) (by rw [aBc]; exact natJ (ltL (Nat.le_refl _) rfl)) (by rw [aBc]; exact Nat.lt_succ_of_le (Nat.succ_le_succ (leL hsl rfl))) ?_
        rw [show (0:Int).toNat=0 from rfl,aEr M _ (nextR M f k) (t:=0) (fun t _=>by by_cases ht:t=0 <;> simp [nextR,ht])]
        refine ⟨E,_,rfl,AHeap.set_same,?_⟩
        have hb7:=(hb6.set (o:=.list (layAV M (nextR M f k))) (D:=E) (.head _)).set (o:=.frz (layAV M (nextR M f k))) (D:=E) (.head _)
        have eD7:=hb7.1 D _ (fun m=>nD (List.mem_singleton.mp m)) e1
        refine aAg eD7 (aAj eD7 (by simp; exact om154 hkl e5 hlt) (fun _ κ=>κ (aAd (aBv le4 (le4.fresh hE4) hb7) hDH) (pre ++ [f]) (nextR M f k) _ _ _ _ ?_ ?_ (by simp [e5])))
        · rw [AHeap.set_same,List.map_append (l₂:=[nextR M f k])]; rfl
        · rw [← e4,List.append_assoc]; rfl
    · intro L H4 hJ; apply hJ; intro le4 pre f a b c d e1 e4 e5
      rw [List.length_map,List.drop_length] at e4
      refine ⟨trivial,D,_,rfl,e1,?_⟩
      have:=h _ (aAd (o:=.frz ((pre ++ [f]).map (layV M))) le4 hDH)
      rw [← e4] at this
      exact this
end
section
variable {G:Cx} {n:Nat} {H:AHeap} {Q:AV→AHeap→Prop} {R:RA} {M:Mach}
noncomputable def bIr (H:AHeap) (R:RA) (M:Mach) (i:Nat) (acc:List AV) (L':LS) (H':AHeap):Prop:=∀ P:LS→AHeap→Prop,(∀ (e2:acc=(List.range i).map (fun s=>.val (.bool (decide (s∈M.finals))))) a b,P [a,b,some (.val (.ref R.rg))] H)→P L' H'
noncomputable def bIq (R:RA) (M:Mach) (ks:List (List Nat)) (H1:AHeap) (D:Addr) (i:Nat) (L':LS) (H':AHeap):Prop:=∀ P:LS→Prop,(∀ (e1:HLe H1 H') (e2:i≤ks.length) (pre:List (Nat→Bool)) (f:Nat→Bool) (a:Option AV) (b:Option AV) (c:Option AV) (e3:H' D=some (.list ((pre ++ [f]).map (layV M)))) (e4:(pre ++ [f]).reverse=aAr M (fun s=>s != 0 && decide (s∈M.finals)) (ks.drop (ks.length - i))) (e5:pre.length=i),P [some (.val (.ref R.rg)),some (keptV ks),a,some (layV M f),some (.val (.ref D)),b,c])→P L'
noncomputable def bIp (R:RA) (M:Mach) (ks:List (List Nat)) (D:Addr) (H4:AHeap) (f:Nat→Bool) (k:List Nat) (E:Addr) (i:Nat) (L':LS) (H':AHeap):Prop:=∀ P:LS→Prop,(∀ (e1:HBut [E] H4 H') (e2:H' E=some (.list (layAV M fun t=>decide (t≤i) && prevA M f k t))) a,P [some (.val (.ref R.rg)),some (keptV ks),a,some (layV M f),some (.val (.ref D)),some (kV k),some (.val (.ref E))])→P L'
noncomputable def bIo (R:RA) (M:Mach) (f:Nat→Bool) (k:List Nat) (s:Nat) (H6:AHeap) (j:Nat) (acc:List AV) (L':LS) (H':AHeap):Prop:=∀ P:LS→AHeap→Prop,(∀ (e2:acc=((k.take j).map fun a=>f (mv M (s+1) a)).map AV.bool) y z,P [y,z,some (layV M f),some (.val (.ref R.rg)),some (.int ((s+1:Nat):Int))] H6)→P L' H'
theorem aUm (ok:MOk M) (x:RegAt H R M) {ks:List (List Nat)} (hks:∀ k∈ks,KOk M k) (hkl:ks.length≤10)
    (h:∀ H',HLe H H'→Q (laysV M (aAr M (fun s=>s != 0 && decide (s∈M.finals)) ks)) H'):CW G (n+1) (.ref 351) [.val (.ref R.rg),keptV ks] H Q:=by
  have hsl:=ok.s2
  refine aIu (aBd x (rng1 (om162 hsl) (cvr (bIr H R M) (fun _ κ=>κ rfl _ _) ?_ ?_)))
  · intro i acc L H1 hi hJ; apply hJ; rintro rfl a b
    have e:(0:Int)+(i:Int)=((i:Nat):Int):=Int.zero_add _
    rw [e]
    refine ⟨by simp; exact om161 hsl hi,aIf x (aId (fun _ κ=>κ ?_ _ _))⟩
    rw [List.range_succ,List.map_append]; rfl
  · intro acc L H1 hJ; apply hJ; rintro rfl a b
    intro D0 hD0
    rw [show ((M.states:Int)+1).toNat=M.states+1 from om159]
    have eL:(List.range (M.states+1)).map (fun s=>AV.val (.bool (decide (s∈M.finals))))=layAV M fun s=>decide (s∈M.finals):=rfl
    rw [eL]
    refine aBt AHeap.set_same (by decide) (by rw [aBc]; exact natJ (ltL (Nat.le_refl _) rfl)) (by rw [aBc]; exact Nat.lt_succ_of_le (Nat.succ_le_succ (leL hsl rfl))) ?_
    rw [show (0:Int).toNat=0 from rfl,aEr M _ (fun s=>s != 0 && decide (s∈M.finals)) (t:=0) (fun t _=>by by_cases ht:t=0 <;> simp [ht])]
    refine ⟨D0,_,rfl,AHeap.set_same,fun D hD=>?_⟩
    have l0:HLe H (((H.set D0 (.list (layAV M fun s=>decide (s∈M.finals)))).set D0 (.list (layAV M fun s=>s != 0 && decide (s∈M.finals)))).set D0 (.frz (layAV M fun s=>s != 0 && decide (s∈M.finals)))):=aAd (aAd (HLe.new hD0) hD0) hD0
    have hDH:H D=none:=l0.fresh hD
    refine aWv (o:=keptV ks) .frz (fvi (bIq R M ks H D) (fun _ κ=>κ (l0.set hD) (Nat.zero_le _) [] (fun s=>s != 0 && decide (s∈M.finals)) _ _ _ AHeap.set_same (by simp [aAr]) rfl) ?_ ?_)
    · intro i v L H4 hv hJ; apply hJ; intro le4 hil pre f a b c e1 e4 e5
      have hil:i < ks.length:=by have:=(List.getElem?_eq_some_iff.mp hv).1; simp at this; exact this
      rw [List.getElem?_reverse (by simp; exact hil),List.length_map,List.getElem?_map,Option.map_eq_some_iff] at hv
      obtain ⟨k,ek,rfl⟩:=hv
      have hko:=hks k (List.mem_of_getElem? ek)
      have hlt:=(List.getElem?_eq_some_iff.mp ek).1
      have e4':(pre ++ [f] ++ [prevA M f k]).reverse=aAr M (fun s=>s != 0 && decide (s∈M.finals)) (ks.drop (ks.length - (i+1))):=by
        rw [show ks.length - (i+1)=ks.length - 1 - i from om172,List.drop_eq_getElem_cons hlt,(List.getElem?_eq_some_iff.mp ek).2,show ks.length - 1 - i+1=ks.length - i from om171 hil]
        rw [aAr,← e4]
        simp
      refine ⟨trivial,blank ok (x.le le4) fun H5 E le5 hE4 dE=>?_⟩
      have nD:D≠E:=fun z=>by rw [z,hE4] at e1; cases e1
      have xb:∀ {H6},HBut [E] H4 H6→RegAt H6 R M:=fun hb=>(x.le le4).le (aBv (HLe.refl _) hE4 hb)
      refine aBd (x.le (le4.trans le5)) (rngS ok.s2 (fvr1 (bIp R M ks D H4 f k E) (fun _ κ=>κ le5.but ?_ _) ?_ ?_))
      · rw [dE]
        refine congrArg some (congrArg AObj.list (aBw fun t _=>?_))
        by_cases ht:t=0 <;> simp [prevA,ht]
      · intro s L H6 hs hJ; apply hJ; intro hb6 eE a
        refine aAh (cvi (bIo R M f k s H6) (fun _ κ=>κ rfl _ _) ?_ ?_)
        · intro j v acc L H7 hv7 hJ; apply hJ; rintro rfl y z
          refine aAu hv7 fun a ea=>?_
          have hak:=hko.2 a (List.mem_of_getElem? ea)
          have hmv:=ok.mv_le (s:=s+1) (a:=a) (Nat.le_add_left _ _) (Nat.succ_le_of_lt hs) hak.1 hak.2
          refine ⟨trivial,⟨by have:=hko.1; simp; exact Nat.lt_of_le_of_lt (Nat.min_le_right _ _) (ltL this rfl),aFk ok (xb hb6) (s:=s+1) ⟨Nat.le_add_left _ _,Nat.succ_le_of_lt hs⟩ hak.1 hak.2 (aCu ok hmv (fun _ κ=>κ ?_ _ _))⟩⟩
          rw [List.take_add_one,ea]
          simp
        · intro acc L H7 hJ; apply hJ; rintro rfl y z
          refine ⟨trivial,fun Z hZ=>aQd (.own AHeap.set_same) (aBt (HLe.new hZ _ _ eE) (Int.natCast_nonneg _) (by rw [aBc]; exact natJ (Nat.succ_lt_succ hs)) (by rw [aBc]; exact Nat.lt_succ_of_le (Nat.succ_le_succ (leL hsl rfl))) (fun _ κ=>κ ((hb6.setn hZ).set (.head _)) ?_ _))⟩
          rw [AHeap.set_same,List.length_map,List.take_length]
          refine congrArg some (congrArg AObj.list (aEr M _ _ fun t _=>?_))
          by_cases ht:t=s+1
          · subst ht; simp [prevA]
          · by_cases ht2:t≤s
            · have:t≤s+1:=Nat.le_trans ht2 (Nat.le_add_right _ _)
              simp [ht,ht2,this]
            · have:¬ t≤s+1:=om169 ht ht2
              simp [ht,ht2,this]
      · intro L H6 hJ; apply hJ; intro hb6 eE6 a
        rw [aBw (g:=prevA M f k) fun t ht=>by simp [ht]] at eE6
        refine ⟨E,_,rfl,eE6,?_⟩
        have hb7:=hb6.set (o:=.frz (layAV M (prevA M f k))) (D:=E) (.head _)
        have eD7:=hb7.1 D _ (fun m=>nD (List.mem_singleton.mp m)) e1
        refine aAg eD7 (aAj eD7 (by simp; exact om154 hkl e5 hil) (fun _ κ=>κ (aAd (aBv le4 (le4.fresh hE4) hb7) hDH) (Nat.succ_le_of_lt hil) (pre ++ [f]) (prevA M f k) _ _ _ ?_ e4' (by simp [e5])))
        rw [AHeap.set_same,List.map_append (l₂:=[prevA M f k])]; rfl
    · intro L H4 hJ; apply hJ; intro le4 hil pre f a b c e1 e4 e5
      rw [List.length_reverse,List.length_map] at e5 e4
      rw [Nat.sub_self,List.drop_zero] at e4
      refine ⟨trivial,aTg e1 (aUg e1 (by simp; exact om168 hkl e5) ⟨D,_,rfl,AHeap.set_same,?_⟩)⟩
      have:=h _ (aAd (o:=.frz ((pre ++ [f]).map (layV M)).reverse) (aAd (o:=.list ((pre ++ [f]).map (layV M)).reverse) le4 hDH) hDH)
      rw [← e4] at this
      rw [← List.map_reverse] at this ⊢
      exact this
end
section
noncomputable def neKey (x a:Nat):List (Int ⊕ Str):=[.inl (x:Nat),.inr "!=",.inl (a:Nat)]
theorem aBu {x a y b:Nat} (h:neKey x a=neKey y b):x=y∧a=b:=by
  simp only [neKey,List.cons.injEq,Sum.inl.injEq,and_true,true_and] at h
  exact om203 h.1 h.2
noncomputable def KeysOk (keys:List (List (Int ⊕ Str))):Prop:=keys.Nodup∧∀ key∈keys,∃ x a,x < 3∧1≤a∧a≤3∧key=neKey x a
noncomputable def bKm:List (Int ⊕ Str)→Nat
  | [.inl x,_,.inl a]=>4 * x.toNat+a.toNat
  | _=>0
theorem KeysOk.len {keys:List (List (Int ⊕ Str))} (h:KeysOk keys):keys.length≤12:=by
  have h1:(keys.map bKm).Nodup:=by
    rw [List.nodup_iff_pairwise_ne,List.pairwise_map]
    refine List.Pairwise.imp_of_mem (fun {p q} hp hq hpq=>?_) (List.nodup_iff_pairwise_ne.mp h.1)
    obtain ⟨x,a,h1,h2,h3,rfl⟩:=h.2 p hp
    obtain ⟨y,b,g1,g2,g3,rfl⟩:=h.2 q hq
    intro e
    have:x=y∧a=b:=om202 h3 g3 e
    exact hpq (by rw [this.1,this.2])
  have:=aHa 12 _ h1 fun k hk=>by
    refine aCm hk fun p hp=>?_
    obtain ⟨x,a,h1,h2,h3,rfl⟩:=h.2 p hp
    exact om201 h1 h3
  simpa using this
theorem KeysOk.put {keys:List (List (Int ⊕ Str))} (h:KeysOk keys) {x a:Nat} (h1:x < 3) (h2:1≤a) (h3:a≤3):KeysOk (aBh keys (neKey x a)):=by
  exact ⟨aFy h.1,fun k hk=>(mem_keyPut.mp hk).elim (h.2 k) fun e=>e ▸ ⟨x,a,h1,h2,h3,rfl⟩⟩
noncomputable def deadS (M:Mach) (al:Nat→Nat→Bool) (spot:Nat) (S0:Nat→Prop):Nat→Nat→Prop
  | 0=>S0
  | j+1=>fun t=>∃ s a,deadS M al spot S0 j s∧1≤a∧a≤M.letters∧mv M s a=t∧t≠0∧al (spot+j+1) t=false
noncomputable def deadK (M:Mach) (al:Nat→Nat→Bool) (spot:Nat) (S0:Nat→Prop) (len:Nat) (key:List (Int ⊕ Str)):Prop :=
  ∃ j s a,spot+j < len∧deadS M al spot S0 j s∧1≤a∧a≤M.letters∧mv M s a≠0∧al (spot+j+1) (mv M s a)=true∧key=neKey (spot+j) a
theorem aVg {l:List Nat} {M:Mach} (ok:MOk M) (h:∀ s∈l,1≤s∧s≤M.states) (hn:l.Nodup):l.length≤4:=by
  have:=aHa 4 l hn fun k hk=>by have:=h k hk; have:=ok.s2; exact om200 (by assumption) this
  exact this
theorem aMp {ns':List Int} {l:List Nat} (h:∀ k,k∈ns'↔k∈l.map fun k=>((k:Nat):Int)) (hp:ns'.Pairwise (· < ·)):∃ l':List Nat,ns'=l'.map (fun k=>((k:Nat):Int))∧(∀ k,k∈l'↔k∈l)∧l'.Pairwise (· < ·):=by
  have h0:∀ k∈ns',0≤k:=fun k hk=>by
    obtain ⟨m,_,e⟩:=List.mem_map.mp ((h k).mp hk)
    exact om199 e
  have e:ns'=(ns'.map Int.toNat).map (fun k=>((k:Nat):Int)):=by
    rw [List.map_map]
    conv=>lhs; rw [← List.map_id ns']
    apply List.map_congr_left
    intro k hk
    have:=h0 k hk
    simp only [id,Function.comp]
    exact om198 this
  refine ⟨ns'.map Int.toNat,e,fun k=>?_,?_⟩
  · constructor
    · intro hk
      obtain ⟨i,hi,e⟩:=List.mem_map.mp hk
      obtain ⟨m,hm,e2⟩:=List.mem_map.mp ((h i).mp hi)
      have:m=k:=om197 e e2
      exact this ▸ hm
    · intro hk
      exact List.mem_map.mpr ⟨(k:Nat),(h _).mpr (List.mem_map.mpr ⟨k,hk,rfl⟩),by simp⟩
  · rw [List.pairwise_map]
    refine List.Pairwise.imp_of_mem (fun {a b} ha hb hab=>?_) hp
    have:=h0 a ha
    exact om196 hab this
noncomputable def lateP (M:Mach) (g:Nat→Bool) (s m t:Nat):Prop:=∃ a,1≤a∧a≤m∧mv M s a=t∧t≠0∧g t=false
noncomputable def keyP (M:Mach) (g:Nat→Bool) (p s m:Nat) (key:List (Int ⊕ Str)):Prop:=∃ a,1≤a∧a≤m∧mv M s a≠0∧g (mv M s a)=true∧key=neKey p a
theorem aFg {M:Mach} {g:Nat→Bool} {s m t:Nat}:lateP M g s (m+1) t↔lateP M g s m t∨(mv M s (m+1)=t∧t≠0∧g t=false):=by
  constructor
  · rintro ⟨a,h1,h2,h3⟩
    by_cases e:a=m+1
    · subst e; exact .inr h3
    · exact .inl ⟨a,h1,Nat.le_of_lt_succ (Nat.lt_of_le_of_ne h2 e),h3⟩
  · rintro (⟨a,h1,h2,h3⟩ | h)
    · exact ⟨a,h1,Nat.le_trans h2 (Nat.le_add_right _ _),h3⟩
    · exact ⟨m+1,Nat.le_add_left _ _,Nat.le_refl _,h⟩
theorem aHe {M:Mach} {g:Nat→Bool} {p s m:Nat} {key:List (Int ⊕ Str)}:keyP M g p s (m+1) key↔keyP M g p s m key∨(mv M s (m+1)≠0∧g (mv M s (m+1))=true∧key=neKey p (m+1)):=by
  constructor
  · rintro ⟨a,h1,h2,h3⟩
    by_cases e:a=m+1
    · subst e; exact .inr h3
    · exact .inl ⟨a,h1,Nat.le_of_lt_succ (Nat.lt_of_le_of_ne h2 e),h3⟩
  · rintro (⟨a,h1,h2,h3⟩ | h)
    · exact ⟨a,h1,Nat.le_trans h2 (Nat.le_add_right _ _),h3⟩
    · exact ⟨m+1,Nat.le_add_left _ _,Nat.le_refl _,h⟩
section
variable {G:Cx} {n:Nat} {H:AHeap} {Q:AV→AHeap→Prop} {R:RA} {M:Mach}
noncomputable def nV (l:List Nat):AV:=.lst (l.map natAV)
theorem aAy (l:List Nat):l.map natAV=(l.map fun k=>((k:Nat):Int)).map .int:=by rw [List.map_map]; rfl
theorem aEf {o:AV} {l:List Nat} (he:IsL H o (l.map natAV)) (hb:∀ k∈l,k≤4) (hl:l.length≤200) (h:∀ (D:Addr) (l':List Nat),H D=none→l'.Pairwise (· < ·)→(∀ k,k∈l'↔k∈l)→Q (.val (.ref D)) (H.set D (.list (l'.map natAV)))):SsetQ o H Q:=by
  unfold SsetQ
  refine ⟨l.map fun k=>((k:Nat):Int),.inl (by rw [← aAy]; exact he),fun k hk=>?_,by rw [List.length_map]; exact hl,fun D ns' hD hp hm=>?_⟩
  · refine aCm hk fun t ht=>?_
    have:=hb t ht; exact And.intro (Int.natCast_nonneg _) (natI this)
  · obtain ⟨l',rfl,h1,h2⟩:=aMp hm hp
    rw [← aAy]
    exact h D l' hD h2 h1
theorem RegAt.out (x:RegAt H R M) {H':AHeap} {an:Addr} {keys:List (List (Int ⊕ Str))} (hn:H an=some (.tdict keys)) (b:HBut [an] H H'):RegAt H' R M :=
  x.but b (fun m=>by have:=x.inst; rw [List.mem_singleton.mp m,hn] at this; cases this) (fun m=>by have:=x.attrs; rw [List.mem_singleton.mp m,hn] at this; cases this)
theorem aNf (ok:MOk M) {k:Int} (h0:0≤k) (h1:k < M.many) (h:Q (.int k) H):GetI G n (aAc (List.range M.many)) (.int k) H Q:=by
  have:=ok.m2
  refine aBq (v:=.int k) h0 ?_ (by simp; exact leL this rfl) h
  rw [List.getElem?_map,List.getElem?_range (om195 h0 h1)]
  show some (AV.int (k.toNat:Int))=_
  rw [Int.toNat_of_nonneg h0]
theorem aRc (ok:MOk M) (x:RegAt H R M) {an:Addr} {keys:List (List (Int ⊕ Str))} {k a:Nat} {Q:AHeap→Prop} (hn:H an=some (.tdict keys)) (hko:KeysOk keys) (h1:k < M.many) (h:Q (H.set an (.tdict (aBh keys (neKey k a))))) :
    AtL G "scope" (.val (.ref R.rg)) H fun v H1=>GetI G n v (natAV k) H1 fun y H2=>SetI G n (.val (.ref an)) (.tup [y,.str "!=",natAV a]) (.val (.bool true)) H2 Q :=
  aFc x (aNf ok (Int.natCast_nonneg _) (natJ h1) (aTb (k:=neKey k a) hn (Nat.le_trans hko.len (by decide)) h))
noncomputable def alF (ls:List (Nat→Bool)) (i:Nat):Nat→Bool:=ls.getD i fun _=>false
theorem aJr {ls:List (Nat→Bool)} {i:Nat} (h:i < ls.length):ls[i]?=some (alF ls i):=by
  rw [List.getElem?_eq_getElem h,alF,List.getD_eq_getElem?_getD,List.getElem?_eq_getElem h]; rfl
noncomputable def bIn (H:AHeap) (R:RA) (M:Mach) (an:Addr) (ks:List (List Nat)) (ls:List (Nat→Bool)) (spot:Nat) (some_:List Nat) (keys:List (List (Int ⊕ Str))) (j:Nat) (L':LS) (H':AHeap):Prop:=∀ P:LS→Prop,(∀ (e1:HBut [an] H H') (S:List Nat) (keys':List (List (Int ⊕ Str))) (z1:Option AV) (z2:Option AV) (z3:Option AV) (z4:Option AV) (z5:Option AV) (e2:(∀ s∈S,1≤s∧s≤M.states)) (e3:S.Nodup) (e4:(∀ s,s∈S↔deadS M (alF ls) spot (·∈some_) j s)) (e5:H' an=some (.tdict keys')) (e6:KeysOk keys') (e7:(∀ key,key∈keys'↔key∈keys∨deadK M (alF ls) spot (·∈some_) (spot+j) key)),P [some (.val (.ref R.rg)),some (keptV ks),some (laysV M ls),some (natAV spot),some (nV S),some (.val (.ref an)),z1,z2,z3,z4,z5])→P L'
noncomputable def bIm (H:AHeap) (R:RA) (M:Mach) (an:Addr) (ks:List (List Nat)) (ls:List (Nat→Bool)) (spot:Nat) (j:Nat) (S:List Nat) (keys1:List (List (Int ⊕ Str))) (E:Addr) (g:Nat→Bool) (i:Nat) (L':LS) (H':AHeap):Prop:=∀ P:LS→Prop,(∀ (e1:HBut [an] H H') (late:List Nat) (keys':List (List (Int ⊕ Str))) (z3:Option AV) (z4:Option AV) (z5:Option AV) (e2:H' E=some (.list (late.map natAV))) (e3:late.length≤3 * i) (e4:(∀ t,t∈late↔∃ s∈S.take i,lateP M g s M.letters t)) (e5:H' an=some (.tdict keys')) (e6:KeysOk keys') (e7:(∀ key,key∈keys'↔key∈keys1∨∃ s∈S.take i,keyP M g (spot+j) s M.letters key)),P [some (.val (.ref R.rg)),some (keptV ks),some (laysV M ls),some (natAV spot),some (nV S),some (.val (.ref an)),some (natAV (spot+j)),some (.val (.ref E)),z3,z4,z5])→P L'
noncomputable def bIk (H:AHeap) (R:RA) (M:Mach) (an:Addr) (ks:List (List Nat)) (ls:List (Nat→Bool)) (spot:Nat) (j:Nat) (S:List Nat) (E:Addr) (g:Nat→Bool) (i:Nat) (late:List Nat) (keys2:List (List (Int ⊕ Str))) (s:Nat) (m:Nat) (L':LS) (H':AHeap):Prop:=∀ P:LS→Prop,(∀ (e1:HBut [an] H H') (late':List Nat) (keys':List (List (Int ⊕ Str))) (z4:Option AV) (z5:Option AV) (e2:H' E=some (.list (late'.map natAV))) (e3:late'.length≤3 * i+m) (e4:(∀ t,t∈late'↔t∈late∨lateP M g s m t)) (e5:H' an=some (.tdict keys')) (e6:KeysOk keys') (e7:(∀ key,key∈keys'↔key∈keys2∨keyP M g (spot+j) s m key)),P [some (.val (.ref R.rg)),some (keptV ks),some (laysV M ls),some (natAV spot),some (nV S),some (.val (.ref an)),some (natAV (spot+j)),some (.val (.ref E)),some (natAV s),z4,z5])→P L'
theorem cf {A B:Prop} (h:B):cond false A B:=h
theorem aHz (ok:MOk M) (x:RegAt H R M) {an:Addr} {ks:List (List Nat)} {ls:List (Nat→Bool)} {spot:Nat} {some_:List Nat} {keys:List (List (Int ⊕ Str))} (hkl:ks.length=M.many) (hll:ls.length=ks.length+1) (hsp:spot≤ks.length)
    (hsm:∀ s∈some_,1≤s∧s≤M.states) (hsn:some_.Nodup) (hn:H an=some (.tdict keys)) (hko:KeysOk keys)
    (h:∀ H' keys',HBut [an] H H'→H' an=some (.tdict keys')→KeysOk keys'→(∀ key,key∈keys'↔key∈keys∨deadK M (alF ls) spot (·∈some_) ks.length key)→Q .none H') :
    CW G (n+2) (.ref 358) [.val (.ref R.rg),keptV ks,laysV M ls,natAV spot,nV some_,.val (.ref an)] H Q:=by
  have hm2:=ok.m2
  have hl2:=ok.l2
  have hs2:=ok.s2
  refine aHn (aAf .frz (by rw [List.length_map]; exact eqLt hkl (ltL hm2 rfl)) (rng2 (by rw [List.length_map]; exact om194 hkl hsp hm2) ?_))
  rw [List.length_map,hkl,show (((M.many:Nat):Int) - ((spot:Nat):Int)).toNat=M.many - spot from om193]
  refine fvr (bIn H R M an ks ls spot some_ keys)
    (fun _ κ=>κ ((HLe.refl H).but) some_ keys _ _ _ _ _ hsm hsn (fun s=>Iff.rfl) hn hko (fun key=>⟨.inl,fun z=>z.elim id fun zz=>by obtain ⟨j,s,a,hj,_⟩:=zz; exact (om192 hj).elim⟩)) ?_ ?_
  · intro j L H1 hj hJ; apply hJ; intro hb1 S keys1 z1 z2 z3 z4 z5 hS1 hS2 hS3 en1 hk1 hk2
    intro E hE
    have nE:E≠an:=fun z=>by rw [z,en1] at hE; cases hE
    have hEH:H E=none:=hb1.fresh hE
    have hg:ls[spot+j+1]?=some (alF ls (spot+j+1)):=aJr (om191 hkl hll hj)
    have hSl:=aVg ok hS1 hS2
    generalize hgd:alF ls (spot+j+1)=g at hg
    have ek:(spot:Int)+(j:Int)=((spot+j:Nat):Int):=Eq.symm (Int.natCast_add _ _)
    refine aAh (fvi (bIm H R M an ks ls spot j S keys1 E g)
        (by rw [ek]; exact fun _ κ=>κ (hb1.setf hEH) [] keys1 _ _ _ AHeap.set_same (by simp) (by simp) (HLe.new hE _ _ en1) hk1 (by simp)) ?_ ?_)
    · intro i v L H2 hv hJ; apply hJ; intro hb2 late keys2 z3 z4 z5 eE2 hll2 hlate en2 hko2 hkeys
      refine aAu hv fun s es=>?_
      have hs':=hS1 s (List.mem_of_getElem? es)
      have hil:=(List.getElem?_eq_some_iff.mp es).1
      refine ⟨trivial,aCq (x.out hn hb2) (rngS ok.l2 (fvr1 (bIk H R M an ks ls spot j S E g i late keys2 s)
          (fun _ κ=>κ hb2 late keys2 _ _ eE2 hll2 (fun t=>⟨.inl,fun z=>z.elim id fun zz=>by obtain ⟨a,h1,h2,_⟩:=zz; exact absurd h1 (Nat.not_le_of_lt (ltL h2 rfl))⟩) en2 hko2 (fun key=>⟨.inl,fun z=>z.elim id fun zz=>by obtain ⟨a,h1,h2,_⟩:=zz; exact absurd h1 (Nat.not_le_of_lt (ltL h2 rfl))⟩)) ?_ ?_))⟩
      · intro m L H3 hm hJ; apply hJ; intro hb3 late3 keys3 z4 z5 eE3 hll3 hlate3 en3 hko3 hkeys3
        have x3:=x.out hn hb3
        refine aFk ok x3 hs' (Nat.le_add_left _ _) (Nat.succ_le_of_lt hm) ?_
        have hmv:=ok.mv_le (s:=s) (a:=m+1) hs'.1 hs'.2 (Nat.le_add_left _ _) (Nat.succ_le_of_lt hm)
        refine tb (fun hgz=>aDf (p:=spot+j+1) hg (om187 hkl hll hm2) (aCu ok hmv (tb (fun hgt=>?_) (fun hgt=>cf (tb (fun _=>?_) (fun hf=>by rw [hgz] at hf; cases hf)))))) (fun hgz=>cf (tb (fun hf=>(by rw [hgz] at hf; cases hf)) (fun _=>?_)))
        · have hgnz:mv M s (m+1)≠0:=fun z=>by rw [z] at hgz; exact absurd hgz (by decide)
          have hgf:g (mv M s (m+1))=false:=by simpa using hgt
          refine aAg eE3 (aAj eE3 (by rw [List.length_map]; exact om186 hl2 hSl hil hm hll3) (fun _ κ=>κ (hb3.setf hEH) (late3 ++ [mv M s (m+1)]) keys3 _ _ (by rw [AHeap.set_same,List.map_append]; rfl) (by simp; exact Nat.succ_le_succ hll3) (fun t=>?_) ((AHeap.set_ne (Ne.symm nE)).trans en3) hko3 (fun key=>?_)))
          · rw [List.mem_append,List.mem_singleton,hlate3,aFg,or_assoc]
            refine or_congr Iff.rfl (or_congr Iff.rfl ⟨?_,fun h=>h.1.symm⟩)
            rintro rfl; exact ⟨rfl,hgnz,hgf⟩
          · rw [hkeys3,aHe,hgf]
            simp
        · have hgnz:mv M s (m+1)≠0:=fun z=>by rw [z] at hgz; exact absurd hgz (by decide)
          have hgt':g (mv M s (m+1))=true:=by simpa using hgt
          refine aRc ok x3 en3 hko3 (om185 hj) (fun _ κ=>κ (hb3.set (.head _)) late3 (aBh keys3 (neKey (spot+j) (m+1))) _ _ ((AHeap.set_ne nE).trans eE3) (om181 hll3) (fun t=>?_) AHeap.set_same (hko3.put (om184 hm2 hj) om183 (om182 hl2 hm)) (fun key=>?_))
          · rw [hlate3,aFg]
            exact or_congr Iff.rfl ⟨.inl,fun z=>z.elim id fun h=>by rw [← h.1,hgt'] at h; exact absurd h.2.2 (by decide)⟩
          · rw [mem_keyPut,hkeys3,aHe,hgt',or_assoc]
            simp [hgnz]
        · have hgz':mv M s (m+1)=0:=by
            by_cases z:mv M s (m+1)=0
            · exact z
            · exfalso; simp [z] at hgz
          refine fun _ κ=>κ hb3 late3 keys3 _ _ eE3 (om181 hll3) (fun t=>?_) en3 hko3 (fun key=>?_)
          · rw [hlate3,aFg,hgz']
            exact or_congr Iff.rfl ⟨.inl,fun z=>z.elim id fun h=>absurd h.1.symm h.2.1⟩
          · rw [hkeys3,aHe,hgz']
            simp
      · intro L H3 hJ; apply hJ; intro hb3 late3 keys3 z4 z5 eE3 hll3 hlate3 en3 hko3 hkeys3
        refine fun _ κ=>κ hb3 late3 keys3 _ _ _ eE3 (om180 hl2 hll3) (fun t=>?_) en3 hko3 (fun key=>?_)
        · rw [hlate3,hlate,List.take_add_one,es]
          simp only [Option.toList_some,List.mem_append,List.mem_singleton]
          constructor
          · rintro (⟨s',h1,h2⟩ | h)
            · exact ⟨s',.inl h1,h2⟩
            · exact ⟨s,.inr rfl,h⟩
          · rintro ⟨s',h1 | rfl,h2⟩
            · exact .inl ⟨s',h1,h2⟩
            · exact .inr h2
        · rw [hkeys3,hkeys,List.take_add_one,es]
          simp only [Option.toList_some,List.mem_append,List.mem_singleton]
          constructor
          · rintro ((h | ⟨s',h1,h2⟩) | h)
            · exact .inl h
            · exact .inr ⟨s',.inl h1,h2⟩
            · exact .inr ⟨s,.inr rfl,h⟩
          · rintro (h | ⟨s',h1 | rfl,h2⟩)
            · exact .inl (.inl h)
            · exact .inl (.inr ⟨s',h1,h2⟩)
            · exact .inr h2
    · intro L H2 hJ; apply hJ; intro hb2 late keys2 z3 z4 z5 eE2 hll2 hlate en2 hko2 hkeys
      rw [List.length_map] at hll2 hlate hkeys
      rw [List.take_length] at hlate hkeys
      have hlt1:∀ t∈late,1≤t∧t≤M.states:=fun t ht=>by
        obtain ⟨s,hs,a,a1,a2,rfl,a3,_⟩:=(hlate t).mp ht
        have:=ok.mv_le (s:=s) (a:=a) (hS1 s hs).1 (hS1 s hs).2 a1 a2
        exact ⟨om179 a3,this⟩
      refine ⟨trivial,aEf (.own eE2) (fun t ht=>by have:=hlt1 t ht; exact om178 hs2 this.2) (om177 hSl hll2) fun D l' hD hp hm=>⟨D,_,rfl,AHeap.set_same,?_⟩⟩
      have hDn:H D=none:=hb2.fresh hD
      have nD:an≠D:=fun z=>by rw [← z,en2] at hD; cases hD
      refine fun _ κ=>κ ((hb2.setf hDn).setf hDn) l' keys2 _ _ _ _ _ (fun s hs=>hlt1 s ((hm s).mp hs)) (hp.imp fun h=>Nat.ne_of_lt h) (fun t=>?_) ((AHeap.set_ne nD).trans ((AHeap.set_ne nD).trans en2)) hko2 (fun key=>?_)
      · rw [hm,hlate]
        constructor
        · rintro ⟨s,hs,a,a1,a2,a3,a4,a5⟩
          exact ⟨s,a,(hS3 s).mp hs,a1,a2,a3,a4,by rw [hgd]; exact a5⟩
        · rintro ⟨s,a,hs,a1,a2,a3,a4,a5⟩
          exact ⟨s,(hS3 s).mpr hs,a,a1,a2,a3,a4,by rw [hgd] at a5; exact a5⟩
      · rw [hkeys,hk2,or_assoc]
        refine or_congr Iff.rfl ?_
        constructor
        · rintro (⟨j',s,a,h1,h2⟩ | ⟨s,hs,a,a1,a2,a3,a4,a5⟩)
          · exact ⟨j',s,a,om176 h1,h2⟩
          · exact ⟨j,s,a,om175,(hS3 s).mp hs,a1,a2,a3,by rw [hgd]; exact a4,a5⟩
        · rintro ⟨j',s,a,h1,h2,a1,a2,a3,a4,a5⟩
          by_cases hj':j'=j
          · subst hj'
            exact .inr ⟨s,(hS3 s).mpr h2,a,a1,a2,a3,by rw [hgd] at a4; exact a4,a5⟩
          · exact .inl ⟨j',s,a,om174 h1 hj',h2,a1,a2,a3,a4,a5⟩
  · intro L H1 hJ; apply hJ; intro hb1 S keys1 z1 z2 z3 z4 z5 hS1 hS2 hS3 en1 hk1 hk2
    rw [show spot+(M.many - spot)=ks.length from om173 hkl hsp] at hk2
    exact h _ keys1 hb1 en1 hk1 hk2
end
end
section
noncomputable def unS (M:Mach) (rc:Nat→Nat→Bool) (p:Nat) (S0:Nat→Prop):Nat→Nat→Prop
  | 0=>S0
  | j+1=>fun s=>1≤s∧s≤M.states∧rc (p - 1 - j) s=false∧∃ a,1≤a∧a≤M.letters∧unS M rc p S0 j (mv M s a)
noncomputable def unK (M:Mach) (rc:Nat→Nat→Bool) (p:Nat) (S0:Nat→Prop) (len:Nat) (key:List (Int ⊕ Str)):Prop :=
  ∃ j s a,j < len∧1≤s∧s≤M.states∧rc (p - 1 - j) s=true∧1≤a∧a≤M.letters∧unS M rc p S0 j (mv M s a)∧key=neKey (p - 1 - j) a
noncomputable def hitP (M:Mach) (S:List Nat) (s m:Nat):Prop:=∃ a,1≤a∧a≤m∧mv M s a∈S
noncomputable def hitK (M:Mach) (S:List Nat) (p s m:Nat) (key:List (Int ⊕ Str)):Prop:=∃ a,1≤a∧a≤m∧mv M s a∈S∧key=neKey p a
theorem hitP_succ {M:Mach} {S:List Nat} {s m:Nat}:hitP M S s (m+1)↔hitP M S s m∨mv M s (m+1)∈S:=by
  constructor
  · rintro ⟨a,h1,h2,h3⟩
    by_cases e:a=m+1
    · subst e; exact .inr h3
    · exact .inl ⟨a,h1,Nat.le_of_lt_succ (Nat.lt_of_le_of_ne h2 e),h3⟩
  · rintro (⟨a,h1,h2,h3⟩ | h)
    · exact ⟨a,h1,Nat.le_trans h2 (Nat.le_add_right _ _),h3⟩
    · exact ⟨m+1,Nat.le_add_left _ _,Nat.le_refl _,h⟩
theorem aNa {M:Mach} {S:List Nat} {p s m:Nat} {key:List (Int ⊕ Str)}:hitK M S p s (m+1) key↔hitK M S p s m key∨(mv M s (m+1)∈S∧key=neKey p (m+1)):=by
  constructor
  · rintro ⟨a,h1,h2,h3⟩
    by_cases e:a=m+1
    · subst e; exact .inr h3
    · exact .inl ⟨a,h1,Nat.le_of_lt_succ (Nat.lt_of_le_of_ne h2 e),h3⟩
  · rintro (⟨a,h1,h2,h3⟩ | h)
    · exact ⟨a,h1,Nat.le_trans h2 (Nat.le_add_right _ _),h3⟩
    · exact ⟨m+1,Nat.le_add_left _ _,Nat.le_refl _,h⟩
theorem bAr {p:Nat} (hp:p≤2):Builtin.Range.small ((p:Int) - 1) (-1) (-1)=true∧Builtin.Range.rangeSize ((p:Int) - 1) (-1) (-1)=(p:Nat)∧Builtin.divisionGoesByPylong (-1 - ((p:Int) - 1)) (-1)=false:=by
  revert p; decide +kernel
section
variable {G:Cx} {n:Nat} {H:AHeap} {Q:AV→AHeap→Prop} {R:RA} {M:Mach}
theorem aFa {o:AV} {s:Nat} {l:List Nat} (he:IsL H o (l.map natAV)) (h:Q (.val (.bool (decide (s∈l)))) H):Bin G n (compareOp .In) (natAV s) o H Q:=by
  rw [aAy] at he
  refine aQi he ?_
  have:((l.map fun k=>((k:Nat):Int)).any fun x=>x == (s:Int))=decide (s∈l):=by
    rw [Bool.eq_iff_iff]
    simp only [List.any_map,List.any_eq_true,decide_eq_true_eq,Function.comp,beq_iff_eq]
    constructor
    · rintro ⟨x,hx,e⟩
      have:x=s:=om76 e
      exact this ▸ hx
    · exact fun hx=>⟨s,hx,rfl⟩
  rw [this]; exact h
noncomputable def bDs (H:AHeap) (R:RA) (M:Mach) (an:Addr) (rs:List (Nat→Bool)) (spot:Nat) (some_:List Nat) (keys:List (List (Int ⊕ Str))) (j:Nat) (L':LS) (H':AHeap):Prop:=∀ P:LS→Prop,(∀ (e1:HBut [an] H H') (S:List Nat) (keys':List (List (Int ⊕ Str))) (z1:Option AV) (z2:Option AV) (z3:Option AV) (z4:Option AV) (e2:(∀ s,s∈S↔unS M (alF rs) spot (·∈some_) j s)) (e3:H' an=some (.tdict keys')) (e4:KeysOk keys') (e5:(∀ key,key∈keys'↔key∈keys∨unK M (alF rs) spot (·∈some_) j key)),P [some (.val (.ref R.rg)),some (laysV M rs),some (natAV spot),some (nV S),some (.val (.ref an)),z1,z2,z3,z4])→P L'
noncomputable def aZj (H:AHeap) (R:RA) (M:Mach) (an:Addr) (rs:List (Nat→Bool)) (spot:Nat) (j:Nat) (S:List Nat) (keys1:List (List (Int ⊕ Str))) (E:Addr) (g:Nat→Bool) (i:Nat) (L':LS) (H':AHeap):Prop:=∀ P:LS→Prop,(∀ (e1:HBut [an] H H') (early:List Nat) (keys':List (List (Int ⊕ Str))) (z3:Option AV) (z4:Option AV) (e2:H' E=some (.list (early.map natAV))) (e3:early.length≤3 * i) (e4:(∀ t,t∈early↔1≤t∧t≤i∧g t=false∧hitP M S t M.letters)) (e5:H' an=some (.tdict keys')) (e6:KeysOk keys') (e7:(∀ key,key∈keys'↔key∈keys1∨∃ t,1≤t∧t≤i∧g t=true∧hitK M S (spot - 1 - j) t M.letters key)),P [some (.val (.ref R.rg)),some (laysV M rs),some (natAV spot),some (nV S),some (.val (.ref an)),some (natAV (spot - 1 - j)),some (.val (.ref E)),z3,z4])→P L'
noncomputable def aZi (H:AHeap) (R:RA) (M:Mach) (an:Addr) (rs:List (Nat→Bool)) (spot:Nat) (j:Nat) (S:List Nat) (E:Addr) (g:Nat→Bool) (i:Nat) (early:List Nat) (keys2:List (List (Int ⊕ Str))) (m:Nat) (L':LS) (H':AHeap):Prop:=∀ P:LS→Prop,(∀ (e1:HBut [an] H H') (early':List Nat) (keys':List (List (Int ⊕ Str))) (z4:Option AV) (e2:H' E=some (.list (early'.map natAV))) (e3:early'.length≤3 * i+m) (e4:(∀ t,t∈early'↔t∈early∨(t=i+1∧g t=false∧hitP M S t m))) (e5:H' an=some (.tdict keys')) (e6:KeysOk keys') (e7:(∀ key,key∈keys'↔key∈keys2∨(g (i+1)=true∧hitK M S (spot - 1 - j) (i+1) m key))),P [some (.val (.ref R.rg)),some (laysV M rs),some (natAV spot),some (nV S),some (.val (.ref an)),some (natAV (spot - 1 - j)),some (.val (.ref E)),some (natAV (i+1)),z4])→P L'
theorem aGm (ok:MOk M) (x:RegAt H R M) {an:Addr} {rs:List (Nat→Bool)} {spot:Nat} {some_:List Nat} {keys:List (List (Int ⊕ Str))} (hrl:rs.length=M.many+1) (hsp:spot < M.many) (hn:H an=some (.tdict keys)) (hko:KeysOk keys)
    (h:∀ H' keys',HBut [an] H H'→H' an=some (.tdict keys')→KeysOk keys'→(∀ key,key∈keys'↔key∈keys∨unK M (alF rs) spot (·∈some_) spot key)→Q .none H') :
    CW G (n+2) (.ref 365) [.val (.ref R.rg),laysV M rs,natAV spot,nV some_,.val (.ref an)] H Q:=by
  have hm2:=ok.m2
  have hl2:=ok.l2
  have hs2:=ok.s2
  obtain ⟨d1,d2,d3⟩:=bAr (p:=spot) (Nat.le_of_lt_succ (Nat.lt_of_lt_of_le hsp hm2))
  refine aDq (aYe (by decide) d3 (aRm d1 d2 ⟨_,SrcQ.refl _ _,?_⟩))
  refine fvi (bDs H R M an rs spot some_ keys)
    (fun _ κ=>κ ((HLe.refl H).but) some_ keys _ _ _ _ (fun s=>Iff.rfl) hn hko (fun key=>⟨.inl,fun z=>z.elim id fun zz=>by obtain ⟨j,s,a,hj,_⟩:=zz; exact (om212 hj).elim⟩)) ?_ ?_
  · intro j v L H1 hv hJ; apply hJ; intro hb1 S keys1 z1 z2 z3 z4 hS en1 hk1 hk2
    obtain ⟨hj,rfl⟩:j < spot∧v=natAV (spot - 1 - j):=by
      simp only [rngL,List.getElem?_map,Option.map_eq_some_iff] at hv
      obtain ⟨j',ej,rfl⟩:=hv
      obtain ⟨hlt,ej⟩:=List.getElem?_eq_some_iff.mp ej
      simp at hlt ej
      subst ej
      exact ⟨hlt,congrArg AV.int (om211 hlt)⟩
    refine ⟨trivial,fun E hE=>?_⟩
    have nE:E≠an:=fun z=>by rw [z,en1] at hE; cases hE
    have hEH:H E=none:=hb1.fresh hE
    have hg:rs[spot - 1 - j]?=some (alF rs (spot - 1 - j)):=aJr (om210 hrl hsp)
    generalize hgd:alF rs (spot - 1 - j)=g at hg
    refine aBd (x.out hn (hb1.setf hEH)) (rngS ok.s2 (fvr1 (aZj H R M an rs spot j S keys1 E g)
        (fun _ κ=>κ (hb1.setf hEH) [] keys1 _ _ AHeap.set_same (by simp) (fun t=>⟨(nomatch ·),fun z=>(om209 z.1 z.2.1).elim⟩) (HLe.new hE _ _ en1) hk1 (fun key=>⟨.inl,fun z=>z.elim id fun zz=>by obtain ⟨t,h1,h2,_⟩:=zz; exact (om209 h1 h2).elim⟩)) ?_ ?_))
    · intro i L H2 hi hJ; apply hJ; intro hb2 early keys2 z3 z4 eE2 hll2 hear en2 hko2 hkeys
      refine aCq (x.out hn hb2) (rngS ok.l2 (fvr1 (aZi H R M an rs spot j S E g i early keys2)
          (fun _ κ=>κ hb2 early keys2 _ eE2 hll2 (fun t=>⟨.inl,fun z=>z.elim id fun zz=>by obtain ⟨_,_,a,h1,h2,_⟩:=zz; exact absurd h1 (Nat.not_le_of_lt (ltL h2 rfl))⟩) en2 hko2 (fun key=>⟨.inl,fun z=>z.elim id fun zz=>by obtain ⟨_,a,h1,h2,_⟩:=zz; exact absurd h1 (Nat.not_le_of_lt (ltL h2 rfl))⟩)) ?_ ?_))
      · intro m L H3 hm hJ; apply hJ; intro hb3 early3 keys3 z4 eE3 hll3 hear3 en3 hko3 hkeys3
        have x3:=x.out hn hb3
        refine aFk ok x3 ⟨Nat.le_add_left _ _,Nat.succ_le_of_lt hi⟩ (Nat.le_add_left _ _) (Nat.succ_le_of_lt hm) ?_
        refine aFa .frz (tb (fun hin=>aDf hg (eqLe hrl (Nat.succ_le_succ (leL hm2 rfl))) (aCu ok (Nat.succ_le_of_lt hi) ?_)) (fun hin=>fun _ κ=>κ hb3 early3 keys3 _ eE3 (Nat.le_trans hll3 (Nat.le_succ _)) (fun t=>?_) en3 hko3 (fun key=>?_)))
        · have hin':=of_decide_eq_true hin
          refine tb (fun hgt=>aRc ok x3 en3 hko3 (Nat.lt_of_le_of_lt (Nat.sub_le _ _) (Nat.lt_of_le_of_lt (Nat.sub_le _ _) hsp)) (fun _ κ=>κ (hb3.set (.head _)) early3 (aBh keys3 (neKey (spot - 1 - j) (m+1))) _ ((AHeap.set_ne nE).trans eE3) (Nat.le_trans hll3 (Nat.le_succ _)) (fun t=>?_) AHeap.set_same (hko3.put (Nat.lt_of_lt_of_le (Nat.lt_of_le_of_lt (Nat.sub_le _ _) (Nat.lt_of_le_of_lt (Nat.sub_le _ _) hsp)) hm2) (Nat.le_add_left _ _) (Nat.le_trans (Nat.succ_le_of_lt hm) hl2)) (fun key=>?_))) (fun hgt=>aAg eE3 (aAj eE3 (by rw [List.length_map]; exact om208 hl2 hs2 hi hm hll3) (fun _ κ=>κ (hb3.setf hEH) (early3 ++ [i+1]) keys3 _ (by rw [AHeap.set_same,List.map_append]; rfl) (by simp; exact Nat.succ_le_succ hll3) (fun t=>?_) ((AHeap.set_ne (Ne.symm nE)).trans en3) hko3 (fun key=>?_))))
          · rw [hear3]
            refine or_congr Iff.rfl ⟨fun z=>?_,fun z=>?_⟩
            · exact ⟨z.1,z.2.1,hitP_succ.mpr (.inl z.2.2)⟩
            · obtain ⟨rfl,z2,_⟩:=z
              rw [hgt] at z2; cases z2
          · rw [mem_keyPut,hkeys3,aNa,or_assoc]
            simp only [hgt,true_and,hin']
          · rw [List.mem_append,List.mem_singleton,hear3,or_assoc]
            refine or_congr Iff.rfl ⟨fun z=>?_,fun z=>?_⟩
            · rcases z with z | rfl
              · exact ⟨z.1,z.2.1,hitP_succ.mpr (.inl z.2.2)⟩
              · exact ⟨rfl,hgt,hitP_succ.mpr (.inr hin')⟩
            · exact .inr z.1
          · rw [hkeys3]
            refine or_congr Iff.rfl ⟨fun z=>?_,fun z=>?_⟩
            · rw [hgt] at z; exact absurd z.1 (by decide)
            · rw [hgt] at z; exact absurd z.1 (by decide)
        · have hin':=of_decide_eq_false hin
          rw [hear3]
          refine or_congr Iff.rfl ⟨fun z=>⟨z.1,z.2.1,hitP_succ.mpr (.inl z.2.2)⟩,fun z=>?_⟩
          obtain ⟨rfl,z2,z3⟩:=z
          exact ⟨rfl,z2,(hitP_succ.mp z3).resolve_right hin'⟩
        · have hin':=of_decide_eq_false hin
          rw [hkeys3,aNa]
          refine or_congr Iff.rfl ⟨fun z=>⟨z.1,.inl z.2⟩,fun z=>⟨z.1,z.2.resolve_right fun y=>hin' y.1⟩⟩
      · intro L H3 hJ; apply hJ; intro hb3 early3 keys3 z4 eE3 hll3 hear3 en3 hko3 hkeys3
        refine fun _ κ=>κ hb3 early3 keys3 _ _ eE3 (Nat.le_trans hll3 (Nat.add_le_add (Nat.le_refl _) hl2)) (fun t=>?_) en3 hko3 (fun key=>?_)
        · rw [hear3,hear]
          constructor
          · rintro (⟨h1,h2,h3⟩ | ⟨rfl,h2⟩)
            · exact ⟨h1,Nat.le_trans h2 (Nat.le_add_right _ _),h3⟩
            · exact ⟨Nat.le_add_left _ _,Nat.le_refl _,h2⟩
          · rintro ⟨h1,h2,h3⟩
            by_cases e:t=i+1
            · exact .inr ⟨e,h3⟩
            · exact .inl ⟨h1,Nat.le_of_lt_succ (Nat.lt_of_le_of_ne h2 e),h3⟩
        · rw [hkeys3,hkeys,or_assoc]
          refine or_congr Iff.rfl ?_
          constructor
          · rintro (⟨t,h1,h2,h3⟩ | h3)
            · exact ⟨t,h1,Nat.le_trans h2 (Nat.le_add_right _ _),h3⟩
            · exact ⟨i+1,Nat.le_add_left _ _,Nat.le_refl _,h3⟩
          · rintro ⟨t,h1,h2,h3⟩
            by_cases e:t=i+1
            · subst e; exact .inr h3
            · exact .inl ⟨t,h1,Nat.le_of_lt_succ (Nat.lt_of_le_of_ne h2 e),h3⟩
    · intro L H2 hJ; apply hJ; intro hb2 early keys2 z3 z4 eE2 hll2 hear en2 hko2 hkeys
      refine aEf (.own eE2) (fun t ht=>by have:=(hear t).mp ht; exact Nat.le_trans this.2.1 (leL hs2 rfl)) (om207 hs2 hll2) fun D l' hD hp hm=>⟨D,_,rfl,AHeap.set_same,?_⟩
      have hDn:H D=none:=hb2.fresh hD
      have nD:an≠D:=fun z=>by rw [← z,en2] at hD; cases hD
      refine fun _ κ=>κ ((hb2.setf hDn).setf hDn) l' keys2 _ _ _ _ (fun t=>?_) ((AHeap.set_ne nD).trans ((AHeap.set_ne nD).trans en2)) hko2 (fun key=>?_)
      · rw [hm,hear]
        refine and_congr Iff.rfl (and_congr Iff.rfl (and_congr (by rw [hgd]) ⟨?_,?_⟩))
        · rintro ⟨a,h1,h2,h3⟩; exact ⟨a,h1,h2,(hS _).mp h3⟩
        · rintro ⟨a,h1,h2,h3⟩; exact ⟨a,h1,h2,(hS _).mpr h3⟩
      · rw [hkeys,hk2,or_assoc]
        refine or_congr Iff.rfl ?_
        constructor
        · rintro (⟨j',s,a,h1,h2⟩ | ⟨s,h1,h2,h3,a,h4,h5,h6,h7⟩)
          · exact ⟨j',s,a,om206 h1,h2⟩
          · exact ⟨j,s,a,om205,h1,h2,by rw [hgd]; exact h3,h4,h5,(hS _).mp h6,h7⟩
        · rintro ⟨j',s,a,h0,h1,h2,h3,h4,h5,h6,h7⟩
          by_cases hj':j'=j
          · subst hj'
            exact .inr ⟨s,h1,h2,by rw [hgd] at h3; exact h3,a,h4,h5,(hS _).mpr h6,h7⟩
          · exact .inl ⟨j',s,a,om204 h0 hj',h1,h2,h3,h4,h5,h6,h7⟩
  · intro L H1 hJ; apply hJ; intro hb1 S keys1 z1 z2 z3 z4 hS en1 hk1 hk2
    rw [show (rngL ((spot:Int) - 1) (-1) spot).length=spot by simp [rngL]] at hk2
    exact ⟨trivial,h _ keys1 hb1 en1 hk1 hk2⟩
end
end
section
variable {prog:Program} {w:World} {A:Around} {E:Value→Shared→Prop} {s:Shared}
theorem aXj {vs:List Value} {p:Array Nat} (h:OkP vs.length p):(p.toList.map fun i=>vs.getD i Value.none).Perm vs:=by
  have h1:p.toList.Perm (List.range vs.length):=h.toList
  have h2:=h1.map fun i=>vs.getD i Value.none
  have h3:(List.range vs.length).map (fun i=>vs.getD i Value.none)=vs:=by
    apply List.ext_getElem
    · simp
    · intro i a b
      simp [List.getElem?_eq_getElem b]
  rwa [h3] at h2
theorem bGi {a:Addr} {vs:List Value} {n:Nat} {P:PySem.Fin→Shared→Prop} (ho:s.heap.get? a=some (seqObj "list" vs.toArray n)) (h64:vs.length < 64)
    (hk:2≤vs.length→∀ h':Heap,(∀ b o,b≠a→s.heap.get? b=some o→h'.get? b=some o)→wpAny (model prog w) A (keyKind' vs.toArray) (fun κ s'=>s'={ s with heap:=h' }∧∀ i j C,i < vs.length→j < vs.length→(∀ b,C b s')→kas_ask prog w A κ vs i j C s') (fun _ _=>False) { s with heap:=h' })
    (h:∀ (out:List Value) h' c,out.Perm vs→h'.get? a=some (seqObj "list" out.toArray c)→(∀ b o,b≠a→s.heap.get? b=some o→h'.get? b=some o)→P (.done (.ret .none)) { s with heap:=h' }) :
    wpAny (model prog w) A (Builtin.«list.sort» ⟨[.ref a],[]⟩) P E s:=by
  rw [list_sort_plain]
  have ha:a < s.heap.objs.size:=Heap.lt_size ho
  have hsz:vs.toArray.size=vs.length:=List.size_toArray
  refine wpAny_bind (listItems_at ho rfl ?_)
  refine wpAny_bind (listUpdate_at ho rfl ?_ (by rw [hsz,sizeLine_eq]; exact om214 h64) (Nat.zero_le _))
  obtain ⟨e1,ho1⟩:∃ e1,(s.heap.update a (Obj.mapSeq fun _=>#[])).get? a=some (seqObj "list" #[] e1):=⟨_,get?_update_seq ho (fun _=>#[])⟩
  refine wpAny_bind (seqEpoch_at ho1 rfl ?_)
  refine wpAny_bind (wpAny_newTuple ?_ (by show vs.length≤_; rw [sizeLine_eq]; exact om214 h64))
  refine wpAny_bind (wpAny_newList ?_ (Nat.zero_le _))
  refine wpAny_holding ?_
  generalize eh:((s.heap.update a (Obj.mapSeq fun _=>#[])).push (seqObj "tuple" vs.toArray 0)).push (seqObj "list" #[] 0)=h1
  have ho6:h1.get? a=some (seqObj "list" #[] e1):=by
    rw [← eh]; exact Heap.get?_push_of_some _ (Heap.get?_push_of_some _ ho1)
  have kp:∀ b o,b≠a→s.heap.get? b=some o→h1.get? b=some o:=fun b o hb e=>by
    rw [← eh]; exact Heap.get?_push_of_some _ (Heap.get?_push_of_some _ ((Heap.get?_update_ne _ _ _ _ hb).trans e))
  show wpAny (model prog w) A _ P E { s with heap:=h1 }
  dsimp only
  have fin:∀ (st':SortSt) (p:Array Nat),OkP vs.length p→(arrOf st').map (·.2)=List.toArray (p.toList.map fun i=>vs.getD i Value.none)→failedOf st'=none →
      wpAny (model prog w) A (do
        let touched:=(← seqEpoch a) != e1
        Builtin.List.listUpdate (.ref a) fun _=>(arrOf st').map (·.2)
        if let some e:=failedOf st' then rule "list.sort.comparison-raised"; throw e
        if touched then rule "list.sort.modified"; raiseError "ValueError" "list modified during sort"
        ret .none) P E { s with heap:=h1 }:=fun st' p hp hout hf=>by
    have hperm:=aXj hp
    refine wpAny_bind (seqEpoch_at ho6 rfl ?_)
    refine wpAny_bind (listUpdate_at ho6 rfl ?_ (Nat.zero_le _) (by rw [hout,List.size_toArray,hperm.length_eq,sizeLine_eq]; exact om218 h64))
    rw [hf]
    simp only [bne_self_eq_false,Bool.false_eq_true,if_false]
    rw [hout]
    exact wpAny_pure (h _ _ _ hperm (get?_update_seq ho6 fun _=>_) fun b o hb e=>(Heap.get?_update_ne _ _ _ _ hb).trans (kp b o hb e))
  by_cases h2:vs.toArray.size < 2
  · rw [if_pos h2,if_pos h2]
    refine wpAny_bind (wpAny_pure ?_)
    rw [StateT.run_pure]
    refine wpAny_bind (wpAny_pure ?_)
    refine fin _ (List.toArray (List.range vs.length)) (Array.Perm.refl _) (kat_snds (ks:=vs) rfl ?_) rfl
    have e:=kas_range (vs.toArray.zip vs.toArray)
    rw [show (vs.toArray.zip vs.toArray).size=vs.length by simp] at e
    exact e.symm
  · rw [if_neg h2,if_neg h2]
    have h2':2≤vs.length:=om217 h2
    refine wpAny_bind (wpAny_mono (hk h2' h1 kp) (fun κ s0 ⟨e0,hc⟩=>?_) fun _ _ x=>x.elim)
    subst e0
    refine wpAny_bind (wpAny_mono (kat_run (ks:=vs) (Q:=fun st' s'=>s'={ s with heap:=h1 }∧∃ p:Array Nat,OkP vs.length p∧arrOf st'=p.map (kas_item (vs.toArray.zip vs.toArray))∧failedOf st'=none) (G:=fun p s'=>s'={ s with heap:=h1 }∧OkP vs.length p)
      rfl h2' h64 (fun p' st' s' a1 a2 a3 a4=>⟨a4.1,p',a4.2,a2,a3⟩) (lv_wp hc (fun p hp=>⟨rfl,hp⟩) (bGg (om216 h2)))) ?_ fun _ _ e=>e)
    rintro ⟨⟨⟩,st'⟩ s' ⟨rfl,p,hp,har,hf⟩
    exact fin st' p hp (kat_snds rfl har) hf
end
theorem bAx {α β:Type} {f:α→β} {a b:List β} (h:a.Perm b):∀ {l:List α},b=l.map f→∃ l':List α,l'.Perm l∧a=l'.map f:=by
  induction h with
  | nil =>
    intro l e
    cases l with
    | nil=>exact ⟨[],.nil,rfl⟩
    | cons x l=>cases e
  | cons x _ ih =>
    intro l e
    cases l with
    | nil=>cases e
    | cons y l =>
      simp only [List.map_cons,List.cons.injEq] at e
      obtain ⟨l',h1,h2⟩:=ih e.2
      exact ⟨y :: l',h1.cons y,by rw [h2,e.1]; rfl⟩
  | swap x y l =>
    intro m e
    cases m with
    | nil=>cases e
    | cons p m =>
      cases m with
      | nil=>cases e
      | cons q m =>
        simp only [List.map_cons,List.cons.injEq] at e
        exact ⟨q :: p :: m,.swap p q m,by rw [e.1,e.2.1,e.2.2]; rfl⟩
  | trans _ _ ih1 ih2 =>
    intro l e
    obtain ⟨l2,h2,e2⟩:=ih2 e
    obtain ⟨l1,h1,e1⟩:=ih1 e2
    exact ⟨l1,h1.trans h2,e1⟩
noncomputable def KeyAt (h:Heap) (v:Value):Prop:=∃ (b:Addr) (p c:Int) (t1 t2 t3:Tok) (k:Nat),v=.ref b∧h.get? b=some (tupO [.int p t1,.str "!=" t2,.int c t3] k)
theorem bKk {H:AHeap} {h:Heap} {x a:Nat} {b:Addr} (r:VR H h (.tup ((neKey x a).map dkAV)) (.ref b)):KeyAt h (.ref b):=by
  refine VR.tl r fun _ _ _ e q rs=>?_
  ·
    cases rs with
    | cons r1 rs =>
      cases rs with
      | cons r2 rs =>
        cases rs with
        | cons r3 rs =>
          cases rs
          cases r1; cases r2; cases r3
          exact ⟨_,_,_,_,_,_,_,rfl,e⟩
theorem aWq {h:Heap} {vs:List Value} (k:∀ v∈vs,KeyAt h v):∃ fs:List Value,KatTups h vs fs∧fs.length=vs.length∧∀ f∈fs,∃ i t,f=Value.int i t:=by
  induction vs with
  | nil=>exact ⟨[],.nil,rfl,fun _ m=>nomatch m⟩
  | cons v vs ih =>
    obtain ⟨fs,h1,h2,h3⟩:=ih fun v m=>k v (.tail _ m)
    obtain ⟨b,p,c,t1,t2,t3,n,rfl,e⟩:=k v (.head _)
    exact ⟨.int p t1 :: fs,.cons e rfl rfl rfl h1,congrArg (· + 1) h2,fun f m=>(List.mem_cons.mp m).elim (fun z=>⟨_,_,z⟩) (h3 f)⟩
section
variable {prog:Program} {w:World} {A:Around} {E:Value→Shared→Prop} {s:Shared}
theorem bGn {u v:Value} {Q:Bool→Shared→Prop} (hu:KeyAt s.heap u) (hv:KeyAt s.heap v) (h:∀ b,Q b s):wpAny (model prog w) A (keyLt' (tuples' true) u v) Q E s:=by
  obtain ⟨b,p,c,t1,t2,t3,n,rfl,e⟩:=hu
  obtain ⟨b',p',c',t1',t2',t3',n',rfl,e'⟩:=hv
  refine kat_lt e rfl e' rfl ?_
  refine kat_cons (wpAny_eqBool_int (kat_go (fun _=>kat_yes ?_) fun _=>kat_no (oneLt_int (h _))))
  refine kat_cons (wpAny_eqBool_str (kat_go (fun _=>kat_yes ?_) fun z=>by simp at z))
  refine kat_cons (wpAny_eqBool_int (kat_go (fun _=>kat_yes (kat_nil (h _))) fun _=>kat_no (kat_one _ _ (PySem.P.lt_int (h _)))))
theorem aWr {vs:List Value} {h':Heap} (h2:2≤vs.length) (k:∀ v∈vs,KeyAt h' v):wpAny (model prog w) A (keyKind' vs.toArray) (fun κ s'=>s'={ s with heap:=h' }∧∀ i j C,i < vs.length→j < vs.length→(∀ b,C b s')→kas_ask prog w A κ vs i j C s') (fun _ _=>False) { s with heap:=h' }:=by
  obtain ⟨fs,h1,hl,h3⟩:=aWq k
  have at_:∀ i,i < vs.length→KeyAt h' (vs.getD i Value.none):=fun i hi=>by
    rw [List.getD_eq_getElem?_getD,List.getElem?_eq_getElem hi]
    exact k _ (List.getElem_mem hi)
  refine kat_kind (T:=.type "int") h1 (om215 h2 hl) (fun f m=>?_) (by decide) ⟨rfl,fun i j C hi hj hC=>?_⟩
  · obtain ⟨i,t,rfl⟩:=h3 f m
    exact .now
  · exact bGn (s:={ s with heap:=h' }) (at_ i hi) (at_ j hj) hC
theorem aSr {a:Addr} {es:Array DictEntry} {ep:Nat} {Q:Value→Shared→Prop} (lo:(a == sysModules)=false) (hh:A.handled=none) (hm:RawD s.heap a es ep) (hn:es.size < 64)
    (hk:∀ (i:Nat) (e:DictEntry),es[i]?=some e→KeyAt s.heap e.key)
    (h:∀ (D:Addr) (out:List Value) h' tk c,s.heap.get? D=none→out.Perm (es.toList.map (·.key))→h'.get? D=some (lstO out c)→(∀ b o,s.heap.get? b=some o→h'.get? b=some o)→Q (.ref D) { s with heap:=h',toks:=tk }) :
    wpAny (model prog w) A (call (.builtin "sorted") [.ref a]) Q E s:=by
  refine call_function_entry kind_sorted plain_sorted entry_sorted (args_sorted1 _) ?_
  unfold Builtin.«sorted»
  refine wpAny_bind (m:=checkCount "sorted" 1 1 _) (wpAny_pure ?_)
  refine wpAny_bind (kdu_collect (A:=A.in1) (bGd lo) hh hm (by rw [sizeLine_eq]; exact om214 hn) fun h1 tk acc k1 hacc=>?_)
  have hl:acc.toList=es.toList.map (·.key):=by
    apply List.ext_getElem?
    intro i
    rw [List.getElem?_map,Array.getElem?_toList,Array.getElem?_toList]
    cases q:acc[i]? with
    | none =>
      have:acc.size≤i:=by simpa using q
      rw [hacc.1] at this
      rw [Array.getElem?_eq_none this]; rfl
    | some v =>
      obtain ⟨e,e1,e2⟩:=hacc.2 i v q
      rw [e1,e2]; rfl
  have hlen:acc.toList.length=es.size:=by rw [hl,List.length_map,Array.length_toList]
  refine wpAny_bind (wpAny_newList ?_ (by rw [hlen,sizeLine_eq]; exact om214 hn))
  have k2:=aAb h1 { cls:=.type "list",data:=.seq acc.toList.toArray }
  have hD:(h1.push { cls:=.type "list",data:=.seq acc.toList.toArray }).get? h1.objs.size=some (seqObj "list" acc.toList.toArray 0):=Heap.get?_push_size _ rfl
  have nD:s.heap.get? h1.objs.size=none:=by
    cases q:s.heap.get? h1.objs.size with
    | none=>rfl
    | some o=>have:=k1 _ _ q; rw [aAa] at this; cases this
  refine wpAny_bind (wpAny_holding (wpAny_call_entry (s:={ s with heap:=h1.push { cls:=.type "list",data:=.seq acc.toList.toArray },toks:=tk }) slot_list_sort ⟨_,hD,rfl⟩ entry_list_sort
    (bGi hD (by rw [hlen]; exact hn) (fun h2 h' kp=>aWr h2 fun v m=>?_) fun out h' c hp e kp=>⟨_,rfl,wpAny_pure ⟨_,rfl,h _ out h' tk c nD (by rw [← hl]; exact hp) e fun b o q=>kp b o (fun z=>by rw [z,nD] at q; cases q) (k2 b o (k1 b o q))⟩⟩) (args_list_sort _)))
  rw [hl] at m
  refine aCm m fun e me=>?_
  obtain ⟨i,hi,ei⟩:=List.mem_iff_getElem.mp me
  obtain ⟨b,p,q,t1,t2,t3,kk,z,g⟩:=hk i e (by rw [← Array.getElem?_toList,List.getElem?_eq_getElem hi,ei])
  exact ⟨b,p,q,t1,t2,t3,kk,z,kp _ _ (fun y=>by rw [y,nD] at g; cases g) (k2 _ _ (k1 _ _ g))⟩
end
section
variable {G:Cx} {n:Nat} {H:AHeap} {Q:AV→AHeap→Prop}
theorem aZy {h:Heap} {xs:List (List (Int ⊕ Str) × Addr × Value)}:(∀ x∈xs,VR H h (.tup (x.1.map dkAV)) (.ref x.2.1))→VRs H h ((xs.map (·.1)).map fun k=>.tup (k.map dkAV)) (xs.map fun x=>.ref x.2.1):=by
  induction xs with
  | nil=>exact fun _=>.nil
  | cons x xs ih=>exact fun k=>.cons (k x (.head _)) (ih fun y m=>k y (.tail _ m))
theorem aIx {a:Addr} {keys:List (List (Int ⊕ Str))} (he:H a=some (.tdict keys)) (hk:KeysOk keys) (h:∀ (D:Addr) (keys':List (List (Int ⊕ Str))),H D=none→keys'.Perm keys→Q (.val (.ref D)) (H.set D (.list (keys'.map fun k=>.tup (k.map dkAV))))):CW G n (.builtin "sorted") [.val (.ref a)] H Q:=fun A s E vs ao I r=>by
  cases r with
  | cons r rs =>
  cases rs
  cases r
  have hlen:=hk.len
  obtain ⟨xs,⟨o,es,ep,e,d1,d2,d3,d4,d5⟩,rfl,hx,hs⟩:=I.obj _ _ he
  have hsz:es.size=xs.length:=size_of_entries d3
  rw [List.length_map] at hlen
  refine aSr (beq_false_of_ne hs) ao.hd ⟨o,e,d1,d2⟩ (om213 hlen hsz) (fun i en ei=>?_) fun D out h' tk c nD hp eD kp=>?_
  · rw [entry_at d3] at ei
    obtain ⟨x,ex,rfl⟩:=Option.map_eq_some_iff.mp ei
    have hm:=List.mem_of_getElem? ex
    obtain ⟨p,q,_,_,_,ek⟩:=hk.2 x.1 (List.mem_map.mpr ⟨x,hm,rfl⟩)
    have:=hx x hm
    rw [ek] at this
    exact bKk this
  · rw [d3,List.map_map] at hp
    obtain ⟨xs',hp',rfl⟩:=bAx hp rfl
    have X:=aBj (o':=.list ((xs'.map (·.1)).map fun k=>.tup (k.map dkAV))) I nD kp
    exact ⟨.ref D,_,.val _,⟨aBo (o':=.list ((xs'.map (·.1)).map fun k=>.tup (k.map dkAV))) I nD kp ⟨_,c,eD,aZy fun x m=>(hx x (hp'.mem_iff.mp m)).mono X.mon⟩,X,Sm.mk s h' tk⟩,h D (xs'.map (·.1)) (I.fresh nD) (hp'.map _)⟩
end
section
variable {G:Cx} {n:Nat} {H:AHeap} {Q:AV→AHeap→Prop} {R:RA} {M:Mach} {F:SA} {S:SSt}
noncomputable def aEy (S:SSt) (x:Nat):Dom:=S.firsts.getD x []
noncomputable def WhyQ (S:SSt) (P:List (Int ⊕ Str)→Prop) (why:List Lit):Prop:=∀ l,l∈why↔∃ x a,P (neKey x a)∧aAw (aEy S x) (a:Nat)=some ((a:Nat):Int)∧l=⟨(x:Nat),.ne,(a:Nat)⟩
noncomputable def WhyOk (S:SSt) (keys:List (List (Int ⊕ Str))) (why:List Lit):Prop:=WhyQ S (·∈keys) why
noncomputable def aZh (H:AHeap) (F:SA) (S:SSt) (D:Addr) (keys':List (List (Int ⊕ Str))) (i:Nat) (acc:List AV) (L':LS) (H':AHeap):Prop:=∀ P:LS→AHeap→Prop,(∀ (e2:(∃ why,acc=why.map litAV∧why.length≤i∧WhyOk S (keys'.take i) why)) a b,P [a,b,some (.val (.ref F.st))] (H.set D (.list (keys'.map fun k=>.tup (k.map dkAV)))))→P L' H'
theorem aGc (x:StoreAt H F S) {rg:AV} {an:Addr} {keys:List (List (Int ⊕ Str))} (hn:H an=some (.tdict keys)) (hko:KeysOk keys) (hx:∀ p a,neKey p a∈keys→p < S.firsts.length) (hfl:S.firsts.length≤100)
    (h:∀ H' why,HLe H H'→why.length≤12→WhyOk S keys why→Q (aBg why) H') :
    CW G (n+3) (.ref 370) [rg,.val (.ref F.st),.val (.ref an)] H Q:=by
  refine aGj (aIx hn hko fun D keys' hD hp=>?_)
  have x1:=x.le (HLe.new hD (o:=.list (keys'.map fun k=>.tup (k.map dkAV))))
  have hkl:=hko.len
  have hpl:=hp.length_eq
  refine aBi (.own AHeap.set_same) (cvi (aZh H F S D keys') (fun _ κ=>κ ⟨[],rfl,Nat.zero_le _,fun l=>⟨(nomatch ·),fun z=>by obtain ⟨_,_,h,_⟩:=z; simp at h⟩⟩ _ _) ?_ ?_)
  · intro i v acc L H1 hv hJ; apply hJ; rintro ⟨why,rfl,hwl,hw⟩ a b
    refine aAu hv fun key ek=>?_
    have hil:=(List.getElem?_eq_some_iff.mp ek).1
    obtain ⟨p,c,h1,h2,h3,rfl⟩:=hko.2 key (hp.mem_iff.mp (List.mem_of_getElem? ek))
    have hpf:=hx p c (hp.mem_iff.mp (List.mem_of_getElem? ek))
    have hd:S.firsts[p]?=some (aEy S p):=by
      rw [List.getElem?_eq_getElem hpf,aEy,List.getD_eq_getElem?_getD,List.getElem?_eq_getElem hpf]; rfl
    have hT:keys'.take (i+1)=keys'.take i ++ [neKey p c]:=by rw [List.take_add_one,ek]; rfl
    refine ⟨AHeap.set_same,aAe x1.inst x1.attrs (by kernel_rfl!) (by kernel_rfl!:meB G.w 265 "initial" 157=true) (aAp (k:=0) rfl rfl (aYt (i:=p) x1 hd hfl (aAp (k:=2) rfl rfl (c_has (v:=(c:Nat)) (tb (fun hin=>⟨by rw [List.length_map]; exact om219 hkl hpl hwl hil,fun _ κ=>κ ⟨why ++ [⟨(p:Nat),.ne,(c:Nat)⟩],?_,?_,fun l=>?_⟩ _ _⟩) (fun hin=>fun _ κ=>κ ⟨why,rfl,Nat.le_trans hwl (Nat.le_add_right _ _),fun l=>?_⟩ _ _))))))⟩
    · rw [List.map_append]; rfl
    · simp; exact hwl
    · rw [List.mem_append,List.mem_singleton,hw l,hT]
      constructor
      · rintro (⟨y,e,m,r⟩ | rfl)
        · exact ⟨y,e,List.mem_append_left _ m,r⟩
        · exact ⟨p,c,List.mem_append_right _ (.head _),of_decide_eq_true hin,rfl⟩
      · rintro ⟨y,e,m,r1,r2⟩
        rcases List.mem_append.mp m with m | m
        · exact .inl ⟨y,e,m,r1,r2⟩
        · obtain ⟨rfl,rfl⟩:=aBu (List.mem_singleton.mp m)
          exact .inr r2
    · rw [hw l,hT]
      constructor
      · rintro ⟨y,e,m,r⟩
        exact ⟨y,e,List.mem_append_left _ m,r⟩
      · rintro ⟨y,e,m,r1,r2⟩
        rcases List.mem_append.mp m with m | m
        · exact ⟨y,e,m,r1,r2⟩
        · obtain ⟨rfl,rfl⟩:=aBu (List.mem_singleton.mp m)
          exact absurd r1 (of_decide_eq_false hin)
  · intro acc L H1 hJ; apply hJ; rintro ⟨why,rfl,hwl,hw⟩ a b
    rw [List.length_map] at hwl hw
    rw [List.take_length] at hw
    refine ⟨AHeap.set_same,fun E hE=>aAi (.own AHeap.set_same) (by rw [List.length_map]; exact Nat.le_trans hwl (eqLe hpl (leL hkl rfl))) (h _ why ((HLe.new hD).set hE) (Nat.le_trans hwl (eqLe hpl hkl)) fun l=>?_)⟩
    rw [hw l]
    constructor
    · rintro ⟨y,e,m,r⟩; exact ⟨y,e,hp.mem_iff.mp m,r⟩
    · rintro ⟨y,e,m,r⟩; exact ⟨y,e,hp.mem_iff.mpr m,r⟩
end
section
noncomputable def dead0 (M:Mach) (g:Nat→Bool) (a m t:Nat):Prop:=∃ s,1≤s∧s≤m∧mv M s a=t∧t≠0∧g t=false
noncomputable def un0 (M:Mach) (g:Nat→Bool) (a m s:Nat):Prop:=1≤s∧s≤m∧mv M s a≠0∧g (mv M s a)=true
theorem aFn {M:Mach} {g:Nat→Bool} {a m t:Nat}:dead0 M g a (m+1) t↔dead0 M g a m t∨(mv M (m+1) a=t∧t≠0∧g t=false):=by
  constructor
  · rintro ⟨s,h1,h2,h3⟩
    by_cases e:s=m+1
    · subst e; exact .inr h3
    · exact .inl ⟨s,h1,Nat.le_of_lt_succ (Nat.lt_of_le_of_ne h2 e),h3⟩
  · rintro (⟨s,h1,h2,h3⟩ | h)
    · exact ⟨s,h1,Nat.le_trans h2 (Nat.le_add_right _ _),h3⟩
    · exact ⟨m+1,Nat.le_add_left _ _,Nat.le_refl _,h⟩
theorem aJz {M:Mach} {g:Nat→Bool} {a m s:Nat}:un0 M g a (m+1) s↔un0 M g a m s∨(s=m+1∧mv M (m+1) a≠0∧g (mv M (m+1) a)=true):=by
  constructor
  · rintro ⟨h1,h2,h3⟩
    by_cases e:s=m+1
    · subst e; exact .inr ⟨rfl,h3⟩
    · exact .inl ⟨h1,Nat.le_of_lt_succ (Nat.lt_of_le_of_ne h2 e),h3⟩
  · rintro (⟨h1,h2,h3⟩ | ⟨rfl,h⟩)
    · exact ⟨h1,Nat.le_trans h2 (Nat.le_add_right _ _),h3⟩
    · exact ⟨Nat.le_add_left _ _,Nat.le_refl _,h⟩
noncomputable def whyK (M:Mach) (rs ls:List (Nat→Bool)) (spot a:Nat) (key:List (Int ⊕ Str)):Prop :=
  deadK M (alF ls) (spot+1) (dead0 M (alF ls (spot+1)) a M.states) M.many key∨unK M (alF rs) spot (un0 M (alF ls (spot+1)) a M.states) spot key
section
variable {G:Cx} {n:Nat} {H:AHeap} {Q:AV→AHeap→Prop} {R:RA} {M:Mach} {F:SA} {S:SSt}
noncomputable def bDr (H:AHeap) (R:RA) (M:Mach) (F:SA) (ks:List (List Nat)) (rs:List (Nat→Bool)) (ls:List (Nat→Bool)) (spot:Nat) (a:Nat) (D1:Addr) (D2:Addr) (an:Addr) (g:Nat→Bool) (i:Nat) (L':LS) (H':AHeap):Prop:=∀ P:LS→Prop,(∀ (e1:HLe H H') (dead:List Nat) (un:List Nat) (z1:Option AV) (z2:Option AV) (e2:H' D1=some (.list (dead.map natAV))) (e3:H' D2=some (.list (un.map natAV))) (e4:H' an=some (.tdict [])) (e5:dead.length≤i) (e6:un.length≤i) (e7:(∀ t,t∈dead↔dead0 M g a i t)) (e8:(∀ s,s∈un↔un0 M g a i s)),P [some (.val (.ref R.rg)),some (.val (.ref F.st)),some (keptV ks),some (laysV M rs),some (laysV M ls),some (natAV spot),some (natAV a),some (.val (.ref D1)),some (.val (.ref D2)),some (.val (.ref an)),z1,z2])→P L'
theorem aYo (ok:MOk M) (x:RegAt H R M) (st:StoreAt H F S) {ks:List (List Nat)} {rs ls:List (Nat→Bool)} {spot a:Nat} (hkl:ks.length=M.many) (hrl:rs.length=M.many+1) (hll:ls.length=M.many+1) (hsp:spot < M.many) (h1:1≤a) (h2:a≤M.letters) (hfl:S.firsts.length=M.many)
    (h:∀ H' why,HLe H H'→why.length≤12→WhyQ S (whyK M rs ls spot a) why→Q (aBg why) H') :
    CW G (n+4) (.ref 377) [.val (.ref R.rg),.val (.ref F.st),keptV ks,laysV M rs,laysV M ls,natAV spot,natAV a] H Q:=by
  have hm2:=ok.m2
  have hl2:=ok.l2
  have hs2:=ok.s2
  refine aLf fun D1 hD1 D2 hD2 an han=>?_
  have n12:D1≠D2:=fun z=>by rw [← z,AHeap.set_same] at hD2; cases hD2
  have n1a:D1≠an:=fun z=>by rw [← z,AHeap.set_ne n12,AHeap.set_same] at han; cases han
  have n2a:D2≠an:=fun z=>by rw [← z,AHeap.set_same] at han; cases han
  have hH2:=(HLe.new hD1).fresh hD2
  have hHa:=((HLe.new hD1).trans (HLe.new hD2)).fresh han
  have le0:=aAd (o:=.tdict []) (aAd (o:=.list []) (HLe.new (o:=.list []) hD1) hH2) hHa
  have hg:ls[spot+1]?=some (alF ls (spot+1)):=aJr (ltEq (Nat.lt_succ_of_le (Nat.succ_le_of_lt hsp)) hll)
  generalize hgd:alF ls (spot+1)=g at hg
  refine ⟨rfl,aBd (x.le le0) (rngS ok.s2 (fvr1 (bDr H R M F ks rs ls spot a D1 D2 an g)
      (fun _ κ=>κ le0 [] [] _ _ ((AHeap.set_ne n1a).trans ((AHeap.set_ne n12).trans AHeap.set_same)) ((AHeap.set_ne n2a).trans AHeap.set_same) AHeap.set_same (by simp) (by simp) (fun t=>⟨(nomatch ·),fun zz=>by obtain ⟨s,a,b,_⟩:=zz; exact (om209 a b).elim⟩) (fun t=>⟨(nomatch ·),fun zz=>by obtain ⟨a,b,_⟩:=zz; exact (om209 a b).elim⟩)) ?_ ?_))⟩
  · intro i L H1 hi hJ; apply hJ; intro le1 dead un z1 z2 e1 e2 ea dl ul hdead hun
    refine aFk ok (x.le le1) ⟨Nat.le_add_left _ _,Nat.succ_le_of_lt hi⟩ h1 h2 ?_
    have hmv:=ok.mv_le (s:=i+1) (a:=a) (Nat.le_add_left _ _) (Nat.succ_le_of_lt hi) h1 h2
    refine tb (fun hgz=>aDf (p:=spot+1) hg (eqLe hll (Nat.succ_le_succ (leL hm2 rfl))) (aCu ok hmv (tb (fun hgt=>?_) (fun hgt=>cf (tb (fun _=>?_) (fun hf=>by rw [hgz] at hf; cases hf)))))) (fun hgz=>cf (tb (fun hf=>(by rw [hgz] at hf; cases hf)) (fun _=>?_)))
    · have hgnz:mv M (i+1) a≠0:=fun z=>by rw [z] at hgz; exact absurd hgz (by decide)
      have hgf:g (mv M (i+1) a)=false:=by simpa using hgt
      refine aAg e1 (aAj e1 (by rw [List.length_map]; exact Nat.lt_of_le_of_lt dl (Nat.lt_of_lt_of_le hi (leL hs2 rfl))) (fun _ κ=>κ (aAd le1 hD1) (dead ++ [mv M (i+1) a]) un _ _ (by rw [AHeap.set_same,List.map_append]; rfl) ((AHeap.set_ne (Ne.symm n12)).trans e2) ((AHeap.set_ne (Ne.symm n1a)).trans ea) (by simp; exact dl) (Nat.le_trans ul (Nat.le_add_right _ _)) (fun t=>?_) (fun s=>?_)))
      · rw [List.mem_append,List.mem_singleton,hdead,aFn]
        refine or_congr Iff.rfl ⟨?_,fun h=>h.1.symm⟩
        rintro rfl; exact ⟨rfl,hgnz,hgf⟩
      · rw [hun,aJz,hgf]
        simp
    · have hgnz:mv M (i+1) a≠0:=fun z=>by rw [z] at hgz; exact absurd hgz (by decide)
      have hgt':g (mv M (i+1) a)=true:=by simpa using hgt
      refine aAg e2 (aAj e2 (by rw [List.length_map]; exact Nat.lt_of_le_of_lt ul (Nat.lt_of_lt_of_le hi (leL hs2 rfl))) (fun _ κ=>κ (aAd le1 hH2) dead (un ++ [i+1]) _ _ ((AHeap.set_ne n12).trans e1) (by rw [AHeap.set_same,List.map_append]; rfl) ((AHeap.set_ne (Ne.symm n2a)).trans ea) (Nat.le_trans dl (Nat.le_add_right _ _)) (by simp; exact ul) (fun t=>?_) (fun s=>?_)))
      · rw [hdead,aFn]
        exact ⟨.inl,fun z=>z.elim id fun h=>by rw [← h.1,hgt'] at h; exact absurd h.2.2 (by decide)⟩
      · rw [List.mem_append,List.mem_singleton,hun,aJz]
        exact or_congr Iff.rfl ⟨fun e=>⟨e,hgnz,hgt'⟩,fun h=>h.1⟩
    · have hgz':mv M (i+1) a=0:=by
        by_cases z:mv M (i+1) a=0
        · exact z
        · exfalso; simp [z] at hgz
      refine fun _ κ=>κ le1 dead un _ _ e1 e2 ea (Nat.le_trans dl (Nat.le_add_right _ _)) (Nat.le_trans ul (Nat.le_add_right _ _)) (fun t=>?_) (fun s=>?_)
      · rw [hdead,aFn,hgz']
        exact ⟨.inl,fun z=>z.elim id fun h=>absurd h.1.symm h.2.1⟩
      · rw [hun,aJz,hgz']
        simp
  · intro L H1 hJ; apply hJ; intro le1 dead un z1 z2 e1 e2 ea dl ul hdead hun
    have hdb:∀ t∈dead,1≤t∧t≤M.states:=fun t ht=>by
      obtain ⟨s,a1,a2,rfl,a3,_⟩:=(hdead t).mp ht
      have:=ok.mv_le (s:=s) (a:=a) a1 a2 h1 h2
      exact ⟨posN a3,this⟩
    refine aAe (x.le le1).inst (x.le le1).attrs (by kernel_rfl!) (by kernel_rfl!:meB G.w 406 "note_dead" 358=true) (aEf (.own e1) (fun t ht=>by have:=hdb t ht; exact Nat.le_trans this.2 (leL hs2 rfl)) (Nat.le_trans dl (leL hs2 rfl)) fun D3 l' hD3 hp hm=>⟨D3,_,rfl,AHeap.set_same,?_⟩)
    have hH3:=le1.fresh hD3
    have n3:∀ {b o},H1 b=some o→b≠D3:=fun {b o} e z=>by rw [z,hD3] at e; cases e
    have le3:=aAd (o:=.frz (l'.map natAV)) (aAd (o:=.list (l'.map natAV)) le1 hH3) hH3
    have keep:∀ {b o},H1 b=some o→((H1.set D3 (.list (l'.map natAV))).set D3 (.frz (l'.map natAV))) b=some o:=fun {b o} e=>(AHeap.set_ne (n3 e)).trans ((AHeap.set_ne (n3 e)).trans e)
    have es:((spot:Nat):Int)+1=((spot+1:Nat):Int):=Eq.symm (Int.natCast_add _ _)
    rw [es]
    refine aHz (some_:=l') (spot:=spot+1) ok (x.le le3) hkl (om221 hkl hll) (leEq (Nat.succ_le_of_lt hsp) hkl) (fun s hs=>hdb s ((hm s).mp hs)) (hp.imp fun h=>Nat.ne_of_lt h) (keep ea) ⟨.nil,fun _ m=>nomatch m⟩ fun H4 keys4 hb4 en4 hk4 hkk4=>?_
    have le4:HLe H H4:=aBv le3 hHa hb4
    refine aAe (x.le le4).inst (x.le le4).attrs (by kernel_rfl!) (by kernel_rfl!:meB G.w 406 "note_unreached" 365=true) ⟨D2,_,rfl,hb4.1 _ _ (fun m=>n2a (List.mem_singleton.mp m)) (keep e2),?_⟩
    have le5:=aAd (o:=.frz (un.map natAV)) le4 hH2
    refine aGm (some_:=un) ok (x.le le5) hrl hsp ((AHeap.set_ne (Ne.symm n2a)).trans en4) hk4 fun H6 keys6 hb6 en6 hk6 hkk6=>?_
    have le6:HLe H H6:=aBv le5 hHa hb6
    have ed:(fun t=>t∈l')=dead0 M (alF ls (spot+1)) a M.states:=by
      funext t; rw [hm,hdead,hgd]
    have eu:(fun t=>t∈un)=un0 M (alF ls (spot+1)) a M.states:=by
      funext t; rw [hun,hgd]
    have hall:∀ key,key∈keys6↔whyK M rs ls spot a key:=fun key=>by
      rw [hkk6,hkk4,ed,eu,hkl]
      simp [whyK]
    refine aAe (x.le le6).inst (x.le le6).attrs (by kernel_rfl!) (by kernel_rfl!:meB G.w 406 "reasons_of" 370=true) (aGc (st.le le6) en6 hk6 (fun p c hpc=>?_) (eqLe hfl (leL hm2 rfl)) fun H7 why le7 hw1 hw2=>h H7 why (le6.trans le7) hw1 fun l=>?_)
    · rcases (hall _).mp hpc with ⟨j,s,c',h1,_,_,_,_,_,h2⟩ | ⟨j,s,c',h1,_,_,_,_,_,_,h2⟩
      · have:=(aBu h2).1; exact eqLt this (ltEq h1 hfl)
      · have:=(aBu h2).1; exact om220 hsp hfl this
    · rw [hw2 l]
      simp only [hall]
end
end
noncomputable def vls (f:Nat→Bool):List Nat:=(List.range 5).filter f
noncomputable def iz (l:List Nat):List Int:=l.map fun k=>((k:Nat):Int)
noncomputable def dm (f:Nat→Bool):Dom:=aDi (iz (vls f))
noncomputable def sayB (sg:Sg) (k v:Int):Bool:=match sg with
  | .le=>decide (v≤k)
  | .ge=>decide (v ≥ k)
  | .eq=>decide (v=k)
  | .ne=>decide (v≠k)
theorem aLy {f g:Nat→Bool} (h:∀ v,v < 5→f v=g v):vls f=vls g:=List.filter_congr fun v hv=>h v (List.mem_range.mp hv)
theorem aGp {f g:Nat→Bool} (h:∀ v,v < 5→f v=g v):dm f=dm g:=by rw [dm,dm,aLy h]
theorem g5 (f:Nat→Bool) (v:Nat) (hv:v < 5):f v=F5 (f 0) (f 1) (f 2) (f 3) (f 4) v:=(F5_at f hv).symm
theorem mem_vls {f:Nat→Bool} {v:Nat}:v∈vls f↔v < 5∧f v=true:=by simp [vls]
noncomputable def meet1 (k:Int):List (Int × Int)→List (Int × Int)
  | []=>[]
  | a :: d=>(if max a.1 k≤min a.2 k then [(max a.1 k,min a.2 k)] else []) ++ (if a.2 < k then meet1 k d else [])
theorem bBh (k:Int) (d:List (Int × Int)):meetF d [(k,k)]=meet1 k d:=by
  induction d with
  | nil=>rfl
  | cons a d ih=>rw [aJg,ih,aMr]; rfl
noncomputable def aGs (sg:Sg) (k:Int) (d:Dom):Dom:=match sg with
  | .le=>upTo d k
  | .ge=>fromOn d k
  | .eq=>meet1 k d
  | .ne=>aJt d k
theorem aSp (sg:Sg) (k:Int) (d:Dom):aDa sg k d=aGs sg k d:=by
  cases sg <;> first | rfl | exact bBh k d
noncomputable abbrev bKx (f:Nat→Bool):Prop:=aCz (dm f)=iz (vls f)∧(dm f).length≤3∧(∀ p∈dm f,-20≤p.1∧p.1≤20∧-20≤p.2∧p.2≤20) ∧
  ∀ k∈List.range 5,(aAw (dm f) (k:Nat)=some ((k:Nat):Int)↔f k=true)∧aGs .le (k:Nat) (dm f)=dm (fun v=>f v && sayB .le (k:Nat) (v:Nat))∧aGs .ge (k:Nat) (dm f)=dm (fun v=>f v && sayB .ge (k:Nat) (v:Nat))∧aGs .eq (k:Nat) (dm f)=dm (fun v=>f v && sayB .eq (k:Nat) (v:Nat))∧aGs .ne (k:Nat) (dm f)=dm (fun v=>f v && sayB .ne (k:Nat) (v:Nat))
theorem aNj:∀ b0 b1 b2 b3 b4:Bool,bKx (F5 b0 b1 b2 b3 b4):=by decide +kernel
theorem dm_g5 (f:Nat→Bool):dm f=dm (F5 (f 0) (f 1) (f 2) (f 3) (f 4)):=aGp (g5 f)
theorem aPz (f:Nat→Bool):aCz (dm f)=iz (vls f):=by
  rw [dm_g5,aLy (g5 f)]; exact (aNj ..).1
theorem bEh (f:Nat→Bool):(dm f).length≤3:=by rw [dm_g5]; exact (aNj ..).2.1
theorem dm_ok (f:Nat→Bool):DOk (dm f):=by
  rw [dm_g5]
  have h:=aNj (f 0) (f 1) (f 2) (f 3) (f 4)
  exact ⟨Nat.le_trans h.2.1 (show 3≤20 by decide),h.2.2.1⟩
theorem bHd (f:Nat→Bool) {k:Nat} (hk:k < 5):aAw (dm f) (k:Nat)=some ((k:Nat):Int)↔f k=true:=by
  rw [dm_g5,g5 f k hk]
  exact ((aNj ..).2.2.2 k (List.mem_range.mpr hk)).1
theorem aXz (f:Nat→Bool) (sg:Sg) {k:Nat} (hk:k < 5):aDa sg (k:Nat) (dm f)=dm (fun v=>f v && sayB sg (k:Nat) (v:Nat)):=by
  have e:dm (fun v=>f v && sayB sg (k:Nat) (v:Nat))=dm (fun v=>F5 (f 0) (f 1) (f 2) (f 3) (f 4) v && sayB sg (k:Nat) (v:Nat)):=aGp fun v hv=>by rw [← g5 f v hv]
  rw [aSp,dm_g5,e]
  have h:=((aNj (f 0) (f 1) (f 2) (f 3) (f 4)).2.2.2 k (List.mem_range.mpr hk)).2
  cases sg
  · exact h.1
  · exact h.2.1
  · exact h.2.2.1
  · exact h.2.2.2
theorem bKo {a b:List Nat} (h:iz a=iz b):a=b:=by
  have:=congrArg (List.map Int.toNat) h
  simpa [iz,List.map_map,Function.comp_def] using this
theorem bEi {f g:Nat→Bool} (h:dm f=dm g):∀ v,v < 5→f v=g v:=fun v hv=>by
  have e:=bKo (by rw [← aPz,← aPz,h]:iz (vls f)=iz (vls g))
  have h1:=@mem_vls f v
  rw [e,mem_vls] at h1
  rw [Bool.eq_iff_iff]
  exact ⟨fun z=>(h1.mpr ⟨hv,z⟩).2,fun z=>(h1.mp ⟨hv,z⟩).2⟩
theorem dm_nil {f:Nat→Bool}:dm f=[]↔∀ v,v < 5→f v=false:=by
  have e:dm (fun _=>false)=[]:=by decide +kernel
  rw [← e]
  exact ⟨bEi,fun h=>aGp h⟩
noncomputable def cut (f:Nat→Bool) (l:Lit):Nat→Bool:=fun v=>f v && sayB l.sg l.k (v:Nat)
theorem aNi {S:SSt} {l:Lit} {why:Option (List Lit)} {b:Int} {f:Nat→Bool} {k:Nat} (hk:k < 5) (e:l.k=(k:Nat)) :
    aDh S l why b (dm f)=if dm (cut f l)=[] then (false,{ S with failed:=true,clash:=(why.getD []) ++ [aBb l] }) else if dm (cut f l)=dm f then (true,S)
      else (true,{ S with trail:=S.trail ++ [⟨l.x,dm f,l,why,b⟩],doms:=S.doms.set l.x.toNat (dm (cut f l)) }):=by
  have h:aDa l.sg l.k (dm f)=dm (cut f l):=by rw [e,aXz f l.sg hk]; unfold cut; rw [e]
  unfold aDh
  rw [h]
section
noncomputable abbrev FS:=Nat→Nat→Bool
noncomputable def DMs (many:Nat) (fs:FS):List Dom:=(List.range many).map fun x=>dm (fs x)
noncomputable def SS (many:Nat) (S:SSt) (fs:FS) (es:List Entry):SSt:={ S with doms:=DMs many fs,trail:=S.trail ++ es }
noncomputable def hitF (fs:FS) (l:Lit):FS:=fun x v=>fs x v && (decide ((x:Nat)≠l.x) || sayB l.sg l.k (v:Nat))
theorem aLb {fs:FS} {l:Lit} {x y:Nat} (h:l.x=(x:Nat)) (hy:y≠x):hitF fs l y=fs y:=by
  funext v; have:((y:Nat):Int)≠l.x:=om235 h hy
  simp [hitF,this]
theorem aCf {fs:FS} {l:Lit} {x:Nat} (h:l.x=(x:Nat)):hitF fs l x=cut (fs x) l:=by
  funext v; simp [hitF,cut,h]
theorem aGe {many:Nat} {fs:FS} {x:Nat} (h:x < many):(DMs many fs)[x]?=some (dm (fs x)):=by
  simp [DMs,h]
theorem aLu {many:Nat} {fs:FS} {l:Lit} {x:Nat} (hx:l.x=(x:Nat)):(DMs many fs).set x (dm (cut (fs x) l))=DMs many (hitF fs l):=by
  apply List.ext_getElem?
  intro y
  rw [List.getElem?_set]
  by_cases e:x=y
  · subst e
    simp only [if_true,DMs,List.length_map,List.length_range,List.getElem?_map]
    by_cases h:x < many
    · simp [h,aCf hx]
    · simp [h]
  · rw [if_neg e]
    simp only [DMs,List.getElem?_map]
    by_cases h:y < many
    · simp [h,aLb hx (Ne.symm e)]
    · simp [h]
theorem aBk {many:Nat} {fs:FS}:(DMs many fs).length=many:=by simp [DMs]
noncomputable def Next (fs:FS) (es:List Entry) (l:Lit) (why:List Lit) (x:Nat) (fs':FS) (es':List Entry):Prop :=
  (es'=es∧fs'=fs∧∀ v,v < 5→hitF fs l x v=fs x v)∨(es'=es ++ [⟨l.x,dm (fs x),l,some why,-1⟩]∧fs'=hitF fs l∧dm (hitF fs l x)≠[]∧dm (hitF fs l x)≠dm (fs x))
theorem Next.at {fs:FS} {es:List Entry} {l:Lit} {why:List Lit} {x:Nat} {fs':FS} {es':List Entry} (hx:l.x=(x:Nat)) (h:Next fs es l why x fs' es'):∀ y v,v < 5→fs' y v=hitF fs l y v:=by
  rcases h with ⟨_,rfl,h⟩ | ⟨_,rfl,_⟩
  · intro y v hv
    by_cases e:y=x
    · subst e; exact (h v hv).symm
    · rw [aLb hx e]
  · exact fun _ _ _=>rfl
theorem Next.len {fs:FS} {es:List Entry} {l:Lit} {why:List Lit} {x:Nat} {fs':FS} {es':List Entry} (h:Next fs es l why x fs' es'):es'.length≤es.length+1:=by
  rcases h with ⟨rfl,_⟩ | ⟨rfl,_⟩
  · exact Nat.le_add_right _ _
  · simp
inductive Runs (many:Nat) (C:Lit→List Lit→Prop):FS→List Entry→FS→Prop
  | nil (fs:FS):Runs many C fs [] fs
  | next {fs fs' fs'':FS} {es es':List Entry} {l:Lit} {why:List Lit} {x:Nat}:Runs many C fs es fs'→l.x=(x:Nat)→x < many→C l why→Next fs' es l why x fs'' es'→Runs many C fs es' fs''
section
variable {G:Cx} {n:Nat} {H:AHeap} {Q:AV→AHeap→Prop} {R:RA} {M:Mach} {F:SA} {S:SSt} {many:Nat} {fs:FS} {es:List Entry}
theorem aDz {l:Lit} {why:List Lit} {x k:Nat} (hm:many≤3) (st:StoreAt H F (SS many S fs es)) (hx:l.x=(x:Nat)) (hxm:x < many) (hk:k < 5) (hlk:l.k=(k:Nat)) (hw:why.length≤500) (ht:S.trail.length+es.length≤900)
    (h1:dm (hitF fs l x)=[]→∀ H',StoreAt H' F { SS many S fs es with failed:=true,clash:=why ++ [aBb l] }→HBut F.all H H'→Q (.val (.bool false)) H')
    (h2:∀ H' fs' es',StoreAt H' F (SS many S fs' es')→HBut F.all H H'→Next fs es l why x fs' es'→dm (hitF fs l x)≠[]→Q (.val (.bool true)) H'):CW G (n+5) (.ref 220) [.val (.ref F.st),litAV l,aBg why] H Q:=by
  refine bCe st (om234 hm hx hxm) (old:=dm (fs x)) (by rw [hx,Int.toNat_natCast]; exact aGe hxm) (by show (DMs many fs).length≤100; rw [aBk]; exact leL hm rfl) (Nat.le_trans (bEh _) (by decide)) hw (by show (S.trail ++ es).length≤900; rw [List.length_append]; exact ht) ?_
  rw [aNi hk hlk,← aCf hx]
  by_cases c1:dm (hitF fs l x)=[]
  · rw [if_pos c1]
    exact h1 c1
  · rw [if_neg c1]
    by_cases c2:dm (hitF fs l x)=dm (fs x)
    · rw [if_pos c2]
      exact fun H' s b=>h2 H' fs es s b (.inl ⟨rfl,rfl,bEi c2⟩) c1
    · rw [if_neg c2]
      intro H' s b
      refine h2 H' (hitF fs l) _ ?_ b (.inr ⟨rfl,rfl,c1,c2⟩) c1
      have e:({ SS many S fs es with trail:=(SS many S fs es).trail ++ [⟨l.x,dm (fs x),l,some why,-1⟩],doms:=(SS many S fs es).doms.set l.x.toNat (dm (hitF fs l x)) }:SSt)=SS many S (hitF fs l) (es ++ [⟨l.x,dm (fs x),l,some why,-1⟩]):=by
        simp only [SS,hx,Int.toNat_natCast,List.append_assoc]
        rw [aCf hx,aLu hx]
      rw [e] at s
      exact s
noncomputable def isL (M:Mach) (v:Nat):Bool:=decide (1≤v) && decide (v≤M.letters)
noncomputable def CK (M:Mach) (l:Lit) (why:List Lit):Prop:=why=[]∧((l.sg=.ge∧l.k=1)∨(l.sg=.le∧l.k=(M.letters:Nat)))
noncomputable def aZg (H:AHeap) (R:RA) (M:Mach) (F:SA) (S:SSt) (fs:FS) (i:Nat) (L':LS) (H':AHeap):Prop:=∀ P:LS→Prop,(∀ (fs':FS) (es:List Entry) (z:Option AV) (e1:StoreAt H' F (SS M.many S fs' es)) (e2:HBut F.all H H') (e3:Runs M.many (CK M) fs es fs') (e4:es.length≤2 * i) (e5:(∀ y v,y < M.many→v < 5→fs' y v=(fs y v && (decide (i≤y) || isL M v)))),P [some (.val (.ref R.rg)),some (.val (.ref F.st)),z])→P L'
theorem aIz (ok:MOk M) (x:RegAt H R M) (st:StoreAt H F (SS M.many S fs [])) (hr1:R.rg∉F.all) (hr2:R.dx∉F.all) (ht:S.trail.length≤800)
    (h1:∀ H' fs' es,StoreAt H' F (SS M.many S fs' es)→HBut F.all H H'→Runs M.many (CK M) fs es fs'→es.length≤6→(∀ y v,y < M.many→v < 5→fs' y v=(fs y v && isL M v))→Q (.val (.bool true)) H')
    (h2:∀ H' fs' es l x,StoreAt H' F { SS M.many S fs' es with failed:=true,clash:=[aBb l] }→HBut F.all H H'→Runs M.many (CK M) fs es fs'→es.length≤6→l.x=(x:Nat)→x < M.many→CK M l []→dm (hitF fs' l x)=[]→Q (.val (.bool false)) H') :
    CW G (n+6) (.ref 391) [.val (.ref R.rg),.val (.ref F.st)] H Q:=by
  have hm2:=ok.m2
  have hl2:=ok.l2
  have hl1:=ok.l1
  refine aEw (aFc x (aBn (fvi (aZg H R M F S fs)
    (fun _ κ=>κ fs [] _ st ((HLe.refl H).but) (.nil fs) (by simp) (by simp)) ?_ ?_)))
  · intro i v L H1 hv hJ; apply hJ; intro fs1 es1 z st1 hb1 hr hl hf
    obtain ⟨hi,rfl⟩:i < M.many∧v=natAV i:=by
      refine aAu hv fun j ej=>?_
      obtain ⟨hlt,ej⟩:=List.getElem?_eq_some_iff.mp ej
      simp at hlt ej
      exact ⟨hlt,by rw [ej]⟩
    refine ⟨trivial,aAe st1.inst st1.attrs (by kernel_rfl!) (by kernel_rfl!:meB G.w 265 "strike" 220=true) (aDz (l:=⟨(i:Nat),.ge,1⟩) (why:=[]) (x:=i) (k:=1) hm2 st1 rfl hi (by decide) rfl (by decide) (om233 ht hm2 hl hi) (fun hz H2 st2 hb2=>?_) fun H2 fs2 es2 st2 hb2 hn2 hz2=>?_)⟩
    · exact h2 H2 fs1 es1 ⟨(i:Nat),.ge,1⟩ i st2 (hb1.trans hb2) hr (om232 hm2 hl hi) rfl hi ⟨rfl,.inl ⟨rfl,rfl⟩⟩ hz
    · have hr2':Runs M.many (CK M) fs es2 fs2:=hr.next (l:=⟨(i:Nat),.ge,1⟩) (why:=[]) rfl hi ⟨rfl,.inl ⟨rfl,rfl⟩⟩ hn2
      have x2:=x.but (hb1.trans hb2) hr1 hr2
      have hl2':=hn2.len
      have ha2:=hn2.at (x:=i) rfl
      refine aAe st2.inst st2.attrs (by kernel_rfl!) (by kernel_rfl!:meB G.w 265 "strike" 220=true) (aCq x2 (aDz (l:=⟨(i:Nat),.le,(M.letters:Nat)⟩) (why:=[]) (x:=i) (k:=M.letters) hm2 st2 rfl hi (ltL hl2 rfl) rfl (by decide) (om231 ht hm2 hl hi hl2') (fun hz H3 st3 hb3=>?_) fun H3 fs3 es3 st3 hb3 hn3 hz3=>?_))
      · exact h2 H3 fs2 es2 ⟨(i:Nat),.le,(M.letters:Nat)⟩ i st3 ((hb1.trans hb2).trans hb3) hr2' (om230 hm2 hl hi hl2') rfl hi ⟨rfl,.inr ⟨rfl,rfl⟩⟩ hz
      · have hl3:=hn3.len
        have ha3:=hn3.at (x:=i) rfl
        refine fun _ κ=>κ fs3 es3 _ st3 ((hb1.trans hb2).trans hb3) (hr2'.next (l:=⟨(i:Nat),.le,(M.letters:Nat)⟩) (why:=[]) rfl hi ⟨rfl,.inr ⟨rfl,rfl⟩⟩ hn3) (om229 hl hl2' hl3) (fun y v hy hv5=>?_)
        rw [ha3 y v hv5]
        simp only [hitF]
        rw [ha2 y v hv5]
        simp only [hitF]
        rw [hf y v hy hv5]
        by_cases e:y=i
        · subst e
          have:¬ y+1≤y:=om228
          simp only [sayB,isL,Nat.le_refl,this,decide_true,decide_false,Bool.true_or,Bool.false_or,ne_eq,not_true_eq_false,Bool.and_true]
          have e1:decide ((v:Int) ≥ 1)=decide (1≤v):=by rw [decide_eq_decide]; exact om227
          have e2:decide ((v:Int)≤(M.letters:Nat))=decide (v≤M.letters):=by rw [decide_eq_decide]; exact om226
          rw [e1,e2,Bool.and_assoc]
        · have h3:decide (i≤y)=decide (i+1≤y):=by
            rw [decide_eq_decide]; exact om225 e
          have h4:((y:Nat):Int)≠(i:Nat):=om224 e
          simp [h3,h4]
  · intro L H1 hJ; apply hJ; intro fs1 es1 z st1 hb1 hr hl hf
    rw [List.length_map,List.length_range] at hl hf
    refine ⟨trivial,h1 H1 fs1 es1 st1 hb1 hr (om223 hm2 hl) fun y v hy hv=>?_⟩
    rw [hf y v hy hv]
    have:¬ M.many≤y:=om222 hy
    simp [this]
end
end
theorem aQn {M:Mach} {f:Nat→Bool} {k:List Nat} {ks:List (List Nat)}:alF (aAr M f (k :: ks)) 0=prevA M (alF (aAr M f ks) 0) k:=by
  have:(aAr M f ks).headD f=alF (aAr M f ks) 0:=by
    cases ks <;> rfl
  rw [← this]; rfl
theorem aZb {M:Mach} {f:Nat→Bool} {k:List Nat} {ks:List (List Nat)} {i:Nat}:alF (aAr M f (k :: ks)) (i+1)=alF (aAr M f ks) i:=rfl
theorem aKi {M:Mach} {f:Nat→Bool} {ks:List (List Nat)}:alF (aAs M f ks) 0=f:=by cases ks <;> rfl
theorem aPb {M:Mach} {f:Nat→Bool} {k:List Nat} {ks:List (List Nat)} {i:Nat}:alF (aAs M f (k :: ks)) (i+1)=alF (aAs M (nextR M f k) ks) i:=rfl
theorem aUr {M:Mach} {f:Nat→Bool} (ks:List (List Nat)):(aAr M f ks).length=ks.length+1:=by
  induction ks with
  | nil=>rfl
  | cons k ks ih=>simp [aAr,ih]
theorem aMk {M:Mach} (ks:List (List Nat)):∀ (f:Nat→Bool),(aAs M f ks).length=ks.length+1:=by
  induction ks with
  | nil=>exact fun _=>rfl
  | cons k ks ih=>intro f; simp [aAs,ih]
theorem aQm {M:Mach} {f:Nat→Bool} (hf:f 0=false):∀ ks:List (List Nat),alF (aAr M f ks) 0 0=false
  | []=>hf
  | k :: ks=>by rw [aQn]; rfl
noncomputable def supp (M:Mach) (rs ls:List (Nat→Bool)) (p a:Nat):Bool:=(List.range M.states).any fun s=>alF rs p (s+1) && alF ls (p+1) (mv M (s+1) a)
theorem bFq {M:Mach} (ok:MOk M) {g:Nat→Bool} (hg:g 0=false) (ks:List (List Nat)) (f:Nat→Bool) (hk:∀ k∈ks,∀ a∈k,1≤a∧a≤M.letters) (hs:∃ s,1≤s∧s≤M.states∧f s=true∧alF (aAr M g ks) 0 s=true)
    (p:Nat) (k:List Nat) (e:ks[p]?=some k):∃ a∈k,supp M (aAs M f ks) (aAr M g ks) p a=true:=by
  induction ks generalizing f p with
  | nil=>nomatch e
  | cons k' ks ih =>
    obtain ⟨s,s1,s2,hf,ha⟩:=hs
    rw [aQn] at ha
    have hb:=(band ha).2
    clear ha
    obtain ⟨a,ak,ha⟩:=List.any_eq_true.mp hb
    clear hb
    have hab:=hk k' (.head _) a ak
    cases p with
    | zero =>
      cases Option.some.inj e
      refine ⟨a,ak,List.any_eq_true.mpr ⟨s - 1,List.mem_range.mpr (om153 s1 s2),?_⟩⟩
      rw [aKi,aZb,om236 s1,hf,ha]; rfl
    | succ p =>
      have hmv:=ok.mv_le s1 s2 hab.1 hab.2
      have hne:mv M s a≠0:=fun z=>by rw [z,aQm hg] at ha; cases ha
      refine ih (nextR M f k') (fun k' m=>hk k' (.tail _ m)) ⟨mv M s a,posN hne,hmv,?_,ha⟩ p e
      simp only [nextR,Bool.and_eq_true,List.any_eq_true,bne_iff_ne,beq_iff_eq]
      exact ⟨hne,s - 1,List.mem_range.mpr (om153 s1 s2),by rw [om236 s1]; exact hf,a,ak,by rw [om236 s1]⟩
noncomputable def ksOf (M:Mach) (fs:FS):List (List Nat):=(List.range M.many).map fun x=>vls (fs x)
noncomputable def finB (M:Mach):Nat→Bool:=fun s=>s != 0 && decide (s∈M.finals)
noncomputable def rsOf (M:Mach) (fs:FS):List (Nat→Bool):=aAs M (fun s=>s == M.start) (ksOf M fs)
noncomputable def lsOf (M:Mach) (fs:FS):List (Nat→Bool):=aAr M (finB M) (ksOf M fs)
theorem aGo {M:Mach} {fs:FS}:(ksOf M fs).length=M.many:=by simp [ksOf]
theorem aHd {M:Mach} {fs:FS} {p:Nat} (h:p < M.many):(ksOf M fs)[p]?=some (vls (fs p)):=by simp [ksOf,h]
noncomputable def Lets (M:Mach) (fs:FS):Prop:=∀ y v,y < M.many→v < 5→fs y v=true→1≤v∧v≤M.letters
theorem aCy (f:Nat→Bool):(vls f).length≤5:=by
  have:=List.length_filter_le f (List.range 5)
  simpa [vls] using this
theorem Lets.kok {M:Mach} {fs:FS} (h:Lets M fs):∀ k∈ksOf M fs,KOk M k:=fun k hk=>by
  refine aCm hk fun y hy=>?_
  exact ⟨Nat.le_trans (aCy _) (by decide),fun a ha=>h y a (List.mem_range.mp hy) (mem_vls.mp ha).1 (mem_vls.mp ha).2⟩
noncomputable def CStr (M:Mach) (S:SSt) (fs:FS) (l:Lit) (why:List Lit):Prop:=∃ p a,p < M.many∧a < 5∧fs p a=true∧l=⟨(p:Nat),.ne,(a:Nat)⟩∧supp M (rsOf M fs) (lsOf M fs) p a=false∧why.length≤12∧WhyQ S (whyK M (rsOf M fs) (lsOf M fs) p a) why
theorem aOm (f:Nat→Bool):AV.lst ((aCz (dm f)).map .int)=kV (vls f):=by
  rw [aPz,kV,aAy]; rfl
theorem aWn {M:Mach} (ok:MOk M) {fs fs':FS} (hl:Lets M fs) (h0:alF (lsOf M fs) 0 M.start=true) {i j a:Nat} (hi:i < M.many) (ha:supp M (rsOf M fs) (lsOf M fs) i a=false)
    (hf:∀ v,v < 5→fs' i v=(fs i v && (!decide (v∈(vls (fs i)).take j) || supp M (rsOf M fs) (lsOf M fs) i v))) (hz:dm (hitF fs' ⟨(i:Nat),.ne,(a:Nat)⟩ i)=[]):False:=by
  obtain ⟨b,hb,hs⟩:=bFq ok (g:=finB M) rfl (ksOf M fs) (fun s=>s == M.start) (fun k hk=>(hl.kok k hk).2) ⟨M.start,ok.t1,ok.t2,by simp,h0⟩ i _ (aHd hi)
  have hb':=mem_vls.mp hb
  have h1:=dm_nil.mp hz b hb'.1
  have hne:((b:Nat):Int)≠(a:Nat):=fun e=>by
    have:b=a:=om76 e
    rw [this] at hs
    rw [show supp M (aAs M (fun s=>s == M.start) (ksOf M fs)) (aAr M (finB M) (ksOf M fs)) i a=supp M (rsOf M fs) (lsOf M fs) i a from rfl,ha] at hs
    cases hs
  have hs':supp M (rsOf M fs) (lsOf M fs) i b=true:=hs
  simp only [hitF,sayB] at h1
  rw [hf b hb'.1,hb'.2,hs'] at h1
  simp [hne] at h1
section
variable {G:Cx} {n:Nat} {H:AHeap} {Q:AV→AHeap→Prop} {R:RA} {M:Mach} {F:SA} {S:SSt} {fs:FS}
theorem bAp {M:Mach} {i:Nat} {v:AV} (h:((List.range M.many).map natAV)[i]?=some v):i < M.many∧v=natAV i:=by
  refine aAu h fun j ej=>?_
  obtain ⟨hlt,ej⟩:=List.getElem?_eq_some_iff.mp ej
  simp at hlt ej
  exact ⟨hlt,by rw [ej]⟩
noncomputable def bDq (H:AHeap) (M:Mach) (F:SA) (fs:FS) (i:Nat) (acc:List AV) (L':LS) (H':AHeap):Prop:=∀ P:LS→Prop,(∀ (e1:HLe H H') (e2:acc=((ksOf M fs).take i).map kV) a b,P [a,b,some (.val (.ref F.st))])→P L'
noncomputable def aZf (H:AHeap) (R:RA) (M:Mach) (F:SA) (S:SSt) (fs:FS) (i:Nat) (L':LS) (H':AHeap):Prop:=∀ P:LS→Prop,(∀ (fs':FS) (es:List Entry) (b:Nat) (z7:Option AV) (z8:Option AV) (z9:Option AV) (e1:b≤1) (e2:StoreAt H' F (SS M.many S fs' es)) (e3:HBut F.all H H') (e4:Runs M.many (CStr M S fs) fs es fs') (e5:es.length≤5 * i) (e6:(∀ y v,y < M.many→v < 5→fs' y v=(fs y v && (decide (i≤y) || supp M (rsOf M fs) (lsOf M fs) y v)))),P [some (.val (.ref R.rg)),some (.val (.ref F.st)),some (keptV (ksOf M fs)),some (laysV M (rsOf M fs)),some (laysV M (lsOf M fs)),none,some (natAV b),z7,z8,z9])→P L'
noncomputable def aZe (H:AHeap) (R:RA) (M:Mach) (F:SA) (S:SSt) (fs:FS) (i:Nat) (j:Nat) (L':LS) (H':AHeap):Prop:=∀ P:LS→Prop,(∀ (fs':FS) (es:List Entry) (b:Nat) (z8:Option AV) (z9:Option AV) (e1:b≤1) (e2:StoreAt H' F (SS M.many S fs' es)) (e3:HBut F.all H H') (e4:Runs M.many (CStr M S fs) fs es fs') (e5:es.length≤5 * i+j) (e6:(∀ y v,y < M.many→v < 5→y≠i→fs' y v=(fs y v && (decide (i≤y) || supp M (rsOf M fs) (lsOf M fs) y v)))) (e7:(∀ v,v < 5→fs' i v=(fs i v && (!decide (v∈(vls (fs i)).take j) || supp M (rsOf M fs) (lsOf M fs) i v)))),P [some (.val (.ref R.rg)),some (.val (.ref F.st)),some (keptV (ksOf M fs)),some (laysV M (rsOf M fs)),some (laysV M (lsOf M fs)),none,some (natAV b),some (natAV i),z8,z9])→P L'
theorem aIy (ok:MOk M) (x:RegAt H R M) (st:StoreAt H F (SS M.many S fs [])) (hr1:R.rg∉F.all) (hr2:R.dx∉F.all) (ht:S.trail.length≤800) (hlt:Lets M fs) (hfl:S.firsts.length=M.many)
    (h1:alF (lsOf M fs) 0 M.start=false→∀ H' why,StoreAt H' F { SS M.many S fs [] with failed:=true,clash:=why }→HBut F.all H H'→why.length≤12→WhyQ S (deadK M (alF (lsOf M fs)) 0 (·=M.start) M.many) why→Q (.int (-1)) H')
    (h2:alF (lsOf M fs) 0 M.start=true→∀ H' fs' es (b:Nat),b≤1→StoreAt H' F (SS M.many S fs' es)→HBut F.all H H'→Runs M.many (CStr M S fs) fs es fs'→es.length≤15→(∀ y v,y < M.many→v < 5→fs' y v=(fs y v && supp M (rsOf M fs) (lsOf M fs) y v))→Q (.int b) H') :
    CW G (n+6) (.ref 396) [.val (.ref R.rg),.val (.ref F.st)] H Q:=by
  have hm2:=ok.m2
  have hl2:=ok.l2
  have hkl:=aGo (M:=M) (fs:=fs)
  have hll:(lsOf M fs).length=M.many+1:=by rw [lsOf,aUr,hkl]
  have hrl:(rsOf M fs).length=M.many+1:=by rw [rsOf,aMk,hkl]
  refine aEv (aFc x (aBn (cvi (bDq H M F fs) (fun _ κ=>κ (HLe.refl H) rfl _ _) ?_ ?_)))
  · intro i v acc L H1 hv hJ; apply hJ
    rintro le1 rfl a b
    obtain ⟨hi,rfl⟩:=bAp hv
    have st1:=st.le le1
    refine ⟨trivial,⟨?_,aAe st1.inst st1.attrs (by kernel_rfl!) (by kernel_rfl!:meB G.w 265 "dom" 150=true) (c_dom (i:=i) st1 (aGe hi) (by show (DMs M.many fs).length≤100; rw [aBk]; exact leL hm2 rfl) (aLp (dm_ok _) fun H2 le2=>fun _ κ=>κ (le1.trans le2) ?_ _ _))⟩⟩
    · rw [List.length_map,List.length_take]; exact Nat.lt_of_le_of_lt (Nat.min_le_left _ _) (Nat.lt_of_lt_of_le hi (leL hm2 rfl))
    · rw [aOm,List.take_add_one,aHd hi,List.map_append]; rfl
  · intro acc L H1 hJ; apply hJ
    rintro le1 rfl a b
    rw [List.length_map,List.length_range,← hkl,List.take_length]
    refine ⟨trivial,fun D hD=>⟨D,_,rfl,AHeap.set_same,?_⟩⟩
    have hHD:=le1.fresh hD
    have le2:=aAd (o:=.frz ((ksOf M fs).map kV)) (aAd (o:=.list ((ksOf M fs).map kV)) le1 hHD) hHD
    generalize ((H1.set D (.list ((ksOf M fs).map kV))).set D (.frz ((ksOf M fs).map kV)))=H2 at le2
    clear le1 hD hHD
    have x2:=x.le le2
    refine aAe x2.inst x2.attrs (by kernel_rfl!) (by kernel_rfl!:meB G.w 406 "reached_of" 346=true) (aNu ok x2 hlt.kok (eqLe hkl (leL hm2 rfl)) fun H3 le3=>?_)
    have x3:=x2.le le3
    refine aAe x3.inst x3.attrs (by kernel_rfl!) (by kernel_rfl!:meB G.w 406 "alive_of" 351=true) (aUm ok x3 hlt.kok (eqLe hkl (leL hm2 rfl)) fun H4 le4=>?_)
    have le5:=(le2.trans le3).trans le4
    clear x2 x3 le2 le3 le4
    have x4:=x.le le5
    have st4:=st.le le5
    have he:(lsOf M fs)[0]?=some (alF (lsOf M fs) 0):=aJr (ltEq (ltL (Nat.le_refl _) rfl) hll)
    have hs1:=ok.t1
    have hs2:=ok.t2
    refine ⟨rfl,aRs (fs:=lsOf M fs) (p:=0) (by decide) he (eqLe hll (Nat.succ_le_succ (leL hm2 rfl))) (aFb x4 (aXi ok (Int.natCast_nonneg _) (by rw [Int.toNat_natCast]; exact hs2) ?_))⟩
    rw [Int.toNat_natCast]
    refine tb (fun ha=>?_) (fun ha=>?_)
    · have ha':alF (lsOf M fs) 0 M.start=false:=by simpa using ha
      intro D2 hD2
      have leD:=le5.trans (HLe.new (o:=.tdict []) hD2)
      have x5:=x.le leD
      have hHD2:=le5.fresh hD2
      refine aAe x5.inst x5.attrs (by kernel_rfl!) (by kernel_rfl!:meB G.w 406 "note_dead" 358=true) (aFb x5 fun E hE=>⟨E,_,rfl,AHeap.set_same,?_⟩)
      have hHE:=leD.fresh hE
      have leE:=aAd (o:=.frz [natAV M.start]) (aAd (o:=.list [natAV M.start]) leD hHE) hHE
      have nE:D2≠E:=fun z=>by rw [← z,AHeap.set_same] at hE; cases hE
      refine aHz (some_:=[M.start]) (ks:=ksOf M fs) (ls:=lsOf M fs) (spot:=0) ok (x.le leE) hkl (om221 hkl hll) (Nat.zero_le _) (fun s hs=>by rw [List.mem_singleton.mp hs]; exact ⟨hs1,hs2⟩) (by simp) ((AHeap.set_ne nE).trans ((AHeap.set_ne nE).trans AHeap.set_same)) ⟨.nil,fun _ m=>nomatch m⟩ fun H6 keys6 hb6 en6 hk6 hkk6=>?_
      have le6:HLe H H6:=aBv leE hHD2 hb6
      have st6:=st.le le6
      have x6:=x.le le6
      have ed:(fun t=>t∈[M.start])=(·=M.start):=by funext t; simp
      have hall:∀ key,key∈keys6↔deadK M (alF (lsOf M fs)) 0 (·=M.start) M.many key:=fun key=>by
        rw [hkk6,ed,hkl]; simp
      refine aAe st6.inst st6.attrs (by kernel_rfl!) (by kernel_rfl!:meB G.w 265 "fail" 234=true) (aAe x6.inst x6.attrs (by kernel_rfl!) (by kernel_rfl!:meB G.w 406 "reasons_of" 370=true) (aGc st6 en6 hk6 (fun p c hpc=>?_) (by show S.firsts.length≤100; exact eqLe hfl (leL hm2 rfl)) fun H7 why le7 hw1 hw2=>bEp (c:=why) (st6.le le7) fun H8 st8 hb8=>h1 ha' H8 why st8 ((le6.trans le7).but.trans hb8) hw1 fun l=>?_))
      · obtain ⟨j,s,c',g1,_,_,_,_,_,g2⟩:=(hall _).mp hpc
        have:=(aBu g2).1
        show p < S.firsts.length
        exact eqLt this (ltEq g1 hfl)
      · rw [hw2 l]
        simp only [hall]
        exact Iff.rfl
    · have ha':alF (lsOf M fs) 0 M.start=true:=by simpa using ha
      refine aHu .frz (k:=M.many) (by rw [List.length_map,hkl]) (leL hm2 rfl) (rngk (leL hm2 rfl) ?_)
      refine fvr0 (aZf H R M F S fs)
        (fun _ κ=>κ fs [] 0 _ _ _ (by decide) st4 le5.but (.nil fs) (by simp) (by simp)) ?_ ?_
      · intro i L H5 hi hJ; apply hJ; intro fs5 es5 b5 z7 z8 z9 hb5 st5 hbb5 hr5 hel5 hf5
        refine aAq (l:=(ksOf M fs).map kV) .frz (Int.natCast_nonneg _) (by rw [Int.toNat_natCast,List.getElem?_map,aHd hi]; rfl) (by rw [List.length_map]; exact eqLt hkl (ltL hm2 rfl)) (aAh (fvi (aZe H R M F S fs i)
          (fun _ κ=>κ fs5 es5 b5 _ _ hb5 st5 hbb5 hr5 hel5 (fun y v hy hv _=>hf5 y v hy hv) (fun v hv=>by rw [hf5 i v hi hv]; simp)) ?_ ?_))
        · intro j v L H6 hv hJ; apply hJ; intro fs6 es6 b6 y8 y9 hb6 st6 hbb6 hr6 hel6 hg6 hf6
          refine aAu hv fun a ea=>?_
          have haj:=(List.getElem?_eq_some_iff.mp ea).1
          have hvl:=aCy (fs i)
          have ham:=mem_vls.mp (List.mem_of_getElem? ea)
          have hal:=hlt i a hi ham.1 ham.2
          have x6:=x.but hbb6 hr1 hr2
          have hT:∀ v,v∈(vls (fs i)).take (j+1)↔v∈(vls (fs i)).take j∨v=a:=fun v=>by
            rw [List.take_add_one,ea]; simp
          refine ⟨trivial,aAe x6.inst x6.attrs (by kernel_rfl!) (by kernel_rfl!:meB G.w 406 "has_support" 384=true) (aLq ok x6 (aJr (ltEq (Nat.lt_of_lt_of_le hi (Nat.le_add_right _ _)) hrl)) (aJr (ltEq (Nat.lt_succ_of_le (Nat.succ_le_of_lt hi)) hll)) (eqLe hrl (Nat.succ_le_succ (leL hm2 rfl))) (eqLe hll (Nat.succ_le_succ (leL hm2 rfl))) hal.1 hal.2 (tb (fun hs=>?_) (fun hs=>?_)))⟩
          · have hs':supp M (rsOf M fs) (lsOf M fs) i a=false:=by simpa [supp] using hs
            have st6':StoreAt H6 F (SS M.many S fs6 es6):=st6
            refine aAe x6.inst x6.attrs (by kernel_rfl!) (by kernel_rfl!:meB G.w 406 "why_not" 377=true) (aYo ok x6 st6 hkl hrl hll hi hal.1 hal.2 hfl fun H7 why le7 hw7 hq7=>?_)
            have st7:=st6.le le7
            have x7:=x6.le le7
            refine aAe st7.inst st7.attrs (by kernel_rfl!) (by kernel_rfl!:meB G.w 265 "strike" 220=true) (aFc x7 (aNf ok (Int.natCast_nonneg _) (natJ hi) (aDz (l:=⟨(i:Nat),.ne,(a:Nat)⟩) (why:=why) (x:=i) (k:=a) hm2 st7 rfl hi ham.1 rfl (leL hw7 rfl) (om241 ht hm2 hi hel6 haj hvl) (fun hz H8 st8 hb8=>?_) fun H8 fs8 es8 st8 hb8 hn8 hz8=>?_)))
            · exact (aWn ok hlt ha' hi hs' hf6 hz).elim
            · have hl8:=hn8.len
              have ha8:=hn8.at (x:=i) rfl
              refine fun _ κ=>κ fs8 es8 1 _ _ (by decide) st8 ((hbb6.trans le7.but).trans hb8) (hr6.next (x:=i) rfl hi ⟨i,a,hi,ham.1,ham.2,rfl,hs',hw7,hq7⟩ hn8) (om240 hel6 hl8) (fun y v hy hv5 hyi=>?_) (fun v hv5=>?_)
              · rw [ha8 y v hv5,aLb (x:=i) rfl hyi,hg6 y v hy hv5 hyi]
              · rw [ha8 i v hv5]
                simp only [hitF]
                rw [hf6 v hv5]
                by_cases hva:v=a
                · subst hva
                  simp [sayB,hT,hs']
                · have:((v:Nat):Int)≠(a:Nat):=om224 hva
                  simp [sayB,hT,hva,this]
          · have hs':supp M (rsOf M fs) (lsOf M fs) i a=true:=by simpa [supp] using hs
            refine fun _ κ=>κ fs6 es6 b6 _ _ hb6 st6 hbb6 hr6 (om239 hel6) hg6 (fun v hv5=>?_)
            rw [hf6 v hv5]
            by_cases hva:v=a
            · subst hva; rw [hs']; simp
            · simp [hT,hva]
        · intro L H6 hJ; apply hJ; intro fs6 es6 b6 y8 y9 hb6 st6 hbb6 hr6 hel6 hg6 hf6
          have hvl:=aCy (fs i)
          rw [List.length_map] at hel6 hf6
          rw [List.take_length] at hf6
          refine ⟨trivial,fun _ κ=>κ fs6 es6 b6 _ _ _ hb6 st6 hbb6 hr6 (om238 hel6 hvl) (fun y v hy hv5=>?_)⟩
          by_cases e:y=i
          · subst e
            rw [hf6 v hv5]
            have:¬ y+1≤y:=om228
            cases hfv:fs y v
            · simp
            · simp [mem_vls,hv5,hfv,this]
          · rw [hg6 y v hy hv5 e]
            have:decide (i≤y)=decide (i+1≤y):=by rw [decide_eq_decide]; exact om225 e
            rw [this]
      · intro L H5 hJ; apply hJ; intro fs5 es5 b5 z7 z8 z9 hb5 st5 hbb5 hr5 hel5 hf5
        refine h2 ha' H5 fs5 es5 b5 hb5 st5 hbb5 hr5 (om237 hm2 hel5) fun y v hy hv5=>?_
        rw [hf5 y v hy hv5]
        have:¬ M.many≤y:=om222 hy
        simp [this]
end
section
variable {G:Cx} {n:Nat} {H:AHeap} {Q:AV→AHeap→Prop} {R:RA} {M:Mach} {F:SA} {S:SSt} {fs:FS}
theorem SS_SS {many:Nat} {S:SSt} {fs fs':FS} {es es':List Entry}:SS many (SS many S fs es) fs' es'=SS many S fs' (es ++ es'):=by simp [SS]
theorem aHy (ok:MOk M) (x:RegAt H R M) (st:StoreAt H F (SS M.many S fs [])) (hr1:R.rg∉F.all) (hr2:R.dx∉F.all) (ht:S.trail.length≤700) (hfl:S.firsts.length=M.many)
    (h1:∀ H' fs' es l x,StoreAt H' F { SS M.many S fs' es with failed:=true,clash:=[aBb l] }→HBut F.all H H'→Runs M.many (CK M) fs es fs'→es.length≤6→l.x=(x:Nat)→x < M.many→CK M l []→dm (hitF fs' l x)=[]→Q (.val (.bool false)) H')
    (h2:∀ H' fs' es why,StoreAt H' F { SS M.many S fs' es with failed:=true,clash:=why }→HBut F.all H H'→Runs M.many (CK M) fs es fs'→es.length≤6→(∀ y v,y < M.many→v < 5→fs' y v=(fs y v && isL M v))→alF (lsOf M fs') 0 M.start=false →
      why.length≤12→WhyQ S (deadK M (alF (lsOf M fs')) 0 (·=M.start) M.many) why→Q (.val (.bool false)) H')
    (h3:∀ H' fs1 es1 fs2 es2,StoreAt H' F (SS M.many S fs2 (es1 ++ es2))→HBut F.all H H'→Runs M.many (CK M) fs es1 fs1→es1.length≤6→(∀ y v,y < M.many→v < 5→fs1 y v=(fs y v && isL M v))→alF (lsOf M fs1) 0 M.start=true →
      Runs M.many (CStr M S fs1) fs1 es2 fs2→es2.length≤15→(∀ y v,y < M.many→v < 5→fs2 y v=(fs1 y v && supp M (rsOf M fs1) (lsOf M fs1) y v))→Q (.val (.bool true)) H') :
    CW G (n+7) (.ref 403) [.val (.ref R.rg),.val (.ref F.st)] H Q:=by
  refine aHm (aAe x.inst x.attrs (by kernel_rfl!) (by kernel_rfl!:meB G.w 406 "keep_letters" 391=true) (aIz ok x st hr1 hr2 (leL ht rfl) (fun H1 fs1 es1 st1 hb1 hru1 hl1 hf1=>?_) fun H1 fs1 es1 l y st1 hb1 hru1 hl1 hx hy hc hz=>?_))
  · have hlt:Lets M fs1:=fun y v hy hv e=>by
      rw [hf1 y v hy hv] at e
      simp only [isL,Bool.and_eq_true,decide_eq_true_eq] at e
      exact e.2
    have x1:=x.but hb1 hr1 hr2
    have st1':StoreAt H1 F (SS M.many (SS M.many S fs1 es1) fs1 []):=by rw [SS_SS,List.append_nil]; exact st1
    have hlen:(SS M.many S fs1 es1).trail.length≤800:=by show (S.trail ++ es1).length≤800; rw [List.length_append]; exact om244 ht hl1
    refine aAe x1.inst x1.attrs (by kernel_rfl!) (by kernel_rfl!:meB G.w 406 "strike_round" 396=true) (aIy ok x1 st1' hr1 hr2 hlen hlt hfl (fun ha H2 why st2 hb2 hwl2 hw2=>?_) fun ha H2 fs2 es2 b hb st2 hb2 hru2 hl2 hf2=>?_)
    · rw [SS_SS,List.append_nil] at st2
      refine whi (fun k L' H'=>H'=H2∧L'=[some (.val (.ref R.rg)),some (.val (.ref F.st)),some (.int (-1))]) 0 ⟨rfl,rfl⟩ ?_
      rintro k L H3 ⟨rfl,rfl⟩
      exact h2 H3 fs1 es1 why st2 (hb1.trans hb2) hru1 hl1 hf1 ha hwl2 hw2
    · rw [SS_SS] at st2
      have hbx:=hb1.trans hb2
      have x2:=x.but hbx hr1 hr2
      refine whi (fun k L' H'=>H'=H2∧L'=[some (.val (.ref R.rg)),some (.val (.ref F.st)),some (natAV b)]) 0 ⟨rfl,rfl⟩ ?_
      rintro k L H3 ⟨rfl,rfl⟩
      have hq:Q (.val (.bool (decide ((0:Int)≤(b:Nat))))) H3:=by
        rw [show decide ((0:Int)≤(b:Nat))=true from decide_eq_true (Int.natCast_nonneg _)]
        exact h3 H3 fs1 es1 fs2 es2 st2 hbx hru1 hl1 hf1 ha hru2 hl2 hf2
      exact tb (fun _=>bCq x2 (hq)) (fun _=>hq)
  · exact h1 H1 fs1 es1 l y st1 hb1 hru1 hl1 hx hy hc hz
end
section
variable {G:Cx} {n:Nat} {H:AHeap} {Q:AV→AHeap→Prop}
noncomputable def srcO (ci:List Int) (k:Nat):AObj:=.sdict [("cells",.lst (ci.map .int)),("spot",.int (k:Nat))]
theorem aOp (v1 v2 u:Value):stored [(("cells" : Str),v1),(("spot" : Str),v2)] ("spot" : Str) u=[(("cells" : Str),v1),(("spot" : Str),u)]:=by
  have e1:(("cells" : Str) = "spot")=False:=eq_false (by decide)
  simp [stored,e1]
theorem aVm {a:Addr} {ci:List Int} {k k':Nat} {Q:AHeap→Prop} (he:H a=some (srcO ci k)) (h:Q (H.set a (srcO ci k'))):SetI G n (.val (.ref a)) (.str "spot") (.int (k':Nat)) H Q:=fun A s E u ui uv ao I r1 r2 r3=>by
  cases r1
  cases r2 with
  | str _ t =>
    obtain ⟨kvs,d,rs⟩:=I.obj _ _ he
    cases rs with
    | cons q1 rs =>
    cases rs with
    | cons q2 rs =>
    cases rs
    rename_i v1 v2
    refine wpAny_setItem_pairs (k:=("spot" : Str)) (key:=.str "spot" t) (by show Value.isStrOf "spot" (.str "spot" t)=true; simp [Value.isStrOf]) d (fun h' d' hs'=>?_) (by rw [sizeLine_eq]; simp)
    rw [aOp] at d'
    obtain ⟨o,es,ep,eo,r⟩:=id d'
    have kp:∀ b x,b≠a→s.heap.get? b=some x→h'.get? b=some x:=fun b x hb q=>(hs'.2 b hb).trans q
    have X:=aCc (o':=srcO ci k') I he kp ⟨_,eo⟩ rfl
    exact ⟨H.set a (srcO ci k'),⟨aCs I he kp ⟨_,d',.cons (q1.mono X.mon) (.cons (r3.mono X.mon) .nil)⟩ rfl,X,rfl⟩,h⟩
theorem aIa {a:Addr} {ci:List Int} {k m:Nat} (he:H a=some (srcO ci k)) (hk:k≤1000) (hl:ci.length≤40) (hm:1≤m) (h:∀ r:Nat,r < m→Q (.int (r:Nat)) (H.set a (srcO ci (k+1)))) :
    CW G (n+1) (.ref 415) [.val (.ref a),.int (m:Nat)] H Q:=by
  have fin:∀ x:Int,Bin G n (binaryOp .Mod) (.int x) (.int (m:Nat)) (H.set a (srcO ci (k+1))) Q:=fun x=>by
    have h0:(0:Int)≤x.fmod (m:Nat):=Int.fmod_nonneg_of_pos _ (natJ (Nat.lt_of_lt_of_le (Nat.lt_succ_self _) hm))
    have h1:x.fmod (m:Nat) < (m:Nat):=Int.fmod_lt_of_pos _ (natJ (Nat.lt_of_lt_of_le (Nat.lt_succ_self _) hm))
    refine bHu (om247 hm) ?_
    obtain ⟨r,hr⟩:∃ r:Nat,x.fmod (m:Nat)=(r:Nat):=⟨(x.fmod (m:Nat)).toNat,om198 h0⟩
    rw [hr] at h1 ⊢
    exact h r (om115 h1)
  have e2:=AHeap.set_same (H:=H) (a:=a) (o:=srcO ci (k+1))
  have ek:((k:Nat):Int)+1=((k+1:Nat):Int):=Eq.symm (Int.natCast_add _ _)
  have hb:IntMulOk (5 * (k:Int)) (k:Int):=.of_right (intBits_le_64 om246 (om245 hk))
  refine aPu (aFj he (bGj (by decide) aKu) (aVm (k':=k+1) he (aFj e2 aKu (aAf (l:=ci.map .int) .frz (by rw [List.length_map]; exact ltL hl rfl) ?_))))
  rw [List.length_map]
  refine tb (fun hc=>aFj e2 aKu (aAq (l:=ci.map .int) (v:=.int (ci.getD k 0)) .frz (Int.natCast_nonneg _) ?_ (by rw [List.length_map]; exact ltL hl rfl) (fin _))) (fun hc=>aQf (.of_left (by decide)) (aQf hb (aQf (.of_left (by decide)) (fin _))))
  have hlt:k < ci.length:=by have:=of_decide_eq_true hc; exact om115 this
  rw [Int.toNat_natCast,List.getElem?_map,List.getElem?_eq_getElem hlt,List.getD_eq_getElem?_getD,List.getElem?_eq_getElem hlt]; rfl
noncomputable def sayL (l:Lit) (v:Int):Bool:=sayB l.sg l.k v
theorem aSb {l:Lit} {v:Int} (h:Q (.val (.bool (sayL l v))) H):CW G (n+1) (.ref 432) [litAV l,.int v] H Q:=by
  obtain ⟨x,sg,k⟩:=l
  refine aPr ?_
  cases sg with
  | le=>exact h
  | ge=>exact h
  | eq=>exact h
  | ne=>exact h
end
section
noncomputable def predI (M:Mach) (good:List Nat) (a i:Nat):List Nat:=((List.range i).map (· + 1)).filter fun s=>decide (mv M s a∈good)
noncomputable def predL (M:Mach) (good:List Nat) (a:Nat):List Nat:=predI M good a M.states
noncomputable def goB (M:Mach):List Nat→List Nat→Bool
  | [],good=>decide (M.start∈good)
  | a :: w,good=>if 1≤a∧a≤M.letters then goB M w (predL M good a) else false
noncomputable def aRd (M:Mach):AV:=.tup [natAV M.letters,aCi M.rows,natAV M.start,aAc M.finals]
noncomputable def aBa (ws:List (List Nat)):AV:=.lst (ws.map aAc)
noncomputable def aAv (lists:List (List Nat)):List (List Nat):=lists.foldl (fun found some_=>found.flatMap fun w=>some_.map fun a=>w ++ [a]) [[]]
section
variable {G:Cx} {n:Nat} {H:AHeap} {Q:AV→AHeap→Prop} {M:Mach}
noncomputable def bDp (H:AHeap) (M:Mach) (w:List Nat) (i:Nat) (L':LS) (H':AHeap):Prop:=∀ P:LS→Prop,(∀ (e1:HLe H H') (good:List Nat) (z:Option AV) (e2:goB M w.reverse M.finals=goB M (w.reverse.drop i) good),P [some (aRd M),some (aAc w),some (natAV M.letters),some (aCi M.rows),some (natAV M.start),some (aAc M.finals),some (nV good),z])→P L'
noncomputable def bDo (M:Mach) (H1:AHeap) (good:List Nat) (a:Nat) (i:Nat) (acc:List AV) (L':LS) (H':AHeap):Prop:=∀ P:LS→AHeap→Prop,(∀ (e2:acc=(predI M good a i).map natAV) y z,P [y,z,some (natAV a),some (nV good),some (aCi M.rows)] H1)→P L' H'
theorem bEo (ok:MOk M) {w:List Nat} (hw:w.length≤10) (h:∀ H',HLe H H'→Q (.val (.bool (goB M w.reverse M.finals))) H'):CW G (n+1) (.ref 420) [aRd M,aAc w] H Q:=by
  have hs2:=ok.s2
  have hl2:=ok.l2
  have hrl:=ok.rl
  refine aPt (aHt (by have:=ok.fl; rw [List.length_map]; exact leL this rfl) fun D hD=>⟨D,_,rfl,AHeap.set_same,?_⟩)
  have le0:=aAd (o:=.frz (M.finals.map natAV)) (HLe.new (o:=.list (M.finals.map natAV)) hD) hD
  refine aKv (by rw [List.length_map]; exact leL hw rfl) (fvi (bDp H M w)
    (fun _ κ=>κ le0 M.finals _ rfl) ?_ ?_)
  · intro i v L H1 hv hJ; apply hJ; intro le1 good z hg
    rw [← List.map_reverse,List.getElem?_map,Option.map_eq_some_iff] at hv
    obtain ⟨a,ea,rfl⟩:=hv
    have hlt:=(List.getElem?_eq_some_iff.mp ea).1
    rw [List.drop_eq_getElem_cons hlt,(List.getElem?_eq_some_iff.mp ea).2,goB] at hg
    have bad:¬ (1≤a∧a≤M.letters)→Q (.val (.bool false)) H1:=fun hc=>by
      rw [if_neg hc] at hg
      have:=h H1 le1
      rw [hg] at this; exact this
    refine ⟨trivial,tb (fun h1=>?_) (fun h1=>bad (fun z=>absurd (of_decide_eq_false h1) (om250 z.1)))⟩
    have h1':=of_decide_eq_true h1
    by_cases h2:((a:Nat):Int)≤(M.letters:Int)
    · show cond (!decide (((a:Nat):Int)≤(M.letters:Int))) _ _
      rw [decide_eq_true h2]
      rw [if_pos ⟨om249 h1',om248 h2⟩] at hg
      refine aDk (by rw [List.length_map]; exact eqLt hrl (ltL hs2 rfl)) (rng2 (by rw [List.length_map,hrl]; omega) (cvr (bDo M H1 good a) (fun _ κ=>κ rfl _ _) ?_ ?_))
      · intro j acc L H2 hj hJ; apply hJ; rintro rfl y z
        rw [List.length_map,hrl,sub1] at hj
        have et:(1:Int)+(j:Int)=((j+1:Nat):Int):=om190
        rw [et]
        refine aRr ok (s:=((j+1:Nat):Int)) (natI (Nat.le_add_left _ _)) (natI (Nat.succ_le_of_lt hj)) fun r er lr=>aXh ok (a:=((a:Nat):Int)) (s:=j+1) (by rw [Int.toNat_natCast] at er; exact er) lr h1' h2 ?_
        rw [Int.toNat_natCast]
        refine aFa .frz (tb (fun hin=>⟨?_,fun _ κ=>κ ?_ _ _⟩) (fun hin=>fun _ κ=>κ ?_ _ _))
        · have:=List.length_filter_le (fun s=>decide (mv M s a∈good)) ((List.range j).map (· + 1))
          rw [List.length_map,List.length_range] at this
          rw [List.length_map,predI]
          exact Nat.lt_of_le_of_lt this (Nat.lt_of_lt_of_le hj (leL hs2 rfl))
        · rw [predI,predI,List.range_succ,List.map_append,List.filter_append,List.map_append]
          simp [of_decide_eq_true hin,natAV]
        · rw [predI,predI,List.range_succ,List.map_append,List.filter_append,List.map_append]
          simp [of_decide_eq_false hin]
      · intro acc L H2 hJ; apply hJ; rintro rfl y z
        rw [List.length_map,hrl,sub1]
        refine fun E hE=>⟨E,_,rfl,AHeap.set_same,?_⟩
        exact fun _ κ=>κ (aAd (aAd le1 (le1.fresh hE)) (le1.fresh hE)) (predL M good a) _ hg
    · show cond (!decide (((a:Nat):Int)≤(M.letters:Int))) _ _
      rw [decide_eq_false h2]
      exact bad fun z=>h2 (natI z.2)
  · intro L H1 hJ; apply hJ; intro le1 good z hg
    rw [List.length_reverse,List.length_map,← List.length_reverse,List.drop_length] at hg
    refine ⟨trivial,aFa .frz ?_⟩
    have:=h H1 le1
    rw [hg] at this; exact this
end
end
section
theorem cvi2 {tg:AV→LS→AHeap→(LS→AHeap→Prop)→Prop} {it1:LS→AHeap→(List AV→(AHeap→Prop)→AHeap→Prop)→Prop} {tg1:AV→LS→AHeap→(LS→AHeap→Prop)→Prop} {el:LS→AHeap→(AV→AHeap→Prop)→Prop} {us:AHeap→Prop} {K:List AV→LS→AHeap→Prop} {vals acc:List AV} {L:LS} {H:AHeap}
    (J:Nat→List AV→LS→AHeap→Prop) (h0:J 0 acc L H) (step:∀ i v acc L H,vals[i]?=some v→J i acc L H→us H∧tg v L H fun L1 H1=>it1 L1 H1 fun vals us1 H2=>CVq tg1 (fun _ H Q=>Q true H) el us1 (fun acc' L3 H3=>J (i+1) acc' L3 H3) vals acc L1 H2)
    (fin:∀ acc L H,J vals.length acc L H→us H∧K acc L H):CVq2 tg it1 tg1 el us K vals acc L H:=⟨J,h0,step,fin⟩
noncomputable def Fits:List Nat→List (List Nat)→Prop
  | [],[]=>True
  | a :: w,k :: ks=>a∈k∧Fits w ks
  | _,_=>False
noncomputable def wstep (found:List (List Nat)) (k:List Nat):List (List Nat):=found.flatMap fun w=>k.map fun a=>w ++ [a]
theorem Fits.len:∀ {w:List Nat} {ks:List (List Nat)},Fits w ks→w.length=ks.length
  | [],[],_=>rfl
  | a :: w,k :: ks,h=>by simp [Fits.len h.2]
  | [],_ :: _,h=>h.elim
  | _ :: _,[],h=>h.elim
theorem mem_wstep {found:List (List Nat)} {k:List Nat} {w:List Nat}:w∈wstep found k↔∃ u a,u∈found∧a∈k∧w=u ++ [a]:=by
  simp only [wstep,List.mem_flatMap,List.mem_map]
  constructor
  · rintro ⟨u,hu,a,ha,rfl⟩; exact ⟨u,a,hu,ha,rfl⟩
  · rintro ⟨u,a,hu,ha,rfl⟩; exact ⟨u,hu,a,ha,rfl⟩
theorem aWh (ks:List (List Nat)) (found:List (List Nat)) (w:List Nat):w∈ks.foldl wstep found↔∃ u v,u∈found∧Fits v ks∧w=u ++ v:=by
  induction ks generalizing found with
  | nil =>
    refine ⟨fun h=>⟨w,[],h,trivial,(List.append_nil w).symm⟩,fun ⟨u,v,hu,hv,e⟩=>?_⟩
    cases v with
    | nil=>rw [e,List.append_nil]; exact hu
    | cons _ _=>exact hv.elim
  | cons k ks ih =>
    refine (ih _).trans ⟨fun ⟨u,v,hu,hv,e⟩=>?_,fun ⟨u,v,hu,hv,e⟩=>?_⟩
    · obtain ⟨u',a,hu',ha,e'⟩:=mem_wstep.mp hu
      exact ⟨u',a :: v,hu',⟨ha,hv⟩,by rw [e,e',List.append_assoc]; rfl⟩
    · cases v with
      | nil=>exact hv.elim
      | cons a v=>exact ⟨u ++ [a],v,mem_wstep.mpr ⟨u,a,hu,hv.1,rfl⟩,hv.2,by rw [e,List.append_assoc]; rfl⟩
theorem mem_wordsF {ks:List (List Nat)} {w:List Nat}:w∈aAv ks↔Fits w ks:=by
  have h:=aWh ks [[]] w
  refine (show w∈aAv ks↔w∈ks.foldl wstep [[]] from Iff.rfl).trans (h.trans ?_)
  constructor
  · rintro ⟨u,v,hu,hv,rfl⟩
    rw [List.mem_singleton.mp hu]; exact hv
  · intro h; exact ⟨[],w,by simp,h,rfl⟩
theorem aLv {found:List (List Nat)} {k:List Nat}:(wstep found k).length=found.length * k.length:=by
  induction found with
  | nil=>simp [wstep]
  | cons u found ih=>simp only [wstep,List.flatMap_cons,List.length_append,List.length_map,List.length_cons] at *; rw [ih,Nat.succ_mul,Nat.add_comm]
theorem aXm (ks:List (List Nat)):∀ (found:List (List Nat)),(∀ k∈ks,k.length≤5)→(ks.foldl wstep found).length≤found.length * 5 ^ ks.length:=by
  induction ks with
  | nil=>intro found _; simp
  | cons k ks ih =>
    intro found h
    rw [List.foldl_cons]
    refine Nat.le_trans (ih _ fun k' m=>h k' (.tail _ m)) ?_
    rw [aLv,List.length_cons,Nat.pow_succ,Nat.mul_comm (5 ^ ks.length) 5,← Nat.mul_assoc]
    exact Nat.mul_le_mul_right _ (Nat.mul_le_mul_left _ (h k (.head _)))
theorem aJc {ks:List (List Nat)} (h:∀ k∈ks,k.length≤5) (hl:ks.length≤3):(aAv ks).length≤125:=by
  have h1:=aXm ks [[]] h
  have h2:5 ^ ks.length≤5 ^ 3:=Nat.pow_le_pow_right (by decide) hl
  simp only [List.length_singleton,Nat.one_mul] at h1
  exact Nat.le_trans h1 h2
theorem aOg {ks:List (List Nat)} {k:List Nat}:aAv (ks ++ [k])=wstep (aAv ks) k:=by
  simp only [aAv,List.foldl_append,List.foldl_cons,List.foldl_nil]; rfl
section
variable {G:Cx} {n:Nat} {H:AHeap} {Q:AV→AHeap→Prop} {M:Mach}
noncomputable def bDn (H:AHeap) (ld:Addr) (ks:List (List Nat)) (i:Nat) (L':LS) (H':AHeap):Prop:=∀ P:LS→Prop,(∀ (e1:HLe H H') z,P [some (.val (.ref ld)),some (aBa (aAv (ks.take i))),z])→P L'
noncomputable def bDm (ks:List (List Nat)) (i:Nat) (H1:AHeap) (k:List Nat) (j:Nat) (acc:List AV) (L':LS) (H':AHeap):Prop:=∀ P:LS→AHeap→Prop,(∀ (e2:acc=(wstep ((aAv (ks.take i)).take j) k).map aAc) x y z,P [x,y,z,some (kV k)] H1)→P L' H'
noncomputable def bDk (ks:List (List Nat)) (i:Nat) (k:List Nat) (j:Nat) (H2:AHeap) (w:List Nat) (m:Nat) (acc:List AV) (L':LS) (H':AHeap):Prop:=∀ P:LS→AHeap→Prop,(∀ (e2:acc=(wstep ((aAv (ks.take i)).take j) k ++ (k.take m).map fun a=>w ++ [a]).map aAc) x z,P [x,some (aAc w),z,some (kV k)] H2)→P L' H'
theorem bHn {ld:Addr} {ks:List (List Nat)} (he:H ld=some (.list (ks.map kV))) (hk:∀ k∈ks,k.length≤5) (hl:ks.length≤3) (h:∀ H',HLe H H'→Q (aBa (aAv ks)) H'):CW G (n+1) (.ref 425) [.val (.ref ld)] H Q:=by
  refine aNe fun D hD=>⟨D,_,rfl,AHeap.set_same,aBi (l:=ks.map kV) (.own ?_) (fvi (bDn H ld ks) (fun _ κ=>κ ?_ _) ?_ ?_)⟩
  · exact (aAd (aAd (HLe.refl H) hD) hD) _ _ he
  · exact aAd (aAd (HLe.refl H) hD) hD
  · intro i v L H1 hv hJ; apply hJ; intro le1 z
    refine aAu hv fun k ek=>?_
    have hkl:=hk k (List.mem_of_getElem? ek)
    have hil:=(List.getElem?_eq_some_iff.mp ek).1
    have hT:ks.take (i+1)=ks.take i ++ [k]:=by rw [List.take_add_one,ek]; rfl
    have hwl:=aJc (ks:=ks.take i) (fun k' m=>hk k' (List.mem_of_mem_take m)) (by rw [List.length_take]; exact Nat.le_trans (Nat.min_le_right _ _) hl)
    refine ⟨le1 _ _ he,aAh (cvi2 (bDm ks i H1 k) (fun _ κ=>κ rfl _ _ _) ?_ ?_)⟩
    · intro j v acc L H2 hv2 hJ; apply hJ; rintro rfl x y z
      refine aAu hv2 fun w ew=>?_
      have hjl:=(List.getElem?_eq_some_iff.mp ew).1
      have hfit:=(mem_wordsF.mp (List.mem_of_getElem? ew)).len
      rw [List.length_take] at hfit
      refine ⟨trivial,aAh (cvi (bDk ks i k j H1 w) (fun _ κ=>κ (by simp) _ _) ?_ ?_)⟩
      · intro m v acc L H3 hv3 hJ; apply hJ; rintro rfl x z
        refine aAu hv3 fun a ea=>?_
        have hml:=(List.getElem?_eq_some_iff.mp ea).1
        refine ⟨trivial,⟨?_,aCw (by rw [List.length_map]; show w.length+1≤_; exact om253 hl hfit) (fun _ κ=>κ ?_ _ _)⟩⟩
        · rw [List.length_map,List.length_append,aLv,List.length_take,List.length_map,List.length_take]
          have:min j (aAv (ks.take i)).length * k.length≤125 * 5:=Nat.mul_le_mul (Nat.le_trans (Nat.min_le_right _ _) hwl) hkl
          exact om252 hkl this
        · rw [List.take_add_one,ea]
          simp only [Option.toList_some,List.map_append,List.append_assoc,List.map_cons,List.map_nil,aAc]
      · intro acc L H3 hJ; apply hJ; rintro rfl x z
        rw [List.length_map,List.take_length]
        refine ⟨trivial,fun _ κ=>κ ?_ _ _ _⟩
        rw [List.take_add_one,ew]
        simp [wstep]
    · intro acc L H2 hJ; apply hJ; rintro rfl x y z
      rw [List.length_map,List.take_length,← aOg,← hT]
      exact ⟨trivial,fun E hE=>⟨E,_,rfl,AHeap.set_same,fun _ κ=>κ (aAd (aAd le1 (le1.fresh hE)) (le1.fresh hE)) _⟩⟩
  · intro L H1 hJ; apply hJ; intro le1 z
    rw [List.length_map,List.take_length]
    exact ⟨le1 _ _ he,h H1 le1⟩
noncomputable def ksAt (ks:List (List Nat)) (x:Int):List Nat:=ks.getD x.toNat []
noncomputable def holdB (ks:List (List Nat)) (lits:List Lit):Bool:=lits.all fun l=>(ksAt ks l.x).all fun v=>sayL l (v:Nat)
theorem aRk {ks:List (List Nat)} {x:Int} (h:x.toNat < ks.length):ks[x.toNat]?=some (ksAt ks x):=by
  rw [ksAt,List.getD_eq_getElem?_getD,List.getElem?_eq_getElem h]; rfl
noncomputable def bDj (H:AHeap) (kd:Addr) (ks:List (List Nat)) (lits:List Lit) (i:Nat) (acc:List AV) (L':LS) (H':AHeap):Prop:=∀ P:LS→AHeap→Prop,(∀ (e2:acc.length≤5 * i) (e3:acc=((lits.take i).flatMap fun l=>(ksAt ks l.x).map fun v=>sayL l (v:Nat)).map AV.bool) x y z,P [x,y,z,some (.val (.ref kd))] H)→P L' H'
noncomputable def bDi (kd:Addr) (ks:List (List Nat)) (lits:List Lit) (i:Nat) (H1:AHeap) (l:Lit) (m:Nat) (acc:List AV) (L':LS) (H':AHeap):Prop:=∀ P:LS→AHeap→Prop,(∀ (e2:acc.length≤5 * i+m) (e3:acc=(((lits.take i).flatMap fun l=>(ksAt ks l.x).map fun v=>sayL l (v:Nat)) ++ ((ksAt ks l.x).take m).map fun v=>sayL l (v:Nat)).map AV.bool) x z,P [x,some (litAV l),z,some (.val (.ref kd))] H1)→P L' H'
theorem bEn {kd:Addr} {ks:List (List Nat)} {lits:List Lit} (he:H kd=some (.list (ks.map kV))) (hk:∀ k∈ks,k.length≤5) (hl:ks.length≤3) (hn:lits.length≤500) (hx:∀ l∈lits,0≤l.x∧l.x.toNat < ks.length) (h:∀ H',HLe H H'→Q (.val (.bool (holdB ks lits))) H') :
    CW G (n+2) (.ref 437) [aBg lits,.val (.ref kd)] H Q:=by
  refine aPs (aBn (cvi2 (bDj H kd ks lits) (fun _ κ=>κ (by simp) rfl _ _ _) ?_ ?_))
  · intro i v acc L H1 hv hJ; apply hJ; rintro hal rfl x y z
    refine aAu hv fun l el=>?_
    have hlx:=hx l (List.mem_of_getElem? el)
    have hil:=(List.getElem?_eq_some_iff.mp el).1
    have hkm:=hk _ (List.mem_of_getElem? (aRk hlx.2))
    refine ⟨trivial,aAp (k:=0) rfl rfl (aAq (l:=ks.map kV) (v:=kV (ksAt ks l.x)) (.own he) hlx.1 (by rw [List.getElem?_map,aRk hlx.2]; rfl) (by rw [List.length_map]; exact ltL hl rfl) (aAh (cvi (bDi kd ks lits i H l) (fun _ κ=>κ hal (by simp) _ _) ?_ ?_)))⟩
    · intro m v acc L H2 hv2 hJ; apply hJ; rintro hal2 rfl x z
      refine aAu hv2 fun a ea=>?_
      have hml:=(List.getElem?_eq_some_iff.mp ea).1
      refine ⟨trivial,⟨om251 hn hil hkm hal2 hml,aSb (l:=l) (v:=(a:Nat)) (fun _ κ=>κ ?_ ?_ _ _)⟩⟩
      · rw [List.length_append]; simp only [List.length_singleton]; exact Nat.succ_le_succ hal2
      · rw [List.take_add_one,ea]
        simp only [Option.toList_some,List.map_append,List.append_assoc,List.map_cons,List.map_nil]
    · intro acc L H2 hJ; apply hJ; rintro hal2 rfl x z
      rw [List.length_map (f:=natAV)] at hal2 ⊢
      rw [List.take_length]
      refine ⟨trivial,fun _ κ=>κ ?_ ?_ _ _ _⟩
      · rw [List.take_length] at hal2; exact Nat.le_trans hal2 (Nat.add_le_add (Nat.le_refl _) hkm)
      · rw [List.take_add_one,el]
        simp
  · intro acc L H1 hJ; apply hJ; rintro hal rfl x y z
    rw [List.length_map,List.take_length]
    refine ⟨trivial,fun D hD=>aYh (.own AHeap.set_same) ?_⟩
    have e:((lits.flatMap fun l=>(ksAt ks l.x).map fun v=>sayL l (v:Nat)).all id)=holdB ks lits:=by
      simp [holdB,List.all_flatMap,Function.comp_def]
    rw [e]
    exact h _ (HLe.new hD)
end
end
section
noncomputable def wAt (w:List Nat) (x:Int):Nat:=w.getD x.toNat 0
noncomputable def holdW (w:List Nat) (why:List Lit):Bool:=why.all fun l=>sayL l (wAt w l.x:Nat)
noncomputable def litO:Option Lit→AV
  | none=>AV.none
  | some l=>litAV l
noncomputable def okO (w:List Nat):Option Lit→Bool
  | none=>false
  | some l=>sayL l (wAt w l.x:Nat)
noncomputable def aAx (ws:List (List Nat)) (why:List Lit) (lit:Option Lit):Bool:=ws.all fun w=>!holdW w why || okO w lit
theorem aOj {w:List Nat} {x:Int} (h:x.toNat < w.length):(w.map natAV)[x.toNat]?=some (natAV (wAt w x)):=by
  rw [List.getElem?_map,wAt,List.getD_eq_getElem?_getD,List.getElem?_eq_getElem h]; rfl
section
variable {G:Cx} {n:Nat} {H:AHeap} {Q:AV→AHeap→Prop} {M:Mach}
noncomputable def bDh (why:List Lit) (H1:AHeap) (w:List Nat) (j:Nat) (acc:List AV) (L':LS) (H':AHeap):Prop:=∀ P:LS→AHeap→Prop,(∀ (e2:acc.length≤j) (e3:acc=((why.take j).map fun l=>sayL l (wAt w l.x:Nat)).map AV.bool) x y,P [x,y,some (aAc w)] H1)→P L' H'
theorem aNz {ws:List (List Nat)} {why:List Lit} {lit:Option Lit} {m:Nat} (hw:∀ w∈ws,w.length=m) (hm:m≤100) (hn:why.length≤500) (hx:∀ l∈why,0≤l.x∧l.x.toNat < m) (hlx:∀ l,lit=some l→0≤l.x∧l.x.toNat < m) (h:∀ H',HLe H H'→Q (.val (.bool (aAx ws why lit))) H') :
    CW G (n+2) (.ref 442) [aBa ws,aBg why,litO lit] H Q:=by
  refine aIv (aAh (fvi (fun i L' H'=>HLe H H'∧aAx (ws.take i) why lit=true∧∃ z,L'=[some (aBa ws),some (aBg why),some (litO lit),z]) ⟨HLe.refl H,by simp [aAx],_,rfl⟩ ?_ ?_))
  · rintro i v L H1 hv ⟨le1,hf,z,rfl⟩
    refine aAu hv fun w ew=>?_
    have hwl:=hw w (List.mem_of_getElem? ew)
    have bad:∀ H',HLe H H'→holdW w why=true→okO w lit=false→Q (.val (.bool false)) H':=fun H' le hh ho=>by
      have:=h H' le
      rw [show aAx ws why lit=false from ?_] at this
      · exact this
      · rw [aAx,List.all_eq_false]
        exact ⟨w,List.mem_of_getElem? ew,by simp [hh,ho]⟩
    have good:∀ H',HLe H H'→(!holdW w why || okO w lit)=true→HLe H H'∧aAx (ws.take (i+1)) why lit=true∧∃ z,[some (aBa ws),some (aBg why),some (litO lit),some (aAc w)]=[some (aBa ws),some (aBg why),some (litO lit),z]:=fun H' le hh=>by
      refine ⟨le,?_,_,rfl⟩
      rw [List.take_add_one,ew]
      simp only [aAx,Option.toList_some,List.all_append,List.all_cons,List.all_nil,Bool.and_true,Bool.and_eq_true]
      exact ⟨hf,hh⟩
    refine ⟨trivial,aBn (cvi (bDh why H1 w) (fun _ κ=>κ (by simp) rfl _ _) ?_ ?_)⟩
    · intro j v acc L H2 hv2 hJ; apply hJ; rintro hal rfl x y
      refine aAu hv2 fun l el=>?_
      have hlx:=hx l (List.mem_of_getElem? el)
      have hjl:=(List.getElem?_eq_some_iff.mp el).1
      refine ⟨trivial,⟨Nat.lt_of_le_of_lt hal (Nat.lt_of_lt_of_le hjl (leL hn rfl)),aAp (k:=0) rfl rfl (aBq hlx.1 (aOj (ltEq hlx.2 hwl)) (by rw [List.length_map]; exact eqLe hwl (leL hm rfl)) (aSb (fun _ κ=>κ ?_ ?_ _ _)))⟩⟩
      · rw [List.length_append]; simp only [List.length_singleton]; exact Nat.succ_le_succ hal
      · rw [List.take_add_one,el]
        simp only [Option.toList_some,List.map_append,List.append_assoc,List.map_cons,List.map_nil]
    · intro acc L H2 hJ; apply hJ; rintro hal rfl x y
      rw [List.length_map,List.take_length]
      refine ⟨trivial,fun D hD=>aYh (.own AHeap.set_same) ?_⟩
      have e:(why.map fun l=>sayL l (wAt w l.x:Nat)).all id=holdW w why:=by simp [holdW,List.all_map,Function.comp_def]
      rw [e]
      have le2:=aAd (o:=.list ((why.map fun l=>sayL l (wAt w l.x:Nat)).map AV.bool)) le1 (le1.fresh hD)
      refine tb (fun hh=>?_) (fun hh=>good _ le2 (by rw [hh]; rfl))
      cases lit with
      | none =>
        exact bad _ le2 hh rfl
      | some l =>
        have hlx':=hlx l rfl
        refine aAp (k:=0) rfl rfl (aBq hlx'.1 (aOj (ltEq hlx'.2 hwl)) (by rw [List.length_map]; exact eqLe hwl (leL hm rfl)) (aSb ?_))
        cases hs:sayL l (wAt w l.x:Nat) with
        | true=>exact good _ le2 (by simp [okO,hs])
        | false=>exact bad _ le2 hh hs
  · rintro L H1 ⟨le1,hf,z,rfl⟩
    rw [List.length_map,List.take_length] at hf
    refine ⟨trivial,?_⟩
    have:=h H1 le1
    rw [hf] at this; exact this
end
end
section
noncomputable def nPD (l:List Nat):PyData:=.list (l.map fun k=>.int (k:Nat))
noncomputable def kPD (ks:List (List Nat)):PyData:=.list (ks.map nPD)
theorem nRDs {H:AHeap}:∀ l:List Nat,RDs H (l.map natAV) (l.map fun k=>.int (k:Nat))
  | []=>.nil
  | k :: l=>.cons (.int _) (nRDs l)
theorem nRD {H:AHeap} (l:List Nat):RD H (kV l) (nPD l):=.lst (nRDs l)
theorem kRDs {H:AHeap}:∀ ks:List (List Nat),RDs H (ks.map kV) (ks.map nPD)
  | []=>.nil
  | k :: ks=>.cons (nRD k) (kRDs ks)
theorem aKr (l:List Nat):PyData.depthAll (l.map fun k=>.int (k:Nat))=0:=by
  induction l with
  | nil=>simp [PyData.depthAll]
  | cons k l this=>simp [PyData.depthAll,PyData.depth,this]
theorem aEo (l:List Nat):(nPD l).depth≤1:=by
  have:=aKr l
  simp only [nPD,PyData.depth]; exact Nat.succ_le_succ (eqLe this (by decide))
theorem aWt (ks:List (List Nat)):PyData.depthAll (ks.map nPD)≤1:=by
  induction ks with
  | nil=>simp [PyData.depthAll]
  | cons k ks ih =>
    have:=aEo k
    simp only [List.map_cons,PyData.depthAll]; exact om255 ih this
theorem aHf (ks:List (List Nat)):(kPD ks).depth≤8:=by
  have:=aWt ks
  simp only [kPD,PyData.depth]; exact Nat.succ_le_succ (leL this rfl)
theorem aKs (a b:List Nat):PyData.eqv (nPD a) (nPD b)=decide (a=b):=by
  simp only [nPD,PyData.eqv]
  induction a generalizing b with
  | nil=>cases b <;> simp [PyData.eqvAll]
  | cons p a ih =>
    cases b with
    | nil=>simp [PyData.eqvAll]
    | cons q b =>
      simp only [List.map_cons,PyData.eqvAll,PyData.eqv,ih]
      have:decide (((p:Nat):Int)=(q:Nat))=decide (p=q):=by rw [decide_eq_decide]; exact om254
      by_cases h1:p=q <;> by_cases h3:a=b <;> simp [h1,h3]
      all_goals exact om224 h1
theorem aPf (a b:List (List Nat)):PyData.eqv (kPD a) (kPD b)=decide (a=b):=by
  simp only [kPD,PyData.eqv]
  induction a generalizing b with
  | nil=>cases b <;> simp [PyData.eqvAll]
  | cons p a ih =>
    cases b with
    | nil=>simp [PyData.eqvAll]
    | cons q b =>
      simp only [List.map_cons,PyData.eqvAll,aKs,ih]
      by_cases h1:p=q <;> by_cases h3:a=b <;> simp [h1,h3]
section
variable {G:Cx} {n:Nat} {H:AHeap} {Q:AV→AHeap→Prop}
theorem bCj {a b:List Nat} (h:Q (.val (.bool (!decide (a=b)))) H):Bin G n (compareOp .NotEq) (kV a) (kV b) H Q :=
  aGd (nRD a) (nRD b) (Nat.le_trans (aEo a) (by decide)) (show Q (.val (.bool (!PyData.eqv (nPD a) (nPD b)))) H by rw [aKs]; exact h)
theorem bCk {a b:List Nat} (h:Q (.val (.bool (decide (a=b)))) H):Bin G n (compareOp .Eq) (kV a) (kV b) H Q :=
  aOc (nRD a) (nRD b) (Nat.le_trans (aEo a) (by decide)) (show Q (.val (.bool (PyData.eqv (nPD a) (nPD b)))) H by rw [aKs]; exact h)
theorem aUn {D:Addr} {a:List Nat} (he:H D=some (.list [])) (h:Q (.val (.bool (decide (a=[])))) H):Bin G n (compareOp .Eq) (kV a) (.val (.ref D)) H Q :=
  aOc (nRD a) (.list (ds:=[]) he .nil) (Nat.le_trans (aEo a) (by decide)) (show Q (.val (.bool (PyData.eqv (nPD a) (nPD [])))) H by rw [aKs]; exact h)
theorem aYx {D E:Addr} {a b:List (List Nat)} (h1:H D=some (.list (a.map kV))) (h2:H E=some (.list (b.map kV))) (h:Q (.val (.bool (decide (a=b)))) H):Bin G n (compareOp .Eq) (.val (.ref D)) (.val (.ref E)) H Q :=
  aOc (.list h1 (kRDs a)) (.list h2 (kRDs b)) (aHf a) (show Q (.val (.bool (PyData.eqv (kPD a) (kPD b)))) H by rw [aPf]; exact h)
end
inductive Good (ws:List (List Nat)) (m:Nat):List (List Nat)→List Entry→List (List Nat)→Prop
  | nil (ks:List (List Nat)):Good ws m ks [] ks
  | cons {ks ks':List (List Nat)} {es:List Entry} {l:Lit} {x:Nat} {f:Nat→Bool} {why:List Lit}:l.x=(x:Nat)→x < m→ks[x]?=some (vls f)→vls (cut f l)≠[]→vls (cut f l)≠vls f→holdB ks why=true→aAx ws why (some l)=true→why.length≤500 →
      (∀ o∈why,0≤o.x∧o.x.toNat < m)→Good ws m (ks.set x (vls (cut f l))) es ks'→Good ws m ks (⟨l.x,dm f,l,some why,-1⟩ :: es) ks'
end
section
theorem bFm (f:Nat→Bool) (l:Lit):(vls f).filter (fun v=>sayL l (v:Nat))=vls (cut f l):=by
  rw [vls,vls,List.filter_filter]
  congr 1
  funext v
  rw [cut,sayL,Bool.and_comm]
noncomputable def ksV (m:Nat) (fs:FS):List (List Nat):=(List.range m).map fun x=>vls (fs x)
theorem aDs {m:Nat} {fs:FS} {x:Nat} (h:x < m):(ksV m fs)[x]?=some (vls (fs x)):=by simp [ksV,h]
theorem aCe {m:Nat} {fs:FS}:(ksV m fs).length=m:=by simp [ksV]
theorem aRh {m:Nat} {fs:FS} {x:Nat} (h:x < m):(ksV m fs).take (x+1)=(ksV m fs).take x ++ [vls (fs x)]:=by rw [List.take_add_one,aDs h]; rfl
theorem aRi {m:Nat} {fs:FS}:∀ k∈ksV m fs,k.length≤5:=fun k hk=>by
  refine aCm hk fun y _=>?_
  exact aCy _
section
variable {G:Cx} {n:Nat} {H:AHeap} {Q:AV→AHeap→Prop} {F:SA} {S:SSt}
noncomputable def bDg (H:AHeap) (F:SA) (m:Nat) (fs:FS) (i:Nat) (acc:List AV) (L':LS) (H':AHeap):Prop:=∀ P:LS→Prop,(∀ (e1:HLe H H') (e2:acc=((ksV m fs).take i).map kV) a b,P [a,b,some (.val (.ref F.st))])→P L'
theorem aLn {m:Nat} {fs:FS} (hm:m≤3) (st:StoreAt H F S) (hd:S.doms=DMs m fs) (h:∀ H' D,HLe H H'→H D=none→H' D=some (.list ((ksV m fs).map kV))→Q (.val (.ref D)) H') :
    CVq (fun v L H K=>VTg G (n+1) (.var 1) v L H K) (fun L H K=>VT G (n+1) .tt L H K) (fun L H K=>VE G (n+1) (.call (.ref 70) (.cons (.meth (.var 2) "dom" (.cons (.var 1) .nil)) .nil)) L H K) (fun _=>True) (compK Q) (rngL 0 1 m) [] [none,none,some (.val (.ref F.st))] H:=by
  refine cvr0 (bDg H F m fs) (fun _ κ=>κ (HLe.refl H) rfl _ _) ?_ ?_
  · intro i acc L H1 hi hJ; apply hJ; rintro le1 rfl a b
    have st1:=st.le le1
    refine ⟨?_,aAe st1.inst st1.attrs (by kernel_rfl!) (by kernel_rfl!:meB G.w 265 "dom" 150=true) (c_dom (i:=i) st1 (by rw [hd]; exact aGe hi) (by rw [hd,aBk]; exact leL hm rfl) (aLp (dm_ok _) fun H2 le2=>fun _ κ=>κ (le1.trans le2) ?_ _ _))⟩
    · rw [List.length_map,List.length_take,aCe]; exact Nat.lt_of_le_of_lt (Nat.min_le_right _ _) (ltL hm rfl)
    · rw [aOm,aRh hi,List.map_append]; rfl
  · intro acc L H1 hJ; apply hJ; rintro le1 rfl a b
    intro D hD
    rw [List.take_of_length_le (by rw [aCe]; exact Nat.le_refl _)]
    exact h _ D (le1.trans (HLe.new hD)) (le1.fresh hD) AHeap.set_same
noncomputable def bDf (H:AHeap) (F:SA) (m:Nat) (fs:FS) (kd:Addr) (ed:Addr) (ws:List (List Nat)) (es:List Entry) (i:Nat) (L':LS) (H':AHeap):Prop:=∀ P:LS→Prop,(∀ (e1:HBut [kd] H H') (ks1:List (List Nat)) (z1:Option AV) (z2:Option AV) (z3:Option AV) (z4:Option AV) (z5:Option AV) (z6:Option AV) (e2:H' kd=some (.list (ks1.map kV))) (e3:ks1.length=m) (e4:(∀ k∈ks1,k.length≤5)) (e5:Good ws m ks1 (es.drop i) (ksV m fs)),P [some (.val (.ref F.st)),some (aBa ws),some (.val (.ref kd)),some (.val (.ref ed)),z1,z2,z3,z4,z5,z6])→P L'
noncomputable def bDe (H1:AHeap) (l:Lit) (f:Nat→Bool) (j:Nat) (acc:List AV) (L':LS) (H':AHeap):Prop:=∀ P:LS→AHeap→Prop,(∀ (e2:acc.length≤j) (e3:acc=(((vls f).take j).filter fun v=>sayL l (v:Nat)).map natAV) a b,P [a,b,some (litAV l)] H1)→P L' H'
theorem aIb {m:Nat} {fs:FS} {kd ed:Addr} {ws:List (List Nat)} {ks:List (List Nat)} {es:List Entry} (hm:m≤3) (st:StoreAt H F S) (hd:S.doms=DMs m fs) (hkF:kd∉F.all) (hk:H kd=some (.list (ks.map kV))) (he:H ed=some (.list (es.map aBy))) (hek:ed≠kd)
    (hw:∀ w∈ws,w.length=m) (hel:es.length≤1000) (hkl:ks.length=m) (hks:∀ k∈ks,k.length≤5) (hg:Good ws m ks es (ksV m fs)) (h:∀ H',HBut [kd] H H'→H' kd=some (.list ((ksV m fs).map kV))→Q (.val (.bool true)) H') :
    CW G (n+3) (.ref 447) [.val (.ref F.st),aBa ws,.val (.ref kd),.val (.ref ed)] H Q:=by
  refine aCo (aBi (l:=es.map aBy) (.own he) (fvi (bDf H F m fs kd ed ws es) (fun _ κ=>κ ((HLe.refl H).but) ks _ _ _ _ _ _ hk hkl hks hg) ?_ ?_))
  · intro i v L H1 hv hJ; apply hJ; intro hb1 ks1 z1 z2 z3 z4 z5 z6 hk1 hl1 hs1 hg1
    refine aAu hv fun e ee=>?_
    have hlt:=(List.getElem?_eq_some_iff.mp ee).1
    have he1:H1 ed=some (.list (es.map aBy)):=hb1.1 _ _ (fun q=>hek (List.mem_singleton.mp q)) he
    rw [List.drop_eq_getElem_cons hlt,(List.getElem?_eq_some_iff.mp ee).2] at hg1
    cases hg1 with
    | @cons _ _ _ l x f why hx hxm hkx hc1 hc2 hh hf hwl hwx hgr =>
    have hgx:∀ {H2:AHeap} {Q},H2 kd=some (.list (ks1.map kV))→Q (kV (vls f)) H2→GetI G (n+2) (.val (.ref kd)) (.int l.x) H2 Q:=fun e q=>aAq (v:=kV (vls f)) (.own e) (om257 hx) (by rw [hx,Int.toNat_natCast,List.getElem?_map,hkx]; rfl) (by rw [List.length_map]; exact eqLt hl1 (ltL hm rfl)) q
    refine ⟨he1,hgx hk1 (aAh (cvi (bDe H1 l f) (fun _ κ=>κ (by simp) rfl _ _) ?_ ?_))⟩
    · intro j v acc L H2 hv2 hJ; apply hJ; rintro hal rfl a b
      refine aAu hv2 fun c ec=>?_
      have hjl:=(List.getElem?_eq_some_iff.mp ec).1
      have hvl:=aCy f
      refine ⟨trivial,aSb (l:=l) (v:=(c:Nat)) (tb (fun hs=>⟨Nat.lt_of_le_of_lt hal (Nat.lt_of_lt_of_le hjl (leL hvl rfl)),fun _ κ=>κ ?_ ?_ _ _⟩) (fun hs=>fun _ κ=>κ (Nat.le_trans hal (Nat.le_add_right _ _)) ?_ _ _))⟩
      · rw [List.length_append]; simp only [List.length_singleton]; exact Nat.succ_le_succ hal
      · rw [List.take_add_one,ec]
        simp only [Option.toList_some,List.filter_append,List.map_append]
        simp [hs]
      · rw [List.take_add_one,ec]
        simp only [Option.toList_some,List.filter_append,List.map_append]
        simp [hs]
    · intro acc L H2 hJ; apply hJ; rintro hal rfl a b
      rw [List.length_map,List.take_length,bFm]
      refine ⟨trivial,fun E hE=>⟨E,_,rfl,AHeap.set_same,?_⟩⟩
      have le2:=aAd (o:=.frz ((vls (cut f l)).map natAV)) (aAd (o:=.list ((vls (cut f l)).map natAV)) (HLe.refl H1) hE) hE
      generalize ((H1.set E (.list ((vls (cut f l)).map natAV))).set E (.frz ((vls (cut f l)).map natAV)))=H3 at le2
      have hk3:=le2 _ _ hk1
      have t1:∀ {P:Prop},decide (l.x≠l.x)=true→P:=fun z=>absurd (of_decide_eq_true z) (fun q=>q rfl)
      refine aAp (k:=0) rfl rfl (tb t1 (fun _=>aLp (dm_ok f) fun H4 le4=>?_))
      rw [aOm]
      have hk4:=le4 _ _ hk3
      refine hgx hk4 (bCj (tb (fun z=>by simp at z) (fun _=>fun E5 hE5=>aUn AHeap.set_same (tb (fun z=>absurd (of_decide_eq_true z) hc1) (fun _=>hgx ?_ (bCk (tb (fun z=>absurd (of_decide_eq_true z) hc2) (fun _=>?_))))))))
      · exact (HLe.new hE5) _ _ hk4
      have le5:=(le2.trans le4).trans (HLe.new (o:=.list []) hE5)
      have hk5:=le5 _ _ hk1
      generalize H4.set E5 (.list [])=H5 at le5 hk5
      have hlx:0≤l.x∧l.x.toNat < m:=⟨om257 hx,om256 hx hxm⟩
      refine bEn hk5 hs1 (eqLe hl1 hm) hwl (fun o ho=>by have:=hwx o ho; exact And.intro this.1 (ltEq this.2 hl1)) fun H6 le6=>?_
      rw [hh]
      refine aNz (lit:=some l) hw (leL hm rfl) hwl hwx (fun l' e=>by cases e; exact hlx) fun H7 le7=>?_
      rw [hf]
      have le8:=(le5.trans le6).trans le7
      refine aBt (k:=l.x) (l:=ks1.map kV) (le8 _ _ hk1) hlx.1 (by rw [List.length_map]; exact om131 hl1 hlx.2) (by rw [List.length_map]; exact eqLt hl1 (ltL hm rfl)) ?_
      refine fun _ κ=>κ ((hb1.trans le8.but).set (.head _)) (ks1.set x (vls (cut f l))) _ _ _ _ _ _ ?_ (by rw [List.length_set]; exact hl1) (fun k hk=>?_) hgr
      · rw [AHeap.set_same,hx,Int.toNat_natCast,List.map_set]; rfl
      · rcases List.mem_or_eq_of_mem_set hk with hk | rfl
        · exact hs1 k hk
        · exact aCy _
  · intro L H1 hJ; apply hJ; intro hb1 ks1 z1 z2 z3 z4 z5 z6 hk1 hl1 hs1 hg1
    rw [List.length_map,List.drop_length] at hg1
    have st1:=st.but hb1 fun a m m2=>by rw [List.mem_singleton.mp m2] at m; exact hkF m
    have he1:H1 ed=some (.list (es.map aBy)):=hb1.1 _ _ (fun q=>hek (List.mem_singleton.mp q)) he
    have e:ks1=ksV m fs:=by cases hg1; rfl
    subst e
    refine ⟨he1,aAe st1.inst st1.attrs (by kernel_rfl!) (by kernel_rfl!:meB G.w 265 "size" 143=true) (aYq st1 (k:=m) (by rw [hd,aBk]) (leL hm rfl) (rngk (leL hm rfl) ?_))⟩
    refine aLn hm st1 hd fun H2 D le2 hD2 e2=>aYx (le2 _ _ hk1) e2 ?_
    rw [decide_eq_true rfl]
    exact h _ (hb1.trans le2.but) (le2 _ _ hk1)
end
end
section
noncomputable abbrev isA (M:Mach) (a:Nat):Prop:=1≤a∧a≤M.letters
noncomputable def goN (M:Mach):Nat→List Nat→Bool
  | s,[]=>decide (s∈M.finals)
  | s,a :: w=>if s=0∨¬ isA M a then false else goN M (mv M s a) w
noncomputable def pth (M:Mach):Nat→List Nat→Nat
  | s,[]=>s
  | s,a :: w=>if s=0 then 0 else pth M (mv M s a) w
theorem bKu {M:Mach}:∀ (w:List Nat) (s:Nat),goF M (iz w) s=goN M s w:=by
  intro v
  induction v with
  | nil =>
    exact fun s=>rfl
  | cons a w ih =>
    intro s
    show goF M (((a:Nat):Int) :: iz w) s=_
    rw [goF,goN,Int.toNat_natCast,ih]
    have:(s=0∨¬ (1≤((a:Nat):Int)∧((a:Nat):Int)≤(M.letters:Nat)))↔(s=0∨¬ isA M a):=by unfold isA; exact om259
    by_cases h:s=0∨¬ isA M a
    · rw [if_pos h,if_pos (this.mpr h)]
    · rw [if_neg h,if_neg (fun z=>h (this.mp z))]
section
variable {M:Mach}
theorem fin0 (ok:MOk M):(0:Nat)∉M.finals:=fun h=>by have:=ok.ff 0 h; exact om258 this.1
theorem aRq (ok:MOk M):∀ w:List Nat,goN M 0 w=false
  | []=>by simp [goN,fin0 ok]
  | a :: w=>by simp [goN]
theorem aCt (ok:MOk M) {s a:Nat} {w:List Nat} (hs:s≠0):goN M s (a :: w)=true↔isA M a∧mv M s a≠0∧goN M (mv M s a) w=true:=by
  rw [goN]
  by_cases h:isA M a
  · rw [if_neg (fun z=>z.elim hs fun z=>z h)]
    refine ⟨fun z=>⟨h,fun e=>?_,z⟩,fun z=>z.2.2⟩
    rw [e,aRq ok] at z; cases z
  · rw [if_pos (.inr h)]
    exact ⟨(fun z=>nomatch z),fun z=>absurd z.1 h⟩
theorem mem_predL {good:List Nat} {a s:Nat}:s∈predL M good a↔(1≤s∧s≤M.states)∧mv M s a∈good:=by
  simp only [predL,predI,List.mem_filter,List.mem_map,List.mem_range,decide_eq_true_eq]
  constructor
  · rintro ⟨⟨k,hk,rfl⟩,h⟩; exact ⟨⟨Nat.le_add_left _ _,Nat.succ_le_of_lt hk⟩,h⟩
  · rintro ⟨⟨h1,h2⟩,h⟩; exact ⟨⟨s - 1,om153 h1 h2,Nat.sub_add_cancel h1⟩,h⟩
theorem bKv (ok:MOk M):∀ (u v:List Nat) (good:List Nat),(∀ s,1≤s→s≤M.states→(s∈good↔goN M s v=true))→(∀ s∈good,1≤s∧s≤M.states)→goB M u good=goN M M.start (u.reverse ++ v):=by
  intro v
  induction v with
  | nil =>
    intro v good hg _
    rw [goB,List.reverse_nil,List.nil_append,Bool.eq_iff_iff,decide_eq_true_eq]
    exact hg _ ok.t1 ok.t2
  | cons a u ih =>
    intro v good hg hb
    rw [goB,List.reverse_cons,List.append_assoc]
    by_cases h:isA M a
    · rw [if_pos (show 1≤a∧a≤M.letters from h)]
      refine ih ([a] ++ v) _ (fun s h1 h2=>?_) fun s hs=>(mem_predL.mp hs).1
      have hm:=ok.mv_le h1 h2 h.1 h.2
      rw [mem_predL,List.singleton_append,aCt ok (neZ h1)]
      constructor
      · rintro ⟨_,hin⟩
        have h0:=hb _ hin
        exact ⟨h,neZ h0.1,(hg _ h0.1 h0.2).mp hin⟩
      · rintro ⟨_,h0,hgo⟩
        exact ⟨⟨h1,h2⟩,(hg _ (posN h0) hm).mpr hgo⟩
    · rw [if_neg (show ¬ (1≤a∧a≤M.letters) from h)]
      have key:∀ (u:List Nat) (s:Nat),goN M s (u ++ a :: v)=false:=by
        intro u
        induction u with
        | nil=>intro s; rw [List.nil_append,goN,if_pos (.inr h)]
        | cons b u ih =>
          intro s
          rw [List.cons_append,goN]
          split
          · rfl
          · exact ih _
      exact (key _ _).symm
theorem go_eq (ok:MOk M) (w:List Nat):goB M w.reverse M.finals=goN M M.start w:=by
  rw [bKv ok w.reverse [] M.finals (fun s _ _=>by simp [goN]) ok.ff]; simp
theorem aIh {g:Nat→Bool} (p:Nat):∀ (ks:List (List Nat)),p≤ks.length→alF (aAr M g ks) p=alF (aAr M g (ks.drop p)) 0:=by
  induction p with
  | zero=>intro ks _; rw [List.drop_zero]
  | succ p ih =>
    intro ks h
    cases ks with
    | nil=>exact nomatch h
    | cons k ks=>rw [aZb,List.drop_succ_cons]; exact ih ks (Nat.le_of_succ_le_succ h)
theorem bGc (p:Nat):∀ (ks:List (List Nat)) (f:Nat→Bool) (k:List Nat),ks[p]?=some k→alF (aAs M f ks) (p+1)=nextR M (alF (aAs M f ks) p) k:=by
  induction p with
  | zero =>
    intro ks f k h
    cases ks with
    | nil=>simp at h
    | cons k' ks =>
      simp at h; subst h
      rw [aPb,aKi,aKi]
  | succ p ih =>
    intro ks f k h
    cases ks with
    | nil=>simp at h
    | cons k' ks=>rw [aPb,aPb]; exact ih ks _ k (by simpa using h)
theorem aMo (ok:MOk M) {f:Nat→Bool} {k:List Nat} (hk:∀ a∈k,isA M a) {t:Nat}:nextR M f k t=true↔t≠0∧∃ s a,1≤s∧s≤M.states∧f s=true∧a∈k∧mv M s a=t:=by
  simp only [nextR,Bool.and_eq_true,bne_iff_ne,List.any_eq_true,List.mem_range,beq_iff_eq]
  constructor
  · rintro ⟨h0,s,hs,hf,a,ha,e⟩; exact ⟨h0,s+1,a,Nat.le_add_left _ _,Nat.succ_le_of_lt hs,hf,ha,e⟩
  · rintro ⟨h0,s,a,h1,h2,hf,ha,e⟩
    have e1:s - 1+1=s:=Nat.sub_add_cancel h1
    exact ⟨h0,s - 1,Nat.lt_of_lt_of_le (Nat.lt_succ_self _) (eqLe e1 h2),by rw [e1]; exact hf,a,ha,by rw [e1]; exact e⟩
noncomputable def stt (M:Mach) (w:List Nat) (p:Nat):Nat:=pth M M.start (w.take p)
theorem aKj:∀ (u:List Nat) (s a:Nat),pth M s (u ++ [a])=if pth M s u=0 then 0 else mv M (pth M s u) a:=by
  intro v
  induction v with
  | nil =>
    intro s a
    show (if s=0 then 0 else mv M s a)=_
    rfl
  | cons b u ih =>
    intro s a
    rw [List.cons_append,pth,pth]
    by_cases h:s=0
    · rw [if_pos h,if_pos h,if_pos rfl]
    · rw [if_neg h,if_neg h]; exact ih _ a
theorem aEe {w:List Nat} {p a:Nat} (h:w[p]?=some a) (h0:stt M w p≠0):stt M w (p+1)=mv M (stt M w p) a:=by
  rw [stt,List.take_add_one,h,Option.toList_some,aKj]
  exact if_neg h0
theorem bBr (ok:MOk M) (u v:List Nat):∀ (s:Nat),s≠0→goN M s (u ++ v)=true→pth M s u≠0∧goN M (pth M s u) v=true:=by
  induction u with
  | nil=>exact fun s hs h=>⟨hs,h⟩
  | cons a u ih =>
    intro s hs h
    rw [List.cons_append,aCt ok hs] at h
    rw [pth,if_neg hs]
    exact ih _ h.2.1 h.2.2
noncomputable def Acc (M:Mach) (w:List Nat):Prop:=goN M M.start w=true
theorem Acc.st (ok:MOk M) {w:List Nat} (h:Acc M w) (p:Nat):stt M w p≠0∧goN M (stt M w p) (w.drop p)=true:=by
  have h':goN M M.start (w.take p ++ w.drop p)=true:=by rw [List.take_append_drop]; exact h
  exact bBr ok _ _ _ (by have:=ok.t1; exact neZ this) h'
theorem Acc.letter (ok:MOk M) {w:List Nat} (h:Acc M w) {p a:Nat} (e:w[p]?=some a):isA M a:=by
  have h':=(h.st ok p).2
  have hlt:=(List.getElem?_eq_some_iff.mp e).1
  rw [List.drop_eq_getElem_cons hlt,(List.getElem?_eq_some_iff.mp e).2,aCt ok (h.st ok p).1] at h'
  exact h'.1
theorem Acc.le (ok:MOk M) {w:List Nat} (h:Acc M w) (p:Nat):p≤w.length→stt M w p≤M.states:=by
  induction p with
  | zero=>exact fun _=>ok.t2
  | succ p ih =>
    intro hp
    have e:w[p]?=some w[p]:=List.getElem?_eq_getElem (Nat.lt_of_lt_of_le (Nat.lt_succ_self _) hp)
    have hl:=h.letter ok e
    have h0:=(h.st ok p).1
    rw [aEe e h0]
    exact ok.mv_le (posN h0) (ih (Nat.le_trans (Nat.le_succ _) hp)) hl.1 hl.2
theorem Acc.final (ok:MOk M) {w:List Nat} (h:Acc M w):stt M w w.length∈M.finals:=by
  have h':=(h.st ok w.length).2
  rw [List.drop_length] at h'
  exact of_decide_eq_true h'
end
end
section
variable {M:Mach}
noncomputable def WsOk (M:Mach) (S:SSt) (ws:List (List Nat)):Prop:=∀ w∈ws,w.length=M.many∧Acc M w∧∀ p a,w[p]?=some a→aAw (aEy S p) (a:Nat)=some ((a:Nat):Int)
noncomputable def Avoid (w:List Nat) (P:List (Int ⊕ Str)→Prop):Prop:=∀ p a,P (neKey p a)→w[p]?≠some a
theorem aLx {w:List Nat} {p a:Nat} (h:w[p]?=some a):wAt w (p:Nat)=a:=by
  rw [wAt,Int.toNat_natCast,List.getD_eq_getElem?_getD,h]; rfl
theorem aSe {S:SSt} {ws:List (List Nat)} (hw:WsOk M S ws) {P:List (Int ⊕ Str)→Prop} {why:List Lit} (hq:WhyQ S P why) {w:List Nat} (m:w∈ws) (hh:holdW w why=true):Avoid w P:=fun p a hp e=>by
  have hl:(⟨(p:Nat),.ne,(a:Nat)⟩:Lit)∈why:=(hq _).mpr ⟨p,a,hp,(hw w m).2.2 p a e,rfl⟩
  have:=List.all_eq_true.mp hh _ hl
  simp only [sayL,sayB] at this
  rw [aLx e] at this
  exact absurd rfl (of_decide_eq_true this)
theorem al_at {g:Nat→Bool} {ks:List (List Nat)} {p:Nat} {k:List Nat} (h:ks[p]?=some k):alF (aAr M g ks) p=prevA M (alF (aAr M g ks) (p+1)) k:=by
  have hlt:=(List.getElem?_eq_some_iff.mp h).1
  rw [aIh p ks (Nat.le_of_lt hlt),aIh (p+1) ks (Nat.succ_le_of_lt hlt),List.drop_eq_getElem_cons hlt,(List.getElem?_eq_some_iff.mp h).2,aQn]
theorem bLr {g:Nat→Bool} {ks:List (List Nat)}:alF (aAr M g ks) ks.length=g:=by
  rw [aIh _ _ (Nat.le_refl _),List.drop_length]; rfl
variable {fs:FS}
theorem ls_at {p:Nat} (h:p < M.many):alF (lsOf M fs) p=prevA M (alF (lsOf M fs) (p+1)) (vls (fs p)):=al_at (aHd h)
theorem bEe:alF (lsOf M fs) M.many=finB M:=by
  have:=bLr (M:=M) (g:=finB M) (ks:=ksOf M fs)
  rw [aGo] at this; exact this
theorem rs_at {p:Nat} (h:p < M.many):alF (rsOf M fs) (p+1)=nextR M (alF (rsOf M fs) p) (vls (fs p)):=bGc p _ _ _ (aHd h)
theorem aVv:alF (rsOf M fs) 0=fun s=>s == M.start:=aKi
theorem aYb (ok:MOk M) {w:List Nat} (hl:w.length=M.many) (ha:Acc M w) {p0:Nat} (hp:p0≤M.many) {S0:Nat→Prop} (h0:S0 (stt M w p0)) (h1:alF (lsOf M fs) p0 (stt M w p0)=false) (hv:Avoid w (deadK M (alF (lsOf M fs)) p0 S0 M.many)):False:=by
  have run:∀ j,p0+j≤M.many→deadS M (alF (lsOf M fs)) p0 S0 j (stt M w (p0+j))∧alF (lsOf M fs) (p0+j) (stt M w (p0+j))=false:=by
    intro j
    induction j with
    | zero=>exact fun _=>⟨h0,h1⟩
    | succ j ih =>
      intro hj
      obtain ⟨d,e⟩:=ih (Nat.le_trans (Nat.le_succ _) hj)
      have ew:w[p0+j]?=some w[p0+j]:=List.getElem?_eq_getElem (ltEq (Nat.lt_of_lt_of_le (Nat.lt_succ_self _) hj) hl)
      have hs:=(ha.st ok (p0+j)).1
      have ht:=(ha.st ok (p0+j+1)).1
      have hA:=ha.letter ok ew
      have est:=aEe (M:=M) ew hs
      rw [est] at ht
      show deadS M _ p0 S0 (j+1) (stt M w (p0+j+1))∧alF _ (p0+j+1) (stt M w (p0+j+1))=false
      rw [est]
      cases hal:alF (lsOf M fs) (p0+j+1) (mv M (stt M w (p0+j)) w[p0+j]) with
      | true=>exact absurd ew (hv (p0+j) w[p0+j] ⟨j,_,_,Nat.lt_of_lt_of_le (Nat.lt_succ_self _) hj,d,hA.1,hA.2,ht,hal,rfl⟩)
      | false=>exact ⟨⟨_,_,d,hA.1,hA.2,rfl,ht,hal⟩,rfl⟩
  obtain ⟨_,e⟩:=run (M.many - p0) (eqLe (Nat.add_comm _ _) (Nat.le_of_eq (Nat.sub_add_cancel hp)))
  rw [show p0+(M.many - p0)=M.many from om138 hp,bEe] at e
  have hf:=ha.final ok
  rw [hl] at hf
  have h0:=(ha.st ok M.many).1
  simp [finB,hf,h0] at e
theorem un_no (ok:MOk M) {w:List Nat} (hl:w.length=M.many) (ha:Acc M w) {p:Nat} (hp:p≤M.many) {S0:Nat→Prop} (h0:S0 (stt M w p)) (h1:alF (rsOf M fs) p (stt M w p)=false) (hv:Avoid w (unK M (alF (rsOf M fs)) p S0 p)):False:=by
  have run:∀ j,j≤p→unS M (alF (rsOf M fs)) p S0 j (stt M w (p - j))∧alF (rsOf M fs) (p - j) (stt M w (p - j))=false:=by
    intro j
    induction j with
    | zero=>exact fun _=>⟨h0,h1⟩
    | succ j ih =>
      intro hj
      obtain ⟨d,e⟩:=ih (Nat.le_trans (Nat.le_succ _) hj)
      have ew:w[p - 1 - j]?=some w[p - 1 - j]:=List.getElem?_eq_getElem (om265 hl hp hj)
      have hs:=(ha.st ok (p - 1 - j)).1
      have hsl:=ha.le ok (p - 1 - j) (leEq (Nat.le_trans (Nat.sub_le _ _) (Nat.le_trans (Nat.sub_le _ _) hp)) hl)
      have hA:=ha.letter ok ew
      have est:=aEe (M:=M) ew hs
      rw [show p - 1 - j+1=p - j from om264 hj] at est
      rw [est] at d
      rw [show p - (j+1)=p - 1 - j from om172]
      cases hal:alF (rsOf M fs) (p - 1 - j) (stt M w (p - 1 - j)) with
      | true=>exact absurd ew (hv (p - 1 - j) w[p - 1 - j] ⟨j,_,_,Nat.lt_of_lt_of_le (Nat.lt_succ_self _) hj,posN hs,hsl,hal,hA.1,hA.2,d,rfl⟩)
      | false=>exact ⟨⟨posN hs,hsl,hal,_,hA.1,hA.2,d⟩,rfl⟩
  obtain ⟨_,e⟩:=run p (Nat.le_refl _)
  rw [Nat.sub_self,aVv] at e
  simp [stt,pth] at e
theorem bJp (ok:MOk M) {w:List Nat} (hl:w.length=M.many) (ha:Acc M w) {p a:Nat} (hp:p < M.many) (hw:w[p]?=some a) (hs:supp M (rsOf M fs) (lsOf M fs) p a=false) (hv:Avoid w (whyK M (rsOf M fs) (lsOf M fs) p a)):False:=by
  have h0:=(ha.st ok p).1
  have hsl:=ha.le ok p (leEq (Nat.le_of_lt hp) hl)
  have ht:=(ha.st ok (p+1)).1
  have est:=aEe (M:=M) hw h0
  rw [est] at ht
  cases hal:alF (lsOf M fs) (p+1) (stt M w (p+1)) with
  | false =>
    refine aYb ok hl ha (p0:=p+1) (Nat.succ_le_of_lt hp) (S0:=dead0 M (alF (lsOf M fs) (p+1)) a M.states) ?_ hal fun q b hk=>hv q b (.inl hk)
    exact ⟨_,posN h0,hsl,est.symm,by rw [est]; exact ht,hal⟩
  | true =>
    rw [est] at hal
    refine un_no ok hl ha (p:=p) (Nat.le_of_lt hp) (S0:=un0 M (alF (lsOf M fs) (p+1)) a M.states) ⟨posN h0,hsl,ht,hal⟩ ?_ fun q b hk=>hv q b (.inr hk)
    have:=List.any_eq_false.mp hs (stt M w p - 1) (List.mem_range.mpr (om263 h0 hsl))
    rw [show stt M w p - 1+1=stt M w p from om262 h0,hal,Bool.and_true] at this
    simpa using this
theorem aRz {x c p0:Nat} {S0:Nat→Prop} (hb:∀ s,S0 s→s≠0∧alF (lsOf M fs) p0 s=false) (hk:deadK M (alF (lsOf M fs)) p0 S0 M.many (neKey x c)):x < M.many∧(c < 5→fs x c=false):=by
  obtain ⟨j,s,a,h1,hd,h2,h3,h4,h5,he⟩:=hk
  obtain ⟨rfl,rfl⟩:=aBu he
  refine ⟨h1,fun hc=>?_⟩
  have hs:s≠0∧alF (lsOf M fs) (p0+j) s=false:=by
    cases j with
    | zero=>exact hb s hd
    | succ j=>obtain ⟨_,_,_,_,_,rfl,q1,q2⟩:=hd; exact ⟨q1,q2⟩
  rw [ls_at h1] at hs
  cases hf:fs (p0+j) c with
  | false=>rfl
  | true =>
    have:prevA M (alF (lsOf M fs) (p0+j+1)) (vls (fs (p0+j))) s=true:=by
      simp only [prevA,Bool.and_eq_true,bne_iff_ne,List.any_eq_true]
      exact ⟨hs.1,c,mem_vls.mpr ⟨hc,hf⟩,h5⟩
    rw [this] at hs
    exact absurd hs.2 (by decide)
theorem bJx (ok:MOk M) (hlt:Lets M fs) {x c p:Nat} (hp:p≤M.many) {S0:Nat→Prop} (hb:∀ s,S0 s→1≤s∧alF (rsOf M fs) p s=false) (hk:unK M (alF (rsOf M fs)) p S0 p (neKey x c)):x < M.many∧(c < 5→fs x c=false):=by
  obtain ⟨j,s,a,h1,s1,s2,hr,h2,h3,hu,he⟩:=hk
  obtain ⟨rfl,rfl⟩:=aBu he
  refine ⟨om261 hp h1,fun hc=>?_⟩
  have hx:p - 1 - j < M.many:=om261 hp h1
  have hs:1≤mv M s c∧alF (rsOf M fs) (p - 1 - j+1) (mv M s c)=false:=by
    rw [show p - 1 - j+1=p - j from om171 h1]
    cases j with
    | zero=>exact hb _ hu
    | succ j=>obtain ⟨q1,_,q2,_⟩:=hu; rw [show p - 1 - j=p - (j+1) from om260] at q2; exact ⟨q1,q2⟩
  rw [rs_at hx] at hs
  cases hf:fs (p - 1 - j) c with
  | false=>rfl
  | true =>
    have:nextR M (alF (rsOf M fs) (p - 1 - j)) (vls (fs (p - 1 - j))) (mv M s c)=true:=(aMo ok fun b hb=>hlt _ b hx (mem_vls.mp hb).1 (mem_vls.mp hb).2).mpr ⟨neZ hs.1,s,c,s1,s2,hr,mem_vls.mpr ⟨hc,hf⟩,rfl⟩
    rw [this] at hs
    exact absurd hs.2 (by decide)
theorem bFc (ok:MOk M) (hlt:Lets M fs) {p a x c:Nat} (hp:p < M.many) (ha:isA M a) (hs:supp M (rsOf M fs) (lsOf M fs) p a=false) (hk:whyK M (rsOf M fs) (lsOf M fs) p a (neKey x c)):x < M.many∧(c < 5→fs x c=false):=by
  rcases hk with hk | hk
  · refine aRz (fun t ht=>?_) hk
    obtain ⟨s,_,_,_,h1,h2⟩:=ht
    exact ⟨h1,h2⟩
  · refine bJx ok hlt (Nat.le_of_lt hp) (fun s hu=>?_) hk
    obtain ⟨h1,h2,h3,h4⟩:=hu
    refine ⟨h1,?_⟩
    have:=List.any_eq_false.mp hs (s - 1) (List.mem_range.mpr (om153 h1 h2))
    rw [show s - 1+1=s from om236 h1,h4,Bool.and_true] at this
    simpa using this
end
section
variable {M:Mach} {fs:FS}
noncomputable def FitF (w:List Nat) (fs:FS):Prop:=∀ p a,w[p]?=some a→a < 5∧fs p a=true
theorem FitF.mono {w:List Nat} {fs fs':FS} (h:FitF w fs) (k:∀ y v,v < 5→fs y v=true→fs' y v=true):FitF w fs':=fun p a e=>⟨(h p a e).1,k p a (h p a e).1 (h p a e).2⟩
theorem FitF.snoc {u:List Nat} {a:Nat} (h:FitF u fs) (ha:a < 5) (hf:fs u.length a=true):FitF (u ++ [a]) fs:=fun p b e=>by
  rcases Nat.lt_trichotomy p u.length with hlt | rfl | hgt
  · rw [List.getElem?_append_left hlt] at e; exact h p b e
  · rw [List.getElem?_append_right (Nat.le_refl _),Nat.sub_self] at e
    simp at e; subst e; exact ⟨ha,hf⟩
  · rw [List.getElem?_eq_none (by simp; exact Nat.succ_le_of_lt hgt)] at e; cases e
theorem aGx (ok:MOk M) (hlt:Lets M fs):∀ p,p≤M.many→∀ s,alF (rsOf M fs) p s=true↔∃ u,u.length=p∧FitF u fs∧pth M M.start u=s∧s≠0:=by
  intro v
  induction v with
  | zero =>
    intro _ s
    rw [aVv]
    constructor
    · intro h
      have h':s=M.start:=by simpa using h
      exact ⟨[],rfl,fun p a e=>by simp at e,h'.symm,by have:=ok.t1; exact neZ (leEq this h')⟩
    · rintro ⟨u,hu,_,e,_⟩
      obtain rfl:=List.length_eq_zero_iff.mp hu
      rw [← e]; simp [pth]
  | succ p ih =>
    intro hp t
    rw [rs_at (Nat.lt_of_lt_of_le (Nat.lt_succ_self _) hp),aMo ok fun b hb=>hlt _ b (Nat.lt_of_lt_of_le (Nat.lt_succ_self _) hp) (mem_vls.mp hb).1 (mem_vls.mp hb).2]
    constructor
    · rintro ⟨h0,s,a,s1,s2,hr,ha,rfl⟩
      obtain ⟨u,hu,hf,e,hs⟩:=(ih (Nat.le_trans (Nat.le_succ _) hp) s).mp hr
      have hav:=mem_vls.mp ha
      refine ⟨u ++ [a],by simp [hu],hf.snoc hav.1 (by rw [hu]; exact hav.2),?_,h0⟩
      rw [aKj,e,if_neg hs]
    · rintro ⟨u,hu,hf,e,h0⟩
      have hne:u≠[]:=fun z=>by rw [z] at hu; simp at hu
      obtain ⟨u',a,rfl⟩:∃ u' a,u=u' ++ [a]:=⟨u.dropLast,u.getLast hne,(List.dropLast_concat_getLast hne).symm⟩
      have hu':u'.length=p:=by simpa using hu
      rw [aKj] at e
      by_cases hz:pth M M.start u'=0
      · rw [if_pos hz] at e; exact absurd e.symm h0
      · rw [if_neg hz] at e
        have hu2:FitF u' fs:=fun q b eq=>hf q b (by rw [List.getElem?_append_left (List.getElem?_eq_some_iff.mp eq).1]; exact eq)
        have ha:=hf p a (by rw [List.getElem?_append_right (eqLe hu' (Nat.le_refl _)),hu',Nat.sub_self]; rfl)
        have hle:pth M M.start u'≤M.states:=by
          have key:∀ (v:List Nat) (s:Nat),s≤M.states→(∀ b∈v,isA M b)→pth M s v≤M.states:=by
            intro v
            induction v with
            | nil=>exact fun s h _=>h
            | cons b v ih =>
              intro s h hb
              rw [pth]
              by_cases z:s=0
              · rw [if_pos z]; exact Nat.zero_le _
              · rw [if_neg z]; exact ih _ (ok.mv_le (posN z) h (hb b (.head _)).1 (hb b (.head _)).2) fun c m=>hb c (.tail _ m)
          refine key u' _ ok.t2 fun b hb=>?_
          obtain ⟨q,eq⟩:=List.getElem?_of_mem hb
          have:=hu2 q b eq
          have hq:=(List.getElem?_eq_some_iff.mp eq).1
          exact hlt q b (Nat.lt_of_lt_of_le hq (eqLe hu' (Nat.le_trans (Nat.le_succ _) hp))) this.1 this.2
        exact ⟨h0,_,a,posN hz,hle,(ih (Nat.le_trans (Nat.le_succ _) hp) _).mpr ⟨u',hu',hu2,rfl,hz⟩,mem_vls.mpr ha,e⟩
theorem aFq (ok:MOk M) (hlt:Lets M fs):∀ d p,p+d=M.many→∀ s,1≤s→s≤M.states→(alF (lsOf M fs) p s=true↔∃ v,v.length=d∧(∀ i a,v[i]?=some a→a < 5∧fs (p+i) a=true)∧goN M s v=true):=by
  intro v
  induction v with
  | zero =>
    intro p hp s h1 h2
    rw [show p=M.many from om54 hp,bEe]
    constructor
    · intro h
      have h':(s != 0 && decide (s∈M.finals))=true:=h
      rw [Bool.and_eq_true] at h'
      exact ⟨[],rfl,fun i a e=>by simp at e,h'.2⟩
    · rintro ⟨v,hv,_,h⟩
      obtain rfl:=List.length_eq_zero_iff.mp hv
      show (s != 0 && decide (s∈M.finals))=true
      rw [Bool.and_eq_true]; exact ⟨by simp; exact neZ h1,h⟩
  | succ d ih =>
    intro p hp s h1 h2
    rw [ls_at (Nat.lt_of_lt_of_eq (Nat.lt_succ_of_le (Nat.le_add_right _ _)) hp)]
    simp only [prevA,Bool.and_eq_true,List.any_eq_true,bne_iff_ne]
    constructor
    · rintro ⟨_,a,ak,ha⟩
      have hav:=mem_vls.mp ak
      have hab:=hlt p a (Nat.lt_of_lt_of_eq (Nat.lt_succ_of_le (Nat.le_add_right _ _)) hp) hav.1 hav.2
      have hm:=ok.mv_le h1 h2 hab.1 hab.2
      have hne:mv M s a≠0:=fun z=>by
        rw [z,lsOf,aIh _ _ (by rw [aGo]; exact Nat.succ_le_of_lt (Nat.lt_of_lt_of_eq (Nat.lt_succ_of_le (Nat.le_add_right _ _)) hp)),aQm rfl] at ha; cases ha
      obtain ⟨v,hv,hf,hg⟩:=(ih (p+1) (Eq.trans (Nat.add_right_comm _ _ _) hp) _ (posN hne) hm).mp ha
      refine ⟨a :: v,by simp [hv],fun i b e=>?_,(aCt ok (neZ h1)).mpr ⟨hab,hne,hg⟩⟩
      cases i with
      | zero=>simp at e; subst e; exact hav
      | succ i=>have:=hf i b (by simpa using e); rw [show p+(i+1)=p+1+i from om59]; exact this
    · rintro ⟨v,hv,hf,hg⟩
      cases v with
      | nil=>simp at hv
      | cons a v =>
        obtain ⟨hab,hne,hg'⟩:=(aCt ok (neZ h1)).mp hg
        have hm:=ok.mv_le h1 h2 hab.1 hab.2
        have ha:=hf 0 a rfl
        refine ⟨neZ h1,a,mem_vls.mpr ha,(ih (p+1) (Eq.trans (Nat.add_right_comm _ _ _) hp) _ (posN hne) hm).mpr ⟨v,by simpa using hv,fun i b e=>?_,hg'⟩⟩
        have:=hf (i+1) b (by simpa using e)
        rw [show p+1+i=p+(i+1) from om271]; exact this
theorem bBs (ok:MOk M):∀ (u v:List Nat) (s:Nat),(∀ b∈u,isA M b)→pth M s u≠0→goN M (pth M s u) v=true→goN M s (u ++ v)=true:=by
  intro v
  induction v with
  | nil =>
    exact fun v s _ _ h=>h
  | cons a u ih =>
    intro v s hu hp h
    rw [pth] at hp h
    by_cases hs:s=0
    · rw [if_pos hs] at hp; exact absurd rfl hp
    · rw [if_neg hs] at hp h
      have:=ih v _ (fun b m=>hu b (.tail _ m)) hp h
      rw [List.cons_append,aCt ok hs]
      refine ⟨hu a (.head _),fun z=>?_,this⟩
      rw [z,aRq ok] at this; cases this
theorem aKa (ok:MOk M) (hlt:Lets M fs) {p a:Nat} (hp:p < M.many) (ha:a < 5) (hf:fs p a=true):supp M (rsOf M fs) (lsOf M fs) p a=true↔∃ w,w.length=M.many∧FitF w fs∧Acc M w∧w[p]?=some a:=by
  have hab:=hlt p a hp ha hf
  constructor
  · intro h
    obtain ⟨s,hs,h⟩:=List.any_eq_true.mp h
    rw [List.mem_range] at hs
    rw [Bool.and_eq_true] at h
    obtain ⟨u,hu,huf,hpt,h0⟩:=(aGx ok hlt p (Nat.le_of_lt hp) _).mp h.1
    have hm:=ok.mv_le (s:=s+1) (Nat.le_add_left _ _) (Nat.succ_le_of_lt hs) hab.1 hab.2
    have hne:mv M (s+1) a≠0:=fun z=>by
      have:=h.2
      rw [z,lsOf,aIh _ _ (by rw [aGo]; exact Nat.succ_le_of_lt hp),aQm rfl] at this; cases this
    obtain ⟨v,hv,hvf,hg⟩:=(aFq ok hlt (M.many - (p+1)) (p+1) (Eq.trans (Nat.add_comm _ _) (Nat.sub_add_cancel (Nat.succ_le_of_lt hp))) _ (posN hne) hm).mp h.2
    have hul:∀ b∈u,isA M b:=fun b hb=>by
      obtain ⟨q,eq⟩:=List.getElem?_of_mem hb
      have:=huf q b eq
      have hq:=(List.getElem?_eq_some_iff.mp eq).1
      exact hlt q b (Nat.lt_of_lt_of_le hq (eqLe hu (Nat.le_of_lt hp))) this.1 this.2
    refine ⟨u ++ a :: v,by simp; exact om270 hp hu hv,fun q b e=>?_,bBs ok u (a :: v) _ hul (by rw [hpt]; exact h0) (by rw [hpt,aCt ok h0]; exact ⟨hab,hne,hg⟩),by rw [List.getElem?_append_right (eqLe hu (Nat.le_refl _)),hu,Nat.sub_self]; rfl⟩
    rcases Nat.lt_trichotomy q p with hlt' | rfl | hgt
    · rw [List.getElem?_append_left (ltEq hlt' hu)] at e; exact huf q b e
    · rw [List.getElem?_append_right (eqLe hu (Nat.le_refl _)),hu,Nat.sub_self] at e
      simp at e; subst e; exact ⟨ha,hf⟩
    · rw [List.getElem?_append_right (eqLe hu (Nat.le_of_lt hgt)),hu,show q - p=(q - p - 1)+1 from om269 hgt,List.getElem?_cons_succ] at e
      have:=hvf _ b e
      rw [show p+1+(q - p - 1)=q from om268 hgt] at this; exact this
  · rintro ⟨w,hl,hw,hA,e⟩
    have h0:=(hA.st ok p).1
    have hle:=hA.le ok p (leEq (Nat.le_of_lt hp) hl)
    have est:=aEe (M:=M) e h0
    refine List.any_eq_true.mpr ⟨stt M w p - 1,List.mem_range.mpr (om263 h0 hle),?_⟩
    rw [show stt M w p - 1+1=stt M w p from om262 h0,Bool.and_eq_true]
    constructor
    · refine (aGx ok hlt p (Nat.le_of_lt hp) _).mpr ⟨w.take p,by simp; exact om267 hp hl,fun q b eq=>?_,rfl,h0⟩
      have hq:=(List.getElem?_eq_some_iff.mp eq).1
      rw [List.length_take] at hq
      rw [List.getElem?_take_of_lt (Nat.lt_of_lt_of_le hq (Nat.min_le_left _ _))] at eq
      exact hw q b eq
    · rw [← est]
      have hA':=hA.st ok (p+1)
      have hle':=hA.le ok (p+1) (leEq (Nat.succ_le_of_lt hp) hl)
      refine (aFq ok hlt (M.many - (p+1)) (p+1) (Eq.trans (Nat.add_comm _ _) (Nat.sub_add_cancel (Nat.succ_le_of_lt hp))) _ (posN hA'.1) hle').mpr ⟨w.drop (p+1),by simp; exact om266 hl,fun i b ei=>?_,hA'.2⟩
      rw [List.getElem?_drop] at ei
      exact hw _ b ei
theorem aFr (ok:MOk M) (hlt:Lets M fs):alF (lsOf M fs) 0 M.start=true↔∃ w,w.length=M.many∧FitF w fs∧Acc M w:=by
  rw [aFq ok hlt M.many 0 (Nat.add_comm _ _) _ ok.t1 ok.t2]
  constructor
  · rintro ⟨v,hv,hf,hg⟩; exact ⟨v,hv,fun p a e=>by have:=hf p a e; rw [Nat.zero_add] at this; exact this,hg⟩
  · rintro ⟨v,hv,hf,hg⟩; exact ⟨v,hv,fun p a e=>by have:=hf p a e; rw [Nat.zero_add]; exact this,hg⟩
end
section
theorem aYa {f g:Nat→Bool} (h:vls f=vls g):dm f=dm g:=by rw [dm,dm,h]
theorem bFk {f:Nat→Bool} (h:dm f≠[]):vls f≠[]:=fun z=>h (by rw [dm,z]; rfl)
theorem bGm {m:Nat} {fs:FS} {l:Lit} {x:Nat} (hx:l.x=(x:Nat)):(ksV m fs).set x (vls (cut (fs x) l))=ksV m (hitF fs l):=by
  apply List.ext_getElem?
  intro y
  rw [List.getElem?_set]
  by_cases e:x=y
  · subst e
    simp only [if_true,ksV,List.length_map,List.length_range,List.getElem?_map]
    by_cases h:x < m
    · simp [h,aCf hx]
    · simp [h]
  · rw [if_neg e]
    simp only [ksV,List.getElem?_map]
    by_cases h:y < m
    · simp [h,aLb hx (Ne.symm e)]
    · simp [h]
theorem Good.app {ws:List (List Nat)} {m:Nat} {es es':List Entry} {ks ks1 ks2:List (List Nat)} (x:Good ws m ks es ks1) (y:Good ws m ks1 es' ks2):Good ws m ks (es ++ es') ks2:=by
  induction x with
  | nil=>exact y
  | cons a1 a2 a3 a4 a5 a6 a7 a8 a9 _ ih=>exact .cons a1 a2 a3 a4 a5 a6 a7 a8 a9 (ih y)
theorem Good.snoc {ws:List (List Nat)} {m:Nat} {es:List Entry} {ks ks1 ks2:List (List Nat)} {e:Entry} (x:Good ws m ks es ks1) (y:Good ws m ks1 [e] ks2):Good ws m ks (es ++ [e]) ks2:=x.app y
noncomputable def Sub (fs fs':FS):Prop:=∀ y v,v < 5→fs y v=true→fs' y v=true
noncomputable def PassO (ws:List (List Nat)) (m:Nat) (fs:FS) (l:Lit) (why:List Lit):Prop:=holdB (ksV m fs) why=true∧aAx ws why (some l)=true∧why.length≤500∧∀ o∈why,0≤o.x∧o.x.toNat < m
theorem bBb {fs fs':FS} {es es':List Entry} {l:Lit} {why:List Lit} {x:Nat} (hx:l.x=(x:Nat)) (h:Next fs es l why x fs' es'):Sub fs' fs:=fun y v hv e=>by
  rw [h.at hx y v hv] at e
  simp only [hitF,Bool.and_eq_true] at e
  exact e.1
theorem aMi {ws:List (List Nat)} {m:Nat} {C:Lit→List Lit→Prop} {fs:FS} (hC:∀ (fs':FS) (l:Lit) (why:List Lit) (x:Nat),Sub fs' fs→C l why→l.x=(x:Nat)→x < m→PassO ws m fs' l why) :
    ∀ {es:List Entry} {fs':FS},Runs m C fs es fs'→Good ws m (ksV m fs) es (ksV m fs')∧Sub fs' fs:=by
  intro es fs' hr
  induction hr with
  | nil=>exact ⟨.nil _,fun _ _ _ h=>h⟩
  | @next fs1 _ es1 _ l why x r hx hxm hc hn ih =>
    obtain ⟨hg,hs⟩:=ih
    refine ⟨?_,fun y v hv e=>hs y v hv (bBb hx hn y v hv e)⟩
    rcases hn with ⟨rfl,rfl,_⟩ | ⟨rfl,rfl,h1,h2⟩
    · exact hg
    · obtain ⟨p1,p2,p3,p4⟩:=hC _ _ _ _ hs hc hx hxm
      rw [aCf hx] at h1 h2
      refine hg.snoc (.cons hx hxm (aDs hxm) (bFk h1) (fun z=>h2 (aYa z)) p1 p2 p3 p4 ?_)
      rw [bGm hx]
      exact .nil _
section
variable {M:Mach} {S:SSt} {fs0:FS} {ws:List (List Nat)}
noncomputable def Wds (M:Mach) (fs0:FS) (ws:List (List Nat)):Prop:=∀ w,w∈ws↔w.length=M.many∧Acc M w∧FitF w fs0
theorem Wds.ok (h:Wds M fs0 ws) (hS:S.firsts=DMs M.many fs0):WsOk M S ws:=fun w hw=>by
  obtain ⟨h1,h2,h3⟩:=(h w).mp hw
  refine ⟨h1,h2,fun p a e=>?_⟩
  have hp:=(List.getElem?_eq_some_iff.mp e).1
  rw [aEy,List.getD_eq_getElem?_getD,hS,aGe (Nat.lt_of_lt_of_eq hp h1)]
  exact (bHd _ (h3 p a e).1).mpr (h3 p a e).2
theorem aBs (ok:MOk M) (h:Wds M fs0 ws) {w:List Nat} (hw:w∈ws) {x:Nat} (hx:x < M.many):w[x]?=some (wAt w (x:Nat))∧isA M (wAt w (x:Nat))∧wAt w (x:Nat) < 5:=by
  obtain ⟨h1,h2,h3⟩:=(h w).mp hw
  have e:w[x]?=some w[x]:=List.getElem?_eq_getElem (ltEq hx h1)
  have ea:=aLx e
  rw [ea]
  exact ⟨e,h2.letter ok e,(h3 x _ e).1⟩
theorem aNs {l:Lit} {why:List Lit} (hc:CK M l why) {v:Nat}:isA M v→sayL l (v:Nat)=true:=fun hv=>by
  obtain ⟨_,⟨h1,h2⟩ | ⟨h1,h2⟩⟩:=hc
  · rw [sayL,h1,h2]; exact decide_eq_true (by have:=hv.1; exact natI this)
  · rw [sayL,h1,h2]; exact decide_eq_true (by have:=hv.2; exact natI this)
theorem bHi (ok:MOk M) (h:Wds M fs0 ws) {fs':FS} {l:Lit} {why:List Lit} {x:Nat} (hc:CK M l why) (hx:l.x=(x:Nat)) (hxm:x < M.many):PassO ws M.many fs' l why:=by
  have hw:=hc.1
  subst hw
  refine ⟨rfl,List.all_eq_true.mpr fun w hw=>?_,by simp,fun o ho=>nomatch ho⟩
  have hl:=aBs ok h hw hxm
  rw [Bool.or_eq_true]
  right
  rw [okO,hx]
  exact aNs hc hl.2.1
theorem aRj {m:Nat} {fs:FS} {x:Nat} (h:x < m):ksAt (ksV m fs) (x:Nat)=vls (fs x):=by
  rw [ksAt,Int.toNat_natCast,List.getD_eq_getElem?_getD,aDs h]; rfl
theorem aLw {P:List (Int ⊕ Str)→Prop} {why:List Lit} {fs:FS} (hq:WhyQ S P why) (hk:∀ x c,P (neKey x c)→x < M.many∧(c < 5→fs x c=false)):holdB (ksV M.many fs) why=true∧∀ o∈why,0≤o.x∧o.x.toNat < M.many:=by
  constructor
  · refine List.all_eq_true.mpr fun l hl=>?_
    obtain ⟨x,c,hp,_,rfl⟩:=(hq l).mp hl
    obtain ⟨h1,h2⟩:=hk x c hp
    show ((ksAt (ksV M.many fs) (x:Nat)).all fun v=>sayL _ (v:Nat))=true
    rw [aRj h1]
    refine List.all_eq_true.mpr fun v hv=>?_
    have hv':=mem_vls.mp hv
    refine decide_eq_true fun e=>?_
    have e':((v:Nat):Int)=(c:Nat):=e
    have:v=c:=om76 e'
    subst this
    rw [h2 hv'.1] at hv'
    exact absurd hv'.2 (by decide)
  · intro o ho
    obtain ⟨x,c,hp,_,rfl⟩:=(hq o).mp ho
    have:=(hk x c hp).1
    exact ⟨by show (0:Int)≤(x:Nat); exact Int.natCast_nonneg _,by show ((x:Nat):Int).toNat < _; exact eqLt (Int.toNat_natCast _) this⟩
theorem bHg (ok:MOk M) (h:Wds M fs0 ws) (hS:S.firsts=DMs M.many fs0) {fs fs':FS} (hlt:Lets M fs) (hsub:Sub fs' fs) {l:Lit} {why:List Lit} (hc:CStr M S fs l why):PassO ws M.many fs' l why:=by
  obtain ⟨p,a,hp,ha5,hfa,rfl,hs,hwl,hq⟩:=hc
  have hab:=hlt p a hp ha5 hfa
  obtain ⟨h1,h2⟩:=aLw (fs:=fs') (M:=M) hq fun x c hk=>by
    obtain ⟨k1,k2⟩:=bFc ok hlt hp hab hs hk
    refine ⟨k1,fun hc=>?_⟩
    cases e:fs' x c with
    | false=>rfl
    | true=>have:=k2 hc; rw [hsub x c hc e] at this; cases this
  refine ⟨h1,List.all_eq_true.mpr fun w hw=>?_,leL hwl rfl,h2⟩
  rw [Bool.or_eq_true]
  cases hh:holdW w why with
  | false=>exact .inl rfl
  | true =>
    right
    obtain ⟨w1,w2,w3⟩:=(h w).mp hw
    refine decide_eq_true fun e=>?_
    have hl:=aBs ok h hw hp
    have:wAt w (p:Nat)=a:=by
      have e':((wAt w ((p:Nat):Int):Nat):Int)=(a:Nat):=e
      exact om76 e'
    rw [this] at hl
    exact bJp ok w1 w2 hp hl.1 hs (aSe (h.ok hS) hq hw hh)
end
end
section
variable {M:Mach} {S:SSt} {fs0 fs fs1 fs2:FS} {ws:List (List Nat)}
theorem aVu {es:List Entry} (h:Runs M.many (CK M) fs es fs1):∀ y v,v < 5→fs y v=true→isA M v→fs1 y v=true:=by
  induction h with
  | nil=>exact fun _ _ _ h _=>h
  | @next _ _ _ _ l why x r hx hxm hc hn ih =>
    intro y v hv he ha
    rw [hn.at hx y v hv]
    simp only [hitF,Bool.and_eq_true,Bool.or_eq_true]
    exact ⟨ih y v hv he ha,.inr (aNs hc ha)⟩
theorem aWf {l:Lit} {v:Int}:sayL (aBb l) v=!sayL l v:=by
  obtain ⟨x,sg,k⟩:=l
  cases sg
  · show decide (v ≥ k+1)=!decide (v≤k)
    rw [← decide_not,decide_eq_decide]; exact om274
  · show decide (v≤k - 1)=!decide (v ≥ k)
    rw [← decide_not,decide_eq_decide]; exact om273
  · show decide (v≠k)=!decide (v=k)
    rw [← decide_not]
  · show decide (v=k)=!decide (v≠k)
    rw [← decide_not,decide_eq_decide]; exact om272
theorem aWs (ok:MOk M) (hW:Wds M fs0 ws) {es:List Entry} (hr:Runs M.many (CK M) fs es fs1) {l:Lit} {x:Nat} (hx:l.x=(x:Nat)) (hxm:x < M.many) (hc:CK M l []) (hz:dm (hitF fs1 l x)=[]) :
    (∀ w∈ws,FitF w fs→False)∧holdB (ksV M.many fs1) [aBb l]=true∧aAx ws [aBb l] none=true∧∀ o∈[aBb l],0≤o.x∧o.x.toNat < M.many:=by
  have hnx:(aBb l).x=l.x:=by obtain ⟨x,sg,k⟩:=l; cases sg <;> rfl
  have hz':=dm_nil.mp hz
  refine ⟨fun w hw hf=>?_,?_,?_,fun o ho=>?_⟩
  · obtain ⟨e,ha,h5⟩:=aBs ok hW hw hxm
    have h1:=aVu hr x _ h5 (hf x _ e).2 ha
    have h2:=hz' _ h5
    rw [aCf hx] at h2
    simp only [cut] at h2
    rw [h1] at h2
    have:=aNs hc ha
    rw [sayL] at this
    rw [this] at h2
    cases h2
  · have e:holdB (ksV M.many fs1) [aBb l]=(ksAt (ksV M.many fs1) (aBb l).x).all fun v=>sayL (aBb l) (v:Nat):=Bool.and_true _
    rw [e,hnx,hx,aRj hxm]
    refine List.all_eq_true.mpr fun v hv=>?_
    have hv':=mem_vls.mp hv
    have h2:=hz' v hv'.1
    rw [aCf hx] at h2
    simp only [cut] at h2
    rw [hv'.2,Bool.true_and] at h2
    rw [aWf,sayL,h2]; rfl
  · refine List.all_eq_true.mpr fun w hw=>?_
    obtain ⟨e,ha,h5⟩:=aBs ok hW hw hxm
    have:holdW w [aBb l]=false:=by
      have e:holdW w [aBb l]=sayL (aBb l) (wAt w (aBb l).x:Nat):=Bool.and_true _
      rw [e,hnx,hx,aWf,aNs hc ha]; rfl
    rw [this]; rfl
  · rw [List.mem_singleton.mp ho,hnx,hx]
    exact ⟨Int.natCast_nonneg _,eqLt (Int.toNat_natCast _) hxm⟩
noncomputable def Kept (M:Mach) (fs fs1:FS):Prop:=∀ y v,y < M.many→v < 5→fs1 y v=(fs y v && isL M v)
theorem isL_iff {v:Nat}:isL M v=true↔isA M v:=by simp [isL,isA]
theorem Kept.lets (h:Kept M fs fs1):Lets M fs1:=fun y v hy hv e=>by
  rw [h y v hy hv,Bool.and_eq_true] at e
  exact isL_iff.mp e.2
theorem Kept.fit (ok:MOk M) (h:Kept M fs fs1) {w:List Nat} (hl:w.length=M.many) (ha:Acc M w) (hf:FitF w fs):FitF w fs1:=fun p a e=>by
  have hp:=(List.getElem?_eq_some_iff.mp e).1
  have:=hf p a e
  refine ⟨this.1,?_⟩
  rw [h p a (Nat.lt_of_lt_of_eq hp hl) this.1,this.2,isL_iff.mpr (ha.letter ok e)]; rfl
theorem aYc (ok:MOk M) (hW:Wds M fs0 ws) (hS:S.firsts=DMs M.many fs0) (hk:Kept M fs fs1) (h0:alF (lsOf M fs1) 0 M.start=false) {why:List Lit} (hq:WhyQ S (deadK M (alF (lsOf M fs1)) 0 (·=M.start) M.many) why) :
    (∀ w∈ws,FitF w fs→False)∧holdB (ksV M.many fs1) why=true∧aAx ws why none=true∧∀ o∈why,0≤o.x∧o.x.toNat < M.many:=by
  have hkey:=aLw (fs:=fs1) (M:=M) hq fun x c hk=>aRz (fun s hs=>⟨by have:=ok.t1; exact neZ (leEq this hs),by rw [hs]; exact h0⟩) hk
  refine ⟨fun w hw hf=>?_,hkey.1,List.all_eq_true.mpr fun w hw=>?_,hkey.2⟩
  · obtain ⟨w1,w2,w3⟩:=(hW w).mp hw
    have:=(aFr ok hk.lets).mpr ⟨w,w1,hk.fit ok w1 w2 hf,w2⟩
    rw [h0] at this; cases this
  · cases hh:holdW w why with
    | false=>rfl
    | true =>
      obtain ⟨w1,w2,w3⟩:=(hW w).mp hw
      exact (aYb ok w1 w2 (p0:=0) (Nat.zero_le _) (S0:=(·=M.start)) rfl h0 (aSe (hW.ok hS) hq hw hh)).elim
theorem aXv (ok:MOk M) (hW:Wds M fs0 ws) (hsub:Sub fs fs0) (hk:Kept M fs fs1) (h0:alF (lsOf M fs1) 0 M.start=true) (h2:∀ y v,y < M.many→v < 5→fs2 y v=(fs1 y v && supp M (rsOf M fs1) (lsOf M fs1) y v)) :
    (∃ w∈ws,FitF w fs)∧∀ x v,x < M.many→v < 5→(fs2 x v=true↔∃ w∈ws,FitF w fs∧w[x]?=some v):=by
  have up:∀ {w:List Nat},w.length=M.many→Acc M w→FitF w fs1→w∈ws∧FitF w fs:=fun {w} hl ha hf=>by
    have hf':FitF w fs:=fun p a e=>by
      have hp:=(List.getElem?_eq_some_iff.mp e).1
      have:=hf p a e
      rw [hk p a (Nat.lt_of_lt_of_eq hp hl) this.1,Bool.and_eq_true] at this
      exact ⟨this.1,this.2.1⟩
    exact ⟨(hW w).mpr ⟨hl,ha,hf'.mono hsub⟩,hf'⟩
  constructor
  · obtain ⟨w,hl,hf,ha⟩:=(aFr ok hk.lets).mp h0
    exact ⟨w,up hl ha hf⟩
  · intro x v hx hv
    rw [h2 x v hx hv,Bool.and_eq_true]
    constructor
    · rintro ⟨h1,hs⟩
      obtain ⟨w,hl,hf,ha,e⟩:=(aKa ok hk.lets hx hv h1).mp hs
      exact ⟨w,(up hl ha hf).1,(up hl ha hf).2,e⟩
    · rintro ⟨w,hw,hf,e⟩
      obtain ⟨w1,w2,w3⟩:=(hW w).mp hw
      have hf1:=hk.fit ok w1 w2 hf
      have h1:=(hf1 x v e).2
      exact ⟨h1,(aKa ok hk.lets hx hv h1).mpr ⟨w,w1,hf1,w2,e⟩⟩
noncomputable def Full (M:Mach) (ws:List (List Nat)) (fs:FS):Prop:=(∃ w∈ws,FitF w fs)∧∀ x v,x < M.many→v < 5→fs x v=true→∃ w∈ws,FitF w fs∧w[x]?=some v
theorem bGu (hW:Wds M fs0 ws) (h1:∃ w∈ws,FitF w fs) (h2:∀ x v,x < M.many→v < 5→(fs2 x v=true↔∃ w∈ws,FitF w fs∧w[x]?=some v)):Full M ws fs2:=by
  have hf:∀ w∈ws,FitF w fs→FitF w fs2:=fun w hw hf p a e=>by
    have hp:=(List.getElem?_eq_some_iff.mp e).1
    have:=((hW w).mp hw).1
    exact ⟨(hf p a e).1,(h2 p a (Nat.lt_of_lt_of_eq hp this) (hf p a e).1).mpr ⟨w,hw,hf,e⟩⟩
  obtain ⟨w,hw,h⟩:=h1
  refine ⟨⟨w,hw,hf w hw h⟩,fun x v hx hv e=>?_⟩
  obtain ⟨u,hu,hfu,eu⟩:=(h2 x v hx hv).mp e
  exact ⟨u,hu,hf u hu hfu,eu⟩
theorem Full.letter (ok:MOk M) (hW:Wds M fs0 ws) (h:Full M ws fs) {x v:Nat} (hx:x < M.many) (hv:v < 5) (e:fs x v=true):isA M v:=by
  obtain ⟨w,hw,_,ew⟩:=h.2 x v hx hv e
  exact ((hW w).mp hw).2.1.letter ok ew
theorem Full.hit (ok:MOk M) (hW:Wds M fs0 ws) (h:Full M ws fs) {l:Lit} {why:List Lit} {x:Nat} (hx:l.x=(x:Nat)) (hxm:x < M.many) (hc:CK M l why):dm (hitF fs l x)=dm (fs x):=by
  rw [aCf hx]
  refine aGp fun v hv=>?_
  simp only [cut]
  cases e:fs x v with
  | false=>rfl
  | true =>
    have:=aNs hc (h.letter ok hW hxm hv e)
    rw [sayL] at this
    rw [this]; rfl
theorem Full.keep (ok:MOk M) (hW:Wds M fs0 ws) (h:Full M ws fs) {es:List Entry} (hr:Runs M.many (CK M) fs es fs1):es=[]∧fs1=fs:=by
  induction hr with
  | nil=>exact ⟨rfl,rfl⟩
  | @next _ _ _ _ l why x r hx hxm hc hn ih =>
    obtain ⟨rfl,rfl⟩:=ih
    rcases hn with ⟨rfl,rfl,_⟩ | ⟨_,_,_,h2⟩
    · exact ⟨rfl,rfl⟩
    · exact absurd (h.hit ok hW hx hxm hc) h2
theorem Full.nofail (ok:MOk M) (hW:Wds M fs0 ws) (h:Full M ws fs) {l:Lit} {x:Nat} (hx:l.x=(x:Nat)) (hxm:x < M.many) (hc:CK M l []) (hz:dm (hitF fs l x)=[]):False:=by
  rw [h.hit ok hW hx hxm hc] at hz
  obtain ⟨w,hw,hf⟩:=h.1
  obtain ⟨e,_,h5⟩:=aBs ok hW hw hxm
  have:=dm_nil.mp hz _ h5
  rw [(hf x _ e).2] at this; cases this
theorem Full.kept (ok:MOk M) (hW:Wds M fs0 ws) (h:Full M ws fs):Lets M fs:=fun y v hy hv e=>h.letter ok hW hy hv e
theorem Full.alive (ok:MOk M) (hW:Wds M fs0 ws) (h:Full M ws fs):alF (lsOf M fs) 0 M.start=true:=by
  obtain ⟨w,hw,hf⟩:=h.1
  obtain ⟨w1,w2,w3⟩:=(hW w).mp hw
  exact (aFr ok (h.kept ok hW)).mpr ⟨w,w1,hf,w2⟩
theorem Full.round (ok:MOk M) (hW:Wds M fs0 ws) (h:Full M ws fs) {es:List Entry} (hr:Runs M.many (CStr M S fs) fs es fs1):es=[]∧fs1=fs:=by
  cases hr with
  | nil=>exact ⟨rfl,rfl⟩
  | @next _ _ _ _ l why x r hx hxm hc hn =>
    obtain ⟨p,a,hp,ha5,hfa,_,hs,_⟩:=hc
    obtain ⟨w,hw,hf,e⟩:=h.2 p a hp ha5 hfa
    obtain ⟨w1,w2,w3⟩:=(hW w).mp hw
    have:=(aKa ok (h.kept ok hW) hp ha5 hfa).mpr ⟨w,w1,hf,w2,e⟩
    rw [hs] at this; cases this
end
section
structure Back (m:Nat) (fs:FS) (es:List Entry) (fs':FS):Prop where
  un:undo es (DMs m fs')=DMs m fs
  ex:∀ e∈es,0≤e.x∧e.x.toNat < m
theorem aJy (a b:List Entry) (ds:List Dom):undo (a ++ b) ds=undo a (undo b ds):=by simp [undo,List.foldr_append]
theorem aEm {m:Nat} {C:Lit→List Lit→Prop} {fs fs':FS} {es:List Entry} (h:Runs m C fs es fs'):Back m fs es fs':=by
  induction h with
  | nil=>exact ⟨rfl,fun _ h=>nomatch h⟩
  | @next fs1 _ _ _ l why x r hx hxm hc hn ih =>
    rcases hn with ⟨rfl,rfl,_⟩ | ⟨rfl,rfl,_,_⟩
    · exact ih
    · refine ⟨?_,fun e he=>?_⟩
      · rw [aJy,← ih.un]
        congr 1
        show (DMs m (hitF fs1 l)).set l.x.toNat (dm (fs1 x))=_
        rw [hx,Int.toNat_natCast,← aLu hx,List.set_set]
        apply List.ext_getElem?
        intro y
        rw [List.getElem?_set]
        by_cases e:x=y
        · subst e; rw [if_pos rfl,aBk,if_pos hxm,aGe hxm]
        · rw [if_neg e]
      · rcases List.mem_append.mp he with he | he
        · exact ih.ex e he
        · rw [List.mem_singleton.mp he]
          exact ⟨by show 0≤l.x; exact om257 hx,by show l.x.toNat < m; exact om256 hx hxm⟩
theorem Back.app {m:Nat} {fs fs1 fs2:FS} {es es':List Entry} (a:Back m fs es fs1) (b:Back m fs1 es' fs2):Back m fs (es ++ es') fs2 :=
  ⟨by rw [aJy,b.un,a.un],fun e he=>(List.mem_append.mp he).elim (a.ex e) (b.ex e)⟩
section
variable {G:Cx} {n:Nat} {H:AHeap} {Q:AV→AHeap→Prop} {R:RA} {M:Mach} {F:SA} {S:SSt} {fs fs0:FS} {ws:List (List Nat)}
theorem aNx (ok:MOk M) (x:RegAt H R M) (st:StoreAt H F (SS M.many S fs [])) (hr1:R.rg∉F.all) (hr2:R.dx∉F.all) (ht:S.trail.length≤700) (hS:S.firsts=DMs M.many fs0) (hW:Wds M fs0 ws) (hsub:Sub fs fs0)
    (hF:∀ H' fs' es c,StoreAt H' F { SS M.many S fs' es with failed:=true,clash:=c }→HBut F.all H H'→es.length≤21→Good ws M.many (ksV M.many fs) es (ksV M.many fs')→Back M.many fs es fs'→(∀ w∈ws,FitF w fs→False) →
      holdB (ksV M.many fs') c=true→aAx ws c none=true→c.length≤12→(∀ o∈c,0≤o.x∧o.x.toNat < M.many)→Q (.val (.bool false)) H')
    (hT:∀ H' fs' es,StoreAt H' F (SS M.many S fs' es)→HBut F.all H H'→es.length≤21→Good ws M.many (ksV M.many fs) es (ksV M.many fs')→Back M.many fs es fs'→Sub fs' fs→(∃ w∈ws,FitF w fs) →
      (∀ x v,x < M.many→v < 5→(fs' x v=true↔∃ w∈ws,FitF w fs∧w[x]?=some v))→Q (.val (.bool true)) H') :
    CW G (n+7) (.ref 403) [.val (.ref R.rg),.val (.ref F.st)] H Q:=by
  have ck:∀ {es fs'},Runs M.many (CK M) fs es fs'→Good ws M.many (ksV M.many fs) es (ksV M.many fs')∧Sub fs' fs:=fun hr=>aMi (fun fs' l why x _ hc hx hxm=>bHi ok hW hc hx hxm) hr
  refine aHy ok x st hr1 hr2 ht (by rw [hS,aBk]) (fun H' fs' es l y s b hr hl hx hxm hc hz=>?_) (fun H' fs' es why s b hr hl hk h0 hwl hq=>?_) fun H' fs1 es1 fs2 es2 s b hr hl hk h0 hr2 hl2 h2=>?_
  · obtain ⟨k1,k2,k3,k4⟩:=aWs ok hW hr hx hxm hc hz
    exact hF H' fs' es _ s b (leL hl rfl) (ck hr).1 (aEm hr) k1 k2 k3 (show 1≤12 by decide) k4
  · obtain ⟨k1,k2,k3,k4⟩:=aYc ok hW hS hk h0 hq
    exact hF H' fs' es _ s b (leL hl rfl) (ck hr).1 (aEm hr) k1 k2 k3 hwl k4
  · obtain ⟨k1,k2⟩:=aXv ok hW hsub hk h0 h2
    have g2:=aMi (ws:=ws) (fun fs' l why x hs hc hx hxm=>bHg ok hW hS (Kept.lets hk) hs hc) hr2
    refine hT H' fs2 (es1 ++ es2) s b (by rw [List.length_append]; exact om275 hl hl2) ((ck hr).1.app g2.1) ((aEm hr).app (aEm hr2)) (fun y v hv e=>(ck hr).2 y v hv (g2.2 y v hv e)) k1 k2
theorem aNw (ok:MOk M) (x:RegAt H R M) (st:StoreAt H F (SS M.many S fs [])) (hr1:R.rg∉F.all) (hr2:R.dx∉F.all) (ht:S.trail.length≤700) (hS:S.firsts=DMs M.many fs0) (hW:Wds M fs0 ws) (hful:Full M ws fs)
    (hT:∀ H',StoreAt H' F (SS M.many S fs [])→HBut F.all H H'→Q (.val (.bool true)) H') :
    CW G (n+7) (.ref 403) [.val (.ref R.rg),.val (.ref F.st)] H Q:=by
  refine aHy ok x st hr1 hr2 ht (by rw [hS,aBk]) (fun H' fs' es l y s b hr hl hx hxm hc hz=>?_) (fun H' fs' es why s b hr hl hk h0 hwl hq=>?_) fun H' fs1 es1 fs2 es2 s b hr hl hk h0 hr2 hl2 h2=>?_
  · obtain ⟨rfl,rfl⟩:=hful.keep ok hW hr
    exact (hful.nofail ok hW hx hxm hc hz).elim
  · obtain ⟨rfl,rfl⟩:=hful.keep ok hW hr
    rw [hful.alive ok hW] at h0; cases h0
  · obtain ⟨rfl,rfl⟩:=hful.keep ok hW hr
    obtain ⟨rfl,rfl⟩:=hful.round ok hW hr2
    exact hT H' s b
end
end
section
theorem aOr (a:List Nat):∀ (b:List Nat),a.Pairwise (· < ·)→b.Pairwise (· < ·)→(∀ x,x∈a↔x∈b)→a=b:=by
  induction a with
  | nil =>
    intro b _ _ h
    cases b with
    | nil=>rfl
    | cons y b=>exact nomatch (h y).mpr (.head _)
  | cons x a ih =>
    intro b ha hb h
    cases b with
    | nil=>exact nomatch (h x).mp (.head _)
    | cons y b =>
      obtain ⟨h1,h2⟩:=List.pairwise_cons.mp ha
      obtain ⟨h3,h4⟩:=List.pairwise_cons.mp hb
      have e:x=y:=by
        rcases List.mem_cons.mp ((h x).mp (.head _)) with e | m
        · exact e
        · rcases List.mem_cons.mp ((h y).mpr (.head _)) with e | m'
          · exact e.symm
          · have:=h1 y m'; have:=h3 x m; exact om277 (by assumption) this
      subst e
      rw [ih b h2 h4 fun z=>?_]
      constructor
      · intro m
        rcases List.mem_cons.mp ((h z).mp (.tail _ m)) with rfl | m'
        · exact absurd (h1 z m) (Nat.lt_irrefl _)
        · exact m'
      · intro m
        rcases List.mem_cons.mp ((h z).mpr (.tail _ m)) with rfl | m'
        · exact absurd (h3 z m) (Nat.lt_irrefl _)
        · exact m'
theorem aOk (f:Nat→Bool):(vls f).Pairwise (· < ·):=List.Pairwise.filter _ List.pairwise_lt_range
noncomputable def fitB (w:List Nat) (ks:List (List Nat)):Bool:=(List.zipWith (fun a k=>decide (a∈k)) w ks).all id
theorem aRv {m:Nat} {fs:FS} {w:List Nat} (h:w.length=m):fitB w (ksV m fs)=true↔FitF w fs:=by
  rw [fitB,List.all_eq_true]
  constructor
  · intro ha p a e
    have hp:=(List.getElem?_eq_some_iff.mp e).1
    have:=ha (decide (a∈vls (fs p))) (List.mem_of_getElem? (i:=p) (by rw [List.getElem?_zipWith,e,aDs (Nat.lt_of_lt_of_eq hp h)]))
    exact mem_vls.mp (of_decide_eq_true this)
  · intro hf b hb
    obtain ⟨p,e⟩:=List.getElem?_of_mem hb
    rw [List.getElem?_zipWith] at e
    cases ew:w[p]? with
    | none=>rw [ew] at e; simp at e
    | some a =>
      have hp:=(List.getElem?_eq_some_iff.mp ew).1
      rw [ew,aDs (Nat.lt_of_lt_of_eq hp h)] at e
      have:decide (a∈vls (fs p))=b:=by simpa using e
      rw [← this]
      exact decide_eq_true (mem_vls.mpr (hf p a ew))
noncomputable def wPD (w:List Nat):PyData:=.tuple (w.map fun k=>.int (k:Nat))
theorem wRDs {H:AHeap}:∀ ws:List (List Nat),RDs H (ws.map aAc) (ws.map wPD)
  | []=>.nil
  | w :: ws=>.cons (.tup (nRDs w)) (wRDs ws)
theorem aUz (ws:List (List Nat)):PyData.depthAll (ws.map wPD)≤1:=by
  induction ws with
  | nil=>simp [PyData.depthAll]
  | cons w ws ih =>
    have:=aKr w
    simp only [List.map_cons,PyData.depthAll,wPD,PyData.depth]; exact om276 (by assumption) this
noncomputable def RefsAt (H:AHeap):List Addr→List (List Nat)→Prop
  | [],[]=>True
  | D :: Ds,k :: ks=>H D=some (.list (k.map natAV))∧RefsAt H Ds ks
  | _,_=>False
theorem RefsAt.le {H H':AHeap} (le:HLe H H'):∀ {Ds ks},RefsAt H Ds ks→RefsAt H' Ds ks
  | [],[],h=>trivial
  | D :: Ds,k :: ks,h=>⟨le _ _ h.1,h.2.le le⟩
theorem RefsAt.snoc {H:AHeap} {D:Addr} {k:List Nat} (e:H D=some (.list (k.map natAV))) {Ds:List Addr}:∀ {ks:List (List Nat)},RefsAt H Ds ks→RefsAt H (Ds ++ [D]) (ks ++ [k]):=by
  induction Ds with
  | nil=>intro ks h; cases ks with
    | nil=>exact ⟨e,trivial⟩
    | cons _ _=>exact h.elim
  | cons _ _ ih=>intro ks h; cases ks with
    | nil=>exact h.elim
    | cons _ _=>exact ⟨h.1,ih h.2⟩
theorem RefsAt.rds {H:AHeap}:∀ {Ds ks},RefsAt H Ds ks→RDs H (Ds.map fun D=>.val (.ref D)) (ks.map nPD)
  | [],[],h=>.nil
  | D :: Ds,k :: ks,h=>.cons (.list h.1 (nRDs k)) h.2.rds
section
variable {G:Cx} {n:Nat} {H:AHeap} {Q:AV→AHeap→Prop} {R:RA} {M:Mach} {F:SA} {S:SSt} {fs fs0:FS} {ws:List (List Nat)}
theorem aJp {D:Addr} {ws:List (List Nat)} (he:H D=some (.list [])) (h:Q (.val (.bool (!decide (ws=[])))) H):Bin G n (compareOp .NotEq) (aBa ws) (.val (.ref D)) H Q:=by
  refine aGd (da:=.list (ws.map wPD)) (.lst (wRDs ws)) (.list (ds:=[]) he .nil) (by have:=aUz ws; simp only [PyData.depth]; exact Nat.succ_le_succ (leL this rfl)) ?_
  have:PyData.eqv (.list (ws.map wPD)) (.list [])=decide (ws=[]):=by
    cases ws <;> simp [PyData.eqv,PyData.eqvAll]
  rw [this]; exact h
theorem aQe {D E:Addr} {Ds:List Addr} {a b:List (List Nat)} (h1:H D=some (.list (a.map kV))) (h2:H E=some (.list (Ds.map fun D=>.val (.ref D)))) (h3:RefsAt H Ds b) (h:Q (.val (.bool (!decide (a=b)))) H):Bin G n (compareOp .NotEq) (.val (.ref D)) (.val (.ref E)) H Q :=
  aGd (.list h1 (kRDs a)) (.list h2 h3.rds) (aHf a) (show Q (.val (.bool (!PyData.eqv (kPD a) (kPD b)))) H by rw [aPf]; exact h)
noncomputable def bDd (H:AHeap) (fs:FS) (ws:List (List Nat)) (m:Nat) (kd:Addr) (i:Nat) (acc:List AV) (L':LS) (H':AHeap):Prop:=∀ P:LS→Prop,(∀ (e1:HLe H H') (e2:acc.length≤i) (e3:acc=((ws.take i).filter fun w=>fitB w (ksV m fs)).map aAc) a b,P [a,b,some (.val (.ref kd))])→P L'
noncomputable def bDc (fs:FS) (m:Nat) (H1:AHeap) (w:List Nat) (Z:Addr) (j:Nat) (acc:List AV) (L':LS) (H':AHeap):Prop:=∀ P:LS→AHeap→Prop,(∀ (e2:acc.length≤j) (e3:acc=((List.zipWith (fun a k=>decide (a∈k)) w (ksV m fs)).take j).map AV.bool) x y z,P [x,y,z] (H1.set Z .pair))→P L' H'
theorem bHf {m:Nat} {kd:Addr} {K:List AV→LS→AHeap→Prop} (hm:m≤3) (hk:H kd=some (.list ((ksV m fs).map kV))) (hw:∀ w∈ws,w.length=m) (hwl:ws.length≤125) (h:∀ L H',HLe H H'→K ((ws.filter fun w=>fitB w (ksV m fs)).map aAc) L H') :
    CVq (fun v L H K=>VTg G (n+1) (.var 1) v L H K) (fun L H K=>VT G (n+1) (.val (.call (.builtin "all") (.cons (.comp [".0", "a", "some"] [none,none,none] (.tup (.cons (.var 1) (.cons (.var 2) .nil))) (.call (.type "zip") (.cons (.var 1) (.cons (.var 2) .nil))) .tt (.cmp .In (.var 1) (.var 2))) .nil))) L H K) (fun L H K=>VE G (n+1) (.var 1) L H K) (fun _=>True) K (ws.map aAc) [] [none,none,some (.val (.ref kd))] H:=by
  refine cvi (bDd H fs ws m kd) (fun _ κ=>κ (HLe.refl H) (by simp) (by simp) _ _) ?_ ?_
  · intro i v acc L H1 hv hJ; apply hJ; rintro le1 hal rfl a b
    refine aAu hv fun w ew=>?_
    have hwm:=hw w (List.mem_of_getElem? ew)
    have hil:=(List.getElem?_eq_some_iff.mp ew).1
    have hlk:(ksV m fs).length=m:=by rw [ksV,List.length_map,List.length_range]
    refine ⟨trivial,aWu (l:=w.map natAV) (l':=(ksV m fs).map kV) (.own (le1 _ _ hk)) (by rw [List.length_map,List.length_map,hwm,hlk]) fun Z hZ=>cvi (bDc fs m H1 w Z) (fun _ κ=>κ (by simp) rfl _ _ _) ?_ ?_⟩
    · intro j v acc L H2 hv2 hJ; apply hJ; rintro hal2 rfl x y z
      have leZ:=aAd (o:=.pair) le1 (le1.fresh hZ)
      obtain ⟨c,k,hz,ek,rfl⟩:∃ c k,(List.zipWith (fun a k=>decide (a∈k)) w (ksV m fs))[j]?=some (decide (c∈k))∧j < 3∧v=.tup [natAV c,kV k]:=by
        rw [zipV,List.getElem?_zipWith,List.getElem?_map,List.getElem?_map] at hv2
        cases ec:w[j]? with
        | none=>rw [ec] at hv2; simp at hv2
        | some c =>
          have hj:=(List.getElem?_eq_some_iff.mp ec).1
          rw [ec,aDs (Nat.lt_of_lt_of_eq hj hwm)] at hv2
          refine ⟨c,vls (fs j),by rw [List.getElem?_zipWith,ec,aDs (Nat.lt_of_lt_of_eq hj hwm)],Nat.lt_of_lt_of_le hj (eqLe hwm hm),?_⟩
          simpa using hv2.symm
      refine ⟨leZ _ _ hk,⟨Nat.lt_of_le_of_lt hal2 (Nat.lt_of_lt_of_le ek (by decide)),aFa .frz (fun _ κ=>κ ?_ ?_ _ _ _)⟩⟩
      · rw [List.length_append]; simp only [List.length_singleton]; exact Nat.succ_le_succ hal2
      · rw [List.take_add_one,hz]
        simp
    · intro acc L H2 hJ; apply hJ; rintro hal2 rfl x y z
      have leZ:=aAd (o:=.pair) le1 (le1.fresh hZ)
      refine ⟨leZ _ _ hk,fun D hD=>aYh (.own AHeap.set_same) ?_⟩
      rw [List.take_of_length_le (by simp [zipV,List.length_zipWith]),show (List.zipWith (fun a k=>decide (a∈k)) w (ksV m fs)).all id=fitB w (ksV m fs) from rfl]
      have le2:=aAd (o:=.list ((List.zipWith (fun a k=>decide (a∈k)) w (ksV m fs)).map AV.bool)) leZ (leZ.fresh hD)
      refine tb (fun hb=>⟨Nat.lt_of_le_of_lt hal (Nat.lt_of_lt_of_le hil (leL hwl rfl)),fun _ κ=>κ le2 ?_ ?_ _ _⟩) (fun hb=>fun _ κ=>κ le2 (Nat.le_trans hal (Nat.le_add_right _ _)) ?_ _ _)
      · rw [List.length_append]; simp only [List.length_singleton]; exact Nat.succ_le_succ hal
      · rw [List.take_add_one,ew]
        simp [List.filter_append,hb]
      · rw [List.take_add_one,ew]
        simp [List.filter_append,hb]
  · intro acc L H1 hJ; apply hJ; rintro le1 hal rfl a b
    rw [List.length_map,List.take_length]
    exact ⟨trivial,h _ _ le1⟩
end
end
section
variable {G:Cx} {n:Nat} {H:AHeap} {Q:AV→AHeap→Prop} {R:RA} {M:Mach} {F:SA} {S:SSt} {fs fs0:FS} {ws:List (List Nat)}
noncomputable def bDb (left:List (List Nat)) (i:Nat) (H1:AHeap) (j:Nat) (acc:List AV) (L':LS) (H':AHeap):Prop:=∀ P:LS→AHeap→Prop,(∀ (e2:acc.length≤j) (e3:acc=((left.take j).map fun w=>wAt w (i:Nat)).map natAV) x y,P [x,y,some (natAV i)] H1)→P L' H'
noncomputable def aZd (H:AHeap) (m:Nat) (left:List (List Nat)) (fs':FS) (i:Nat) (acc:List AV) (L':LS) (H':AHeap):Prop:=∀ P:LS→Prop,(∀ (e1:HLe H H') (e2:(∃ Ds,acc=Ds.map (fun D=>.val (.ref D))∧Ds.length=i∧RefsAt H' Ds ((ksV m fs').take i))) a b,P [a,b,some (aBa left)])→P L'
theorem bHe {m:Nat} {left:List (List Nat)} {fs':FS} (hm:m≤3) (hw:∀ w∈left,w.length=m∧∀ a∈w,a < 5) (hwl:left.length≤125) (hf:∀ x v,x < m→v < 5→(fs' x v=true↔∃ w∈left,w[x]?=some v))
    (h:∀ H' D Ds,HLe H H'→H' D=some (.list (Ds.map fun D=>.val (.ref D)))→RefsAt H' Ds (ksV m fs')→Q (.val (.ref D)) H') :
    CVq (fun v L H K=>VTg G (n+1) (.var 1) v L H K) (fun L H K=>VT G (n+1) .tt L H K) (fun L H K=>VE G (n+1) (.sset (.comp [".0", "word", "x"] [none,none,some 1] (.var 1) (.val (.var 2)) .tt (.sub (.var 1) (.var 2)))) L H K) (fun _=>True) (compK Q) (rngL 0 1 m) [] [none,none,some (aBa left)] H:=by
  refine cvr0 (aZd H m left fs') (fun _ κ=>κ (HLe.refl H) ⟨[],rfl,rfl,trivial⟩ _ _) ?_ ?_
  · intro i acc L H1 hi hJ; apply hJ; rintro le1 ⟨Ds,rfl,hDl,hR⟩ a b
    refine ⟨by rw [List.length_map]; exact eqLt hDl (Nat.lt_of_lt_of_le hi (leL hm rfl)),aAh (cvi (bDb left i H1) (fun _ κ=>κ (by simp) rfl _ _) ?_ ?_)⟩
    · intro j v acc L H2 hv hJ; apply hJ; rintro hal rfl x y
      refine aAu hv fun w ew=>?_
      have hwm:=(hw w (List.mem_of_getElem? ew)).1
      have hjl:=(List.getElem?_eq_some_iff.mp ew).1
      refine ⟨trivial,⟨Nat.lt_of_le_of_lt hal (Nat.lt_of_lt_of_le hjl (leL hwl rfl)),aBq (k:=((i:Nat):Int)) (Int.natCast_nonneg _) (aOj (w:=w) (x:=((i:Nat):Int)) (eqLt (Int.toNat_natCast _) (ltEq hi hwm))) (by rw [List.length_map]; exact eqLe hwm (leL hm rfl)) (fun _ κ=>κ ?_ ?_ _ _)⟩⟩
      · rw [List.length_append]; simp only [List.length_singleton]; exact Nat.succ_le_succ hal
      · rw [List.take_add_one,ew]; simp
    · intro acc L H2 hJ; apply hJ; rintro hal rfl x y
      rw [List.length_map,List.take_length]
      have hb:∀ k∈left.map fun w=>wAt w (i:Nat),k≤4:=fun k hk=>by
        refine aCm hk fun w hw'=>?_
        have:=hw w hw'
        have e:w[i]?=some w[i]:=List.getElem?_eq_getElem (ltEq hi this.1)
        rw [aLx e]
        have:=this.2 _ (List.getElem_mem (ltEq hi this.1:i < w.length))
        exact Nat.le_of_lt_succ this
      refine ⟨trivial,fun D hD=>aEf (.own AHeap.set_same) hb (by rw [List.length_map]; exact leL hwl rfl) fun E l' hE hp hm'=>?_⟩
      have el:l'=vls (fs' i):=by
        refine aOr _ _ hp (aOk _) fun v=>?_
        rw [hm' v,mem_vls,List.mem_map]
        constructor
        · rintro ⟨w,hw',rfl⟩
          have hwm:=hw w hw'
          have e:w[i]?=some w[i]:=List.getElem?_eq_getElem (ltEq hi hwm.1)
          have h5:=hwm.2 _ (List.getElem_mem (ltEq hi hwm.1:i < w.length))
          rw [aLx e]
          exact ⟨h5,(hf i _ hi h5).mpr ⟨w,hw',e⟩⟩
        · rintro ⟨h5,ht⟩
          obtain ⟨w,hw',e⟩:=(hf i v hi h5).mp ht
          exact ⟨w,hw',aLx e⟩
      subst el
      have leD:=HLe.new (H:=H1) (o:=.list ((left.map fun w=>wAt w (i:Nat)).map natAV)) hD
      have leE:=leD.trans (HLe.new (o:=.list ((vls (fs' i)).map natAV)) hE)
      refine fun _ κ=>κ (le1.trans leE) ⟨Ds ++ [E],by simp,by simp; exact hDl,?_⟩ _ _
      rw [aRh hi]
      exact (hR.le leE).snoc AHeap.set_same
  · intro acc L H1 hJ; apply hJ; rintro le1 ⟨Ds,rfl,hDl,hR⟩ a b
    intro D hD
    rw [List.take_of_length_le (by rw [aCe]; exact Nat.le_refl _)] at hR
    exact h _ D Ds (le1.trans (HLe.new hD)) AHeap.set_same (hR.le (HLe.new hD))
theorem aOa {ds:List Addr} {H H' H'':AHeap} {D:Addr} (x:HBut ds H H') (hD:H D=none) (y:HBut [D] H' H''):HBut ds H H'' :=
  ⟨fun a o n e=>y.1 a o (fun m=>by rw [List.mem_singleton.mp m,hD] at e; cases e) (x.1 a o n e),fun a o e=>let ⟨o',e'⟩:=x.2 a o e; y.2 a o' e'⟩
theorem bBc {P:Prop} {b:Bool} (h:decide (b≠b)=true):P:=absurd rfl (of_decide_eq_true h)
theorem aJo (ok:MOk M) (x:RegAt H R M) (st:StoreAt H F (SS M.many S fs [])) (hr1:R.rg∉F.all) (hr2:R.dx∉F.all) (ht:S.trail.length≤600) (hS:S.firsts=DMs M.many fs0) (hW:Wds M fs0 ws) (hwl:ws.length≤125) (hsub:Sub fs fs0) (hfd:S.failed=false)
    (hF:∀ H' fs' es c,StoreAt H' F { SS M.many S fs' es with failed:=true,clash:=c }→HBut F.all H H'→es.length≤21→Back M.many fs es fs'→Q (.val (.bool false)) H')
    (hT:∀ H' fs' es,StoreAt H' F (SS M.many S fs' es)→HBut F.all H H'→es.length≤21→Back M.many fs es fs'→Sub fs' fs→Q (.val (.bool true)) H') :
    CW G (n+8) (.ref 452) [.val (.ref F.st),.val (.ref R.rg),aBa ws] H Q:=by
  have hm2:=ok.m2
  have hwm:∀ w∈ws,w.length=M.many:=fun w hw=>((hW w).mp hw).1
  have hdl:(SS M.many S fs []).doms.length=M.many:=aBk
  have htl:(SS M.many S fs []).trail=S.trail:=List.append_nil _
  refine aHo (aAe st.inst st.attrs (by kernel_rfl!) (by kernel_rfl!:meB G.w 265 "size" 143=true) (aYq st hdl (leL hm2 rfl) (rngk (leL hm2 rfl) ?_)))
  refine aLn hm2 st rfl fun H1 kd le1 hkd e1=>?_
  have hkF:=st.fresh hkd
  refine aAh (bHf hm2 e1 hwm hwl fun L2 H2 le2=>fun D hD=>⟨D,_,rfl,AHeap.set_same,?_⟩)
  generalize hleft:(ws.filter fun w=>fitB w (ksV M.many fs))=left
  have hlw:∀ w,w∈left↔w∈ws∧FitF w fs:=fun w=>by
    rw [← hleft,List.mem_filter]
    exact ⟨fun z=>⟨z.1,(aRv (hwm w z.1)).mp z.2⟩,fun z=>⟨z.1,(aRv (hwm w z.1)).mpr z.2⟩⟩
  have hll:left.length≤125:=by rw [← hleft]; exact Nat.le_trans (List.length_filter_le ..) hwl
  have hDH:H D=none:=(le1.trans le2).fresh hD
  have hDH1:H1 D=none:=le2.fresh hD
  have le3:HLe H1 ((H2.set D (.list (left.map aAc))).set D (.frz (left.map aAc))):=aAd (aAd le2 hDH1) hDH1
  generalize ((H2.set D (.list (left.map aAc))).set D (.frz (left.map aAc)))=H3 at le3
  have st3:=st.le (le1.trans le3)
  have x3:=x.le (le1.trans le3)
  have ek3:=le3 _ _ e1
  refine aBr st3 (aHu (.own st3.trail) (k:=S.trail.length) (by rw [List.length_map,htl]) (leL ht rfl) ?_)
  have len0:∀ (ks:List (List Nat)),ks=ksV M.many fs→∀ k∈ks,k.length≤5:=fun ks e k hk=>by rw [e] at hk; exact aRi k hk
  refine aAe x3.inst x3.attrs (by kernel_rfl!) (by kernel_rfl!:meB G.w 406 "propagate" 403=true) (aNx ok x3 st3 hr1 hr2 (leL ht rfl) hS hW hsub (fun H4 fs' es c st4 hb4 hel hg hbk hno hh hfo hcl hcv=>?_) fun H4 fs' es st4 hb4 hel hg hbk hs' hex hiff=>?_)
  · have ek4:=hb4.1 _ _ hkF ek3
    have htr:(S.trail ++ es).length≤1000000:=by rw [List.length_append]; exact om279 ht hel
    refine aBr st4 ⟨(S.trail ++ es).map aBy,S.trail.length,.own st4.trail,rfl,by rw [List.length_map]; exact htr,fun E hE=>?_⟩
    rw [← List.map_drop,List.drop_left]
    have leE:=HLe.new (H:=H4) (o:=.list (es.map aBy)) hE
    have hEk:E≠kd:=fun z=>by rw [z,ek4] at hE; cases hE
    have st5:=st4.le leE
    refine aIb hm2 st5 rfl hkF (leE _ _ ek4) AHeap.set_same hEk hwm (leL hel rfl) aCe aRi hg fun H6 hb6 ek6=>?_
    have st6:=st5.but hb6 fun a m m2=>by rw [List.mem_singleton.mp m2] at m; exact hkF m
    have hle:left=[]:=List.eq_nil_iff_forall_not_mem.mpr fun w hw=>hno w ((hlw w).mp hw).1 ((hlw w).mp hw).2
    refine fun E7 hE7=>aJp AHeap.set_same ?_
    rw [decide_eq_true hle]
    have st7:=st6.le (HLe.new (o:=.list []) hE7)
    refine aIg st7 (?_)
    have ek7:=(HLe.new (o:=.list []) hE7) _ _ ek6
    refine aSf st7 (bEn ek7 aRi (by rw [aCe]; exact hm2) (Nat.le_trans hcl (by decide)) (fun o ho=>by have:=hcv o ho; rw [aCe]; exact this) fun H8 le8=>?_)
    rw [hh]
    have st8:=st7.le le8
    refine aSf st8 (aNz (lit:=none) hwm (leL hm2 rfl) (Nat.le_trans hcl (by decide)) hcv (fun l z=>nomatch z) fun H9 le9=>?_)
    rw [hfo]
    refine hF H9 fs' es c (st8.le le9) ?_ hel hbk
    have b4:HBut F.all H H4:=(le1.trans le3).but.trans hb4
    exact ((aOa (b4.trans leE.but) hkd hb6).trans (HLe.new (o:=.list []) hE7).but).trans (le8.trans le9).but
  · have ek4:=hb4.1 _ _ hkF ek3
    have htr:(S.trail ++ es).length≤1000000:=by rw [List.length_append]; exact om279 ht hel
    refine aBr st4 ⟨(S.trail ++ es).map aBy,S.trail.length,.own st4.trail,rfl,by rw [List.length_map]; exact htr,fun E hE=>?_⟩
    rw [← List.map_drop,List.drop_left]
    have leE:=HLe.new (H:=H4) (o:=.list (es.map aBy)) hE
    have hEk:E≠kd:=fun z=>by rw [z,ek4] at hE; cases hE
    have st5:=st4.le leE
    refine aIb hm2 st5 rfl hkF (leE _ _ ek4) AHeap.set_same hEk hwm (leL hel rfl) aCe aRi hg fun H6 hb6 ek6=>?_
    have st6:=st5.but hb6 fun a m m2=>by rw [List.mem_singleton.mp m2] at m; exact hkF m
    have hle:left≠[]:=by
      obtain ⟨w,hw,hf⟩:=hex
      exact List.ne_nil_of_mem ((hlw w).mpr ⟨hw,hf⟩)
    refine fun E7 hE7=>aJp AHeap.set_same ?_
    rw [decide_eq_false hle]
    have leE7:=HLe.new (H:=H6) (o:=.list []) hE7
    have st7:=st6.le leE7
    have ek7:=leE7 _ _ ek6
    have b4:HBut F.all H H4:=(le1.trans le3).but.trans hb4
    have b7:HBut F.all H (H6.set E7 (.list [])):=(aOa (b4.trans leE.but) hkd hb6).trans leE7.but
    generalize H6.set E7 (.list [])=H7 at st7 ek7 b7
    have hfd':(SS M.many S fs' es).failed=false:=hfd
    refine aIg st7 ?_
    rw [hfd']
    refine ?_
    refine aHu (.own ek7) (k:=M.many) (by rw [List.length_map,aCe]) (leL hm2 rfl) (rngk (leL hm2 rfl) ?_)
    refine bHe (fs':=fs') hm2 (fun w hw=>?_) hll (fun y v hy hv=>?_) fun H8 E8 Ds le8 e8 hR8=>aQe (le8 _ _ ek7) e8 hR8 ?_
    · have hw':=(hlw w).mp hw
      refine ⟨hwm w hw'.1,fun a ha=>?_⟩
      obtain ⟨p,e⟩:=List.getElem?_of_mem ha
      exact (hw'.2 p a e).1
    · rw [hiff y v hy hv]
      constructor
      · rintro ⟨w,hw,hf,e⟩; exact ⟨w,(hlw w).mpr ⟨hw,hf⟩,e⟩
      · rintro ⟨w,hw,e⟩; exact ⟨w,((hlw w).mp hw).1,((hlw w).mp hw).2,e⟩
    rw [decide_eq_true rfl]
    refine ?_
    have st8:=st7.le le8
    have b8:=b7.trans le8.but
    have x8:=x.but b8 hr1 hr2
    refine aBr st8 (aHu (.own st8.trail) (List.length_map _) htr ?_)
    have st8':StoreAt H8 F (SS M.many (SS M.many S fs' es) fs' []):=by rw [SS_SS,List.append_nil]; exact st8
    refine aAe x8.inst x8.attrs (by kernel_rfl!) (by kernel_rfl!:meB G.w 406 "propagate" 403=true) (aNw ok x8 st8' hr1 hr2 (by show (S.trail ++ es).length≤700; rw [List.length_append]; exact om278 ht hel) hS hW (bGu hW hex hiff) fun H9 st9 hb9=>?_)
    rw [SS_SS,List.append_nil] at st9
    refine aBr st9 (aHu (.own st9.trail) (List.length_map _) htr ?_)
    exact tb (fun _=>hT H9 fs' es st9 (b8.trans hb9) hel hbk hs') (fun z=>absurd rfl (of_decide_eq_false z))
end
section
noncomputable def irW:ISs:=(.cons (.ite (.cmp .Is (.var 16) (.lit (.val .none))) (.cons (.ret (.lit (.val (.bool false)))) .nil) .nil) (.cons (.while (.cmp .NotEq (.var 15) (.list .nil)) (.cons (.expr (.meth (.var 8) "pop" (.cons (.lit (.int 1)) .nil))) (.cons (.ite (.or (.cmp .NotEq (.comp [".0", "x", "store"] [none,none,some 8] (.var 1) (.val (.call (.type "range") (.cons (.var 4) .nil))) .tt (.call (.ref 70) (.cons (.meth (.var 2) "dom" (.cons (.var 1) .nil)) .nil))) (.meth (.var 15) "pop" .nil)) (.or (.val (.attr (.var 8) "is_failed")) .ff)) (.cons (.ret (.lit (.val (.bool false)))) .nil) .nil) .nil))) (.cons (.ret (.lit (.val (.bool true)))) .nil)))
noncomputable def irLp:ISs:=(.cons (.loop (.var 17) (.val (.call (.type "range") (.cons (.lit (.int 3)) .nil))) (.cons (.ite (.cmp .Is (.var 16) (.lit (.val (.bool true)))) (.cons (.expr (.meth (.var 15) "append" (.cons (.frz (.comp [".0", "x", "store"] [none,none,some 8] (.var 1) (.val (.call (.type "range") (.cons (.var 4) .nil))) .tt (.call (.ref 70) (.cons (.meth (.var 2) "dom" (.cons (.var 1) .nil)) .nil)))) .nil))) (.cons (.expr (.meth (.var 8) "push" .nil)) (.cons (.asg (.var 10) (.call (.ref 415) (.cons (.var 1) (.cons (.var 4) .nil)))) (.cons (.asg (.var 18) (.tup (.cons (.var 10) (.cons (.sub (.list (.cons (.lit (.str "<=")) (.cons (.lit (.str ">=")) (.cons (.lit (.str "=")) (.cons (.lit (.str "!=")) .nil))))) (.call (.ref 415) (.cons (.var 1) (.cons (.lit (.int 4)) .nil)))) (.cons (.call (.ref 415) (.cons (.var 1) (.cons (.bin .Add (.var 3) (.lit (.int 2))) .nil))) .nil))))) (.cons (.asg (.var 16) (.ite (.val (.meth (.var 8) "decide" (.cons (.var 18) .nil))) (.call (.ref 452) (.cons (.var 8) (.cons (.var 13) (.cons (.var 14) .nil)))) (.lit (.val (.bool false))))) .nil))))) .nil) .nil)) irW)
noncomputable def irM:ISs:=(.cons (.asg (.var 12) (.tup (.cons (.var 3) (.cons (.var 5) (.cons (.var 6) (.cons (.var 7) .nil)))))) (.cons (.asg (.var 13) (.call (.ref 406) (.cons (.call (.type "tuple") (.cons (.call (.type "range") (.cons (.var 4) .nil)) .nil)) (.cons (.var 2) (.cons (.var 3) (.cons (.var 5) (.cons (.var 6) (.cons (.var 7) .nil)))))))) (.cons (.ite (.or (.cmp .NotEq (.meth (.var 13) "told" .nil) (.tup (.cons (.lit (.str "regular")) (.cons (.call (.type "tuple") (.cons (.call (.type "range") (.cons (.var 4) .nil)) .nil)) (.cons (.var 2) (.cons (.var 3) (.cons (.var 5) (.cons (.var 6) (.cons (.var 7) .nil))))))))) (.or (.cmp .NotEq (.attr (.var 13) "strength") (.lit (.str "values"))) .ff)) (.cons (.ret (.lit (.val (.bool false)))) .nil) .nil) (.cons (.asg (.var 14) (.call (.ref 425) (.cons (.var 9) .nil))) (.cons (.ite (.cmp .NotEq (.comp [".0", "word", "machine", "regular"] [none,none,some 12,some 13] (.var 1) (.val (.var 14)) (.cmp .IsNot (.meth (.var 3) "check" (.cons (.call (.type "list") (.cons (.var 1) .nil)) .nil)) (.call (.ref 420) (.cons (.var 2) (.cons (.var 1) .nil)))) (.var 1)) (.list .nil)) (.cons (.ret (.lit (.val (.bool false)))) .nil) .nil) (.cons (.asgc 14 (.comp [".0", "word", "machine"] [none,none,some 12] (.var 1) (.val (.var 14)) (.val (.call (.ref 420) (.cons (.var 2) (.cons (.var 1) .nil)))) (.var 1))) (.cons (.frzv 14) (.cons (.swap [15,16] (.tup (.cons (.list .nil) (.cons (.call (.ref 452) (.cons (.var 8) (.cons (.var 13) (.cons (.var 14) .nil)))) .nil)))) irLp))))))))
noncomputable def irV:ISs:=(.cons (.loop (.var 10) (.val (.call (.type "range") (.cons (.var 4) .nil))) (.cons (.asg (.var 11) (.call (.ref 415) (.cons (.var 1) (.cons (.bin .Pow (.lit (.int 2)) (.bin .Add (.var 3) (.lit (.int 2)))) .nil)))) (.cons (.expr (.meth (.var 9) "append" (.cons (.frz (.comp [".0", "v", "mask"] [none,none,some 11] (.var 1) (.val (.call (.type "range") (.cons (.bin .Add (.var 3) (.lit (.int 2))) .nil))) (.or (.cmp .Eq (.var 2) (.lit (.int 0))) (.or (.cmp .Eq (.bin .BitAnd (.bin .RShift (.var 2) (.var 1)) (.lit (.int 1))) (.lit (.int 1))) .ff)) (.var 1))) .nil))) (.cons (.expr (.meth (.var 8) "new_var" (.cons (.call (.ref 35) (.cons (.sub (.var 9) (.var 10)) .nil)) .nil))) .nil)))) irM)
noncomputable def StackOk (m:Nat):List Dom→List Entry→List (Nat × FS)→Prop
  | _,_,[]=>True
  | ds,tr,(k,f) :: r=>k≤tr.length∧undo (tr.drop k) ds=DMs m f∧StackOk m (DMs m f) (tr.take k) r
theorem StackOk.ext {m:Nat} {ds ds':List Dom} {tr es:List Entry} {stk:List (Nat × FS)} (h:StackOk m ds tr stk) (hu:undo es ds'=ds):StackOk m ds' (tr ++ es) stk:=by
  cases stk with
  | nil=>trivial
  | cons p r =>
    obtain ⟨k,f⟩:=p
    obtain ⟨h1,h2,h3⟩:=h
    refine ⟨by rw [List.length_append]; exact Nat.le_trans h1 (Nat.le_add_right _ _),?_,?_⟩
    · rw [List.drop_append_of_le_length h1,aJy,hu]; exact h2
    · rw [List.take_append_of_le_length h1]; exact h3
theorem StackOk.push {m:Nat} {fs:FS} {tr:List Entry} {stk:List (Nat × FS)} (h:StackOk m (DMs m fs) tr stk):StackOk m (DMs m fs) tr ((tr.length,fs) :: stk) :=
  ⟨Nat.le_refl _,by rw [List.drop_length]; rfl,by rw [List.take_length]; exact h⟩
noncomputable def sPD (stk:List (Nat × FS)) (m:Nat):List PyData:=stk.map fun p=>kPD (ksV m p.2)
noncomputable def snapV (m:Nat) (p:Nat × FS):AV:=keptV (ksV m p.2)
theorem sRDs {H:AHeap} {m:Nat}:∀ stk:List (Nat × FS),RDs H (stk.map (snapV m)) (sPD stk m)
  | []=>.nil
  | p :: stk=>.cons (.lst (kRDs _)) (sRDs stk)
theorem bFv {m:Nat} (stk:List (Nat × FS)):PyData.depthAll (sPD stk m)≤2:=by
  induction stk with
  | nil=>simp [sPD,PyData.depthAll]
  | cons p stk h1 =>
    have h2:=aWt (ksV m p.2)
    simp only [sPD,List.map_cons,PyData.depthAll,kPD,PyData.depth] at h1 ⊢; exact om280 h1 h2
structure StkAt (H:AHeap) (m:Nat) (st ba:Addr) (F:SA) (S:SSt) (stk:List (Nat × FS)):Prop where
  at_:StoreAt H F S
  se:F.st=st
  dl:S.doms.length=m
  mks:S.marks=stk.reverse.map fun p=>((p.1:Nat):Int)
  ok:StackOk m S.doms S.trail stk
  tx:∀ e∈S.trail,0≤e.x∧e.x.toNat < m
  tl:S.trail.length≤900
  sl:stk.length≤10
  bn:ba∉F.all
  be:H ba=some (.list (stk.reverse.map (snapV m)))
  fi:∀ d∈S.firsts,d≠[]
section
variable {G:Cx} {n:Nat} {H:AHeap} {Q:AV→AHeap→Prop}
noncomputable def bDa (a0:Option AV) (a1:Option AV) (a2:Option AV) (a3:Option AV) (a5:Option AV) (a6:Option AV) (a7:Option AV) (a9:Option AV) (a10:Option AV) (a11:Option AV) (a12:Option AV) (a13:Option AV) (a14:Option AV) (a17:Option AV) (a18:Option AV) (m:Nat) (b:Bool) (st:Addr) (ba:Addr) (k:Nat) (L':LS) (H':AHeap):Prop:=∀ P:LS→Prop,(∀ F S stk (e1:StkAt H' m st ba F S stk) (e2:stk.length=k),P [a0,a1,a2,a3,some (natAV m),a5,a6,a7,some (.val (.ref st)),a9,a10,a11,a12,a13,a14,some (.val (.ref ba)),some (.val (.bool b)),a17,a18])→P L'
theorem bFn {a0 a1 a2 a3 a5 a6 a7 a9 a10 a11 a12 a13 a14 a17 a18:Option AV} {m:Nat} {b:Bool} {st ba:Addr} {F:SA} {S:SSt} {stk:List (Nat × FS)} (hm:m≤3) (hs:StkAt H m st ba F S stk) (h:∀ H',Q (.val (.bool true)) H') :
    VSs G (n+2) irW [a0,a1,a2,a3,some (natAV m),a5,a6,a7,some (.val (.ref st)),a9,a10,a11,a12,a13,a14,some (.val (.ref ba)),some (.val (.bool b)),a17,a18] H (RetQ Q):=by
  refine ?_
  refine whi (bDa a0 a1 a2 a3 a5 a6 a7 a9 a10 a11 a12 a13 a14 a17 a18 m b st ba) stk.length (fun _ κ=>κ F S stk hs rfl) ?_
  intro k L H1 hJ; apply hJ; rintro F1 S1 stk1 hs1 rfl
  intro E hE
  have hs1b:=(HLe.new (o:=.list []) hE) _ _ hs1.be
  refine aGd (.list hs1b (sRDs stk1.reverse)) (.list (ds:=[]) AHeap.set_same .nil) (by have:=bFv (m:=m) stk1.reverse; simp only [PyData.depth]; exact Nat.succ_le_succ (leL this rfl)) ?_
  have hst:=hs1.at_.le (HLe.new (o:=.list []) hE)
  cases stk1 with
  | nil=>exact h _
  | cons p r =>
    obtain ⟨k,f⟩:=p
    have hq:(!PyData.eqv (.list (sPD ((k,f) :: r).reverse m)) (.list []))=true:=by
      rw [List.reverse_cons,sPD,List.map_append]
      cases r.reverse <;> simp [PyData.eqv,PyData.eqvAll]
    rw [hq]
    obtain ⟨o1,o2,o3⟩:=hs1.ok
    obtain rfl:=hs1.se
    have hsl:=hs1.sl
    rw [List.length_cons] at hsl
    refine ?_
    refine aAe hst.inst hst.attrs (by kernel_rfl!) (by kernel_rfl!:meB G.w 265 "pop" 248=true) (c_pop (m:=k) (ms:=r.reverse.map fun p=>((p.1:Nat):Int)) hst (by rw [hs1.mks]; simp) (by simp; exact Nat.le_trans (Nat.le_succ _) (leL hsl rfl)) hs1.tl o1 (fun e he=>by rw [hs1.dl]; exact hs1.tx e he) (by rw [hs1.dl]; exact leL hm rfl) hs1.fi fun H2 F2 st2 hb2 hse2 hF2=>?_)
    have ed2:(popF S1 k (r.reverse.map fun p=>((p.1:Nat):Int))).doms=DMs m f:=o2
    have eb2:H2 ba=some (.list (((k,f) :: r).reverse.map (snapV m))):=hb2.1 _ _ hs1.bn hs1b
    have nb2:ba∉F2.all:=fun z=>(hF2 _ z).elim hs1.bn fun z=>by rw [hs1b] at z; cases z
    refine rng1 (And.intro (Int.natCast_nonneg _) (natI (leL hm rfl))) ?_
    rw [Int.toNat_natCast,← hse2]
    refine aLn hm st2 ed2 fun H3 D3 le3 hD3 e3=>?_
    have eb3:=le3 _ _ eb2
    rw [List.reverse_cons,List.map_append] at eb3
    have nD3:D3≠ba:=fun z=>by rw [z,eb2] at hD3; cases hD3
    refine bEb eb3 (bEj (l:=r.reverse.map (snapV m)) (v:=snapV m (k,f)) eb3 (by simp; exact Nat.lt_of_lt_of_le (Nat.lt_succ_self _) (leL hsl rfl)) ?_)
    have e4:=(AHeap.set_ne (H:=H3) (o:=.list (r.reverse.map (snapV m))) nD3).trans e3
    have st4:=(st2.le le3).but (ds:=[ba]) ((HLe.refl H3).but.set (o:=.list (r.reverse.map (snapV m))) (.head [])) fun a ha hz=>nb2 (List.mem_singleton.mp hz ▸ ha)
    refine aGd (.list e4 (kRDs (ksV m f))) (.lst (kRDs (ksV m f))) (aHf (ksV m f)) ?_
    rw [show PyData.eqv (.list ((ksV m f).map nPD)) (.list ((ksV m f).map nPD))=true from (aPf _ _).trans (decide_eq_true rfl)]
    refine aIg st4 (⟨r.length,?_,fun _ κ=>κ F2 _ r ⟨st4,rfl,?_,rfl,?_,?_,?_,Nat.le_trans (Nat.le_succ _) hsl,nb2,AHeap.set_same,hs1.fi⟩ rfl⟩)
    · rw [List.length_cons]; exact Nat.lt_succ_self _
    · rw [ed2,aBk]
    · rw [ed2]; exact o3
    · exact fun e he=>hs1.tx e (List.mem_of_mem_take he)
    · have:=hs1.tl
      show (S1.trail.take k).length≤900
      rw [List.length_take]; exact Nat.le_trans (Nat.min_le_right _ _) this
end
end
section
theorem aZc {m:Nat} {S:SSt} {fs:FS} (h:S.doms=DMs m fs):SS m S fs []=S:=by
  obtain ⟨a,b,c,d,e,f⟩:=S
  simp only at h
  subst h
  simp [SS]
theorem Back.one {m:Nat} {fs:FS} {e:Entry} {l:Lit} {x:Nat} (he:e.x=l.x) (ho:e.old=dm (fs x)) (hx:l.x=(x:Nat)) (hxm:x < m):Back m fs [e] (hitF fs l):=by
  refine ⟨?_,fun e' he'=>?_⟩
  · show (DMs m (hitF fs l)).set e.x.toNat e.old=_
    rw [he,ho,hx,Int.toNat_natCast,← aLu hx,List.set_set]
    apply List.ext_getElem?
    intro y
    rw [List.getElem?_set]
    by_cases e:x=y
    · subst e; rw [if_pos rfl,aBk,if_pos hxm,aGe hxm]
    · rw [if_neg e]
  · rw [List.mem_singleton.mp he',he]
    exact ⟨om257 hx,om256 hx hxm⟩
section
variable {G:Cx} {n:Nat} {H:AHeap} {Q:AV→AHeap→Prop} {F:SA} {S:SSt} {m:Nat} {fs:FS}
theorem aQc {l:Lit} {x k:Nat} (hm:m≤3) (st:StoreAt H F (SS m S fs [])) (hx:l.x=(x:Nat)) (hxm:x < m) (hk:k < 5) (hlk:l.k=(k:Nat)) (ht:S.trail.length≤900)
    (h1:∀ H' c,StoreAt H' F { SS m S fs [] with failed:=true,clash:=c }→HBut F.all H H'→Q (.val (.bool false)) H')
    (h2:∀ H' fs' es,StoreAt H' F (SS m S fs' es)→HBut F.all H H'→es.length≤1→Back m fs es fs'→Sub fs' fs→Q (.val (.bool true)) H'):CW G (n+5) (.ref 227) [.val (.ref F.st),litAV l] H Q:=by
  refine bCg st (om234 hm hx hxm) (old:=dm (fs x)) (by rw [hx,Int.toNat_natCast]; exact aGe hxm) (by show (DMs m fs).length≤100; rw [aBk]; exact leL hm rfl) (Nat.le_trans (bEh _) (by decide)) (by show (S.trail ++ []).length≤900; rw [List.append_nil]; exact ht) ?_
  rw [aNi hk hlk,← aCf hx]
  by_cases c1:dm (hitF fs l x)=[]
  · rw [if_pos c1]
    exact fun H' s b=>h1 H' _ s b
  · rw [if_neg c1]
    by_cases c2:dm (hitF fs l x)=dm (fs x)
    · rw [if_pos c2]
      exact fun H' s b=>h2 H' fs [] s b (by simp) ⟨rfl,fun _ h=>nomatch h⟩ fun _ _ _ h=>h
    · rw [if_neg c2]
      intro H' s b
      refine h2 H' (hitF fs l) [⟨l.x,dm (fs x),l,none,-1⟩] ?_ b (by simp) (Back.one rfl rfl hx hxm) fun y v _ e=>?_
      · have e:({ SS m S fs [] with trail:=(SS m S fs []).trail ++ [⟨l.x,dm (fs x),l,none,-1⟩],doms:=(SS m S fs []).doms.set l.x.toNat (dm (hitF fs l x)) }:SSt)=SS m S (hitF fs l) [⟨l.x,dm (fs x),l,none,-1⟩]:=by
          simp only [SS,hx,Int.toNat_natCast,List.append_nil]
          rw [aCf hx,aLu hx]
        rw [e] at s
        exact s
      · simp only [hitF,Bool.and_eq_true] at e
        exact e.1
theorem StkAt.ext {H H':AHeap} {m:Nat} {st ba:Addr} {F:SA} {S S':SSt} {stk:List (Nat × FS)} {fs fs':FS} {es:List Entry} (x:StkAt H m st ba F S stk) (hd:S.doms=DMs m fs) (at':StoreAt H' F S') (hd':S'.doms=DMs m fs') (ht:S'.trail=S.trail ++ es) (hmk:S'.marks=S.marks) (hf:S'.firsts=S.firsts)
    (hb:Back m fs es fs') (htl:S'.trail.length≤900) (eb:H' ba=some (.list (stk.reverse.map (snapV m)))):StkAt H' m st ba F S' stk where
  at_:=at'
  se:=x.se
  dl:=by rw [hd',aBk]
  mks:=by rw [hmk]; exact x.mks
  ok:=by rw [hd',ht]; exact (x.ok).ext (by rw [hd]; exact hb.un)
  tx:=fun e he=>by rw [ht] at he; exact (List.mem_append.mp he).elim (x.tx e) (hb.ex e)
  tl:=htl
  sl:=x.sl
  bn:=x.bn
  be:=eb
  fi:=by rw [hf]; exact x.fi
theorem StkAt.push {H H':AHeap} {m:Nat} {st ba:Addr} {F:SA} {S:SSt} {stk:List (Nat × FS)} {fs:FS} (x:StkAt H m st ba F S stk) (hd:S.doms=DMs m fs) (at':StoreAt H' F { S with marks:=S.marks ++ [(S.trail.length:Int)] }) (hs:stk.length≤9) (eb:H' ba=some (.list (((S.trail.length,fs) :: stk).reverse.map (snapV m)))) :
    StkAt H' m st ba F { S with marks:=S.marks ++ [(S.trail.length:Int)] } ((S.trail.length,fs) :: stk) where
  at_:=at'
  se:=x.se
  dl:=x.dl
  mks:=by rw [x.mks]; simp
  ok:=by
    have:=x.ok
    show StackOk m S.doms S.trail _
    rw [hd] at this ⊢
    exact this.push
  tx:=x.tx
  tl:=x.tl
  sl:=by rw [List.length_cons]; exact Nat.succ_le_succ hs
  bn:=x.bn
  be:=eb
  fi:=x.fi
end
section
variable {G:Cx} {n:Nat} {H:AHeap} {Q:AV→AHeap→Prop} {R:RA} {M:Mach} {fs0:FS} {ws:List (List Nat)}
theorem lt_4 {P:Nat→Prop} {r:Nat} (h:r < 4) (a:P 0) (b:P 1) (c:P 2) (d:P 3):P r:=by
  have k:∀ r,r < 4→r=0∨r=1∨r=2∨r=3:=by decide
  rcases k r h with e | e | e | e <;> rw [e] <;> assumption
theorem sg_at {r:Nat} (h:r < 4):∃ sg:Sg,([.str "<=",.str ">=",.str "=",.str "!="]:List AV)[r]?=some (.str sg.str) :=
  lt_4 (P:=fun r=>∃ sg:Sg,([.str "<=",.str ">=",.str "=",.str "!="]:List AV)[r]?=some (.str sg.str)) h ⟨.le,rfl⟩ ⟨.ge,rfl⟩ ⟨.eq,rfl⟩ ⟨.ne,rfl⟩
noncomputable def bCz (R:RA) (M:Mach) (fs0:FS) (ws:List (List Nat)) (a0:Option AV) (a2:Option AV) (a5:Option AV) (a6:Option AV) (a7:Option AV) (a9:Option AV) (a11:Option AV) (a12:Option AV) (sa:Addr) (ba:Addr) (F:SA) (ci:List Int) (i:Nat) (L':LS) (H':AHeap):Prop:=∀ P:LS→Prop,(∀ (S:SSt) (stk:List (Nat × FS)) (b:Bool) (k:Nat) (a10:Option AV) (a17:Option AV) (a18:Option AV) (e1:StkAt H' M.many F.st ba F S stk) (e2:H' sa=some (srcO ci k)) (e3:k≤100+3 * i) (e4:RegAt H' R M) (e5:S.firsts=DMs M.many fs0) (e6:S.trail.length≤50+30 * i) (e7:stk.length≤i) (e8:(b=true→S.failed=false∧∃ fs,S.doms=DMs M.many fs∧Sub fs fs0)),P [a0,some (.val (.ref sa)),a2,some (natAV M.letters),some (natAV M.many),a5,a6,a7,some (.val (.ref F.st)),a9,a10,a11,a12,some (.val (.ref R.rg)),some (aBa ws),some (.val (.ref ba)),some (.val (.bool b)),a17,a18])→P L'
theorem bDv {a0 a2 a5 a6 a7 a9 a10 a11 a12 a17 a18:Option AV} {b:Bool} {sa ba:Addr} {F:SA} {S:SSt} {ci:List Int} {k:Nat} (ok:MOk M) (hW:Wds M fs0 ws) (hwl:ws.length≤125) (hc:ci.length≤40) (hl:M.letters+2≤5)
    (hs:StkAt H M.many F.st ba F S []) (hsa:H sa=some (srcO ci k)) (hk:k≤100) (x:RegAt H R M) (hr1:R.rg∉F.all) (hr2:R.dx∉F.all) (hsF:sa∉F.all) (hS:S.firsts=DMs M.many fs0) (ht:S.trail.length≤50)
    (hb:b=true→S.failed=false∧∃ fs,S.doms=DMs M.many fs∧Sub fs fs0) (h:∀ H',Q (.val (.bool true)) H') :
    VSs G (n+9) irLp [a0,some (.val (.ref sa)),a2,some (natAV M.letters),some (natAV M.many),a5,a6,a7,some (.val (.ref F.st)),a9,a10,a11,a12,some (.val (.ref R.rg)),some (aBa ws),some (.val (.ref ba)),some (.val (.bool b)),a17,a18] H (RetQ Q):=by
  have hm2:=ok.m2
  have hm1:=ok.m1
  refine rngk (k:=3) (by decide) ?_
  refine fvr0 (bCz R M fs0 ws a0 a2 a5 a6 a7 a9 a11 a12 sa ba F ci)
    (fun _ κ=>κ S [] b k _ _ _ hs hsa hk x hS ht (by simp) hb) ?_ ?_
  · intro i L H1 hi hJ; apply hJ; intro S1 stk b1 k1 b10 b17 b18 hs1 hsa1 hk1 x1 hS1 ht1 hl1 hb1
    have hi3:i < 3:=hi
    refine tb (fun hbt=>?_) (fun hbf=>fun _ κ=>κ S1 stk b1 k1 _ _ _ hs1 hsa1 (Nat.le_trans hk1 (Nat.add_le_add (Nat.le_refl _) (Nat.le_add_right _ _))) x1 hS1 (Nat.le_trans ht1 (Nat.add_le_add (Nat.le_refl _) (Nat.le_add_right _ _))) (Nat.le_trans hl1 (Nat.le_add_right _ _)) hb1)
    obtain ⟨hfd,fs,hd,hsub⟩:=hb1 (of_decide_eq_true hbt)
    have st1:=hs1.at_
    refine aAg hs1.be (rngk (leL hm2 rfl) ?_)
    refine aLn hm2 st1 hd fun H2 D le2 hD2 e2=>⟨D,_,rfl,e2,?_⟩
    have nDb:ba≠D:=fun z=>by have:=hs1.be; rw [z,hD2] at this; cases this
    have eb3:(H2.set D (.frz ((ksV M.many fs).map kV))) ba=some (.list (stk.reverse.map (snapV M.many))):=(AHeap.set_ne nDb).trans (le2 _ _ hs1.be)
    have le3:HLe H1 (H2.set D (.frz ((ksV M.many fs).map kV))):=aAd le2 hD2
    generalize H2.set D (.frz ((ksV M.many fs).map kV))=H3 at eb3 le3
    refine aAj eb3 (by have:=hs1.sl; simp; exact ltL this rfl) ?_
    have nFb:∀ a∈F.all,a∉[ba]:=fun a ha hz=>hs1.bn (by rw [← List.mem_singleton.mp hz]; exact ha)
    have b4:HBut [ba] H1 (H3.set ba (.list (stk.reverse.map (snapV M.many) ++ [AV.lst ((ksV M.many fs).map kV)]))):=le3.but.set (.head _)
    have eb4:(H3.set ba (.list (stk.reverse.map (snapV M.many) ++ [AV.lst ((ksV M.many fs).map kV)]))) ba=some (.list (((S1.trail.length,fs) :: stk).reverse.map (snapV M.many))):=by
      rw [AHeap.set_same,List.reverse_cons,List.map_append]; rfl
    have nsb:sa≠ba:=fun z=>by have:=hs1.be; rw [← z,hsa1] at this; cases this
    have ngb:R.rg≠ba:=fun z=>by have:=hs1.be; rw [← z,x1.inst] at this; cases this
    have ndb:R.dx≠ba:=fun z=>by have:=hs1.be; rw [← z,x1.attrs] at this; cases this
    have sm:∀ {p:Addr},p≠ba→p∉[ba]:=fun hp hz=>hp (List.mem_singleton.mp hz)
    have hsa4:=b4.1 _ _ (sm nsb) hsa1
    have x4:=x1.but b4 (sm ngb) (sm ndb)
    have st4:=st1.but b4 nFb
    generalize H3.set ba (.list (stk.reverse.map (snapV M.many) ++ [AV.lst ((ksV M.many fs).map kV)]))=H4 at b4 eb4 hsa4 x4 st4
    refine aAe st4.inst st4.attrs (by kernel_rfl!) (by kernel_rfl!:meB G.w 265 "push" 241=true) (bLf st4 (by rw [hs1.mks]; simp; exact Nat.le_of_lt (Nat.lt_of_le_of_lt hl1 (Nat.lt_of_lt_of_le hi (by decide)))) (om296 ht1 hi3) fun H5 st5 hb5=>?_)
    have eb5:=hb5.1 _ _ hs1.bn eb4
    have hs5:=hs1.push hd st5 (Nat.le_of_lt (Nat.lt_of_le_of_lt hl1 (Nat.lt_of_lt_of_le hi (by decide)))) eb5
    have hsa5:=hb5.1 _ _ hsF hsa4
    have x5:=x4.but hb5 hr1 hr2
    refine aIa hsa5 (om295 hk1 hi3) hc hm1 fun xx hxx=>?_
    have nF1:∀ a∈F.all,a∉[sa]:=fun a ha hz=>hsF (by rw [← List.mem_singleton.mp hz]; exact ha)
    intro D6 hD6
    have hsa6:((H5.set sa (srcO ci (k1+1))).set D6 (.list [.str "<=",.str ">=",.str "=",.str "!="])) sa=some (srcO ci (k1+1)):=(HLe.new hD6) _ _ AHeap.set_same
    refine aIa hsa6 (om294 hk1 hi3) hc (by decide) fun r hr=>?_
    obtain ⟨sg,hsg⟩:=sg_at hr
    have nD6:D6≠sa:=fun z=>by rw [z,AHeap.set_same] at hD6; cases hD6
    refine aAq (.own ((AHeap.set_ne nD6).trans AHeap.set_same)) om293 (by rw [Int.toNat_natCast]; exact hsg) (by decide) ?_
    have el:((M.letters:Nat):Int)+2=((M.letters+2:Nat):Int):=om292
    show CW _ _ (.ref 415) [.val (.ref sa),.int (((M.letters:Nat):Int)+2)] _ _
    rw [el]
    refine aIa AHeap.set_same (om291 hi hk1) hc om290 fun r2 hr2'=>?_
    have b7:HBut [sa] H5 ((((H5.set sa (srcO ci (k1+1))).set D6 (.list [.str "<=",.str ">=",.str "=",.str "!="])).set sa (srcO ci (k1+1+1))).set sa (srcO ci (k1+1+1+1))):=(((((HLe.refl H5).but).set (.head _)).setn hD6).set (.head _)).set (.head _)
    have hsa7:((((H5.set sa (srcO ci (k1+1))).set D6 (.list [.str "<=",.str ">=",.str "=",.str "!="])).set sa (srcO ci (k1+1+1))).set sa (srcO ci (k1+1+1+1))) sa=some (srcO ci (k1+1+1+1)):=AHeap.set_same
    generalize ((((H5.set sa (srcO ci (k1+1))).set D6 (.list [.str "<=",.str ">=",.str "=",.str "!="])).set sa (srcO ci (k1+1+1))).set sa (srcO ci (k1+1+1+1)))=H7 at b7 hsa7
    have ss:∀ {p:Addr},p≠sa→p∉[sa]:=fun hp hz=>hp (List.mem_singleton.mp hz)
    have ngs:R.rg≠sa:=fun z=>by rw [← z,x5.inst] at hsa5; cases hsa5
    have nds:R.dx≠sa:=fun z=>by rw [← z,x5.attrs] at hsa5; cases hsa5
    have x7:=x5.but b7 (ss ngs) (ss nds)
    have st7:=st5.but b7 nF1
    have eb7:=b7.1 _ _ (ss (Ne.symm nsb)) eb5
    have hd5:({ S1 with marks:=S1.marks ++ [(S1.trail.length:Int)] }:SSt).doms=DMs M.many fs:=hd
    rw [← aZc hd5] at st7
    have tl5:({ S1 with marks:=S1.marks ++ [(S1.trail.length:Int)] }:SSt).trail.length≤50+30 * i:=ht1
    have fd5:({ S1 with marks:=S1.marks ++ [(S1.trail.length:Int)] }:SSt).failed=false:=hfd
    have fi5:({ S1 with marks:=S1.marks ++ [(S1.trail.length:Int)] }:SSt).firsts=DMs M.many fs0:=hS1
    generalize ({ S1 with marks:=S1.marks ++ [(S1.trail.length:Int)] }:SSt)=S5 at *
    refine aAe st7.inst st7.attrs (by kernel_rfl!) (by kernel_rfl!:meB G.w 265 "decide" 227=true) (aQc (l:=⟨(xx:Nat),sg,(r2:Nat)⟩) (x:=xx) (k:=r2) hm2 st7 rfl hxx (om289 hl hr2') rfl (om288 hi3 tl5) (fun H8 c st8 hb8=>?_) fun H8 fs8 es8 st8 hb8 hel8 hbk8 hs8=>?_)
    · refine ?_
      refine fun _ κ=>κ _ ((S1.trail.length,fs) :: stk) false (k1+1+1+1) _ _ _ (hs5.ext (es:=[]) hd5 st8 rfl rfl rfl rfl ⟨rfl,fun _ h=>nomatch h⟩ ?_ (hb8.1 _ _ hs1.bn eb7)) (hb8.1 _ _ hsF hsa7) (om281 hk1) (x7.but hb8 hr1 hr2) fi5 ?_ (by simp; exact hl1) (fun z=>nomatch z)
      · show (S5.trail ++ []).length≤900
        rw [List.append_nil]; exact om288 hi3 tl5
      · show (S5.trail ++ []).length≤50+30 * (i+1)
        rw [List.append_nil]; exact om287 tl5
    · have tl8:(SS M.many S5 fs8 es8).trail.length≤50+30 * i+1:=by
        show (S5.trail ++ es8).length≤_
        rw [List.length_append]; exact om286 tl5 hel8
      have st8':StoreAt H8 F (SS M.many (SS M.many S5 fs8 es8) fs8 []):=by rw [SS_SS,List.append_nil]; exact st8
      have eb8:=hb8.1 _ _ hs1.bn eb7
      have hs8':=hs5.ext (S':=SS M.many S5 fs8 es8) hd5 st8 rfl rfl rfl rfl hbk8 (om285 hi3 tl8) eb8
      have hsa8:=hb8.1 _ _ hsF hsa7
      have x8:=x7.but hb8 hr1 hr2
      refine aJo ok x8 st8' hr1 hr2 (om284 hi3 tl8) fi5 hW hwl (fun y v hv e=>hsub y v hv (hs8 y v hv e)) fd5 (fun H9 fs9 es9 c st9 hb9 hel9 hbk9=>?_) fun H9 fs9 es9 st9 hb9 hel9 hbk9 hs9=>?_
      · have tl9:((SS M.many S5 fs8 es8).trail ++ es9).length≤50+30 * (i+1):=by rw [List.length_append]; exact om283 tl8 hel9
        exact fun _ κ=>κ _ ((S1.trail.length,fs) :: stk) false (k1+1+1+1) _ _ _ (hs8'.ext (es:=es9) (fs:=fs8) rfl st9 rfl rfl rfl rfl hbk9 (Nat.le_trans tl9 (om282 hi)) (hb9.1 _ _ hs1.bn eb8)) (hb9.1 _ _ hsF hsa8) (om281 hk1) (x8.but hb9 hr1 hr2) fi5 tl9 (by simp; exact hl1) (fun z=>nomatch z)
      · have tl9:((SS M.many S5 fs8 es8).trail ++ es9).length≤50+30 * (i+1):=by rw [List.length_append]; exact om283 tl8 hel9
        exact fun _ κ=>κ _ ((S1.trail.length,fs) :: stk) true (k1+1+1+1) _ _ _ (hs8'.ext (es:=es9) (fs:=fs8) rfl st9 rfl rfl rfl rfl hbk9 (Nat.le_trans tl9 (om282 hi)) (hb9.1 _ _ hs1.bn eb8)) (hb9.1 _ _ hsF hsa8) (om281 hk1) (x8.but hb9 hr1 hr2) fi5 tl9 (by simp; exact hl1) (fun _=>⟨fd5,fs9,rfl,fun y v hv e=>hsub y v hv (hs8 y v hv (hs9 y v hv e))⟩)
  · intro L H1 hJ; apply hJ; intro S1 stk b1 k1 b10 b17 b18 hs1 hsa1 hk1 x1 hS1 ht1 hl1 hb1
    exact bFn hm2 hs1 h
end
end
section
theorem aMj {k:Nat}:rngL 0 1 k=(List.range k).map natAV:=by
  simp only [rngL]
  apply List.map_congr_left
  intro i _
  show AV.int (0+(i:Nat) * 1)=AV.int (i:Nat)
  rw [show (0:Int)+(i:Nat) * 1=(i:Nat) from om302]
theorem bDt {w:List Nat} {ks:List (List Nat)}:Fits w ks↔w.length=ks.length∧∀ (p a:Nat),w[p]?=some a→∃ k:List Nat,ks[p]?=some k∧a∈k:=by
  induction w generalizing ks with
  | nil =>
    cases ks with
    | nil=>exact ⟨fun _=>⟨rfl,fun p a e=>nomatch e⟩,fun _=>trivial⟩
    | cons k ks=>exact ⟨fun h=>h.elim,fun h=>nomatch h.1⟩
  | cons a w ih =>
    cases ks with
    | nil=>exact ⟨fun h=>h.elim,fun h=>nomatch h.1⟩
    | cons k ks =>
      refine ⟨fun h=>⟨congrArg (· + 1) (ih.mp h.2).1,fun p b e=>?_⟩,fun h=>⟨?_,ih.mpr ⟨Nat.succ.inj h.1,fun p b e=>h.2 (p+1) b e⟩⟩⟩
      · cases p with
        | zero=>exact ⟨k,rfl,Option.some.inj e ▸ h.1⟩
        | succ p=>exact (ih.mp h.2).2 p b e
      · obtain ⟨k',e,m⟩:=h.2 0 a rfl
        exact Option.some.inj e ▸ m
theorem bJf {m:Nat} {fs:FS} {w:List Nat}:Fits w (ksV m fs)↔w.length=m∧FitF w fs:=by
  rw [bDt,aCe]
  refine and_congr_right fun hl=>⟨fun h p a e=>?_,fun h p a e=>?_⟩
  · have hp:=(List.getElem?_eq_some_iff.mp e).1
    obtain ⟨k,ek,m⟩:=h p a e
    rw [aDs (om36 hl hp)] at ek
    cases ek
    exact mem_vls.mp m
  · have hp:=(List.getElem?_eq_some_iff.mp e).1
    exact ⟨_,aDs (om36 hl hp),mem_vls.mpr (h p a e)⟩
noncomputable def fsOf (gs:List (Nat→Bool)):FS:=fun x=>gs.getD x fun _=>false
theorem bBt {gs:List (Nat→Bool)}:DMs gs.length (fsOf gs)=gs.map dm:=by
  apply List.ext_getElem?
  intro i
  rw [List.getElem?_map]
  by_cases h:i < gs.length
  · rw [aGe h,List.getElem?_eq_getElem h,fsOf,List.getD_eq_getElem?_getD,List.getElem?_eq_getElem h]; rfl
  · rw [List.getElem?_eq_none (by rw [aBk]; exact om38 h),List.getElem?_eq_none (om38 h)]; rfl
theorem fsOf_ksV {gs:List (Nat→Bool)}:ksV gs.length (fsOf gs)=gs.map vls:=by
  apply List.ext_getElem?
  intro i
  rw [List.getElem?_map]
  by_cases h:i < gs.length
  · rw [aDs h,List.getElem?_eq_getElem h,fsOf,List.getD_eq_getElem?_getD,List.getElem?_eq_getElem h]; rfl
  · rw [List.getElem?_eq_none (by rw [aCe]; exact om38 h),List.getElem?_eq_none (om38 h)]; rfl
noncomputable def okWs (M:Mach) (ks:List (List Nat)):List (List Nat):=(aAv ks).filter fun w=>goB M w.reverse M.finals
theorem bBa {M:Mach} (ok:MOk M) {fs:FS}:Wds M fs (okWs M (ksV M.many fs)):=fun w=>by
  rw [okWs,List.mem_filter,mem_wordsF,bJf,go_eq ok]
  constructor
  · rintro ⟨⟨h1,h2⟩,h3⟩; exact ⟨h1,h3,h2⟩
  · rintro ⟨h1,h3,h2⟩; exact ⟨⟨h1,h2⟩,h3⟩
section
variable {G:Cx} {n:Nat} {H:AHeap} {Q:AV→AHeap→Prop} {M:Mach}
theorem nsRD {H:AHeap} (l:List Nat):RD H (aAc l) (.tuple (l.map fun k=>.int (k:Nat))):=.tup (nRDs l)
theorem aVw {H:AHeap}:∀ r:List (List Nat),RDs H (r.map aAc) (r.map fun l=>.tuple (l.map fun k=>.int (k:Nat)))
  | []=>.nil
  | l :: r=>.cons (nsRD l) (aVw r)
noncomputable def aVc (M:Mach):PyData:=.tuple [.str "regular",.tuple ((List.range M.many).map fun k=>.int (k:Nat)),.int (M.states:Nat),.int (M.letters:Nat),.tuple (M.rows.map fun l=>.tuple (l.map fun k=>.int (k:Nat))),.int (M.start:Nat),.tuple (M.finals.map fun k=>.int (k:Nat))]
theorem aVb {H:AHeap}:RD H (.tup [.str "regular",aAc (List.range M.many),natAV M.states,natAV M.letters,aCi M.rows,natAV M.start,aAc M.finals]) (aVc M) :=
  .tup (.cons (.str _ (by kernel_rfl!)) (.cons (nsRD _) (.cons (.int _) (.cons (.int _) (.cons (.tup (aVw _)) (.cons (.int _) (.cons (nsRD _) .nil)))))))
theorem aSo:(aVc M).depth≤8:=by
  have h1:=aKr (List.range M.many)
  have h2:=aKr M.finals
  have h3:PyData.depthAll (M.rows.map fun l=>PyData.tuple (l.map fun k=>.int (k:Nat)))≤1:=aUz M.rows
  simp only [aVc,PyData.depth,PyData.depthAll]
  exact om301 h1 h2 h3
theorem bAf {l:List Nat} (hb:∀ k∈l,k≤4) (hl:l.length≤200) (h:∀ (D:Addr) (l':List Nat),H D=none→l'.Pairwise (· < ·)→(∀ k,k∈l'↔k∈l)→Q (.val (.ref D)) (H.set D (.list (l'.map natAV)))):SsetQ (aAc l) H Q:=by
  unfold SsetQ
  refine ⟨l.map fun k=>((k:Nat):Int),.inr (by rw [← aAy]; rfl),fun k hk=>?_,by rw [List.length_map]; exact hl,fun D ns' hD hp hm=>?_⟩
  · refine aCm hk fun t ht=>?_
    have:=hb t ht
    exact om300 this
  · obtain ⟨l',rfl,h1,h2⟩:=aMp hm hp
    rw [← aAy]
    exact h D l' hD h2 h1
theorem aYr (ok:MOk M) (h:∀ H' R,RegAt H' R M→HLe H H'→H R.rg=none→H R.dx=none→Q (.val (.ref R.rg)) H'):CW G (n+3) (.ref 406) [aAc (List.range M.many),natAV M.states,natAV M.letters,aCi M.rows,natAV M.start,aAc M.finals] H Q:=by
  have hm:=ok.m2
  refine aYg (fI:=327) (by kernel_rfl!) (by kernel_rfl!) (by kernel_rfl!) fun x dx hx hdx hne=>aUa AHeap.set_same (aCd (aUb ?_))
  refine se_mk (i:=0) (j:=1) (Mk.start (C:=406) hx hdx hne) rfl rfl (by kernel_rfl!) (by kernel_rfl!) fun m=>aCd ?_
  refine se_mk (i:=0) (j:=1) m rfl rfl (by kernel_rfl!) (by kernel_rfl!) fun m=>?_
  refine se_mk (i:=0) (j:=1) m rfl rfl (by kernel_rfl!) (by kernel_rfl!) fun m=>?_
  refine se_mk (i:=0) (j:=1) m rfl rfl (by kernel_rfl!) (by kernel_rfl!) fun m=>?_
  refine se_mk (i:=0) (j:=1) m rfl rfl (by kernel_rfl!) (by kernel_rfl!) fun m=>?_
  refine se_mk (i:=0) (j:=1) m rfl rfl (by kernel_rfl!) (by kernel_rfl!) fun m=>?_
  refine se_mk (i:=0) (j:=1) m rfl rfl (by kernel_rfl!) (by kernel_rfl!) fun m=>?_
  refine se_mk (i:=0) (j:=1) m rfl rfl (by kernel_rfl!) (by kernel_rfl!) fun m=>?_
  refine bAf (fun k hk=>by have:=List.mem_range.mp hk; exact om299 hm this) (by rw [List.length_range]; exact om298 hm) fun D l' hD hp hl=>?_
  have el:l'=List.range M.many:=aOr l' (List.range M.many) hp List.pairwise_lt_range hl
  refine aAf (.own AHeap.set_same) (by rw [el,List.length_map,List.length_range]; exact om297 hm) (aDk (by rw [List.length_map,List.length_range]; exact om297 hm) ?_)
  rw [el,List.length_map,List.length_range]
  refine se_mk (i:=1) (j:=2) (m.alloc hD) rfl rfl (by kernel_rfl!) (by kernel_rfl!) fun m=>?_
  have eb:decide ((M.many:Int) < (M.many:Int))=false:=by simp
  rw [eb] at m ⊢
  exact ⟨rfl,h _ ⟨x,dx⟩ ⟨m.all.2.1,m.all.2.2.1⟩ m.le hx hdx⟩
end
end
section
variable {G:Cx} {n:Nat} {H:AHeap} {Q:AV→AHeap→Prop} {M:Mach}
noncomputable def bCy (M:Mach) (H1:AHeap) (R:RA) (i:Nat) (acc:List AV) (L':LS) (H':AHeap):Prop:=∀ P:LS→Prop,(∀ (e1:HLe H1 H') (e2:acc=[]) a b,P [a,b,some (aRd M),some (.val (.ref R.rg))])→P L'
noncomputable def bCx (M:Mach) (gs:List (Nat→Bool)) (H1:AHeap) (i:Nat) (acc:List AV) (L':LS) (H':AHeap):Prop:=∀ P:LS→Prop,(∀ (e1:HLe H1 H') (e2:acc.length≤i) (e3:acc=(((aAv (gs.map vls)).take i).filter fun w=>goB M w.reverse M.finals).map aAc) a b,P [a,b,some (aRd M)])→P L'
theorem v_mid {a0 a10 a11 a12 a13 a14 a15 a16 a17 a18:Option AV} {sa ld:Addr} {F:SA} {ci:List Int} {k:Nat} {gs:List (Nat→Bool)} (ok:MOk M) (hl:M.letters+2≤5) (hc:ci.length≤40) (hgl:gs.length=M.many)
    (hgn:∀ g∈gs,dm g≠[]) (hsa:H sa=some (srcO ci k)) (hk:k≤100) (st:StoreAt H F ⟨gs.map dm,gs.map dm,[],[],false,[]⟩) (hld:H ld=some (.list (gs.map fun g=>kV (vls g)))) (h:∀ H',Q (.val (.bool true)) H') :
    VSs G (n+9) irM [a0,some (.val (.ref sa)),some (natAV M.states),some (natAV M.letters),some (natAV M.many),some (aCi M.rows),some (natAV M.start),some (aAc M.finals),some (.val (.ref F.st)),some (.val (.ref ld)),a10,a11,a12,a13,a14,a15,a16,a17,a18] H (RetQ Q):=by
  have hm2:=ok.m2
  have hkl:(gs.map vls).length≤3:=by rw [List.length_map]; exact om314 hgl hm2
  have hk5:∀ q∈gs.map vls,q.length≤5:=fun q hq=>by
    refine aCm hq fun g _=>?_
    exact aCy g
  have hwl:(aAv (gs.map vls)).length≤125:=aJc hk5 hkl
  have hsF:sa∉F.all:=fun z=>by
    obtain ⟨ks,_,o⟩:=st.ob
    have:∃ p∈sObs F ⟨gs.map dm,gs.map dm,[],[],false,[]⟩ ks,p.1=sa:=List.mem_map.mp (show sa∈(sObs F ⟨gs.map dm,gs.map dm,[],[],false,[]⟩ ks).map (·.1) from z)
    obtain ⟨p,hp,rfl⟩:=this
    obtain ⟨i,ei⟩:=List.getElem?_of_mem hp
    have:=o.get ei
    rw [hsa] at this
    simp only [sObs,List.mem_cons,List.not_mem_nil,or_false] at hp
    rcases hp with rfl | rfl | rfl | rfl | rfl | rfl | rfl <;> (simp only [srcO] at this; cases this)
  refine aHs (aGb (k:=M.many) (aEg (by omega) (by omega) (by omega) (by omega)) (by rw [aGw,Int.sub_zero,Int.toNat_natCast]) (by omega) ?_)
  rw [aMj]
  refine aYr ok fun H1 R x1 le1 hR1 hR2=>?_
  have st1:=st.le le1
  have hr1:R.rg∉F.all:=st.fresh hR1
  have hr2:R.dx∉F.all:=st.fresh hR2
  refine aAe x1.inst x1.attrs (by kernel_rfl!) (by kernel_rfl!:meB G.w 406 "told" 334=true) (bLd x1 (aHs (aGb (k:=M.many) (aEg (by omega) (by omega) (by omega) (by omega)) (by rw [aGw,Int.sub_zero,Int.toNat_natCast]) (by omega) ?_)))
  rw [aMj]
  refine aGd aVb aVb aSo ?_
  rw [SeqAt.eqv_refl _ (aVb (H:=H1) (M:=M)).lay]
  refine aQj x1 (aGd (.str "values" (by kernel_rfl!)) (.str "values" (by kernel_rfl!)) (by decide) ?_)
  rw [SeqAt.eqv_refl _ (RD.lay (H:=H1) (.str "values" (by kernel_rfl!)))]
  refine ?_
  have hld1:H1 ld=some (.list ((gs.map vls).map kV)):=by rw [List.map_map]; exact le1 _ _ hld
  refine bHn hld1 hk5 hkl fun H2 le2=>?_
  have hwlen:∀ w∈aAv (gs.map vls),w.length≤3:=fun w hw=>by rw [(mem_wordsF.mp hw).len]; exact hkl
  refine aAh (cvi (bCy M H1 R) (fun _ κ=>κ le2 rfl _ _) ?_ ?_)
  · intro i v acc L H3 hv hJ; apply hJ; rintro le3 rfl a b
    refine aAu hv fun w ew=>?_
    have hw3:=hwlen w (List.mem_of_getElem? ew)
    have x3:=x1.le le3
    refine ⟨trivial,aAe x3.inst x3.attrs (by kernel_rfl!) (by kernel_rfl!:meB G.w 406 "check" 341=true) (aHt (l:=w.map natAV) (by rw [List.length_map]; exact om309 hw3) fun D hD=>?_)⟩
    have leD:=HLe.new (o:=.list (w.map natAV)) hD
    have ed:w.map natAV=(iz w).map .int:=aAy w
    refine bHp (w:=iz w) ok (x3.le leD) (.own ?_) ?_ (bEo ok (om308 hw3) fun H5 le5=>?_)
    · rw [← ed]; exact AHeap.set_same
    · show _=_
      rw [← ed]; exact AHeap.set_same
    rw [bKu,go_eq ok]
    refine tb (fun z=>bBc z) (fun _=>fun _ κ=>κ ((le3.trans leD).trans le5) rfl _ _)
  · intro acc L H3 hJ; apply hJ; rintro le3 rfl a b
    refine ⟨trivial,fun D hD=>fun E hE=>?_⟩
    have nDE:D≠E:=fun z=>by rw [← z,AHeap.set_same] at hE; cases hE
    refine aGd (.list (ds:=[]) ((AHeap.set_ne nDE).trans AHeap.set_same) .nil) (.list (ds:=[]) AHeap.set_same .nil) (by decide) ?_
    refine ?_
    have le4:=(le3.trans (HLe.new (o:=.list []) hD)).trans (HLe.new (o:=.list []) hE)
    generalize (H3.set D (.list [])).set E (.list [])=H4 at le4
    refine aAh (cvi (bCx M gs H1) (fun _ κ=>κ le4 (by simp) (by simp) _ _) ?_ ?_)
    · intro i v acc L H5 hv hJ; apply hJ; rintro le5 hal rfl a b
      refine aAu hv fun w ew=>?_
      have hw3:=hwlen w (List.mem_of_getElem? ew)
      have hil:=(List.getElem?_eq_some_iff.mp ew).1
      refine ⟨trivial,bEo ok (om308 hw3) fun H6 le6=>tb (fun hb=>⟨om307 hwl hal hil,fun _ κ=>κ (le5.trans le6) ?_ ?_ _ _⟩) (fun hb=>fun _ κ=>κ (le5.trans le6) (om306 hal) ?_ _ _)⟩
      · rw [List.length_append]; simp only [List.length_singleton]; exact om305 hal
      · rw [List.take_add_one,ew]
        simp [List.filter_append,hb]
      · rw [List.take_add_one,ew]
        simp [List.filter_append,hb]
    · intro acc L H5 hJ; apply hJ; rintro le5 hal rfl a b
      rw [List.length_map,List.take_length]
      refine ⟨trivial,fun D hD=>⟨D,_,rfl,AHeap.set_same,?_⟩⟩
      have hDH:=le5.fresh hD
      have le6:HLe H1 ((H5.set D (.list (((aAv (gs.map vls)).filter fun w=>goB M w.reverse M.finals).map aAc))).set D (.frz (((aAv (gs.map vls)).filter fun w=>goB M w.reverse M.finals).map aAc))):=aAd (aAd le5 hDH) hDH
      intro ba hba
      have le7:=le6.trans (HLe.new (o:=.list []) hba)
      have st7:=(st1.le le7)
      have x7:=x1.le le7
      have hbF:ba∉F.all:=(st1.le le6).fresh hba
      have eba:(((H5.set D (.list (((aAv (gs.map vls)).filter fun w=>goB M w.reverse M.finals).map aAc))).set D (.frz (((aAv (gs.map vls)).filter fun w=>goB M w.reverse M.finals).map aAc))).set ba (.list [])) ba=some (.list []):=AHeap.set_same
      have hsa7:=le7 _ _ (le1 _ _ hsa)
      generalize (((H5.set D (.list (((aAv (gs.map vls)).filter fun w=>goB M w.reverse M.finals).map aAc))).set D (.frz (((aAv (gs.map vls)).filter fun w=>goB M w.reverse M.finals).map aAc))).set ba (.list []))=H7 at st7 x7 eba hsa7
      have hdms:DMs M.many (fsOf gs)=gs.map dm:=by rw [← hgl]; exact bBt
      have hks:gs.map vls=ksV M.many (fsOf gs):=by rw [← hgl]; exact fsOf_ksV.symm
      have hW:Wds M (fsOf gs) (okWs M (gs.map vls)):=by rw [hks]; exact bBa ok
      have hol:(okWs M (gs.map vls)).length≤125:=Nat.le_trans (List.length_filter_le ..) hwl
      have hd0:(⟨gs.map dm,gs.map dm,[],[],false,[]⟩:SSt).doms=DMs M.many (fsOf gs):=hdms.symm
      have hne:∀ d∈gs.map dm,d≠[]:=fun d hd=>by
        refine aCm hd fun g hg=>?_
        exact hgn g hg
      have hs7:StkAt H7 M.many F.st ba F ⟨gs.map dm,gs.map dm,[],[],false,[]⟩ []:=⟨st7,rfl,by rw [List.length_map,hgl],rfl,trivial,(fun _ h=>nomatch h),Nat.zero_le _,Nat.zero_le _,hbF,eba,hne⟩
      have st7':=st7
      rw [← aZc hd0] at st7'
      refine aJo (ws:=okWs M (gs.map vls)) ok x7 st7' hr1 hr2 (Nat.zero_le _) hd0 hW hol (fun _ _ _ h=>h) rfl (fun H8 fs8 es8 c st8 hb8 hel8 hbk8=>⟨rfl,?_⟩) fun H8 fs8 es8 st8 hb8 hel8 hbk8 hs8=>⟨rfl,?_⟩
      · exact bDv (b:=false) ok hW hol hc hl (hs7.ext (es:=es8) hd0 st8 rfl rfl rfl rfl hbk8 (by show ([] ++ es8).length≤900; rw [List.nil_append]; exact om304 hel8) (hb8.1 _ _ hbF eba)) (hb8.1 _ _ hsF hsa7) hk (x7.but hb8 hr1 hr2) hr1 hr2 hsF hd0 (by show ([] ++ es8).length≤50; rw [List.nil_append]; exact om303 hel8) (fun z=>nomatch z) h
      · exact bDv (b:=true) ok hW hol hc hl (hs7.ext (es:=es8) hd0 st8 rfl rfl rfl rfl hbk8 (by show ([] ++ es8).length≤900; rw [List.nil_append]; exact om304 hel8) (hb8.1 _ _ hbF eba)) (hb8.1 _ _ hsF hsa7) hk (x7.but hb8 hr1 hr2) hr1 hr2 hsF hd0 (by show ([] ++ es8).length≤50; rw [List.nil_append]; exact om303 hel8) (fun _=>⟨rfl,fs8,rfl,hs8⟩) h
end
section
noncomputable def fbit (mask v:Nat):Bool:=decide (((mask:Nat):Int)=0) || decide (Builtin.bitAnd (((mask:Nat):Int).fdiv (2 ^ v)) 1=1)
theorem bGy:∀ l∈List.range 4,∀ mask∈List.range 32,mask < 2 ^ (l+2)→∃ v∈List.range 5,v < l+2∧fbit mask v=true:=by decide +kernel
noncomputable def gOf (l mask:Nat):Nat→Bool:=fun v=>decide (v < l+2) && fbit mask v
theorem bGt {l mask:Nat} (hl:l+2≤5):(List.range (l+2)).filter (fbit mask)=vls (gOf l mask):=by
  refine aOr _ _ (List.Pairwise.filter _ List.pairwise_lt_range) (aOk _) fun v=>?_
  rw [mem_vls,List.mem_filter,List.mem_range,gOf,Bool.and_eq_true,decide_eq_true_eq]
  constructor
  · rintro ⟨h1,h2⟩; exact ⟨om289 hl h1,h1,h2⟩
  · rintro ⟨_,h1,h2⟩; exact ⟨h1,h2⟩
theorem bKw {l mask:Nat} (hl:l < 4) (hm:mask < 2 ^ (l+2)):dm (gOf l mask)≠[]:=fun z=>by
  have h5:2 ^ (l+2)≤2 ^ 5:=Nat.pow_le_pow_right (by decide) (om337 hl)
  obtain ⟨v,hv,h1,h2⟩:=bGy l (List.mem_range.mpr hl) mask (List.mem_range.mpr (om336 hm h5)) hm
  have:=dm_nil.mp z v (List.mem_range.mp hv)
  rw [gOf,h2,decide_eq_true h1] at this
  cases this
theorem bAh:∀ {a b:List Int},a.Perm b→a.Pairwise (·≤·)→b.Pairwise (·≤·)→a=b:=fun p h1 h2=>p.eq_of_pairwise (fun _ _ _ _ h h'=>Int.le_antisymm h h') h1 h2
theorem bKn (f:Nat→Bool):(iz (vls f)).Pairwise (·≤·):=by
  rw [iz,List.pairwise_map]
  exact (aOk f).imp fun h=>om335 h
section
variable {G:Cx} {n:Nat} {H:AHeap} {Q:AV→AHeap→Prop} {M:Mach}
theorem bAb:((Builtin.Int.intBits 2:Nat):Int)≤64:=by
  have:Builtin.Int.intBits 2≤64:=intBits_le_64 (by decide) (by decide)
  exact om334 this
theorem bAw {l:Nat} (hl:l≤3):((Builtin.Int.intBits 2:Nat):Int) * (((l:Nat):Int)+2)≤2 ^ 27:=by
  have h1:((Builtin.Int.intBits 2:Nat):Int) * (((l:Nat):Int)+2)≤64 * 5:=Int.mul_le_mul bAb (by omega) (by omega) (by omega)
  have h2:(64 * 5:Int)≤2 ^ 27:=by omega
  exact Int.le_trans h1 h2
theorem bKe (l:Nat):(2:Int) ^ (((l:Nat):Int)+2).toNat=((2 ^ (l+2):Nat):Int):=by
  have e:(((l:Nat):Int)+2).toNat=l+2:=om330
  rw [e]; simp
theorem bCh {l:Nat} (hl:l≤3) (h:Q (.int ((2 ^ (l+2):Nat):Int)) H):BinQ G n .Pow (.int 2) (.int (((l:Nat):Int)+2)) H Q:=by
  refine bHs (a:=2) (b:=((l:Nat):Int)+2) om329 (bAw hl) ?_
  rw [bKe]; exact h
theorem aQw {nxt:LS→AHeap→Prop} {Q:AFl→LS→AHeap→Prop} {L:LS} (h:nxt L H):SeqQ nxt Q .next L H:=h
theorem aZx {s:IS} {l:ISs} {L:LS} {Q:AFl→LS→AHeap→Prop} (h:VS G n s L H (SeqQ (fun L1 H1=>VSs G n l L1 H1 Q) Q)):VSs G n (.cons s l) L H Q:=h
noncomputable def bCw (M:Mach) (a0:Option AV) (a12:Option AV) (a13:Option AV) (a14:Option AV) (a15:Option AV) (a16:Option AV) (a17:Option AV) (a18:Option AV) (sa:Addr) (ld:Addr) (F:SA) (ci:List Int) (i:Nat) (L':LS) (H':AHeap):Prop:=∀ P:LS→Prop,(∀ (gs:List (Nat→Bool)) (k:Nat) (a10:Option AV) (a11:Option AV) (e1:gs.length=i) (e2:(∀ g∈gs,dm g≠[])) (e3:k≤60+i) (e4:H' sa=some (srcO ci k)) (e5:StoreAt H' F ⟨gs.map dm,gs.map dm,[],[],false,[]⟩) (e6:H' ld=some (.list (gs.map fun g=>kV (vls g)))),P [a0,some (.val (.ref sa)),some (natAV M.states),some (natAV M.letters),some (natAV M.many),some (aCi M.rows),some (natAV M.start),some (aAc M.finals),some (.val (.ref F.st)),some (.val (.ref ld)),a10,a11,a12,a13,a14,a15,a16,a17,a18])→P L'
noncomputable def bCv (mask:Nat) (H2:AHeap) (v:Nat) (acc:List AV) (L':LS) (H':AHeap):Prop:=∀ P:LS→AHeap→Prop,(∀ (e2:acc.length≤v) (e3:acc=((List.range v).filter (fbit mask)).map natAV) a b,P [a,b,some (natAV mask)] H2)→P L' H'
theorem bJw {a0 a10 a11 a12 a13 a14 a15 a16 a17 a18:Option AV} {sa ld:Addr} {F:SA} {ci:List Int} {k:Nat} (ok:MOk M) (hc:ci.length≤40) (hsa:H sa=some (srcO ci k)) (hk:k≤60) (st:StoreAt H F ⟨[],[],[],[],false,[]⟩) (hld:H ld=some (.list [])) (hlF:ld∉F.all) (h:∀ H',Q (.val (.bool true)) H') :
    VSs G (n+9) irV [a0,some (.val (.ref sa)),some (natAV M.states),some (natAV M.letters),some (natAV M.many),some (aCi M.rows),some (natAV M.start),some (aAc M.finals),some (.val (.ref F.st)),some (.val (.ref ld)),a10,a11,a12,a13,a14,a15,a16,a17,a18] H (RetQ Q):=by
  have hm2:=ok.m2
  have hl2:=ok.l2
  have hsF:∀ {H':AHeap} {S k'},StoreAt H' F S→H' sa=some (srcO ci k')→sa∉F.all:=fun {H' S k'} st hsa z=>by
    obtain ⟨ks,_,o⟩:=st.ob
    have:∃ p∈sObs F S ks,p.1=sa:=List.mem_map.mp (show sa∈(sObs F S ks).map (·.1) from z)
    obtain ⟨p,hp,rfl⟩:=this
    obtain ⟨i,ei⟩:=List.getElem?_of_mem hp
    have:=o.get ei
    rw [hsa] at this
    simp only [sObs,List.mem_cons,List.not_mem_nil,or_false] at hp
    rcases hp with rfl | rfl | rfl | rfl | rfl | rfl | rfl <;> (simp only [srcO] at this; cases this)
  refine aZx (l:=irM) ?_
  refine rngk (leL hm2 rfl) ?_
  refine fvr0 (bCw M a0 a12 a13 a14 a15 a16 a17 a18 sa ld F ci)
    (fun _ κ=>κ [] k _ _ rfl (fun _ h=>nomatch h) (om327 hk) hsa st hld) ?_ ?_
  · intro i L H1 hi hJ; apply hJ; intro gs k1 b10 b11 hgl hgn hk1 hsa1 st1 hld1
    have hs1F:=hsF st1 hsa1
    have el:((M.letters:Nat):Int)+2=((M.letters+2:Nat):Int):=om292
    refine bCh (l:=M.letters) hl2 (aIa hsa1 (om326 hm2 hi hk1) hc (Nat.two_pow_pos _) fun mask hmask=>?_)
    have b2:HBut [sa] H1 (H1.set sa (srcO ci (k1+1))):=(HLe.refl H1).but.set (.head _)
    have hsa2:(H1.set sa (srcO ci (k1+1))) sa=some (srcO ci (k1+1)):=AHeap.set_same
    generalize H1.set sa (srcO ci (k1+1))=H2 at b2 hsa2
    have nls:ld≠sa:=fun z=>by rw [z,hsa1] at hld1; cases hld1
    have hld2:=b2.1 _ _ (fun hz=>nls (List.mem_singleton.mp hz)) hld1
    have st2:=st1.but b2 fun a ha hz=>hs1F (by rw [← List.mem_singleton.mp hz]; exact ha)
    refine aAg hld2 (rngk (k:=M.letters+2) (leL (Nat.add_le_add_right hl2 2) rfl) ?_)
    refine cvr0 (bCv mask H2) (fun _ κ=>κ (by simp) (by simp) _ _) ?_ ?_
    · intro v acc L H3 hv hJ; apply hJ; rintro hal rfl a b
      have stepT:fbit mask v=true→((List.range v).filter (fbit mask)).map natAV ++ [natAV v]=((List.range (v+1)).filter (fbit mask)).map natAV:=fun hb=>by
        rw [List.range_succ,List.filter_append,List.map_append]
        simp [hb]
      have stepF:fbit mask v=false→((List.range v).filter (fbit mask)).map natAV=((List.range (v+1)).filter (fbit mask)).map natAV:=fun hb=>by
        rw [List.range_succ,List.filter_append,List.map_append]
        simp [hb]
      have hl1:(((List.range v).filter (fbit mask)).map natAV ++ [natAV v]).length≤v+1:=by
        rw [List.length_append]; simp only [List.length_singleton]; exact om305 hal
      refine tb (fun h0=>⟨om324 hl2 hv hal,fun _ κ=>κ hl1 (stepT (by rw [fbit,h0]; rfl)) _ _⟩) (fun h0=>bHr om293 (bHx ?_))
      rw [Int.toNat_natCast]
      refine tb (fun h1=>⟨om324 hl2 hv hal,fun _ κ=>κ hl1 (stepT (by rw [fbit,h0,h1]; rfl)) _ _⟩) (fun h1=>fun _ κ=>κ (om306 hal) (stepF (by rw [fbit,h0,h1]; rfl)) _ _)
    · intro acc L H3 hJ; apply hJ; rintro hal rfl a b
      rw [bGt (om316 hl2)]
      refine fun D hD=>⟨D,_,rfl,AHeap.set_same,?_⟩
      have le4:HLe H2 ((H2.set D (.list ((vls (gOf M.letters mask)).map natAV))).set D (.frz ((vls (gOf M.letters mask)).map natAV))):=aAd (HLe.new hD) hD
      generalize ((H2.set D (.list ((vls (gOf M.letters mask)).map natAV))).set D (.frz ((vls (gOf M.letters mask)).map natAV)))=H4 at le4
      have hld4:=le4 _ _ hld2
      refine aAj hld4 (by rw [List.length_map]; exact om323 hm2 hi hgl) ?_
      have b5:HBut [ld] H4 (H4.set ld (.list (gs.map (fun g=>kV (vls g)) ++ [AV.lst ((vls (gOf M.letters mask)).map natAV)]))):=(HLe.refl H4).but.set (.head _)
      have hld5:(H4.set ld (.list (gs.map (fun g=>kV (vls g)) ++ [AV.lst ((vls (gOf M.letters mask)).map natAV)]))) ld=some (.list ((gs ++ [gOf M.letters mask]).map fun g=>kV (vls g))):=by
        rw [AHeap.set_same,List.map_append]; rfl
      generalize H4.set ld (.list (gs.map (fun g=>kV (vls g)) ++ [AV.lst ((vls (gOf M.letters mask)).map natAV)]))=H5 at b5 hld5
      have st5:=(st2.le le4).but b5 fun a ha hz=>hlF (by rw [← List.mem_singleton.mp hz]; exact ha)
      have hsa5:=b5.1 _ _ (fun hz=>nls (List.mem_singleton.mp hz).symm) (le4 _ _ hsa2)
      refine aAe st5.inst st5.attrs (by kernel_rfl!) (by kernel_rfl!:meB G.w 265 "new_var" 136=true) (aAq (v:=kV (vls (gOf M.letters mask))) (.own hld5) om293 (by rw [Int.toNat_natCast,List.getElem?_map,List.getElem?_append_right (om322 hgl),← hgl,Nat.sub_self]; rfl) (by rw [List.length_map,List.length_append]; simp only [List.length_singleton]; exact om321 hm2 hi hgl) ?_)
      refine aLr (ns:=iz (vls (gOf M.letters mask))) (fun H' _=>by rw [iz,← aAy]; exact .frz) (by have:=aCy (gOf M.letters mask); rw [iz,List.length_map]; exact om320 this) fun H6 ns' le6 hp hs=>?_
      rw [bAh hp hs (bKn _)]
      have hgne:=bKw (l:=M.letters) (om319 hl2) hmask
      refine aYs (d:=dm (gOf M.letters mask)) (st5.le le6) hgne (by simp; exact om318 hm2 hi hgl) (by simp; exact om318 hm2 hi hgl) fun H7 st7 hb7=>?_
      refine fun _ κ=>κ (gs ++ [gOf M.letters mask]) (k1+1) _ _ (by simp [hgl]) (fun g hg=>?_) (om317 hk1) (hb7.1 _ _ (hsF st5 hsa5) (le6 _ _ hsa5)) ?_ (hb7.1 _ _ hlF (le6 _ _ hld5))
      · rcases List.mem_append.mp hg with hg | hg
        · exact hgn g hg
        · rw [List.mem_singleton.mp hg]; exact hgne
      · rw [List.map_append]; exact st7
  · intro L H1 hJ; apply hJ; intro gs k1 b10 b11 hgl hgn hk1 hsa1 st1 hld1
    refine aQw ?_
    exact v_mid ok (om316 hl2) hc hgl hgn hsa1 (om315 hm2 hk1) st1 hld1 h
end
end
section
noncomputable def irAll:ISs:=(.cons (.asg (.var 1) (.dict2 "cells" "spot" (.frz (.comp [".0", "cell"] [none,none] (.var 1) (.val (.upto (.var 0) (.lit (.int 40)))) .tt (.call (.builtin "abs") (.cons (.var 1) .nil)))) (.lit (.int 0)))) (.cons (.asg (.tup (.cons (.var 2) (.cons (.var 3) .nil))) (.tup (.cons (.bin .Add (.lit (.int 1)) (.call (.ref 415) (.cons (.var 1) (.cons (.lit (.int 3)) .nil)))) (.cons (.bin .Add (.lit (.int 1)) (.call (.ref 415) (.cons (.var 1) (.cons (.lit (.int 3)) .nil)))) .nil)))) (.cons (.asg (.var 4) (.bin .Add (.lit (.int 1)) (.call (.ref 415) (.cons (.var 1) (.cons (.ite (.cmp .Lt (.var 3) (.lit (.int 3))) (.lit (.int 3)) (.lit (.int 2))) .nil))))) (.cons (.asg (.var 5) (.call (.type "tuple") (.cons (.comp [".0", "state", "letters", "source", "states"] [none,none,some 3,some 1,some 2] (.var 1) (.val (.call (.type "range") (.cons (.var 2) .nil))) .tt (.call (.type "tuple") (.cons (.comp [".0", "a", "source", "states"] [none,none,some 3,some 4] (.var 1) (.val (.call (.type "range") (.cons (.var 2) .nil))) .tt (.call (.ref 415) (.cons (.var 2) (.cons (.bin .Add (.var 3) (.lit (.int 1))) .nil)))) .nil))) .nil))) (.cons (.asg (.var 6) (.bin .Add (.lit (.int 1)) (.call (.ref 415) (.cons (.var 1) (.cons (.var 2) .nil))))) (.cons (.asg (.var 7) (.call (.type "tuple") (.cons (.comp [".0", "state", "source"] [none,none,some 1] (.var 1) (.val (.call (.type "range") (.cons (.lit (.int 1)) (.cons (.bin .Add (.var 2) (.lit (.int 1))) .nil)))) (.cmp .Eq (.call (.ref 415) (.cons (.var 2) (.cons (.lit (.int 2)) .nil))) (.lit (.int 1))) (.var 1)) .nil))) (.cons (.asg (.tup (.cons (.var 8) (.cons (.var 9) .nil))) (.tup (.cons (.call (.ref 265) .nil) (.cons (.list .nil) .nil)))) irV)))))))
theorem aXa:bEf=irAll:=rfl
section
variable {G:Cx} {n n':Nat} {H:AHeap} {Q:AV→AHeap→Prop}
theorem two {b:Bool} {L:LS} {Q:AV→AHeap→Prop} (h:∀ m:Nat,(b=true∧m=3)∨(b=false∧m=2)→Q (.int (m:Nat)) H):cond b (VE G n (.lit (.int 3)) L H Q) (VE G n (.lit (.int 2)) L H Q) :=
  tb (fun hb=>h 3 (.inl ⟨hb,rfl⟩)) (fun hb=>h 2 (.inr ⟨hb,rfl⟩))
theorem aLs {a:Addr} {ci:List Int} {k m:Nat} (he:H a=some (srcO ci k)) (hk:k≤1000) (hl:ci.length≤40) (hm:1≤m) (h:∀ r:Nat,1≤r→r≤m→Q (natAV r) (H.set a (srcO ci (k+1)))) :
    CW G (n+1) (.ref 415) [.val (.ref a),.int (m:Nat)] H fun y H2=>BinQ G n' .Add (.int 1) y H2 Q:=aIa he hk hl hm fun r hr=>by
  show Q (.int (1+(r:Nat))) _
  rw [show (1:Int)+(r:Nat)=((r+1:Nat):Int) from om190]
  exact h (r+1) om183 (om111 hr)
theorem bCf {a:Addr} {ci:List Int} {k s:Nat} (he:H a=some (srcO ci k)) (hk:k≤1000) (hl:ci.length≤40) (h:∀ r:Nat,r≤s→Q (natAV r) (H.set a (srcO ci (k+1)))) :
    CW G (n+1) (.ref 415) [.val (.ref a),.int ((s:Nat)+1)] H Q:=by
  rw [show ((s:Nat):Int)+1=((s+1:Nat):Int) from om358]
  exact aIa he hk hl om183 fun r hr=>h r (om357 hr)
noncomputable def bCu (H:AHeap) (ns:List Int) (D:Addr) (i:Nat) (acc:List AV) (L':LS) (H':AHeap):Prop:=∀ P:LS→AHeap→Prop,(∀ (e2:acc.length≤i) (e3:acc=(((ns.take 40).take i).map fun c=>(c.natAbs:Int)).map .int) a b,P [a,b] (H.set D (.list ((ns.take 40).map .int))))→P L' H'
noncomputable def bCt (ci:List Int) (sa:Addr) (s:Nat) (l:Nat) (i:Nat) (acc:List AV) (L':LS) (H':AHeap):Prop:=∀ P:LS→Prop,(∀ (rows:List (List Nat)) (k:Nat) (e1:acc=rows.map aAc) (e2:rows.length=i) (e3:(∀ r∈rows,r.length=l∧∀ c∈r,c≤s)) (e4:k≤3+3 * i) (e5:H' sa=some (srcO ci k)) a b,P [a,b,some (natAV l),some (.val (.ref sa)),some (natAV s)])→P L'
noncomputable def bCs (ci:List Int) (sa:Addr) (s:Nat) (k:Nat) (j:Nat) (acc:List AV) (L':LS) (H':AHeap):Prop:=∀ P:LS→Prop,(∀ (r:List Nat) (k':Nat) (e1:acc=r.map natAV) (e2:r.length=j) (e3:(∀ c∈r,c≤s)) (e4:k'≤k+j) (e5:H' sa=some (srcO ci k')) a b,P [a,b,some (.val (.ref sa)),some (natAV s)])→P L'
noncomputable def bCr (ci:List Int) (sa:Addr) (k:Nat) (i:Nat) (acc:List AV) (L':LS) (H':AHeap):Prop:=∀ P:LS→Prop,(∀ (fl:List Nat) (k':Nat) (e1:acc=fl.map natAV) (e2:fl.length≤i) (e3:(∀ c∈fl,1≤c∧c≤i)) (e4:k'≤k+1+i) (e5:H' sa=some (srcO ci k')) a b,P [a,b,some (.val (.ref sa))])→P L'
theorem c_law {sc:AV} {ns:List Int} (hb:BaseL G sc (ns.map .int)) (hn:ns.length≤1000) (h:∀ H',Q (.val (.bool true)) H'):CW G (n+10) (.ref 457) [sc] H Q:=by
  refine bKs ?_
  rw [aXa]
  refine ⟨ns.map .int,40,.inr hb,rfl,by rw [List.length_map]; exact om356 hn,fun D hD=>?_⟩
  rw [← List.map_take]
  refine aBi (.own AHeap.set_same) (cvi (bCu H ns D) (fun _ κ=>κ (by simp) (by simp) _ _) ?_ ?_)
  · intro i v acc L H1 hv hJ; apply hJ; rintro hal rfl a b
    refine aAu hv fun c ec=>?_
    have hil:=(List.getElem?_eq_some_iff.mp ec).1
    rw [List.length_take] at hil
    refine ⟨AHeap.set_same,⟨om355 hal hil,bKy (fun _ κ=>κ ?_ ?_ _ _)⟩⟩
    · rw [List.length_append]; simp only [List.length_singleton]; exact om305 hal
    · rw [List.take_add_one (l:=ns.take 40),ec]; simp
  intro acc L H1 hJ; apply hJ; rintro hal rfl a b
  rw [List.length_map,List.take_length]
  generalize hci:(ns.take 40).map (fun c=>(c.natAbs:Int))=ci
  have hc:ci.length≤40:=by rw [← hci,List.length_map,List.length_take]; exact om354
  refine ⟨AHeap.set_same,fun E hE=>⟨E,_,rfl,AHeap.set_same,fun sa hsa=>?_⟩⟩
  refine aLs (k:=0) (m:=3) (ci:=ci) AHeap.set_same (by decide) hc (by decide) fun s s1 s2=>?_
  refine aLs (k:=1) (m:=3) (ci:=ci) AHeap.set_same (by decide) hc (by decide) fun l l1 l2=>?_
  refine two fun mm hmm=>?_
  refine aLs (k:=2) (m:=mm) (ci:=ci) AHeap.set_same (by decide) hc (by omega) fun m m1 m2=>?_
  have hm3:m≤3:=by omega
  generalize hH3:AHeap.set _ sa (srcO ci (2+1))=H3
  have hsa3:H3 sa=some (srcO ci 3):=by rw [← hH3]; exact AHeap.set_same
  clear hH3
  refine rngk (leL s2 rfl) ?_
  refine cvr0 (bCt ci sa s l) (fun _ κ=>κ [] 3 rfl rfl (fun _ h=>nomatch h) om353 hsa3 _ _) ?_ ?_
  · intro i acc L H4 hi hJ; apply hJ; rintro rows k rfl hrl hrw hk hsa4 a b
    refine ⟨by rw [List.length_map]; exact om323 s2 hi hrl,rngk (leL l2 rfl) ?_⟩
    refine cvr0 (bCs ci sa s k) (fun _ κ=>κ [] k rfl rfl (fun _ h=>nomatch h) om352 hsa4 _ _) ?_ ?_
    · intro j acc L H5 hj hJ; apply hJ; rintro r k5 rfl hr1 hr2 hk5 hsa5 a b
      refine ⟨by rw [List.length_map]; exact om323 l2 hj hr1,bCf hsa5 (om351 s2 l2 hi hk hj hk5) hc fun c hcs=>(fun _ κ=>κ (r ++ [c]) (k5+1) (by rw [List.map_append]; rfl) (by simp [hr1]) (fun c' hc'=>?_) (om350 hk5) AHeap.set_same _ _)⟩
      rcases List.mem_append.mp hc' with hc' | hc'
      · exact hr2 c' hc'
      · rw [List.mem_singleton.mp hc']; exact hcs
    · intro acc L H5 hJ; apply hJ; rintro r k5 rfl hr1 hr2 hk5 hsa5 a b
      intro E5 hE5
      have nE:sa≠E5:=fun z=>by rw [← z,hsa5] at hE5; cases hE5
      refine aAi (.own AHeap.set_same) (by rw [List.length_map]; exact om348 l2 hr1) (fun _ κ=>κ (rows ++ [r]) k5 (by rw [List.map_append]; rfl) (by simp [hrl]) (fun r' hr'=>?_) (om349 l2 hk hk5) ((AHeap.set_ne nE).trans hsa5) _ _)
      rcases List.mem_append.mp hr' with hr' | hr'
      · exact hrw r' hr'
      · rw [List.mem_singleton.mp hr']; exact ⟨hr1,hr2⟩
  intro acc L H4 hJ; apply hJ; rintro rows k rfl hrl hrw hk hsa4 a b
  intro E4 hE4
  have nE4:sa≠E4:=fun z=>by rw [← z,hsa4] at hE4; cases hE4
  have hsa4':(H4.set E4 (.list (rows.map aAc))) sa=some (srcO ci k):=(AHeap.set_ne nE4).trans hsa4
  refine aAi (.own AHeap.set_same) (by rw [List.length_map]; exact om348 s2 hrl) ?_
  refine aLs (m:=s) hsa4' (om347 s2 hk) hc s1 fun t t1 t2=>?_
  have hsa5:((H4.set E4 (.list (rows.map aAc))).set sa (srcO ci (k+1))) sa=some (srcO ci (k+1)):=AHeap.set_same
  generalize (H4.set E4 (.list (rows.map aAc))).set sa (srcO ci (k+1))=H5 at hsa5
  refine rng2 (by omega) ?_
  rw [sub1]
  refine cvr (bCr ci sa k) (fun _ κ=>κ [] (k+1) rfl (by simp) (fun _ h=>nomatch h) om346 hsa5 _ _) ?_ ?_
  · intro i acc L H6 hi hJ; apply hJ; rintro fl k6 rfl hf1 hf2 hk6 hsa6 a b
    rw [show (1:Int)+(i:Int)=((i+1:Nat):Int) from om190]
    refine aIa (m:=2) hsa6 (om345 s2 hk hi hk6) hc (by decide) fun r hr=>tb (fun hb1=>⟨by rw [List.length_map]; exact om344 s2 hi hf1,fun _ κ=>κ (fl ++ [i+1]) (k6+1) (by rw [List.map_append]; rfl) (by simp; exact hf1) (fun c hcf=>?_) (om343 hk6) AHeap.set_same _ _⟩) (fun hb1=>fun _ κ=>κ fl (k6+1) rfl (om306 hf1) (fun c hcf=>?_) (om343 hk6) AHeap.set_same _ _)
    · rcases List.mem_append.mp hcf with hcf | hcf
      · have:=hf2 c hcf; exact om341 this.1 this.2
      · rw [List.mem_singleton.mp hcf]; exact om342
    · have:=hf2 c hcf; exact om341 this.1 this.2
  intro acc L H6 hJ; apply hJ; rintro fl k6 rfl hf1 hf2 hk6 hsa6 a b
  intro E6 hE6
  have nE6:sa≠E6:=fun z=>by rw [← z,hsa6] at hE6; cases hE6
  have hsa7:(H6.set E6 (.list (fl.map natAV))) sa=some (srcO ci k6):=(AHeap.set_ne nE6).trans hsa6
  refine aAi (.own AHeap.set_same) (by rw [List.length_map]; exact om340 s2 hf1) ?_
  refine bHo fun H8 F st8 le8 hF8=>fun ld hld=>?_
  have ok:MOk ⟨m,s,l,rows,t,fl⟩:=⟨m1,hm3,s1,s2,l1,l2,hrl,hrw,t1,t2,by show fl.length≤3; exact om339 s2 hf1,fun c hcf=>by have:=hf2 c hcf; exact ⟨this.1,by show c≤s; exact this.2⟩⟩
  have le9:=HLe.new (o:=.list []) hld
  show SeqQ (fun L1 H1=>VSs G (n+9) irV L1 H1 (RetQ Q)) (RetQ Q) AFl.next [some sc,some (.val (.ref sa)),some (natAV s),some (natAV l),some (natAV m),some (aCi rows),some (natAV t),some (aAc fl),some (.val (.ref F.st)),some (.val (.ref ld)),none,none,none,none,none,none,none,none,none] _
  refine aQw ?_
  exact bJw (M:=⟨m,s,l,rows,t,fl⟩) ok hc (le9 _ _ (le8 _ _ hsa7)) (om338 s2 hk hk6) (st8.le le9) AHeap.set_same (st8.fresh hld) h
end
end
theorem walkL {q:Program} {loose:List Str} {XP:(Str→Option Value)→Heap→Prop} {d:DefRec} {kwd:List (Str × Expr)} {e:∀ P,KFa=(KFP P).map (·.1)} (hdn:d.name = "law"):WalkO q loose XP (Hook.says (kHook KFP KFa e)) (OpenRow.toRowW (OpenLaw.row PySem.Challenge.rw_no0325_01)) d kwd fun f vs=>PySem.call f vs:=by
  intro w s₀ s₁ mg mb Gr Y fa o pm cd doc dV kV ho hd' hcd hD hmg hg args vals as hpre hlay hrd hwl hlo
  have KX:(KF w).In s₁.heap:=kIn_of Y
  have TT:=Gr.T
  clear Gr Y hd' hcd hD ho
  have ea:nsIn (KF w) mainGlobals "law" = some (some (.ref 457)):=by kernel_rfl!
  have e2:=mg_of KX TT.g ea
  rw [hdn] at hmg
  have e3:fa=457:=by
    have:some (Value.ref fa)=some (Value.ref 457):=hmg.symm.trans e2
    cases this; rfl
  subst e3
  clear hmg e2 ea
  wrow_args hpre hlay hrd hwl hlo
  rename_i ns _ _ _ _ _ _ _ ad vs _ hL _ _ _ hI _ hc1 _
  have hn:ns.length≤1000:=om359 hc1
  let G:Cx:=⟨w,s₁.heap,KX,⟨mg,mb,TT.g,TT.b,TT.builtins⟩,TT.nolimit⟩
  have I:Inv G (fun _=>none) s₁.heap:=⟨fun b o e=>⟨e,rfl⟩,fun a o e=>nomatch e⟩
  have C:=c_law (G:=G) (n:=0) (H:=fun _=>none) (Q:=fun v _=>v=.val (.bool true)) (sc:=.val (.ref ad)) (ns:=ns) ⟨ad,vs,ns,rfl,hL,hI,rfl⟩ hn fun _=>rfl
  have ao:AOk callerA (0+10):=⟨rfl,by decide +kernel,by decide +kernel⟩
  refine wpAny_mono (C callerA s₁ _ [.ref ad] ao I (.cons (.val _) .nil)) (fun v s' p=>?_) (fun _ _ z=>z)
  obtain ⟨av,H',r,t,rfl⟩:=p
  cases r
  have sm:=t.same
  unfold Sm at sm
  refine ⟨.inl ⟨.bool true,.bool true,[],rfl,fun cls=>?_,.bool true,?_,fun _=>⟨.nil,fun _ h=>nomatch h⟩⟩,.of_keep fun b o e=>t.ext.keep b o e rfl (fun q=>nomatch q),?_,?_⟩
  · rfl
  · clear t sm C I ao hc1
    first | kernel_rfl! | (show (WShape.has [] (.bool true) .bool && _)=true; simp [WTm.holds])
  · rw [sm]
  · rw [sm]; show AllBare s₁.gens; rw [hg]; exact fun y hy=>by simp at hy
theorem fin.tw16874857627673468373:True:=trivial
theorem fin.tw13351315907086441115:True:=trivial
theorem fin.tw1850550771605439261:True:=trivial
theorem fin.tw6482539734614306368:True:=trivial
theorem fin.tw9109857270781616373:True:=trivial
theorem fin.tw7592163330036392481:True:=trivial
theorem fin.tw4826689768891875344:True:=trivial
theorem fin.tw2224721046592302966:True:=trivial
theorem fin.tw4991981718827117671:True:=trivial
theorem fin.tw16386391228853843184:True:=trivial
theorem fin.tw13181869832547544945:True:=trivial
theorem fin.tw3883105196082883282:True:=trivial
theorem fin.tw16371546859381575323:True:=trivial
theorem fin.tw2092903211032777991:True:=trivial
theorem fin.tw4735136199969388743:True:=trivial
theorem fin.tw10024973616167122602:True:=trivial
theorem fin.tw8166558234552201724:True:=trivial
theorem fin.tw7367103763958869275:True:=trivial
theorem fin.tw8992944333569150469:True:=trivial
theorem fin.tw5836207971831929955:True:=trivial
theorem fin.tw9912451098342591830:True:=trivial
theorem fin.tw14122740417089075017:True:=trivial
theorem fin.tw10608468712517356265:True:=trivial
theorem fin.tw1141325480001554146:True:=trivial
theorem fin.tw9863193996221680416:True:=trivial
theorem fin.tw11543742928061484197:True:=trivial
theorem fin.tw15943697347493326796:True:=trivial
theorem fin.tw11797687170994982347:True:=trivial
theorem fin.tw18305244563896863316:True:=trivial
theorem fin.tw14357533244682690951:True:=trivial
theorem fin.tw10623722491854138116:True:=trivial
theorem fin.tw7198837435271597961:True:=trivial
theorem fin.tw12801079811122468228:True:=trivial
theorem fin.tw449736948181837924:True:=trivial
theorem fin.tw8272667185127315940:True:=trivial
theorem fin.tw10644677296328468757:True:=trivial
theorem fin.tw16395355431587205028:True:=trivial
theorem fin.tw13571647802517675041:True:=trivial
theorem fin.tw11882611590644983702:True:=trivial
theorem fin.tw7208655016889017597:True:=trivial
theorem fin.tw13870622943614532219:True:=trivial
theorem fin.tw4338538923184131922:True:=trivial
theorem fin.tw3154711487539058386:True:=trivial
theorem fin.tw17808712238215149565:True:=trivial
theorem fin.tw10489730734805531701:True:=trivial
theorem fin.tw3002800920775208419:True:=trivial
theorem fin.tw17403993952461513451:True:=trivial
theorem fin.tw2065042110328980653:True:=trivial
theorem fin.tw3291676589430825885:True:=trivial
theorem fin.tw9084601045415529202:True:=trivial
theorem fin.tw11307813337805977000:True:=trivial
theorem fin.tw171593896665050724:True:=trivial
theorem fin.tw5715935512102088938:True:=trivial
theorem fin.tw7475085968319326428:True:=trivial
theorem fin.tw15871048150561254124:True:=trivial
theorem fin.tw12252229258716299433:True:=trivial
theorem fin.tw1782557653385649133:True:=trivial
theorem fin.tw10952149347000747623:True:=trivial
theorem fin.tw13055829498245001383:True:=trivial
theorem fin.tw18185496606492180373:True:=trivial
theorem fin.tw10521623200425411407:True:=trivial
theorem fin.tw9320006482614053982:True:=trivial
theorem fin.tw4090755718833978795:True:=trivial
theorem fin.tw149957578360090479:True:=trivial
theorem fin.tw70036627400174149:True:=trivial
theorem fin.tw16347454674512808418:True:=trivial
theorem fin.tw13478373514589194400:True:=trivial
theorem fin.tw10732134479138160057:True:=trivial
theorem fin.tw9265188618447326497:True:=trivial
theorem fin.tw10845141586977317270:True:=trivial
theorem fin.tw2213084894126322501:True:=trivial
theorem fin.tw13634280379617916058:True:=trivial
theorem fin.tw3729026775820691352:True:=trivial
theorem fin.tw6261594215012050701:True:=trivial
theorem fin.tw4316555686772091667:True:=trivial
theorem fin.tw17815422526759287607:True:=trivial
theorem fin.tw4571393863272343729:True:=trivial
theorem fin.tw7932232492360369566:True:=trivial
theorem fin.tw1503508723232645471:True:=trivial
theorem fin.tw4202405932311538092:True:=trivial
theorem fin.tw9043969222345501967:True:=trivial
theorem fin.tw15479284828457854670:True:=trivial
theorem fin.tw3947647875290263938:True:=trivial
theorem fin.tw5173350939303128378:True:=trivial
theorem fin.tw15170897598717657147:True:=trivial
theorem fin.tw15000533820965031710:True:=trivial
theorem fin.tw15976937737921320441:True:=trivial
theorem fin.tw11960508981271007352:True:=trivial
theorem fin.tw6039387213588814639:True:=trivial
theorem fin.tw4080692684032420285:True:=trivial
theorem fin.tw11034197708602771950:True:=trivial
theorem fin.tw8804304307337916655:True:=trivial
theorem fin.tw24293499761970475:True:=trivial
theorem fin.tw4242307060959347292:True:=trivial
theorem fin.tw14037829798245560345:True:=trivial
theorem fin.tw9151982319203065131:True:=trivial
theorem fin.tw8851579021928254536:True:=trivial
theorem fin.tw4329951066838320684:True:=trivial
theorem fin.tw6848054704864564044:True:=trivial
theorem fin.tw15799074499384265573:True:=trivial
theorem fin.tw16604260596619533884:True:=trivial
theorem fin.tw9896766970330594443:True:=trivial
theorem fin.tw403723209510414748:True:=trivial
theorem fin.tw1756695488919566872:True:=trivial
theorem fin.tw5608021709066836822:True:=trivial
theorem fin.tw4760489974744843825:True:=trivial
theorem fin.tw9954220922458054611:True:=trivial
theorem fin.tw16394594596720140469:True:=trivial
theorem fin.tw6945844652797410072:True:=trivial
theorem fin.tw1992282939886999841:True:=trivial
theorem fin.tw9370526994402293959:True:=trivial
theorem fin.tw12841943749054962851:True:=trivial
theorem fin.tw14388343316566068529:True:=trivial
theorem fin.tw3284812988616388399:True:=trivial
theorem fin.tw13952892097359526463:True:=trivial
theorem fin.tw5557842271988409019:True:=trivial
theorem fin.tw7995135186367100539:True:=trivial
theorem fin.tw1762468095632686744:True:=trivial
theorem fin.tw655758171401687013:True:=trivial
theorem fin.tw2458281589698080253:True:=trivial
theorem fin.tw445165168673797614:True:=trivial
theorem fin.tw17085421395825597802:True:=trivial
theorem fin.tw9957523579439319190:True:=trivial
theorem fin.tw3259727561097786330:True:=trivial
theorem fin.tw2668735139902573553:True:=trivial
theorem fin.tw8316742481880884859:True:=trivial
theorem fin.tw401450657675834961:True:=trivial
theorem fin.tw1305884596578571739:True:=trivial
theorem fin.tw5361415531462240525:True:=trivial
theorem fin.tw15418646141109290174:True:=trivial
theorem fin.tw12880333399034338713:True:=trivial
theorem fin.tw15188908750215247026:True:=trivial
theorem fin.tw17050617325425463486:True:=trivial
theorem fin.tw11669910393308501227:True:=trivial
theorem fin.tw11405307174567812190:True:=trivial
theorem fin.tw10314170614511521932:True:=trivial
theorem fin.tw3362020581697521731:True:=trivial
theorem fin.tw3830065186380081198:True:=trivial
theorem fin.tw1843373871816183069:True:=trivial
theorem fin.tw2795199161246515723:True:=trivial
theorem fin.tw17295258103225519107:True:=trivial
theorem fin.tw17507780133604036630:True:=trivial
theorem fin.tw3241309143330311071:True:=trivial
theorem fin.tw1154845219758702077:True:=trivial
theorem fin.tw14344926081590553889:True:=trivial
theorem fin.tw2623041416059223704:True:=trivial
theorem fin.tw2582837821620239396:True:=trivial
theorem fin.tw7585356281085385453:True:=trivial
theorem fin.tw6204523697233530184:True:=trivial
theorem fin.tw1241290964446249857:True:=trivial
theorem fin.tw8463468478498468227:True:=trivial
theorem fin.tw7542810263396207404:True:=trivial
theorem fin.tw11239389037862720633:True:=trivial
theorem fin.tw4781409195050689665:True:=trivial
theorem fin.tw7393845898020639805:True:=trivial
theorem fin.tw8056830162132315983:True:=trivial
theorem fin.tw5710630268834052445:True:=trivial
theorem fin.tw6062287922266904090:True:=trivial
theorem fin.tw6976080587702433404:True:=trivial
theorem fin.tw15037800625898914994:True:=trivial
theorem fin.tw15265027780411263113:True:=trivial
theorem fin.tw5817424916554255205:True:=trivial
theorem fin.tw16951405512337198204:True:=trivial
theorem fin.tw18383884582153891543:True:=trivial
theorem fin.tw9667809053637125756:True:=trivial
theorem fin.tw1365833600108757868:True:=trivial
theorem fin.tw5413328997934045858:True:=trivial
theorem fin.tw5464735818220816181:True:=trivial
theorem fin.tw18359831639790005598:True:=trivial
theorem fin.tw8884666341287808908:True:=trivial
theorem fin.tw1133772979632593500:True:=trivial
theorem fin.tw1133573164667390875:True:=trivial
theorem fin.tw4709110760975780755:True:=trivial
theorem fin.tw5470977795555585184:True:=trivial
theorem fin.tw6623253831264262639:True:=trivial
theorem fin.tw3369329008053875776:True:=trivial
theorem fin.tw10831013321863159478:True:=trivial
theorem fin.tw440830802195607486:True:=trivial
theorem fin.tw8017590708753446035:True:=trivial
theorem fin.tw6805782196363153173:True:=trivial
theorem fin.tw2777873784597383767:True:=trivial
theorem fin.tw48109761597808258:True:=trivial
theorem fin.tw18111416596337824659:True:=trivial
theorem fin.tw12101702456154623484:True:=trivial
theorem fin.tw18326093330134404023:True:=trivial
theorem fin.tw9534573459992170715:True:=trivial
theorem fin.tw6197660616995260486:True:=trivial
theorem fin.tw36355025208946619:True:=trivial
theorem fin.tw16366287188061282293:True:=trivial
theorem fin.tw3372124352283233717:True:=trivial
theorem fin.tw7979937483731265270:True:=trivial
theorem fin.tw18355525926938224701:True:=trivial
theorem fin.tw15187119250702228344:True:=trivial
theorem fin.tw14752972205833155019:True:=trivial
theorem fin.tw686793058979019944:True:=trivial
theorem fin.tw12017921828190240546:True:=trivial
theorem fin.tw13241460816815639576:True:=trivial
theorem fin.tw9454723134452541724:True:=trivial
theorem fin.tw5081354488834424462:True:=trivial
theorem fin.tw11418718241047915256:True:=trivial
theorem fin.tw12800125346794705136:True:=trivial
theorem fin.tw7917885641187607297:True:=trivial
theorem fin.tw11353252044198500518:True:=trivial
theorem fin.tw7187796282779922742:True:=trivial
theorem fin.tw1236496036888747617:True:=trivial
theorem fin.tw5639334478726127942:True:=trivial
theorem fin.tw13008528339739614272:True:=trivial
theorem fin.tw17405092777036803270:True:=trivial
theorem fin.tw1592332469624304231:True:=trivial
theorem fin.tw11027904882481542724:True:=trivial
theorem fin.tw9883144646872038054:True:=trivial
theorem fin.tw2319665210841938596:True:=trivial
theorem fin.tw17813475205712463204:True:=trivial
theorem fin.tw7690288143824071436:True:=trivial
theorem fin.tw4935702522589016714:True:=trivial
theorem fin.tw18061878447726004089:True:=trivial
theorem fin.tw957409814253645205:True:=trivial
theorem fin.tw2231088294360123128:True:=trivial
theorem fin.tw17044029230311161277:True:=trivial
theorem fin.tw5851184433685413075:True:=trivial
theorem fin.tw11071885167217917561:True:=trivial
theorem fin.tw17490550443658261655:True:=trivial
theorem fin.tw3687109342592677051:True:=trivial
theorem fin.tw1342446416782612118:True:=trivial
theorem fin.tw6865352318559330005:True:=trivial
theorem fin.tw5938759870369585484:True:=trivial
theorem fin.tw14352822829067293908:True:=trivial
theorem fin.tw3827153074349801881:True:=trivial
theorem fin.tw1426954264503836730:True:=trivial
theorem fin.tw15101849749170484435:True:=trivial
theorem fin.tw16374633530017836796:True:=trivial
theorem fin.tw4819352081238163109:True:=trivial
theorem fin.tw8107975364947434861:True:=trivial
theorem fin.tw6194906951247924608:True:=trivial
theorem fin.tw18360590325123719844:True:=trivial
theorem fin.tw2807679961543509410:True:=trivial
theorem fin.tw11667253237753083338:True:=trivial
theorem fin.tw1926282486692295763:True:=trivial
theorem fin.tw1927341748131895051:True:=trivial
theorem fin.tw4664929167478745544:True:=trivial
theorem fin.tw11272125166168868832:True:=trivial
theorem fin.tw10639854211497870252:True:=trivial
theorem fin.tw12273216458048795975:True:=trivial
theorem fin.tw2987068438024194688:True:=trivial
theorem fin.tw17870461622650377971:True:=trivial
theorem fin.tw3485052731119270992:True:=trivial
theorem fin.tw14883289720457925636:True:=trivial
theorem fin.tw6160278318746985381:True:=trivial
theorem fin.tw5951060018038355847:True:=trivial
theorem fin.tw7346827464360200879:True:=trivial
theorem fin.tw7553186599624231059:True:=trivial
theorem fin.tw14710791172244239818:True:=trivial
theorem fin.tw11071532715248767649:True:=trivial
theorem fin.tw18267276709976249006:True:=trivial
theorem fin.tw8290374431434715908:True:=trivial
theorem fin.tw15376446210128744419:True:=trivial
theorem fin.tw1268939059827930573:True:=trivial
theorem fin.tw11504328752854542602:True:=trivial
theorem fin.tw2233685986097318484:True:=trivial
theorem fin.tw15800163601140928585:True:=trivial
theorem fin.tw16115503439188816733:True:=trivial
theorem fin.tw6468537547848883275:True:=trivial
theorem fin.tw6834825097376060275:True:=trivial
theorem fin.tw7636961012277842984:True:=trivial
theorem fin.tw10372168367530659151:True:=trivial
theorem fin.tw10788309051002490768:True:=trivial
theorem fin.tw11667179120957083916:True:=trivial
theorem fin.tw12005675286897436065:True:=trivial
theorem fin.tw9511379066048165895:True:=trivial
theorem fin.tw1224772823539795004:True:=trivial
theorem fin.tw2672074330142820413:True:=trivial
theorem fin.tw2686810629243144737:True:=trivial
theorem fin.tw11349293107220882217:True:=trivial
theorem fin.tw16906272122906217559:True:=trivial
theorem fin.tw16321975058907048175:True:=trivial
theorem fin.tw9865347159734819181:True:=trivial
theorem fin.tw3166350428417588487:True:=trivial
theorem fin.tw16389932788297587636:True:=trivial
theorem fin.tw2142246565779861945:True:=trivial
theorem fin.tw18230850303737695617:True:=trivial
theorem fin.tw13581985440148888740:True:=trivial
theorem fin.tw7796055620434102487:True:=trivial
theorem fin.tw8138211742489734316:True:=trivial
theorem fin.tw8567726079024374493:True:=trivial
theorem fin.tw1298628698680383041:True:=trivial
theorem fin.tw5457093973475879239:True:=trivial
theorem fin.tw11215357404737381233:True:=trivial
theorem fin.tw358883383407531963:True:=trivial
theorem fin.tw1112450372344337940:True:=trivial
theorem fin.tw15742820799484468078:True:=trivial
theorem fin.tw3999974988048266631:True:=trivial
theorem fin.tw4876718113578753980:True:=trivial
theorem fin.tw11960471888351719401:True:=trivial
theorem fin.tw14496633437378376435:True:=trivial
theorem fin.tw6739858509444001464:True:=trivial
theorem fin.tw15533964557800470063:True:=trivial
theorem fin.tw193479166602448968:True:=trivial
theorem fin.tw8940343232516219084:True:=trivial
theorem fin.tw12434613544637517749:True:=trivial
theorem fin.tw1950042658437101994:True:=trivial
theorem fin.tw12637019795804627782:True:=trivial
theorem fin.tw17073784211241882456:True:=trivial
theorem fin.tw7392033830427383353:True:=trivial
theorem fin.tw6118547701321898470:True:=trivial
theorem fin.tw1305876745347171626:True:=trivial
theorem fin.tw10994592433907375829:True:=trivial
theorem fin.tw18304199374698367457:True:=trivial
theorem fin.tw6662117398802901563:True:=trivial
theorem fin.tw2942396688315045822:True:=trivial
theorem fin.tw1005422156065106442:True:=trivial
theorem fin.tw3591346508330991105:True:=trivial
theorem fin.tw11679983310464276818:True:=trivial
theorem fin.tw907388788208265544:True:=trivial
theorem fin.tw11535263601682200794:True:=trivial
theorem fin.tw2411227103281914080:True:=trivial
theorem fin.tw18279929488460941955:True:=trivial
theorem fin.tw15820624351732698368:True:=trivial
theorem fin.tw17851529462542535704:True:=trivial
theorem fin.tw9434139747490106690:True:=trivial
theorem fin.tw1638945548515751532:True:=trivial
theorem fin.tw3075823457290342121:True:=trivial
theorem fin.tw10470439036539762163:True:=trivial
theorem fin.tw10691362535288729317:True:=trivial
theorem fin.tw3468532265838103333:True:=trivial
theorem fin.tw12011553718004277731:True:=trivial
theorem fin.tw7682953259073406861:True:=trivial
theorem fin.tw14820765687774610683:True:=trivial
theorem fin.tw9281998050811667320:True:=trivial
theorem fin.tw13341561045960212723:True:=trivial
theorem fin.tw16757256597003186778:True:=trivial
theorem fin.tw12769166507654521589:True:=trivial
theorem fin.tw17231065854994603144:True:=trivial
theorem fin.tw811996519356875535:True:=trivial
theorem fin.tw857419557916613547:True:=trivial
theorem fin.tw15014544461211952260:True:=trivial
theorem fin.tw7492944063583664102:True:=trivial
theorem fin.tw670698272098284844:True:=trivial
theorem fin.tw9002696411583656333:True:=trivial
theorem fin.tw17160753423370284780:True:=trivial
theorem fin.tw14915809093477394193:True:=trivial
theorem fin.tw13258086485302867422:True:=trivial
theorem fin.tw6882469653776878749:True:=trivial
theorem fin.tw14464440864516277016:True:=trivial
theorem fin.tw5910005405101859996:True:=trivial
theorem fin.tw5954334628011988501:True:=trivial
theorem fin.tw12227490948676545398:True:=trivial
theorem fin.tw14619809641158103399:True:=trivial
theorem fin.tw679490402939611082:True:=trivial
theorem fin.tw6211424757896870482:True:=trivial
theorem fin.tw16937595998969884805:True:=trivial
theorem fin.tw8865939996980233508:True:=trivial
theorem fin.tw136321853134019834:True:=trivial
theorem fin.tw9983069469534351971:True:=trivial
theorem fin.tw6405534378581403638:True:=trivial
theorem fin.tw12022977700369342391:True:=trivial
theorem fin.tw4903321276196179755:True:=trivial
theorem fin.tw906941095212556784:True:=trivial
theorem fin.tw3609032418198509823:True:=trivial
theorem fin.tw10912961070715832607:True:=trivial
theorem fin.tw9377643982161390886:True:=trivial
theorem fin.tw5573569540171526452:True:=trivial
theorem fin.tw10724198438837944918:True:=trivial
theorem fin.tw12221341161447321593:True:=trivial
theorem fin.tw1162837958614489709:True:=trivial
theorem fin.tw7601333858476694761:True:=trivial
theorem fin.tw12595489510096018543:True:=trivial
theorem fin.tw3204201514330459902:True:=trivial
theorem fin.tw16846778108711060729:True:=trivial
theorem fin.tw9191307665094092305:True:=trivial
theorem fin.tw12455835498276287761:True:=trivial
theorem fin.tw15758281721569874049:True:=trivial
theorem fin.tw1600553872688196179:True:=trivial
theorem fin.tw12075258354329309107:True:=trivial
theorem fin.tw6006452360055512145:True:=trivial
theorem fin.tw17497384044653587550:True:=trivial
theorem fin.tw10283871013671430316:True:=trivial
theorem fin.tw7057196080090741619:True:=trivial
theorem fin.tw9149671380129158344:True:=trivial
theorem fin.tw11666851276041838632:True:=trivial
theorem fin.tw1363021327180449552:True:=trivial
theorem fin.tw7413661472406123637:True:=trivial
theorem fin.tw16328749798764590958:True:=trivial
theorem fin.tw6214865759962552216:True:=trivial
theorem fin.tw7068328756223772477:True:=trivial
theorem fin.tw10650760199713648968:True:=trivial
theorem fin.tw8168997480859770548:True:=trivial
theorem fin.tw1687251225438127087:True:=trivial
theorem fin.tw16200922762308640586:True:=trivial
theorem fin.tw1524955856816315696:True:=trivial
theorem fin.tw12063301643352831665:True:=trivial
theorem fin.tw2471491433567289351:True:=trivial
theorem fin.tw6265300371055846875:True:=trivial
theorem fin.tw2439733241214851796:True:=trivial
theorem fin.tw15265327471687389039:True:=trivial
theorem fin.tw2053319275241251331:True:=trivial
theorem fin.tw9200788267939387854:True:=trivial
theorem fin.tw14609777808758671327:True:=trivial
theorem fin.tw7822125192139378144:True:=trivial
theorem fin.tw104090616642953152:True:=trivial
theorem fin.tw8334960639682471478:True:=trivial
theorem fin.tw4210794121483146420:True:=trivial
theorem fin.tw12973318590980137679:True:=trivial
theorem fin.tw5090405634821949267:True:=trivial
theorem fin.tw8274178427903456545:True:=trivial
theorem fin.tw5456309703735210644:True:=trivial
theorem fin.tw1760459659949556912:True:=trivial
theorem fin.tw15209993161204976324:True:=trivial
theorem fin.tw10523693406819622:True:=trivial
theorem fin.tw5237712429660975567:True:=trivial
theorem fin.tw17978965243732308376:True:=trivial
theorem fin.tw15893085335260822994:True:=trivial
theorem fin.tw1285103265667138118:True:=trivial
theorem fin.tw339179083405492265:True:=trivial
theorem fin.tw17801176237502626530:True:=trivial
theorem fin.tw8086121793285359537:True:=trivial
theorem fin.tw9569315250098670603:True:=trivial
theorem fin.tw14866728756705650848:True:=trivial
theorem fin.tw6033368249412965571:True:=trivial
theorem fin.tw1924884993864368095:True:=trivial
theorem fin.tw5068429760455950214:True:=trivial
theorem fin.tw12310287955626512409:True:=trivial
theorem fin.tw9889780094744562753:True:=trivial
theorem fin.tw16410732759625108235:True:=trivial
theorem fin.tw8123426974458658384:True:=trivial
theorem fin.tw14860765532634025764:True:=trivial
theorem fin.tw3973883270919310198:True:=trivial
theorem fin.tw2093126762689317374:True:=trivial
theorem fin.tw415083717917579486:True:=trivial
theorem fin.tw11482785939298262490:True:=trivial
theorem fin.tw5405519914975384177:True:=trivial
theorem fin.tw16908072636756157195:True:=trivial
theorem fin.tw7369234335032301380:True:=trivial
theorem fin.tw15401975030235108584:True:=trivial
theorem fin.tw15240908891056920309:True:=trivial
theorem fin.tw7149954119306332543:True:=trivial
theorem fin.tw101840301033816260:True:=trivial
theorem fin.tw17113566079157436309:True:=trivial
theorem fin.tw9540101305013350399:True:=trivial
theorem fin.tw5394761356567239667:True:=trivial
theorem fin.tw7547481670420541123:True:=trivial
theorem fin.tw17091010244851112628:True:=trivial
theorem fin.tw6245523371627125000:True:=trivial
theorem fin.tw7756272061692272218:True:=trivial
theorem fin.tw3893854357075861469:True:=trivial
theorem fin.tw13760887549872387974:True:=trivial
theorem fin.tw11104425338422924895:True:=trivial
theorem fin.tw11759521882548977414:True:=trivial
theorem fin.tw3044688556573329881:True:=trivial
theorem fin.tw14403239695923307830:True:=trivial
theorem fin.tw2831300961885047895:True:=trivial
theorem fin.tw10707557991538824293:True:=trivial
theorem fin.tw5602983536379340078:True:=trivial
theorem fin.tw5321512144154391405:True:=trivial
theorem fin.tw9180882038326388761:True:=trivial
theorem fin.tw8873142802320841233:True:=trivial
theorem fin.tw11774602554385724854:True:=trivial
theorem fin.tw11505652142412690681:True:=trivial
theorem fin.tw10723429903143799343:True:=trivial
theorem fin.tw5822769330399278716:True:=trivial
theorem fin.tw6992839562859069851:True:=trivial
theorem fin.tw9852420721059971642:True:=trivial
theorem fin.tw13170427081236524660:True:=trivial
theorem fin.tw6264535980514226233:True:=trivial
theorem fin.tw6089319508953462050:True:=trivial
theorem fin.tw43143259158549800:True:=trivial
theorem fin.tw14087494348329539905:True:=trivial
theorem fin.tw709266261138062935:True:=trivial
theorem fin.tw4193842793225136494:True:=trivial
theorem fin.tw2832719285758901520:True:=trivial
theorem fin.tw18217444181588553878:True:=trivial
theorem fin.tw13718656946785093657:True:=trivial
theorem fin.tw10928186228991032188:True:=trivial
theorem fin.tw5659243373857185480:True:=trivial
theorem fin.tw2859697498064805113:True:=trivial
theorem fin.tw16100651002913752557:True:=trivial
theorem fin.tw15114297563888808783:True:=trivial
theorem fin.tw1546549413101524333:True:=trivial
theorem fin.tw4347817668806872323:True:=trivial
theorem fin.tw4270234628899671759:True:=trivial
theorem fin.tw8847240536472621097:True:=trivial
theorem fin.tw15885225976727544930:True:=trivial
theorem fin.tw16048229502310857765:True:=trivial
theorem fin.tw588993787668713538:True:=trivial
theorem fin.tw16778370275792819700:True:=trivial
theorem fin.tw3892464606985754234:True:=trivial
theorem fin.tw9254884390393402049:True:=trivial
theorem fin.tw5504213739807773925:True:=trivial
theorem fin.tw6436322892450656229:True:=trivial
theorem fin.tw8699997868502821763:True:=trivial
theorem fin.tw4233887875564768234:True:=trivial
theorem fin.tw15236052275696951828:True:=trivial
theorem fin.tw10068614229917681054:True:=trivial
theorem fin.tw12238989935114537255:True:=trivial
theorem fin.tw9150613346496913270:True:=trivial
theorem fin.tw8589040953962883458:True:=trivial
theorem fin.tw12366797792384966918:True:=trivial
theorem fin.tw17133814210951708026:True:=trivial
theorem fin.tw12786687685773228691:True:=trivial
theorem fin.tw3461576627449299815:True:=trivial
theorem fin.tw14701166523624723219:True:=trivial
theorem fin.tw9040096686820372182:True:=trivial
theorem fin.tw9941704543893565174:True:=trivial
theorem fin.tw2784953666650912415:True:=trivial
theorem fin.tw17889664323393862910:True:=trivial
theorem fin.tw14155142204247736502:True:=trivial
theorem fin.tw8017985559199591872:True:=trivial
theorem fin.tw493075759303871932:True:=trivial
theorem fin.tw6569248039157227735:True:=trivial
theorem fin.tw8827624505041938016:True:=trivial
theorem fin.tw14861632352375255602:True:=trivial
theorem fin.tw3164859423574352977:True:=trivial
theorem fin.tw1726252561394126390:True:=trivial
theorem fin.tw10609068409300623040:True:=trivial
theorem fin.tw14818088776797816495:True:=trivial
theorem fin.tw16562089958595033815:True:=trivial
theorem fin.tw12624803667846855160:True:=trivial
theorem fin.tw9567665406354326009:True:=trivial
theorem fin.tw3524825468607569554:True:=trivial
theorem fin.tw11233464361083758497:True:=trivial
theorem fin.tw654694583751057514:True:=trivial
theorem fin.tw3458516286207966262:True:=trivial
theorem fin.tw5897155257031825979:True:=trivial
theorem fin.tw11994829364047293607:True:=trivial
theorem fin.tw6559363400069176924:True:=trivial
theorem fin.tw16838157672737301897:True:=trivial
theorem fin.tw12885255372653770484:True:=trivial
theorem fin.tw9075086464145078051:True:=trivial
theorem fin.tw10666779673806245421:True:=trivial
theorem fin.tw800726734921596282:True:=trivial
theorem fin.tw4149170312656590410:True:=trivial
theorem fin.tw4137708413687068251:True:=trivial
theorem fin.tw1657598317135980502:True:=trivial
theorem fin.tw15847666489424009011:True:=trivial
theorem fin.tw2922205389567996247:True:=trivial
theorem fin.tw9521487962133569829:True:=trivial
theorem fin.tw13247637036668170788:True:=trivial
theorem fin.tw18049670792733563300:True:=trivial
theorem fin.tw3551214526446049719:True:=trivial
theorem fin.tw2222367348276846189:True:=trivial
theorem fin.tw3850753391156195431:True:=trivial
theorem fin.tw10123968677928051802:True:=trivial
theorem fin.tw4440660885432104164:True:=trivial
theorem fin.tw14117478836190910693:True:=trivial
theorem fin.tw16510214552646514850:True:=trivial
theorem fin.tw13859784431855887899:True:=trivial
theorem fin.tw8406729765334608123:True:=trivial
theorem fin.tw3002010649109224947:True:=trivial
theorem fin.tw3806359665978672520:True:=trivial
theorem fin.tw4133690430387557217:True:=trivial
theorem fin.tw1261644013497260856:True:=trivial
theorem fin.tw16050533966870066200:True:=trivial
theorem fin.tw1036255132063521017:True:=trivial
theorem fin.tw1754982837603732589:True:=trivial
theorem fin.tw7374405446864974040:True:=trivial
theorem fin.tw16754160006322616339:True:=trivial
theorem fin.tw11756815191359502660:True:=trivial
set_option maxHeartbeats 8000000 in
set_option Elab.async true in
theorem fin:PySem.Challenge.rw_no0325_01.Holds:=by
  w_on
  o_law
  o_head (kHook KFP KFa (fun _=>by kernel_rfl))
  case hw=>w_witness2
  exact walkL rfl
end
end Mine.Internal
theorem PySem.Challenge.cw_no0325_01_holds : PySem.Challenge.rw_no0325_01.Holds := by
  exact Mine.Internal.fin
