import PyProof.Rows.All
import Wide.All
import OpenK.AllK
import Wide.FinOn
import KE.KSortTup
import PySem.Challenge.RW_nm0016_01
set_option Elab.async false
set_option maxRecDepth 100000
set_option maxHeartbeats 8000000
set_option autoImplicit false
set_option linter.unusedVariables false
namespace Mine
open PySem PySem.W PySem.SeqAt PyProof.Rows
section
@[elab_as_elim] theorem aa {α : Sort _} {a : α} {motive : α->Prop} {b : α} (h : a = b) (q : motive b) : motive a:=h▸q
theorem bc {p : Prop} (h : ¬p->False) : p:=Classical.byContradiction h
theorem sx {a x : Nat} (h : x < a) : a - x = a - (x + 1) + 1:=by rw [Nat.sub_add_eq,Nat.sub_add_cancel (Nat.sub_pos_of_lt h)]
theorem u1 {a k n : Nat} (h : n<=10) : a + n + 10 * k<=a + 10 * (k + 1):=by rw [Nat.add_assoc,Nat.add_comm n]; exact Nat.add_le_add_left (Nat.add_le_add_left h _) a
theorem u2 {a k n : Nat} (h : n<=40) : a + n<=a + 10 * k + 40:=Nat.add_le_add (Nat.le_add_right a _) h
theorem CZ {a b : Nat} (h : a * 5 < b * 3) : a < b:=Nat.lt_of_not_le fun q=>Nat.not_lt.mpr (Nat.mul_le_mul q (by decide : 3<=5)) h
theorem wZ {x0 x1 x2 x3 : Int} (h0 : ((0:Int)<=x0)) (h1 : (x0<(64:Int))) (h2 : ((0:Int)<=x1)) (h3 : (x1<(64:Int))) (h4 : (¬(x2=x3))) : ((x2>x3)↔(((x2*(64:Int))+x0)>((x3*(64:Int))+x1))):=by lia
theorem sU {x0 x1 x2 : Nat} (h0 : ((x0-x1)=(x2+1))) : ((x0-(x1+1))=x2):=by rw [Nat.sub_add_eq,h0]; rfl
theorem Ez {x0 x1 x2 x3 : Nat} (h0 : (((((x0:Nat):Int)*(64:Int))+((x1:Nat):Int))=((((x2:Nat):Int)*(64:Int))+((x3:Nat):Int)))) (h1 : (x1<(64:Nat))) (h2 : (x1≠x3)) (h3 : (x3<(64:Nat))) : False:=by lia
theorem EM {x0 x1 x2 x3 : Nat} (h0 : (((((x0:Nat):Int)*(64:Int))+((x1:Nat):Int))<=((((x2:Nat):Int)*(64:Int))+((x3:Nat):Int)))) : (((x0*(64:Nat))+x1)<=((x2*(64:Nat))+x3)):=Int.ofNat_le.mp h0
theorem DR {x0 : Int} {x1 : Prop} (h0 : ((((0:Int)<=x0)/\(x0<(4:Int)))/\x1)) : ((-(1:Int))<=x0):=Int.le_trans (by decide) h0.1.1
theorem D7 {x0 : Int} {x1 : Prop} (h0 : ((((0:Int)<=x0)/\(x0<(4:Int)))/\x1)) : (x0<=(5:Int)):=Int.le_of_lt (Int.lt_trans h0.1.2 (by decide))
theorem Ep {x0 : Nat} (h0 : ((((0:Nat):Nat):Int)≠((x0:Nat):Int))) : ((0:Nat)≠x0):=fun e=>h0 (e▸rfl)
theorem Ey {x0 : Int} {x1 : Nat} (h0 : (((0:Int)<=x0)/\(x0<((x1:Nat):Int)))) : ((((Int.toNat x0):Nat):Int)=x0):=Int.toNat_of_nonneg h0.1
theorem Et {x0 : Int} {x1 : Nat} (h0 : (((0:Int)<=x0)/\(x0<((x1:Nat):Int)))) : (((0:Int)<=x0)/\(x0<((x1:Nat):Int))):=by omega
theorem EE {x0 : Int} {x1 : Nat} (h0 : (((0:Int)<=x0)/\(x0<((x1:Nat):Int)))) : ((0:Int)<=x0):=by simp_all
theorem En {x0 : Int} {x1 : Nat} (h0 : (((0:Int)<=x0)/\(x0<((x1:Nat):Int)))) : ((Int.toNat x0)<x1):=by simp_all
theorem EN {x0 : Int} {x1 : Nat} (h0 : (((0:Int)<=x0)/\(x0<((x1:Nat):Int)))) : (x0=(((Int.toNat x0):Nat):Int)):=(Int.toNat_of_nonneg h0.1).symm
theorem Cu {x0 : Int} {x1 : Nat} (h0 : (((0:Int)<=x0)/\(x0<((x1:Nat):Int)))) : (¬(x0<(0:Int))):=by simp_all
theorem BK {x0 x1 x2 x3 : Nat} (h0 : (((x0*64)+x1)<=((x2*64)+x3))) (h1 : ((x2+1)<=x0)) (h2 : (x3<6)) : False:=Nat.not_lt.mpr h0 (Nat.lt_of_lt_of_le (Nat.add_lt_add_left (Nat.lt_trans h2 (by decide : 6 < 64)) (x2*64)) (Nat.le_trans (by rw [<-Nat.succ_mul]; exact Nat.mul_le_mul_right 64 h1) (Nat.le_add_right _ x1)))
theorem C6 {x0 x1 x2 : Nat} (h0 : (((x0+(10*(x1+1)))+40)<x2)) : ((((x0+3)+(10*x1))+40)<x2):=Nat.lt_of_le_of_lt (Nat.add_le_add_right (u1 (by decide)) 40) h0
theorem De {x0 x1 x2 x3 : Nat} (h0 : (((x0+(10*(x1+1)))+40)<x2)) (h1 : (x3=1)) : ((((x0+x3)+(10*x1))+40)<x2):=Nat.lt_of_le_of_lt (Nat.add_le_add_right (u1 (Nat.le_trans (Nat.le_of_eq h1) (by decide))) 40) h0
theorem wQ {x0 x1 x2 : Nat} (h0 : (((x0+(10*x1))+40)<x2)) : (((x0+1)+10)<x2):=Nat.lt_of_le_of_lt (u2 (n:=11) (by decide)) h0
theorem yo {x0 x1 x2 : Nat} (h0 : (((x0+(10*x1))+40)<x2)) : (((x0+1)+19)<x2):=Nat.lt_of_le_of_lt (u2 (n:=20) (by decide)) h0
theorem qd {x0 x1 x2 : Nat} (h0 : (((x0+(10*x1))+40)<x2)) : (x0<x2):=by lia
theorem Bx {x0 x1 x2 x3 : Nat} (h0 : (((x0+(10*x1))+40)<x2)) (h1 : (x3<=(x0+5))) : ((x3+30)<x2):=Nat.lt_of_le_of_lt (Nat.le_trans (Nat.add_le_add_right h1 30) (u2 (n:=35) (by decide))) h0
theorem CX {x0 x1 x2 x3 : Nat} (h0 : (((x0+(3*x1))<=(3*x2))/\((x0+(4*x1))<=(4*x2)))) : (((x1*4)+(x3+x0))<((x2*4)+(x3+1))):=by simp_all +arith
theorem B0 {x0 x1 x2 x3 : Nat} (h0 : (((x0+(3*x1))<=(3*x2))/\((x0+(4*x1))<=(4*x2)))) (h1 : (((x3+1)+(3*x2))<=20)) : (((x3+x0)+(3*x1))<=20):=Nat.le_trans (by rw [Nat.add_assoc]; exact Nat.add_le_add (Nat.le_succ x3) h0.1) h1
theorem BU {x0 x1 x2 x3 : Nat} (h0 : (((x0+(3*x1))<=(3*x2))/\((x0+(4*x1))<=(4*x2)))) (h1 : ((x3+(3*x2))<=20)) : (((x3+x0)+(3*x1))<=20):=by lia
theorem Cy {x0 x1 : Nat} (h0 : (((x0+1)+(3*x1))<=20)) : ((x0+(3*x1))<=20):=Nat.le_trans (Nat.add_le_add_right (Nat.le_succ x0) _) h0
theorem C9 {x0 x1 x2 : Nat} (h0 : (((x0+1)+(3*x1))<=20)) (h1 : (x2=x0)) : (x2<1000000):=by lia
theorem CE {x0 x1 x2 x3 x4 : Nat} (h0 : (((x0+1)+(3*x1))<=20)) (h1 : (x2=x0)) (h2 : (x3=x4)) (h3 : (x4<=3)) : ((x2+x3)<1000000):=by rw [h1,h2]; exact Nat.lt_of_le_of_lt (Nat.add_le_add (Nat.le_trans (Nat.le_trans (Nat.le_succ _) (Nat.le_add_right _ _)) h0) h3) (by decide)
theorem Bs {x0 x1 x2 : Nat} (h0 : (((x0+x1)*5)<((x2-1)*3))) : ((x1*5)<((x2-1)*3)):=Nat.lt_of_le_of_lt (Nat.mul_le_mul_right 5 (Nat.le_add_left x1 x0)) h0
theorem CL {x0 x1 x2 : Nat} (h0 : (((x0+x1)*5)<(x2*3))) (h1 : ((x2+1)<=(x0+x1))) : False:=Nat.lt_asymm (CZ h0) h1
theorem Bw {x0 x1 x2 x3 : Nat} (h0 : (((x0+x1)*5)<(x2*3))) (h1 : ((x3+1)=x0)) : (((x3+(x1+1))*5)<(x2*3)):=by rw [<-h1,Nat.add_right_comm,Nat.add_assoc] at h0; exact h0
theorem Cf {x0 x1 : Nat} (h0 : (((x0+x1)/2)<x1)) : ((((x0+x1)/2)+1)<=x1):=h0
theorem Dp {x0 x1 x2 : Nat} (h0 : (((x0+x1)/2)<x1)) (h1 : (x1<=x2)) : (((x0+x1)/2)<x2):=Nat.lt_of_lt_of_le h0 h1
theorem BN {x0 x1 x2 : Nat} (h0 : (((x0+x1)/2)<x1)) (h1 : (x1<=x2)) : (((x0+x1)/2)<=x2):=Nat.le_of_lt (Nat.lt_of_lt_of_le h0 h1)
theorem BY {x0 x1 x2 : Nat} (h0 : (((x0+x1)/2)<=x2)) (h1 : (¬(x2=((x0+x1)/2)))) : (((x0+x1)/2)<x2):=Nat.lt_of_le_of_ne h0 fun a=>h1 (id (Eq.symm a))
theorem B8 {x0 x1 x2 : Nat} (h0 : (((x0:Nat):Int)<((x1:Nat):Int))) : (((x2*(7:Nat))+(x1-(x0+(1:Nat))))<((x2*(7:Nat))+(x1-x0))):=by rw [sx (Int.ofNat_lt.mp h0)]; exact Nat.lt_succ_self _
theorem uJ {x0 x1 : Nat} (h0 : (((x0:Nat):Int)<((x1:Nat):Int))) : (x0<x1):=by simpa using h0
theorem fS {x0 x1 : Nat} (h0 : (((x0:Nat):Int)=((x1:Nat):Int))) : (x0=x1):=Int.ofNat_inj.mp h0
theorem BA {x0 : Nat} (h0 : (((x0:Nat):Int)=(0:Int))) : (x0=(0:Nat)):=Int.ofNat_eq_zero.mp h0
theorem BB {x0 : Nat} {x1 : Int} (h0 : (((x0:Nat):Int)=x1)) : ((((Int.toNat x1):Nat):Int)=x1):=Nat.ToInt.of_eq (congrArg NatCast.natCast (congrArg Int.toNat h0)) h0 rfl
theorem Dl {x0 : Nat} {x1 : Int} {x2 : Nat} (h0 : (((x0:Nat):Int)=x1)) (h1 : (x1=((x2:Nat):Int))) : (x0=x2):=by lia
theorem BQ {x0 : Nat} {x1 : Int} {x2 : Prop} (h0 : (((x0:Nat):Int)=x1)) (h1 : (x1=(-(1:Int)))) : x2:=by simp_all +arith
theorem sj {x0 x1 : Nat} (h0 : (((x0:Nat):Int)>((x1:Nat):Int))) (h1 : (x0<=x1)) : False:=by lia
theorem yF {x0 x1 : Nat} (h0 : (((x0:Nat):Int)>((x1:Nat):Int))) : (x1<x0):=Int.ofNat_lt.mp h0
theorem Cr {x0 x1 : Nat} (h0 : (((x0:Nat):Int)≠((x1:Nat):Int))) (h1 : (((x0:Nat):Int)<=((x1:Nat):Int))) : (x0<x1):=by lia
theorem At {x0 x1 : Nat} (h0 : (((x0:Nat):Int)≠((x1:Nat):Int))) : (x0≠x1):=Ne.intro fun a=>h0 (congrArg Nat.cast a)
theorem CR {x0 : Int} (h0 : ((-(1:Int))<=x0)) (h1 : (x0<=(5:Int))) : ((x0=(-(1:Int)))\/((x0=(0:Int))\/((x0=(1:Int))\/((x0=(2:Int))\/((x0=(3:Int))\/((x0=(4:Int))\/(x0=(5:Int)))))))):=by lia
theorem Du {x0 : Int} (h0 : ((0:Int)<x0)) : ((0:Int)<=(x0-(1:Int))):=Int.sub_nonneg_of_le h0
theorem yi {x0 : Int} (h0 : ((0:Int)<x0)) : ((Int.toNat x0)=(((Int.toNat x0)-(1:Nat))+(1:Nat))):=(Nat.sub_add_cancel (Int.pos_iff_toNat_pos.mp h0)).symm
theorem Cl {x0 : Int} (h0 : ((0:Int)<=x0)) : ((-(1:Int))≠x0):=Int.ne_of_lt h0
theorem Dj {x0 : Int} (h0 : ((0:Int)<=x0)) : ((0:Int)<=(x0+(1:Int))):=Int.le_add_one h0
theorem Ck {x0 : Int} (h0 : ((0:Int)<=x0)) (h1 : (x0<(1000000:Int))) : (((-(9223372036854775808:Int))<=x0)/\(x0<(9223372036854775808:Int))):=⟨Int.le_trans (by decide) h0,Int.lt_trans h1 (by decide)⟩
theorem Br {x0 x1 x2 x3 : Int} (h0 : ((0:Int)<=x0)) (h1 : (x0<(64:Int))) (h2 : ((0:Int)<=x1)) (h3 : (x1<(64:Int))) (h4 : (¬(x2=x3))) : ((((x2*(64:Int))+x0)<((x3*(64:Int))+x1))↔(x2<x3)):=(wZ h2 h3 h0 h1 fun e=>h4 e.symm).symm
theorem EH {x0 : Int} (h0 : ((0:Int)<=x0)) (h1 : (¬((0:Int)<x0))) : ((0:Int)=x0):=Int.le_antisymm h0 (Int.not_lt.mp h1)
theorem BH {x0 : Nat} (h0 : (0<0)) : (x0=0):=by simp_all +arith
theorem CU {x0 : Nat} (h0 : (0<x0)) : (((x0-1)+1)=x0):=Nat.sub_add_cancel h0
theorem C2 {x0 : Nat} (h0 : ((0:Nat)<x0)) : (((x0:Nat):Int)≠(0:Int)):=Int.natCast_ne_zero_iff_pos.mpr h0
theorem x6 {x0 : Nat} (h0 : ((0:Nat)<x0)) : ((0:Int)<((x0:Nat):Int)):=Int.natCast_pos.mpr h0
theorem Dd {x0 : Nat} (h0 : (0<x0)) : (0<x0):=by omega
theorem B2 {x0 x1 : Nat} (h0 : (0<x0)) (h1 : (x0<=x1)) : (0<x1):=Nat.lt_of_lt_of_le h0 h1
theorem Am {x0 x1 : Nat} (h0 : (0<x0)) (h1 : (x1=x0)) : (0<x1):=Nat.lt_of_lt_of_eq h0 (id (Eq.symm h1))
theorem rN {x0 x1 : Nat} (h0 : (0<x0)) (h1 : (x1<=(x0-1))) : ((x1+1)<=x0):=Nat.add_le_of_le_sub h0 h1
theorem BP {x0 : Nat} (h0 : (0=(x0+1))) : False:=by lia
theorem ER {x0 x1 : Nat} (h0 : (0=(x0-x1))) : (x0<=x1):=Nat.le_of_sub_eq_zero (id (Eq.symm h0))
theorem BE {x0 : Nat} (h0 : (2<=x0)) : (2<=x0):=by omega
theorem C0 {x0 : Nat} (h0 : (2<=x0)) (h1 : (x0<=6)) : ((x0=2)\/((x0=3)\/((x0=4)\/((x0=5)\/(x0=6))))):=(by decide : ∀ n : Nat,n < 7->2<=n->(n=2\/n=3\/n=4\/n=5\/n=6)) x0 (Nat.lt_succ_of_le h1) h0
theorem Cb {x0 x1 : Nat} (h0 : (2<=x0)) (h1 : (x1=x0)) : (0<x1):=Nat.lt_of_lt_of_le (by decide) (Nat.le_trans h0 (Nat.le_of_eq h1.symm))
theorem CH {x0 : Int} {x1 : Nat} (h0 : ((Int.toNat x0)=(x1+(1:Nat)))) : ((Int.toNat (x0-(1:Int)))=x1):=by simp_all
theorem Bv {x0 x1 : Nat} (h0 : ((x0*5)<(x1*3))) : ((x0*5)<(x1*3)):=by omega
theorem zg {x0 x1 x2 : Nat} {x3 : Prop} (h0 : ((x0*5)<(x1*3))) (h1 : ((x2<=(x0+1))/\(x3->(x2=x0)))) : (x2<=x1):=Nat.le_trans h1.1 (CZ h0)
theorem C8 {x0 x1 : Nat} (h0 : ((x0*5)<(x1*3))) : (x0<=x1):=Nat.le_of_lt (CZ h0)
theorem Bu {x0 x1 x2 : Nat} (h0 : ((x0+(3*x1))<=20)) (h1 : (x2<=3)) : ((x0+x2)<1000000):=Nat.lt_of_le_of_lt (Nat.add_le_add (Nat.le_trans (Nat.le_add_right _ _) h0) h1) (by decide)
theorem CJ {x0 x1 : Nat} (h0 : ((x0+(6*x1))<=300)) : (x0<1000000):=by lia
theorem CQ {x0 x1 : Nat} (h0 : ((x0+(6*x1))<=300)) : (x0<1099511627776):=by lia
theorem Do {x0 x1 x2 x3 x4 : Nat} (h0 : ((x0+(6*x1))<=300)) (h1 : (x2<x1)) (h2 : (x3<=6)) (h3 : (x4<=x3)) : (((x0+x4)+(6*x2))<=300):=Nat.le_trans (by rw [Nat.add_assoc,Nat.add_comm x4]; exact Nat.add_le_add_left (Nat.le_trans (Nat.add_le_add_left (Nat.le_trans h3 h2) (6*x2)) (Nat.mul_le_mul_left 6 h1)) x0) h0
theorem Co {x0 x1 x2 x3 x4 : Nat} (h0 : ((x0+(6*x1))<=300)) (h1 : (x2<x3)) (h2 : (x3<=6)) (h3 : (x4<=x2)) : ((x0+x4)<1000000):=Nat.lt_of_le_of_lt (Nat.add_le_add (Nat.le_trans (Nat.le_add_right _ _) h0) (Nat.le_trans h3 (Nat.le_trans (Nat.le_of_lt h1) h2))) (by decide)
theorem EO {x0 x1 x2 : Nat} (h0 : ((x0+0)<=x1)) : (((x0+0)+0)<=(x1+x2)):=Nat.le_add_right_of_le h0
theorem EB {x0 x1 : Nat} (h0 : ((x0+0)<=x1)) : (((x0+0)+1)<=(x1+1)):=Nat.add_le_add_right h0 1
theorem Ew {x0 x1 : Nat} (h0 : ((x0+0)<=x1)) : (x0<=x1):=by omega
theorem CY {x0 x1 x2 x3 x4 : Nat} (h0 : ((x0+1)=(x1+1))) (h1 : ((x2+1)<=x3)) (h2 : ((x4+(x1+1))=x2)) (h3 : (x3<=6)) : ((x0+1)<1000000):=Nat.lt_of_le_of_lt (Nat.le_trans (Nat.le_of_eq h0) (Nat.le_trans (Nat.le_trans (h2▸Nat.le_add_left _ _ : x1+1<=x2) (Nat.le_of_succ_le h1)) h3)) (by decide)
theorem Ct {x0 x1 x2 x3 x4 : Nat} (h0 : ((x0+1)=(x1+1))) (h1 : ((x2+(x1+1))=x3)) (h2 : (x3<=x4)) (h3 : (x4<=6)) : ((x0+1)<1099511627776):=Nat.lt_of_le_of_lt (Nat.le_trans (Nat.le_of_eq h0) (Nat.le_trans (h1▸Nat.le_add_left _ _ : x1+1<=x3) (Nat.le_trans h2 h3))) (by decide)
theorem BF {x0 x1 x2 x3 x4 : Nat} (h0 : ((x0+1)=(x1+1))) (h1 : ((x2+(x1+1))=x3)) (h2 : (x3<=x4)) (h3 : (x4<=6)) : (x0<1000000):=by lia
theorem CT {x0 x1 x2 : Nat} (h0 : ((x0+1)=x1)) : (((x2+1)+x0)=(x2+x1)):=by simp_all +arith
theorem Bo {x0 x1 x2 : Nat} (h0 : ((x0+1)=x1)) : (((x2+1)+x0)<=((x2+x1)+1)):=by lia
theorem CM {x0 x1 : Nat} (h0 : ((x0+1)=x1)) : (0<x1):=Nat.lt_of_sub_eq_succ (id (Eq.symm h0))
theorem EF {x0 x1 : Nat} (h0 : ((x0+1)=x1)) (h1 : (x0<6)) : (x1<=6):=le_of_eq_of_le (id (Eq.symm h0)) h1
theorem Cs {x0 x1 x2 x3 : Nat} (h0 : ((x0+1)=x1)) (h1 : (x0<6)) (h2 : (x2<x1)) (h3 : (x3=x2)) : (x3<100):=Nat.lt_of_le_of_lt (Nat.le_of_eq h3) (Nat.lt_of_lt_of_le h2 (Nat.le_trans (Nat.le_of_eq h0.symm) (Nat.le_trans h1 (by decide))))
theorem CV {x0 x1 x2 : Nat} (h0 : ((x0+1)=x1)) (h1 : (x0<6)) (h2 : (x2=x1)) : (x2<=6):=Nat.le_trans (Nat.le_of_eq (h2.trans h0.symm)) h1
theorem B4 {x0 x1 x2 : Nat} (h0 : ((x0+1)=x1)) (h1 : (x1=(x2+1))) : (x0=x2):=by simp_all +arith
theorem Cg {x0 x1 x2 x3 : Nat} (h0 : ((x0+1)=x1)) (h1 : (x1=x2)) (h2 : (x3<x2)) : (x3<(x0+1)):=by simp_all +arith
theorem Ca {x0 x1 : Nat} (h0 : ((x0+1)=x1)) (h1 : (x1<=7)) : (x0<=20):=Nat.le_trans (Nat.le_trans (Nat.le_succ x0) (Nat.le_of_eq h0)) (Nat.le_trans h1 (by decide))
theorem CP {x0 x1 x2 : Nat} (h0 : ((x0+1)=x1)) (h1 : (x2<x1)) : (x2<=x0):=by lia
theorem CA {x0 x1 x2 : Nat} (h0 : ((x0+1)=x1)) (h1 : (x2=x1)) : (0<x2):=Nat.lt_of_lt_of_eq (Nat.succ_pos x0) (h1.trans h0.symm).symm
theorem B1 {x0 x1 x2 : Nat} (h0 : ((x0+1)=x1)) (h1 : (x2=x1)) : (x2<=(x0+1)):=by simp_all +arith
theorem Cz {x0 x1 x2 : Nat} (h0 : ((x0+1)<=(10+x1))) : ((x0+x2)<=(10+(x1+x2))):=Nat.le_trans (Nat.add_le_add_right (Nat.le_of_succ_le h0) x2) (Nat.le_of_eq (Nat.add_assoc ..))
theorem BO {x0 x1 x2 x3 : Nat} (h0 : ((x0+1)<=(10+x1))) (h1 : ((x1+x2)<=x3)) (h2 : (x3<=6)) : ((x0+x2)<1000000):=Nat.lt_of_le_of_lt (Nat.add_le_add (Nat.le_trans (Nat.le_of_succ_le h0) (Nat.add_le_add_left (Nat.le_trans (Nat.le_add_right x1 x2) (Nat.le_trans h1 h2)) 10)) (Nat.le_trans (Nat.le_add_left x2 x1) (Nat.le_trans h1 h2))) (by decide)
theorem CD {x0 x1 x2 : Nat} (h0 : ((x0+1)<=(10+x1))) (h1 : (x1<=x2)) (h2 : (x2<=6)) : (x0<1000000):=Nat.lt_of_lt_of_le h0 (Nat.le_trans (Nat.add_le_add_left (Nat.le_trans h1 h2) 10) (by decide))
theorem By {x0 x1 x2 : Nat} {x3 : Prop} (h0 : ((x0+1)<=(150+(7*x1)))) (h1 : ((x2<=6)/\x3)) : ((x0+x2)<=(150+(7*(x1+1)))):=Nat.le_trans (Nat.add_le_add (Nat.le_of_succ_le h0) (Nat.le_trans h1.1 (by decide : 6<=7))) (Nat.le_of_eq (Nat.add_assoc ..))
theorem Cd {x0 x1 x2 : Nat} {x3 : Prop} {x4 : Nat} (h0 : ((x0+1)<=(150+(7*x1)))) (h1 : ((x2<=6)/\x3)) (h2 : (x4=(x1+1))) (h3 : (x4<=7)) : ((x0+x2)<1000000):=Nat.lt_of_le_of_lt (Nat.add_le_add (Nat.le_trans (Nat.le_of_succ_le h0) (Nat.add_le_add_left (Nat.mul_le_mul_left 7 (Nat.le_trans (Nat.le_succ x1) (h2▸h3))) 150)) h1.1) (by decide)
theorem C3 {x0 x1 : Nat} (h0 : ((x0+1)<=(150+(7*x1)))) : (x0<=(150+(7*x1))):=by lia
theorem BS {x0 x1 : Nat} (h0 : ((x0+1)<=(150+(7*x1)))) (h1 : (x1<=7)) : (x0<1000000):=Nat.lt_of_lt_of_le h0 (Nat.le_trans (Nat.add_le_add_left (Nat.mul_le_mul_left 7 h1) 150) (by decide))
theorem Dq {x0 x1 : Nat} {x2 : Prop} {x3 : Nat} (h0 : ((x0+1)<=7)) (h1 : ((x1<=6)/\x2)) : ((((7-(x0+1))*7)+(x3+x1))<(((7-x0)*7)+(x3+1))):=by rw [sx h0,Nat.add_mul,Nat.one_mul,Nat.add_assoc]; exact Nat.add_lt_add_left (by have:=h1.1; lia) _
theorem Bm {x0 x1 : Nat} (h0 : ((x0+1)<=x0)) : ((x1-1)=x1):=by simp_all +arith
theorem Em {x0 x1 x2 : Nat} (h0 : ((x0+1)<=x1)) : (((x0+0)+0)<=(x1+x2)):=Nat.le_trans (Nat.le_of_succ_le h0) (Nat.le_add_right _ _)
theorem DY {x0 x1 : Nat} (h0 : ((x0+1)<=x1)) : (((x0+0)+1)<=(x1+1)):=Nat.le_add_right_of_le h0
theorem D9 {x0 x1 x2 : Nat} (h0 : ((x0+1)<=x1)) : (((x0+0)+1)<=(x1+x2)):=Nat.le_add_right_of_le h0
theorem xK {x0 x1 : Nat} (h0 : ((x0+1)<=x1)) (h1 : ((x1-(x0+1))=0)) : ((x0+1)=x1):=Nat.le_antisymm h0 (Nat.le_of_sub_eq_zero h1)
theorem tZ {x0 x1 : Nat} (h0 : ((x0+1)<=x1)) : (x0<x1):=h0
theorem AH {x0 x1 : Nat} (h0 : ((x0+1)<=x1)) (h1 : (x0=x1)) : False:=by simp_all +arith
theorem yI {x0 x1 : Nat} (h0 : ((x0+1)<=x1)) : (x0<=x1):=Nat.le_of_succ_le h0
theorem zb {x0 x1 : Nat} {x2 x3 : Int} (h0 : ((x0+(1:Nat))<=x1)) (h1 : (x1<x0)) : (x2<x3):=absurd (Nat.lt_trans h0 h1) (Nat.lt_irrefl _)
theorem AE {x0 x1 x2 x3 : Nat} (h0 : ((x0+1)<=x1)) (h1 : (x1<x0)) : (x2=x3):=by lia
theorem y4 {x0 x1 x2 x3 x4 x5 : Nat} (h0 : ((x0+1)<=x1)) (h1 : (x2<=3)) : ((((x1-(x0+1))*5)+(((x2-0)+1)+(((x3-(x4+1))+1)+x5)))<(((x1-x0)*5)+(((x3-x4)+1)+x5))):=by
 obtain ⟨d,rfl⟩:=Nat.exists_eq_add_of_le h0
 rw [Nat.add_sub_cancel_left,Nat.add_assoc x0,Nat.add_sub_cancel_left,Nat.sub_zero,Nat.add_comm 1 d,Nat.add_mul,Nat.add_assoc (d * 5)]
 exact Nat.add_lt_add_left (Nat.lt_of_lt_of_le (Nat.add_lt_add_right (Nat.lt_succ_of_le (Nat.succ_le_succ h1)) _) (Nat.add_le_add_left (Nat.add_le_add_right (Nat.succ_le_succ (Nat.sub_le_sub_left (Nat.le_succ x4) x3)) x5) 5)) (d * 5)
theorem xS {x0 x1 : Nat} (h0 : ((x0+30)<x1)) : (x0<x1):=Nat.lt_of_add_right_lt h0
theorem oQ {x0 x1 x2 : Nat} (h0 : ((x0+(x1+1))<x2)) : (((x0+1)+x1)<x2):=by simp_all +arith
theorem oI {x0 x1 x2 : Nat} (h0 : ((x0+(x1+1))<x2)) : (x0<x2):=Nat.lt_of_add_right_lt h0
theorem wS {x0 x1 x2 x3 : Nat} (h0 : ((x0+(x1+1))=x2)) (h1 : (x2<=x3)) (h2 : (x3<=6)) : (x0<1000000):=Nat.lt_of_le_of_lt (Nat.le_trans (h0▸Nat.le_add_right _ _ : x0<=x2) (Nat.le_trans h1 h2)) (by decide)
theorem DC {x0 x1 : Nat} (h0 : ((x0+(x1+1))<=1000000)) : (((x0+1)+x1)<=1000000):=by simp_all +arith
theorem DB {x0 x1 : Nat} (h0 : ((x0+(x1+1))<=1000000)) : ((x0+x1)<=1000000):=Nat.le_of_succ_le h0
theorem x9 {x0 x1 x2 : Nat} (h0 : ((x0+x1)<1000000)) (h1 : (x2=x0)) : (x2<=16777216):=by lia
theorem y7 {x0 x1 x2 x3 : Nat} (h0 : ((x0+x1)<1000000)) (h1 : (x2=x0)) (h2 : (x3=x1)) : ((x2+x3)<=(16777216+1)):=by rw [h1,h2]; exact Nat.le_trans (Nat.le_of_lt h0) (by decide)
theorem Ak {x0 x1 x2 x3 : Nat} (h0 : ((x0+x1)<1000000)) (h1 : (x2=x0)) (h2 : (x3=x1)) : ((x2+x3)<=16777216):=by grind
theorem As {x0 x1 x2 x3 : Nat} {x4 : Prop} (h0 : ((x0+x1)<1000000)) (h1 : (x2=x0)) (h2 : (x3=x1)) : ((¬x4)->((x2+x3)<=16777216)):=fun _=>by rw [h1,h2]; exact Nat.le_trans (Nat.le_of_lt h0) (by decide)
theorem tX {x0 x1 x2 : Nat} (h0 : ((x0+x1)<x2)) : (x0<x2):=Nat.lt_of_add_right_lt h0
theorem AI {x0 x1 : Nat} (h0 : ((x0+x1)=0)) : (x0=0):=Nat.eq_zero_of_add_eq_zero_right h0
theorem xq {x0 x1 x2 x3 x4 : Nat} (h0 : ((x0+x1)=x2)) (h1 : (x2<=x3)) (h2 : (x3<=6)) (h3 : (x4=x1)) : (x4<1099511627776):=Nat.lt_of_le_of_lt (Nat.le_trans (Nat.le_of_eq h3) (Nat.le_trans (h0▸Nat.le_add_left _ _ : x1<=x2) (Nat.le_trans h1 h2))) (by decide)
theorem wD {x0 x1 x2 : Nat} (h0 : ((x0+x1)<=1000000)) (h1 : (x2=x0)) : (x2<=16777216):=Nat.le_trans (Nat.le_of_eq h1) (Nat.le_trans (Nat.le_add_right _ _) (Nat.le_trans h0 (by decide)))
theorem zN {x0 x1 x2 x3 : Nat} (h0 : ((x0+x1)<=x2)) : ((((x2-(x0+x1))*2)+(x3+x1))<(((x2-x0)*2)+(x3+1))):=by obtain ⟨d,rfl⟩:=Nat.exists_eq_add_of_le h0; rw [Nat.add_sub_cancel_left,Nat.add_assoc x0,Nat.add_sub_cancel_left]; lia
theorem xr {x0 x1 x2 : Nat} (h0 : ((x0+x1)<=x2)) : (((x0+0)+x1)<=(x2+1)):=Nat.le_add_right_of_le h0
theorem ti {x0 x1 x2 : Nat} (h0 : ((x0+x1)<=x2)) : (((x0+1)+x1)<=(x2+1)):=by simp_all +arith
theorem Ag {x0 x1 x2 : Nat} (h0 : ((x0+x1)<=x2)) (h1 : (x2<=6)) : ((x0+x1)<1000000):=Nat.lt_of_le_of_lt (Nat.le_trans h0 h1) (by decide)
theorem sW {x0 x1 x2 : Nat} (h0 : ((x0-(x1+1))=(x2+1))) : ((x0-((x1+1)+1))=x2):=sU h0
theorem yA {x0 x1 x2 : Nat} (h0 : ((x0-(x1+1))=(x2+1))) : ((x1+1)<x0):=Nat.lt_of_sub_eq_succ h0
theorem fB {x0 x1 : Nat} (h0 : ((x0-x1)=0)) (h1 : (x0>=x1)) : (x0=x1):=Nat.le_antisymm (Nat.le_of_sub_eq_zero h0) h1
theorem v5 {x0 x1 x2 : Nat} (h0 : ((x0-x1)=0)) (h1 : (x0>=x1)) (h2 : (x1=x2)) : (x0=x2):=(Nat.le_antisymm (Nat.le_of_sub_eq_zero h0) h1).trans h2
theorem AN {x0 x1 x2 : Nat} (h0 : ((x0-x1)=0)) (h1 : (x0>=x2)) (h2 : (x1=x2)) : (x0=x2):=Nat.le_antisymm (h2▸Nat.le_of_sub_eq_zero h0) h1
theorem AM {x0 x1 : Nat} (h0 : ((x0-x1)=0)) (h1 : (x1<=x0)) : (x1=x0):=by grind
theorem vU {x0 x1 x2 : Nat} (h0 : ((x0-x1)=(x2+1))) : (x1<x0):=Nat.lt_of_sub_eq_succ h0
theorem yx {x0 x1 : Nat} (h0 : ((x0-x1)<=0)) (h1 : (x1<=x0)) : (x1=x0):=Nat.le_antisymm h1 (Nat.le_of_sub_eq_zero (Nat.eq_zero_of_le_zero h0))
theorem xN {x0 x1 x2 : Nat} (h0 : ((x0-x1)<=(x2+1))) : ((((x1+x0)/2)-x1)<=x2):=Nat.sub_le_iff_le_add.mpr (Nat.le_of_lt_succ (Nat.div_lt_of_lt_mul (by have:=Nat.sub_le_iff_le_add.mp h0; lia)))
theorem v6 {x0 x1 x2 : Nat} (h0 : ((x0-x1)<=(x2+1))) : ((x0-(((x1+x0)/2)+1))<=x2):=by
 rw [Nat.sub_add_eq]
 refine Nat.sub_le_of_le_add (Nat.le_trans ?_ h0)
 rcases Nat.le_total x1 x0 with h | h
 ·exact Nat.sub_le_sub_left ((Nat.le_div_iff_mul_le (by decide)).mpr (by rw [Nat.mul_two]; exact Nat.add_le_add_left h x1)) x0
 ·rw [Nat.sub_eq_zero_of_le ((Nat.le_div_iff_mul_le (by decide)).mpr (by rw [Nat.mul_two]; exact Nat.add_le_add_right h x0))]; exact Nat.zero_le _
theorem yO {x0 x1 : Nat} (h0 : ((x0/4)>x1)) (h1 : (x0<=7)) : (x1=0):=Nat.lt_one_iff.mp (Nat.lt_of_lt_of_le h0 (Nat.le_trans (Nat.div_le_div_right h1) (by decide)))
theorem A2 {x0 : Int} {x1 : Nat} (h0 : ((x0<(0:Int))/\((-((x1:Nat):Int))<=x0))) : (((0:Int)<=(x0+((x1:Nat):Int)))/\((x0+((x1:Nat):Int))<((x1:Nat):Int))):=by lia
theorem t4 {x0 : Int} {x1 : Nat} (h0 : ((x0<(0:Int))/\((-((x1:Nat):Int))<=x0))) : (x0<(0:Int)):=by simp_all
theorem zT {x0 : Int} {x1 x2 : Nat} (h0 : ((x0<(0:Int))/\((-((x1:Nat):Int))<=x0))) (h1 : (x2=x1)) : ((-((x2:Nat):Int))<=x0):=by simp_all
theorem wu {x0 x1 : Nat} {x2 : Prop} {x3 : Nat} (h0 : ((x0<(x1+1))/\x2)) (h1 : (x0≠x3)) (h2 : (x3=x1)) : (x0<x1):=Nat.lt_of_le_of_ne (Nat.le_of_lt_succ h0.1) (h2▸h1)
theorem oA {x0 x1 : Nat} {x2 x3 : Prop} {x4 : Nat} (h0 : ((x0<x1)/\(x2->x3))) (h1 : (x4=x1)) : (x0<x4):=by simp_all +arith
theorem zz {x0 x1 : Nat} {x2 : Prop} (h0 : ((x0<x1)/\x2)) : (((0:Int)<=((x0:Nat):Int))/\(((x0:Nat):Int)<((x1:Nat):Int))):=by simp_all +arith
theorem ss {x0 x1 : Nat} {x2 : Prop} (h0 : ((x0<x1)/\x2)) (h1 : (x1<=6)) : (x0<6):=Nat.lt_of_lt_of_le h0.1 h1
theorem fy {x0 x1 : Nat} {x2 : Prop} {x3 : Nat} (h0 : ((x0<x1)/\x2)) (h1 : (x3=x1)) : (x0<x3):=by simp_all +arith
theorem wk {x0 : Nat} {x1 : Prop} (h0 : ((x0<=3)/\x1)) : (x0<1000000):=Nat.lt_of_le_of_lt h0.1 (by decide)
theorem yb {x0 : Nat} {x1 : Prop} (h0 : ((x0<=3)/\x1)) : (x0<1099511627776):=by omega
theorem sv {x0 : Nat} {x1 : Prop} (h0 : ((x0<=3)/\x1)) : (x0<=1000000):=by lia
theorem zP {x0 x1 : Nat} (h0 : ((x0<=(6:Nat))/\(x1<(6:Nat)))) : (((x1:Nat):Int)<(64:Int)):=Int.ofNat_lt.mpr (Nat.lt_trans h0.2 (by decide))
theorem wT {x0 x1 x2 : Nat} (h0 : (x0<(((x1+x2)/2)+1))) (h1 : (¬(x0=((x1+x2)/2)))) : (x0<((x1+x2)/2)):=Nat.lt_of_le_of_ne (Nat.le_of_lt_succ h0) h1
theorem yU {x0 : Nat} (h0 : (x0<(0+1))) : (x0=0):=Nat.lt_one_iff.mp h0
theorem zy {x0 x1 x2 : Nat} (h0 : (x0<((x1+1)+1))) (h1 : (x0≠x2)) (h2 : (x2=(x1+1))) : (x0<(x1+1)):=Nat.lt_of_le_of_ne (Nat.le_of_lt_succ h0) (h2▸h1)
theorem vT {x0 : Int} {x1 x2 : Nat} (h0 : (x0<((x1:Nat):Int))) (h1 : (x0=((x2:Nat):Int))) : (x2<x1):=by simp_all +arith
theorem zC {x0 : Int} {x1 x2 : Nat} (h0 : (x0<((x1:Nat):Int))) (h1 : (x2=x1)) : (x0<((x2:Nat):Int)):=lt_of_lt_of_eq h0 (congrArg Nat.cast (id (Eq.symm h1)))
theorem xI {x0 : Int} (h0 : (x0<(1000000:Int))) : (x0<=(16777216:Int)):=by lia
theorem yd {x0 : Nat} (h0 : (x0<1000000)) : (x0<=16777216):=by lia
theorem w6 {x0 x1 : Nat} (h0 : (x0<1000000)) (h1 : (x1=(x0+(0+1)))) : (x1<=16777216):=by lia
theorem jj {x0 x1 : Nat} (h0 : (x0<1000000)) (h1 : (x1=x0)) : (x1<=16777216):=by lia
theorem zp {x0 : Nat} (h0 : (x0<1000)) : (x0<1000000):=by lia
theorem ur {x0 : Nat} (h0 : (x0<1000)) : (x0<1099511627776):=Nat.lt_trans h0 (by decide)
theorem wW {x0 x1 : Nat} (h0 : (x0<1000)) (h1 : (x1=x0)) : (x1<=1000000):=Nat.le_trans (Nat.le_of_eq h1) (Nat.le_trans (Nat.le_of_lt h0) (by decide))
theorem tu {x0 : Nat} (h0 : (x0<100)) : ((x0+1)<1000000):=by lia
theorem ru {x0 : Nat} (h0 : (x0<100)) : (x0<1000000):=by lia
theorem tR {x0 : Nat} (h0 : (x0<1)) : (x0=0):=by simpa using h0
theorem xO {x0 : Nat} (h0 : (x0<(2:Nat))) : (((1:Int)+((x0:Nat):Int))<=(1000000:Int)):=by lia
theorem zX {x0 : Nat} (h0 : (x0<2)) : ((x0=0)\/(x0=1)):=(by decide : ∀ n : Nat,n < 2->(n=0\/n=1)) x0 h0
theorem xU {x0 : Nat} (h0 : (x0<2)) : (x0<=(16777216+1)):=by lia
theorem xD {x0 x1 : Nat} (h0 : (x0<(2:Nat))) (h1 : (x1=(Int.toNat ((1:Int)+((x0:Nat):Int))))) : (x1<=(2:Nat)):=by simp_all +arith
theorem tU {x0 : Nat} (h0 : (x0<3)) : (x0<=1000000):=by lia
theorem sQ {x0 x1 : Nat} (h0 : (x0<3)) (h1 : (x1=x0)) : (x1<=2):=by simp_all +arith
theorem tE {x0 : Nat} (h0 : (x0<(4:Nat))) : (((0:Int)<=((x0:Nat):Int))/\(((x0:Nat):Int)<(4:Int))):=⟨Int.natCast_nonneg _,Int.ofNat_lt.mpr h0⟩
theorem zK {x0 x1 x2 : Nat} (h0 : (x0<50)) (h1 : (x1=x0)) (h2 : (x2<=(x1+1))) : (x2<=(16777216+1)):=Nat.le_trans h2 (Nat.succ_le_succ (Nat.le_trans (Nat.le_of_eq h1) (Nat.le_trans (Nat.le_of_lt h0) (by decide))))
theorem xE {x0 x1 x2 : Nat} (h0 : (x0<50)) (h1 : (x1=x0)) (h2 : (x2<=(x1+1))) : (x2<=100):=by lia
theorem w2 {x0 : Nat} (h0 : (x0<(5:Nat))) : ((((x0:Nat):Int)-(1:Int))<=(3:Int)):=by lia
theorem xM {x0 : Nat} (h0 : (x0<(64:Nat))) : (((x0:Nat):Int)<(64:Int)):=Int.lt_toNat.mp h0
theorem ul {x0 : Nat} (h0 : (x0<64)) : (x0<=16777216):=by lia
theorem z0 {x0 x1 : Nat} (h0 : (x0<64)) (h1 : (x1=x0)) : (x1<=16777216):=by lia
theorem wq {x0 : Nat} (h0 : (x0<(6:Nat))) : (((x0:Nat):Int)<=(5:Int)):=by lia
theorem zc {x0 x1 x2 : Nat} (h0 : (x0<(min x1 x2))) : (x0<x1):=Nat.lt_of_lt_of_le h0 (Nat.min_le_left _ _)
theorem zx {x0 x1 x2 : Nat} (h0 : (x0<(min x1 x2))) : (x0<x2):=Nat.lt_of_lt_of_le h0 (Nat.min_le_right _ _)
theorem wP {x0 x1 x2 : Nat} (h0 : (x0<(x1+1))) (h1 : (x0≠x2)) (h2 : (x2=x1)) : (x0<x1):=Nat.lt_of_le_of_ne (Nat.le_of_lt_succ h0) (h2▸h1)
theorem sF {x0 x1 : Nat} (h0 : (x0<(x1+1))) : (x0<=x1):=Nat.le_of_lt_succ h0
theorem Ai {x0 x1 x2 x3 : Nat} (h0 : (x0<(x1+1))) (h1 : (x1<x0)) : (x2=x3):=by lia
theorem yf {x0 x1 x2 : Nat} (h0 : (x0<(x1+1))) (h1 : (x2=(x1+1))) : (x0<x2):=by subst h1; omega
theorem yW {x0 x1 x2 : Nat} (h0 : (x0<(x1+1))) (h1 : (x2=x1)) (h2 : (¬(x0=x1))) : (x0<x2):=h1.symm▸Nat.lt_of_le_of_ne (Nat.le_of_lt_succ h0) h2
theorem xX {x0 x1 : Nat} (h0 : (x0<(x1+1))) (h1 : (¬(x0<x1))) : (x0=x1):=Nat.eq_of_lt_succ_of_not_lt h0 h1
theorem yS {x0 x1 : Nat} (h0 : (x0<(x1+1))) (h1 : (¬(x0=x1))) : (x0<x1):=Nat.lt_of_le_of_ne (Nat.le_of_lt_succ h0) h1
theorem xR {x0 x1 x2 : Nat} (h0 : (x0<(x1-x2))) : ((x2+x0)<x1):=Nat.add_lt_of_lt_sub' h0
theorem y8 {x0 : Nat} {x1 : Int} (h0 : (x0<x0)) : (x1<x1):=by simp_all +arith
theorem q0 {x0 : Nat} (h0 : (x0<x0)) : False:=by simp_all +arith
theorem Ad {x0 x1 x2 x3 x4 : Nat} (h0 : (x0<x1)) : ((((x2-x3)*5)+(((x1-(x0+1))+1)+x4))<(((x2-x3)*5)+(((x1-x0)+1)+x4))):=by rw [sx h0]; exact Nat.add_lt_add_left (Nat.add_lt_add_right (Nat.lt_succ_self _) x4) _
theorem yn {x0 x1 : Nat} (h0 : (x0<x1)) : ((7-x1)<=(7-x0)):=Nat.sub_le_sub_left (Nat.le_of_lt h0) 7
theorem yP {x0 x1 : Nat} (h0 : (x0<x1)) : (((x0+x1)/2)<x1):=Nat.div_lt_of_lt_mul (by rw [Nat.two_mul]; exact Nat.add_lt_add_right h0 x1)
theorem tM {x0 x1 : Nat} (h0 : (x0<x1)) : (((x0:Nat):Int)<((x1:Nat):Int)):=Int.ofNat_lt.mpr h0
theorem uc {x0 x1 : Nat} (h0 : (x0<x1)) : (((x0:Nat):Int)<=((x1:Nat):Int)):=by lia
theorem Ab {x0 x1 : Nat} (h0 : (x0<x1)) : (((x1-(x0+1))+1)=(x1-x0)):=(sx h0).symm
theorem x7 {x0 x1 : Nat} (h0 : (x0<x1)) : (0<x1):=Nat.zero_lt_of_lt h0
theorem v7 {x0 x1 : Nat} (h0 : (x0<x1)) : ((x0+1)<(x1+1)):=Nat.add_lt_add_right h0 1
theorem yD {x0 x1 x2 : Nat} (h0 : (x0<x1)) : ((x0+1)<=(x1+x2)):=Nat.le_add_right_of_le h0
theorem zS {x0 x1 x2 : Nat} (h0 : (x0<x1)) : ((x0+x2)<(x1+x2)):=Nat.add_lt_add_right h0 x2
theorem wm {x0 x1 : Nat} (h0 : (x0<x1)) : ((x1-(x0+1))<x1):=Nat.sub_lt (Nat.lt_of_le_of_lt (Nat.zero_le _) h0) (Nat.succ_pos _)
theorem Ar {x0 x1 x2 : Nat} (h0 : (x0<x1)) : ((x2+x0)<(x2+x1)):=Nat.add_lt_add_left h0 x2
theorem sC {x0 x1 : Nat} (h0 : (x0<x1)) : (x0<(x1+1)):=Nat.lt_add_right 1 h0
theorem dr {x0 x1 : Nat} (h0 : (x0<x1)) : (x0<x1):=by omega
theorem yc {x0 x1 x2 : Nat} (h0 : (x0<x1)) (h1 : (x0<x2)) : (x0<(min x1 x2)):=Nat.lt_min.mpr ⟨h0,h1⟩
theorem AQ {x0 x1 : Nat} (h0 : (x0<x1)) (h1 : (x0=x1)) : False:=by simp_all +arith
theorem zj {x0 x1 x2 : Nat} (h0 : (x0<x1)) (h1 : (x0=x2)) : (x2<x1):=by subst h1; omega
theorem yq {x0 x1 : Nat} (h0 : (x0<x1)) : (x0≠x1):=Nat.ne_of_lt h0
theorem yz {x0 x1 : Nat} (h0 : (x0<x1)) : (x0<=((x0+x1)/2)):=(Nat.le_div_iff_mul_le (by decide)).mpr (by rw [Nat.mul_two]; exact Nat.add_le_add_left (Nat.le_of_lt h0) x0)
theorem yR {x0 x1 : Nat} (h0 : (x0<x1)) : (x0<=x1):=Nat.le_of_succ_le h0
theorem zW {x0 x1 : Nat} (h0 : (x0<x1)) (h1 : (x0>=(x1-1))) : (x0=(x1-1)):=Nat.le_antisymm (Nat.le_sub_one_of_lt h0) h1
theorem ym {x0 x1 : Int} (h0 : (x0<x1)) (h1 : (x1<x0)) : (x0=x1):=by lia
theorem D3 {x0 x1 : Nat} (h0 : (x0<x1)) (h1 : (x1<x0)) : (x0=x1):=by lia
theorem AX {x0 x1 : Int} {x2 x3 : Nat} (h0 : (x0<x1)) (h1 : (x1<x0)) : (x2=x3):=by lia
theorem zq {x0 x1 x2 : Int} (h0 : (x0<x1)) (h1 : (x1<x2)) : (x0<x2):=Int.lt_trans h0 h1
theorem sV {x0 x1 x2 : Nat} (h0 : (x0<x1)) (h1 : (x1<x2)) : (x0<x2):=Nat.lt_trans h0 h1
theorem wc {x0 x1 x2 : Nat} (h0 : (x0<x1)) (h1 : (x1=(x2+1))) : (x0<(x2+1)):=Nat.lt_of_lt_of_eq h0 h1
theorem tQ {x0 x1 : Nat} (h0 : (x0<x1)) (h1 : (x1=x0)) : False:=by simp_all +arith
theorem zt {x0 x1 x2 : Nat} (h0 : (x0<x1)) (h1 : (x1=x2)) : ((x2-((x1-1)-x0))=(x0+1)):=by
 subst h1; rw [Nat.sub_sub,Nat.add_comm 1,Nat.sub_sub_self h0]
theorem bM {x0 x1 x2 : Nat} (h0 : (x0<x1)) (h1 : (x1=x2)) : (x0<x2):=Nat.lt_of_lt_of_eq h0 h1
theorem sY {x0 x1 x2 x3 : Nat} (h0 : (x0<x1)) (h1 : (x1=x2)) (h2 : (x2=x3)) : (x0<x3):=by simp_all +arith
theorem uf {x0 x1 x2 : Nat} (h0 : (x0<x1)) (h1 : (x1<=0)) : (x2<=x1):=by simp_all +arith
theorem xg {x0 x1 : Nat} {x2 : Prop} (h0 : (x0<x1)) (h1 : (x1<=0)) : x2:=by simp_all +arith
theorem tW {x0 x1 x2 : Nat} (h0 : (x0<x1)) (h1 : (x1<=2)) (h2 : (x2=x0)) : (x2<1000000):=Nat.lt_of_le_of_lt (Nat.le_of_eq h2) (Nat.lt_of_lt_of_le h0 (Nat.le_trans h1 (by decide)))
theorem qr {x0 x1 : Nat} (h0 : (x0<x1)) (h1 : (x1<=(6:Nat))) : (((x0:Nat):Int)<=(5:Int)):=Int.ofNat_le.mpr (Nat.le_of_lt_succ (Nat.lt_of_lt_of_le h0 h1))
theorem uj {x0 x1 : Nat} (h0 : (x0<x1)) (h1 : (x1<=6)) : (x0<64):=Nat.lt_of_lt_of_le h0 (Nat.le_trans h1 (by decide))
theorem ox {x0 x1 : Nat} (h0 : (x0<x1)) (h1 : (x1<=6)) : (x0<6):=Nat.lt_of_lt_of_le h0 h1
theorem xB {x0 x1 x2 : Nat} (h0 : (x0<x1)) (h1 : (x1<=6)) (h2 : (x2=x0)) : (x2<1000000):=by lia
theorem xe {x0 x1 x2 : Nat} (h0 : (x0<x1)) (h1 : (x1<=6)) (h2 : (x2<=x0)) : ((x2+0)<1000000):=by lia
theorem vV {x0 x1 x2 : Nat} (h0 : (x0<x1)) (h1 : (x1<=6)) (h2 : (x2<=x0)) : (x2<1000000):=Nat.lt_of_le_of_lt h2 (Nat.lt_of_lt_of_le h0 (Nat.le_trans h1 (by decide)))
theorem xT {x0 x1 : Nat} (h0 : (x0<x1)) (h1 : (x1<=7)) : ((7-x1)<(7-x0)):=Nat.sub_lt_sub_left (Nat.lt_of_lt_of_le h0 h1) h0
theorem ue {x0 x1 x2 : Nat} (h0 : (x0<x1)) (h1 : (x1<=(x2+1))) : (x0<=x2):=Nat.le_of_lt_succ (Nat.lt_of_lt_of_le h0 h1)
theorem wh {x0 x1 : Nat} {x2 x3 : Prop} (h0 : (x0<x1)) (h1 : (x1<=x0)) : (x2/\x3):=by lia
theorem p8 {x0 x1 : Nat} (h0 : (x0<x1)) (h1 : (x1<=x0)) : False:=by lia
theorem AY {x0 x1 x2 : Nat} (h0 : (x0<x1)) (h1 : (x1<=x2)) : ((x1-1)<x2):=Nat.lt_of_lt_of_le (Nat.sub_one_lt (Nat.ne_of_gt (Nat.lt_of_le_of_lt (Nat.zero_le _) h0))) h1
theorem oY {x0 x1 x2 : Nat} (h0 : (x0<x1)) (h1 : (x1<=x2)) : (x0<x2):=Nat.lt_of_lt_of_le h0 h1
theorem AD {x0 x1 x2 x3 : Nat} (h0 : (x0<x1)) (h1 : (x1<=x2)) (h2 : (x2<=6)) (h3 : (x3=x0)) : (x3<1000000):=Nat.lt_of_le_of_lt (Nat.le_of_eq h3) (Nat.lt_of_lt_of_le h0 (Nat.le_trans h1 (Nat.le_trans h2 (by decide))))
theorem rp {x0 x1 x2 x3 : Nat} (h0 : (x0<x1)) (h1 : (x1<=x2)) (h2 : (x2<=6)) (h3 : (x3<=x0)) : (x3<1000000):=by lia
theorem wA {x0 x1 x2 x3 : Nat} (h0 : (x0<x1)) (h1 : (x2<x3)) : ((x0+x2)<(x1+x3)):=Nat.add_lt_add h0 h1
theorem yE {x0 x1 x2 : Nat} (h0 : (x0<x1)) (h1 : (x2=((min x0 x1)+(x1-(x0+1))))) : ((x2+1)=x1):=by rw [h1,Nat.min_eq_left (Nat.le_of_lt h0),Nat.add_assoc,<-sx h0,Nat.add_sub_cancel' (Nat.le_of_lt h0)]
theorem yr {x0 x1 : Nat} {x2 : Int} (h0 : (x0<x1)) (h1 : (x2=((x0:Nat):Int))) : (((0:Int)<=x2)/\(x2<((x1:Nat):Int))):=by simp_all +arith
theorem aU {x0 x1 x2 : Nat} (h0 : (x0<x1)) (h1 : (x2=x1)) : (x0<x2):=Nat.lt_of_lt_of_eq h0 (id (Eq.symm h1))
theorem xJ {x0 x1 x2 x3 : Nat} (h0 : (x0<x1)) (h1 : (x2=x1)) (h2 : (x2=x3)) : (x0<x3):=by simp_all +arith
theorem zF {x0 x1 : Nat} {x2 : Prop} {x3 : Nat} (h0 : (x0<x1)) (h1 : (x2/\(x3<x0))) : (x3<x1):=Nat.lt_trans h1.2 h0
theorem xy {x0 x1 : Nat} {x2 : Prop} {x3 : Nat} (h0 : (x0<x1)) (h1 : (x2/\(x3<=x0))) : (x3<x1):=Nat.lt_of_le_of_lt h1.2 h0
theorem yt {x0 x1 x2 : Nat} (h0 : (x0<x1)) (h1 : (x2<=3)) : (((x2+(3*x0))<=(3*x1))/\((x2+(4*x0))<=(4*x1))):=⟨Nat.le_trans (Nat.add_le_add_right h1 _) (by rw [Nat.add_comm]; exact Nat.mul_le_mul_left 3 h0),Nat.le_trans (Nat.add_le_add_right (Nat.le_trans h1 (by decide : 3<=4)) _) (by rw [Nat.add_comm]; exact Nat.mul_le_mul_left 4 h0)⟩
theorem AT {x0 x1 x2 x3 x4 x5 : Nat} (h0 : (x0<x1)) (h1 : (x2<=6)) (h2 : (x3<=x2)) : (((x0*7)+((x4+x3)-(x5+1)))<((x1*7)+(x4-x5))):=by
 have h : (x4+x3)-(x5+1)<=(x4-x5)+6:=Nat.le_trans (Nat.sub_le_sub_left (Nat.le_succ x5) _) (Nat.sub_le_iff_le_add.mpr (by rw [Nat.add_right_comm]; exact Nat.add_le_add (Nat.sub_le_iff_le_add.mp (Nat.le_refl _)) (Nat.le_trans h2 h1)))
 have h7 : (x0+1)*7<=x1*7:=Nat.mul_le_mul_right 7 h0
 rw [Nat.add_mul] at h7
 exact Nat.lt_of_le_of_lt (Nat.add_le_add_left h _) (by rw [Nat.add_comm (x4-x5),<-Nat.add_assoc]; exact Nat.add_lt_add_right h7 _)
theorem qV {x0 x1 x2 : Nat} (h0 : (x0<x1)) (h1 : (x2<=x0)) : (x2<=x1):=by lia
theorem yQ {x0 x1 x2 x3 : Nat} (h0 : (x0<x1)) (h1 : (x2<=x3)) : ((x0+x2)<(x1+x3)):=Nat.add_lt_add_of_lt_of_le h0 h1
theorem xC {x0 x1 x2 x3 : Nat} (h0 : (x0<x1)) (h1 : (x2<=x3)) : ((x2+x0)<(x3+x1)):=Nat.add_lt_add_of_le_of_lt h1 h0
theorem xZ {x0 x1 : Nat} (h0 : (x0<x1)) : (¬(((x0:Nat):Int)>((x1:Nat):Int))):=by lia
theorem Au {x0 x1 x2 : Nat} (h0 : (x0<x1)) (h1 : (¬(x0<x2))) : (x2<=x1):=Nat.le_trans (Nat.le_of_not_lt h1) (Nat.le_of_lt h0)
theorem tf {x0 x1 : Int} (h0 : (x0<x1)) : (¬(x1=x0)):=Int.ne_of_gt h0
theorem yL {x0 x1 : Nat} (h0 : (x0=0)) : (¬((x0/8)>x1)):=by simp_all +arith
theorem sZ {x0 x1 : Nat} (h0 : (x0=(x1+(0+1)))) : ((x0-1)<x0):=by simp_all +arith
theorem yM {x0 x1 : Nat} (h0 : (x0=(x1+(0+1)))) : ((x0-1)=x1):=Eq.symm (Nat.eq_sub_of_add_eq (id (Eq.symm h0)))
theorem zR {x0 x1 : Nat} (h0 : (x0=(x1+1))) : (x0≠0):=by simp_all +arith
theorem yp {x0 x1 : Nat} (h0 : (x0=(x1+1))) (h1 : (x1<=7)) : (x0<=20):=by lia
theorem y5 {x0 x1 x2 : Nat} (h0 : (x0=(x1+1))) (h1 : (x1<=7)) (h2 : (x2=x0)) : (x2<=20):=by lia
theorem Ax {x0 x1 : Nat} (h0 : (x0=x1)) : (((x0:Nat):Int)=((x1:Nat):Int)):=Int.ofNat_inj.mpr h0
theorem wz {x0 x1 x2 : Nat} (h0 : (x0=x1)) : ((x1-(x2+1))=((x0-1)-x2)):=by rw [h0,Nat.sub_sub,Nat.add_comm 1]
theorem A1 {x0 x1 x2 x3 : Int} (h0 : (x0=x1)) : ((x2>x3)↔(((x0*(64:Int))+x2)>((x1*(64:Int))+x3))):=by simp_all
theorem jl {x0 x1 : Nat} (h0 : (x0=x1)) : (x0=x1):=by omega
theorem zJ {x0 x1 x2 x3 : Nat} (h0 : (x0=x1)) (h1 : (x0=x2)) (h2 : (x1=x3)) : (x2=x3):=by simp_all +arith
theorem ri {x0 x1 : Nat} (h0 : (x0=x1)) : (x0<=x1):=Nat.le_of_eq h0
theorem AJ {x0 x1 x2 : Nat} (h0 : (x0=x1)) (h1 : (x0<=x2)) (h2 : (x2<=6)) : (x1<=6):=Nat.le_trans (Nat.le_of_eq h0.symm) (Nat.le_trans h1 h2)
theorem wB {x0 x1 x2 x3 : Nat} (h0 : (x0=x1)) (h1 : (x1=x2)) (h2 : (¬(x3<x0))) : (x2<=x3):=by simp_all +arith
theorem Az {x0 x1 x2 : Nat} (h0 : (x0=x1)) (h1 : (x1<=2)) : ((x0-x2)<=2):=Nat.le_trans (Nat.sub_le _ _) (Nat.le_trans (Nat.le_of_eq h0) h1)
theorem oV {x0 x1 : Nat} (h0 : (x0=x1)) (h1 : (x1<=2)) : (x0<1000000):=Nat.lt_of_le_of_lt (Nat.le_trans (Nat.le_of_eq h0) h1) (by decide)
theorem yV {x0 x1 : Nat} (h0 : (x0=x1)) (h1 : (x1<=2)) : (x0<=1000000):=by lia
theorem yN {x0 x1 : Nat} (h0 : (x0=x1)) (h1 : (x1<=63)) : (x0<1000000):=by subst h0; omega
theorem jp {x0 x1 : Nat} (h0 : (x0=x1)) (h1 : (x1<=6)) : (x0<1000000):=Nat.lt_of_le_of_lt (Nat.le_trans (Nat.le_of_eq h0) h1) (by decide)
theorem sB {x0 x1 : Nat} (h0 : (x0=x1)) (h1 : (x1<=6)) : (x0<1000):=Nat.lt_of_le_of_lt (Nat.le_trans (Nat.le_of_eq h0) h1) (by decide)
theorem bE {x0 x1 : Nat} (h0 : (x0=x1)) (h1 : (x1<=6)) : (x0<1099511627776):=by subst h0; omega
theorem qz {x0 x1 : Nat} (h0 : (x0=x1)) (h1 : (x1<=6)) : (x0<64):=by subst h0; omega
theorem Aa {x0 x1 : Nat} (h0 : (x0=x1)) (h1 : (x1<=6)) : (x0<=(16777216+1)):=by lia
theorem im {x0 x1 : Nat} (h0 : (x0=x1)) (h1 : (x1<=6)) : (x0<=1000000):=by lia
theorem zv {x0 x1 : Nat} (h0 : (x0=x1)) (h1 : (x1<=6)) : (x0<=16777216):=by lia
theorem sA {x0 x1 : Nat} (h0 : (x0=x1)) (h1 : (x1<=7)) : (x0<=20):=by lia
theorem xk {x0 x1 : Nat} (h0 : (x0=x1)) : (x1<=x0):=Nat.le_of_eq (id (Eq.symm h0))
theorem D5 {x0 x1 x2 : Nat} (h0 : (x0=x1)) (h1 : (x1<=x2)) : (x0<=x2):=le_of_eq_of_le h0 h1
theorem xb {x0 x1 x2 : Nat} (h0 : (x0=x1)) (h1 : (x2=x1)) : (x0=x2):=by subst h1; omega
theorem zV {x0 x1 x2 x3 : Nat} (h0 : (x0=x1)) (h1 : (x2=x1)) (h2 : (¬(x3<x0))) : (x2<=x3):=by simp_all +arith
theorem wH {x0 x1 x2 : Nat} (h0 : (x0=x1)) (h1 : (x2<=x1)) : (x2<=x0):=le_of_le_of_eq h1 (id (Eq.symm h0))
theorem DI {x0 x1 x2 : Nat} (h0 : (x0=x1)) (h1 : (x2>=x1)) : (x0<=x2):=le_of_eq_of_le h0 h1
theorem wv {x0 x1 : Nat} (h0 : (x0=x1)) (h1 : (¬(x0<2))) : (2<=x1):=by simp_all
theorem tT {x0 x1 x2 : Nat} (h0 : (x0=x1)) (h1 : (¬(x2<x1))) : (x0<=x2):=by simp_all +arith
theorem AU {x0 : Prop} {x1 x2 x3 : Nat} (h0 : (x0/\(x1<x2))) (h1 : (x2<=(x3+1))) : (x1<=x3):=by lia
theorem zY {x0 : Prop} {x1 x2 : Nat} (h0 : (x0/\(x1<x2))) (h1 : (x2<=x1)) : False:=by lia
theorem v8 {x0 x1 : Nat} (h0 : (x0≠x1)) : (((x1:Nat):Int)≠((x0:Nat):Int)):=Nat.ToInt.of_diseq rfl rfl (id (Ne.symm h0))
theorem zH {x0 x1 : Nat} (h0 : (x0<=(150+(7*x1)))) (h1 : (x1<=7)) : (x0<1099511627776):=Nat.lt_of_le_of_lt (Nat.le_trans h0 (Nat.add_le_add_left (Nat.mul_le_mul_left 7 h1) 150)) (by decide)
theorem ye {x0 x1 x2 : Nat} (h0 : (x0<=(7*x1))) : (((7-x2)+x0)<=(7*(x1+1))):=Nat.le_trans (Nat.add_le_add (Nat.sub_le 7 x2) h0) (Nat.le_of_eq (Nat.add_comm 7 _))
theorem yC {x0 x1 x2 : Nat} (h0 : (x0<=(7*x1))) (h1 : (x1<=6)) (h2 : (x2<=x1)) : ((x2+(6*x0))<=300):=Nat.le_trans (Nat.add_le_add (Nat.le_trans h2 h1) (Nat.mul_le_mul_left 6 (Nat.le_trans h0 (Nat.mul_le_mul_left 7 h1)))) (by decide)
theorem wi {x0 : Int} (h0 : (x0<=(0:Int))) : ((Int.toNat x0)=(0:Nat)):=Int.toNat_of_nonpos h0
theorem zO {x0 : Nat} (h0 : (x0<=0)) : (x0=0):=Nat.eq_zero_of_le_zero h0
theorem tN {x0 : Nat} (h0 : (x0<=1000000)) : (x0<=16777216):=by lia
theorem xn {x0 : Nat} (h0 : (x0<=100)) : (x0<1000000):=by lia
theorem yK {x0 x1 : Nat} (h0 : (x0<=100)) : (x0<=(150+(7*x1))):=Nat.le_trans h0 (Nat.le_trans (by decide) (Nat.le_add_right 150 _))
theorem vY {x0 : Nat} (h0 : (x0<=1)) : (x0<1000000):=by lia
theorem xi {x0 : Nat} (h0 : (x0<=20)) : (x0<=16777216):=by lia
theorem Ae {x0 : Nat} (h0 : (x0<=2)) : ((x0+1)<1000000):=by lia
theorem wK {x0 : Nat} (h0 : (x0<=2)) : ((x0+1)<=1000000):=by lia
theorem w9 {x0 : Nat} (h0 : (x0<=2)) : (x0<1000):=by lia
theorem xG {x0 : Nat} (h0 : (x0<=2)) : (x0<100):=by lia
theorem wn {x0 x1 : Nat} (h0 : (x0<=2)) : (x0<=(2+x1)):=Nat.le_add_right_of_le h0
theorem wg {x0 : Nat} (h0 : (x0<=2)) : (x0<=2):=by omega
theorem vZ {x0 : Nat} (h0 : (x0<=32)) : (¬(x0>16777216)):=by lia
theorem zk {x0 : Int} (h0 : (x0<=(3:Int))) : (x0<=(5:Int)):=by lia
theorem AB {x0 : Nat} (h0 : (x0<=3)) : (x0<1000000):=by lia
theorem t5 {x0 : Nat} (h0 : (x0<=3)) : (x0<=1000000):=by lia
theorem ut {x0 : Nat} (h0 : (x0<=3)) : (x0<=6):=by lia
theorem Aj {x0 x1 : Nat} (h0 : (x0<=3)) (h1 : (x1<=x0)) : (x1<=3):=Nat.le_trans h1 h0
theorem xh {x0 x1 : Nat} (h0 : (x0<=4)) (h1 : (x1<=x0)) : (x1<1000000):=Nat.lt_of_le_of_lt (Nat.le_trans h1 h0) (by decide)
theorem wV {x0 : Nat} (h0 : (x0<=63)) : (x0<1000):=by lia
theorem zl {x0 : Nat} (h0 : (x0<=63)) : (x0<=1000000):=by lia
theorem ya {x0 : Nat} (h0 : (x0<=63)) : (x0<=90):=by lia
theorem zU {x0 : Nat} (h0 : (x0<=(6:Nat))) : (((x0:Nat):Int)<(1000000:Int)):=by omega
theorem An {x0 x1 : Nat} (h0 : (x0<=6)) : ((min x1 x0)<=1000000):=Nat.le_trans (Nat.min_le_right _ _) (Nat.le_trans h0 (by decide))
theorem tO {x0 : Nat} (h0 : (x0<=6)) : ((x0+1)<1000000):=by lia
theorem gF {x0 : Nat} (h0 : (x0<=6)) : (x0<1000000):=by lia
theorem w8 {x0 : Nat} (h0 : (x0<=6)) : (x0<64):=by lia
theorem gE {x0 : Nat} (h0 : (x0<=6)) : (x0<=1000000):=by lia
theorem AG {x0 x1 : Nat} (h0 : (x0<=6)) (h1 : (x1<=x0)) : ((1+(3*x1))<=20):=Nat.le_trans (Nat.add_le_add_left (Nat.mul_le_mul_left 3 (Nat.le_trans h1 h0)) 1) (by decide)
theorem ww {x0 x1 : Nat} (h0 : (x0<=6)) (h1 : (x1<=x0)) : ((3*x1)<=20):=Nat.le_trans (Nat.mul_le_mul_left 3 (Nat.le_trans h1 h0)) (by decide)
theorem kc {x0 x1 : Nat} (h0 : (x0<=6)) (h1 : (x1<=x0)) : (x1<1000000):=by lia
theorem qf {x0 x1 : Nat} (h0 : (x0<=6)) (h1 : (x1<=x0)) : (x1<64):=by lia
theorem wX {x0 x1 : Nat} (h0 : (x0<=6)) (h1 : (x1<=x0)) : (x1<=100):=by lia
theorem oX {x0 x1 : Nat} (h0 : (x0<=6)) (h1 : (x1<=x0)) : (x1<=6):=Nat.le_trans h1 h0
theorem tr {x0 x1 x2 : Nat} (h0 : (x0<=6)) (h1 : (x1<=x0)) (h2 : (x2<=x1)) : (x2<1000000):=by lia
theorem jg {x0 x1 x2 : Nat} (h0 : (x0<=6)) (h1 : (x1<=x0)) (h2 : (x2<=x1)) : (x2<=6):=by lia
theorem rx {x0 : Nat} (h0 : (x0<=7)) : (x0<4096):=Nat.lt_of_le_of_lt h0 (by decide)
theorem wf {x0 : Nat} (h0 : (x0<=7)) : (x0<64):=by lia
theorem oM {x0 : Nat} (h0 : (x0<=7)) : (x0<8):=Nat.lt_succ_of_le h0
theorem wC {x0 : Nat} (h0 : (x0<=7)) : (x0<=16777216):=by lia
theorem yG {x0 : Nat} (h0 : (x0<=7)) : (x0<=20):=by lia
theorem AL {x0 : Nat} (h0 : (x0<=7)) : (x0<=7):=by omega
theorem wM {x0 x1 : Nat} (h0 : (x0<=(x1+1))) : ((x0-1)<=x1):=Nat.sub_le_of_le_add h0
theorem zD {x0 x1 : Nat} (h0 : (x0<=(x1+1))) : (x0<=(x1+1)):=by omega
theorem sr {x0 x1 : Nat} (h0 : (x0<=(x1+1))) (h1 : (x0>=(x1+1))) : (x0=(x1+1)):=Eq.symm (Nat.le_antisymm h1 h0)
theorem kF {x0 x1 x2 : Nat} (h0 : (x0<=(x1+1))) (h1 : (x1<=x2)) : (x0<=(x2+1)):=Nat.le_trans h0 (Nat.succ_le_succ h1)
theorem wF {x0 x1 : Nat} (h0 : (x0<=x1)) : (((x0+0)+1)<=(x1+1)):=Nat.add_le_add_right h0 1
theorem sP {x0 x1 : Nat} (h0 : (x0<=x1)) : (x0<=(x1+1)):=Nat.le_add_right_of_le h0
theorem zw {x0 x1 : Nat} (h0 : (x0<=x1)) : (x0<=x1):=by omega
theorem tm {x0 x1 : Nat} (h0 : (x0<=x1)) (h1 : (x1<=x0)) : (x0=x1):=Nat.le_antisymm h0 h1
theorem Ao {x0 x1 x2 x3 : Nat} (h0 : (x0<=x1)) (h1 : (x2<=x3)) : ((x0+x2)<=(x1+x3)):=Nat.add_le_add h0 h1
theorem yl {x0 x1 : Nat} (h0 : (x0<=x1)) (h1 : (¬(((x0:Nat):Int)=((x1:Nat):Int)))) : (x0<x1):=Nat.lt_of_le_of_ne h0 fun a=>h1 (congrArg Nat.cast a)
theorem xp {x0 x1 : Nat} (h0 : (x0<=x1)) : (¬(((x0:Nat):Int)>((x1:Nat):Int))):=by simp_all +arith
theorem xl {x0 x1 : Nat} (h0 : (x0<=x1)) (h1 : (¬(((x1:Nat):Int)>((x0:Nat):Int)))) : (x1=x0):=Nat.le_antisymm (Nat.le_of_not_lt fun q=>h1 (Int.ofNat_lt.mpr q)) h0
theorem wY {x0 x1 : Nat} (h0 : (x0<=x1)) (h1 : (¬(x0<x1))) : (x0=x1):=Nat.le_antisymm h0 (Nat.le_of_not_lt h1)
theorem Ap {x0 x1 : Nat} (h0 : (x0<=x1)) : (¬(x0>x1)):=Nat.not_lt.mpr h0
theorem yH {x0 x1 : Nat} (h0 : (x0<=x1)) : (¬(x1<x0)):=by simpa using h0
theorem DT {x0 : Nat} (h0 : (¬((((63:Nat):Nat):Int)<((x0:Nat):Int)))) : (x0<=(63:Nat)):=Nat.le_of_not_lt fun q=>h0 (Int.ofNat_lt.mpr q)
theorem yw {x0 x1 x2 : Nat} (h0 : (¬(((x0+x1)*5)>=(x2*3)))) : ((x1*5)<(x2*3)):=Nat.lt_of_le_of_lt (Nat.mul_le_mul_right 5 (Nat.le_add_left x1 x0)) (Nat.lt_of_not_le h0)
theorem yY {x0 x1 : Nat} (h0 : (¬(((x0:Nat):Int)<((x1:Nat):Int)))) : (x1<=x0):=by simpa using h0
theorem yh {x0 x1 : Nat} (h0 : (¬(((x0:Nat):Int)>((x1:Nat):Int)))) : (x0<=x1):=by simpa using h0
theorem yy {x0 : Nat} (h0 : (¬(0<x0))) : (x0=0):=Nat.eq_zero_of_not_pos h0
theorem xx {x0 : Nat} (h0 : (¬(x0<2))) : (2<=x0):=Nat.le_of_not_lt h0
theorem iB {x0 x1 : Nat} (h0 : (¬(x0<x1))) : (x1<=x0):=Nat.le_of_not_lt h0
theorem wo {x0 : Nat} (h0 : (¬(x0=(0:Nat)))) : ((((0:Nat):Nat):Int)≠((x0:Nat):Int)):=Nat.ToInt.of_diseq rfl rfl fun a=>h0 (id (Eq.symm a))
theorem Ah {x0 : Nat} (h0 : (¬(x0=0))) : (0≠x0):=Ne.intro fun a=>h0 (id (Eq.symm a))
theorem AF {x0 : Nat} (h0 : (¬(x0=0))) : ((x0-1)<x0):=Nat.sub_one_lt h0
theorem Ac {x0 x1 : Nat} (h0 : (¬(x0=0))) : (x1<(x1+x0)):=by lia
theorem qm {x0 x1 : Nat} (h0 : (¬(x0=x1))) : (((x0:Nat):Int)≠((x1:Nat):Int)):=Nat.ToInt.of_diseq rfl rfl h0
theorem iO {x0 x1 : Nat} (h0 : (¬(x0=x1))) : (¬(((x0:Nat):Int)=((x1:Nat):Int))):=Nat.ToInt.of_diseq rfl rfl h0
theorem yu {x0 x1 : Nat} (h0 : (¬(x0=x1))) : (¬(((x1:Nat):Int)=((x0:Nat):Int))):=Nat.ToInt.of_diseq rfl rfl fun a=>h0 (id (Eq.symm a))
theorem w7 {x0 x1 : Int} (h0 : (¬(x0>x1))) : (x0<=x1):=Int.not_lt.mp h0
theorem xo {x0 x1 : Nat} (h0 : (¬(x0<=x1))) : (((x0-(x1+1))+1)<((x0-x1)+1)):=Nat.succ_lt_succ (by rw [sx (Nat.lt_of_not_le h0)]; exact Nat.lt_succ_self _)
theorem w4 {x0 x1 : Nat} (h0 : (¬(x0<=x1))) : ((x1+1)<=x0):=Nat.lt_of_not_le h0
theorem vW {x0 x1 : Nat} : ((((7-x0)*7)+x1)<(((7-x0)*7)+(x1+1))):=Nat.lt_add_one ((7 - x0) * 7 + x1)
theorem yT {x0 x1 : Nat} : (((((x0%(x1+1))+9)+1)-(x0%(x1+1)))=(9+1)):=Eq.symm (Nat.eq_sub_of_add_eq' rfl)
theorem tG : ((((0:Nat)+(0:Nat))*(5:Nat))<((7:Nat)*(3:Nat))):=by simp +arith
theorem zf {x0 x1 : Nat} : ((((x0%(x1+1))+1)-(x0%(x1+1)))=(0+1)):=Nat.add_sub_self_left (x0 % (x1 + 1)) 1
theorem AA {x0 x1 x2 : Int} : ((((x0*(64:Int))+x1)<((x0*(64:Int))+x2))↔(x1<x2)):=Int.add_lt_add_iff_left (x0 * 64)
theorem AR {x0 x1 x2 x3 x4 : Nat} : ((((x0-x1)*5)+x2)<(((x0-x1)*5)+(((x3-x4)+1)+x2))):=by simp +arith
theorem pP {x0 x1 : Nat} : ((((x0:Nat):Int)=((x1:Nat):Int))↔(x0=x1)):=Int.ofNat_inj
theorem wy {x0 : Nat} : ((((x0:Nat):Int)=(0:Int))↔(x0=(0:Nat))):=Int.ofNat_eq_zero
theorem wO {x0 : Nat} : (((-(1:Int))<(0:Int))/\((-(((x0+(1:Nat)):Nat):Int))<=(-(1:Int)))):=by simp +arith
theorem wL {x0 : Nat} : (((1:Int)+((x0:Nat):Int))=(((x0+(1:Nat)):Nat):Int)):=by simp +arith
theorem we {x0 : Nat} : ((1+x0)=(x0+1)):=Nat.add_comm 1 x0
theorem wj {x0 x1 : Nat} : (((x0*4)+x1)<((x0*4)+(x1+1))):=Nat.lt_add_one (x0 * 4 + x1)
theorem vX {x0 x1 : Nat} : (((x0+1)+x1)=(x0+(x1+1))):=Nat.succ_add_eq_add_succ x0 x1
theorem Aw {x0 x1 : Nat} : (((x0+1)+x1)<=((x0+x1)+1)):=by simp +arith
theorem tj {x0 : Nat} : (((x0:Nat):Int)≠(-(1:Int))):=not_eq_of_beq_eq_false rfl
theorem tB {x0 : Int} : (((x0=(0:Int))\/((x0=(1:Int))\/((x0=(2:Int))\/(x0=(3:Int)))))↔(((0:Int)<=x0)/\(x0<(4:Int)))):= ⟨fun h=>by rcases h with rfl | rfl | rfl | rfl<;>decide,fun h=>(Int.eq_ofNat_of_zero_le h.1).elim fun n e=>e▸(by decide : ∀ n : Nat,n < 4->((n : Int) = 0\/(n : Int) = 1\/(n : Int) = 2\/(n : Int) = 3)) n (Int.ofNat_lt.mp (e▸h.2))⟩
theorem yJ {x0 : Nat} : ((-(1:Int))<=(((x0:Nat):Int)-(1:Int))):=Int.le.intro x0 rfl
theorem oL {x0 : Nat} : ((-(1:Int))<=((x0:Nat):Int)):=Int.neg_ofNat_le_natCast 1 x0
theorem zL {x0 : Nat} : ((0:Int)<=((1:Int)+((x0:Nat):Int))):=Int.zero_le_ofNat (1 + x0)
theorem dm {x0 : Nat} : ((0:Int)<=((x0:Nat):Int)):=Int.natCast_nonneg x0
theorem tC : ((0:Int)<=(0:Int)):=by simp +arith
theorem Ay {x0 x1 : Nat} : (0<((x0-x1)+1)):=Nat.zero_lt_succ (x0 - x1)
theorem wx : ((0:Nat)<(2:Nat)):=by simp +arith
theorem tz : ((0:Nat)<(3:Nat)):=by simp +arith
theorem oH : ((0:Nat)<(4:Nat)):=by simp +arith
theorem sO : ((0:Nat)<(5:Nat)):=by simp +arith
theorem wR : ((0:Nat)<(6:Nat)):=by simp +arith
theorem qR {x0 : Nat} : (0<(x0+1)):=Nat.zero_lt_succ x0
theorem xt {x0 : Nat} : ((Int.toNat ((-(1:Int))+(((x0+(1:Nat)):Nat):Int)))=x0):=by simp +arith
theorem zE {x0 x1 : Nat} : ((Int.toNat (max (0:Int) (min ((x0:Nat):Int) ((x1:Nat):Int))))=(min x0 x1)):=by
 rcases Nat.le_total x0 x1 with h | h
 ·rw [Int.min_eq_left (Int.ofNat_le.mpr h),Nat.min_eq_left h,Int.max_eq_right (Int.natCast_nonneg _)]; rfl
 ·rw [Int.min_eq_right (Int.ofNat_le.mpr h),Nat.min_eq_right h,Int.max_eq_right (Int.natCast_nonneg _)]; rfl
theorem wN {x0 x1 : Nat} : ((min (min x0 x1) x1)=(min x0 x1)):=by simp +arith
theorem zo {x0 : Int} {x1 : Nat} : ((x0+(((x1:Nat):Int)+(1:Int)))=((x0+(1:Int))+((x1:Nat):Int))):=by simp +arith
theorem xP {x0 : Nat} : ((x0+1)≠x0):=Ne.symm (Nat.ne_add_one x0)
theorem zB {x0 : Nat} : ((x0+1)<=(x0+5)):=by simp +arith
theorem oD {x0 x1 : Nat} : ((x0+(x1+1))=((x0+1)+x1)):=Eq.symm (Nat.succ_add_eq_add_succ x0 x1)
theorem DW {x0 : Int} : ((x0-(0:Int))=x0):=Int.sub_zero x0
theorem zd {x0 : Nat} : ((x0-0)<=x0):=Nat.sub_le x0 0
theorem AK {x0 : Nat} : (x0<(x0+1)):=Nat.lt_add_one x0
theorem wt {x0 : Nat} : (x0<=(10+x0)):=Nat.le_add_left x0 10
theorem AS {x0 : Nat} : (x0<=(x0+1)):=Nat.le_add_right x0 1
theorem Af {x0 x1 : Nat} : (x0<=(x0+x1)):=Nat.le_add_right x0 x1
theorem AZ {x0 : Nat} : (x0<=x0):=Nat.le_refl x0
theorem yg {x0 : Nat} : (¬(((0:Int)<=(-(1:Int)))/\((-(1:Int))<(((x0+(1:Nat)):Nat):Int)))):=of_decide_eq_false rfl
theorem Aq {x0 : Nat} : (¬(((x0:Nat):Int)<(0:Int))):=Int.not_ofNat_neg x0
theorem xa : (¬((1:Nat)>(30:Nat))):=by decide
theorem zh {x0 : Int} : (¬((x0+(1:Int))=x0)):=by simp +arith
end
section
theorem EC {α : Type} {M : Model} {A : Around} {t f : Sem α} {P : α->Shared->Prop} {E : Value->Shared->Prop} {s : Shared} (h : wpAny M A f P E s) : wpAny M A (if false = true then t else f) P E s:=h
theorem EA {α : Type} {M : Model} {A : Around} {t f : Sem α} {P : α->Shared->Prop} {E : Value->Shared->Prop} {s : Shared} (h : wpAny M A t P E s) : wpAny M A (if true = true then t else f) P E s:=h
theorem oG {α : Type} {M : Model} {A : Around} {c : Prop} [Decidable c] {t f : Sem α} {P : α->Shared->Prop} {E : Value->Shared->Prop} {s : Shared} (hc : c) (h : wpAny M A t P E s) : wpAny M A (if c then t else f) P E s:=by rw [if_pos hc]; exact h
theorem eA {α : Type} {M : Model} {A : Around} {c : Prop} [Decidable c] {t f : Sem α} {P : α->Shared->Prop} {E : Value->Shared->Prop} {s : Shared} (hc : ¬c) (h : wpAny M A f P E s) : wpAny M A (if c then t else f) P E s:=by rw [if_neg hc]; exact h
theorem eF {α : Type} {M : Model} {A : Around} {t t' : Sem α} {P : α->Shared->Prop} {E : Value->Shared->Prop} {s : Shared} (e : t = t') (h : wpAny M A t' P E s) : wpAny M A t P E s:=by rw [e]; exact h
end
section
theorem dX {xs : Array Nat} {d : Nat} (hs : xs.toList.Pairwise (· < ·)) {i k : Nat} (hik : i < k) (hk : k < xs.size) : xs.getD i d < xs.getD k d:=by
 have:=List.pairwise_iff_getElem.mp hs i k (by simp; exact sV hik hk) (by simpa using hk) hik
 simpa [Array.getD,hk,Nat.lt_trans hik hk] using this
theorem qU (xs : Array Nat) (j : Nat) (hs : xs.toList.Pairwise (· < ·)) : ∀ fuel lo hi,lo<=hi->hi<=xs.size->hi - lo<=fuel->
  (∀ i,i < lo->xs.getD i j < j)->(∀ i,hi<=i->i < xs.size->j<=xs.getD i j)->
  SetTable.below.go xs j fuel lo hi<=xs.size/\(∀ i,i < SetTable.below.go xs j fuel lo hi->xs.getD i j < j)/\(∀ i,SetTable.below.go xs j fuel lo hi<=i->i < xs.size->j<=xs.getD i j):=by
 intro fuel
 induction fuel with
 | zero=>
  intro lo hi h1 h2 h3 h4 h5
  have : lo = hi:=by exact yx h3 h1
  clear h1 h3; subst this
  unfold SetTable.below.go
  exact ⟨h2,h4,h5⟩
 | succ n ih=>
  intro lo hi h1 h2 h3 h4 h5
  unfold SetTable.below.go
  by_cases hl : lo < hi
  ·refine aa (if_pos hl) ?_
   dsimp only
   have hm1 : lo<=(lo + hi) / 2:=by exact yz hl
   have hm2 : (lo + hi) / 2 < hi:=by exact yP hl
   by_cases hv : xs.getD ((lo + hi) / 2) j < j
   ·refine aa (if_pos hv) ?_
    refine ih _ _ (by exact Cf hm2) h2 (by exact v6 h3) (fun i hi'=>?_) h5
    by_cases e : i = (lo + hi) / 2
    ·refine aa (e ..) ?_; exact hv
    ·exact Nat.lt_trans (dX hs (show i < (lo + hi) / 2 by exact wT hi' e) (by exact Dp hm2 h2)) hv
   ·refine aa (if_neg hv) ?_
    refine ih _ _ hm1 (by exact BN hm2 h2) (by exact xN h3) h4 fun i hi' hi2=>?_
    by_cases e : i = (lo + hi) / 2
    ·refine aa (e ..) ?_; exact iB hv
    ·have:=dX (d:=j) hs (show (lo + hi) / 2 < i by exact BY hi' e) hi2
     exact Au this hv
  ·refine aa (if_neg hl) ?_
   have : lo = hi:=by exact wY h1 hl
   clear h1 h3 hl; subst this
   exact ⟨h2,h4,h5⟩
theorem iG (xs : Array Nat) (j : Nat) (hs : xs.toList.Pairwise (· < ·)) :
  SetTable.below xs j<=xs.size/\(∀ i,i < SetTable.below xs j->xs.getD i j < j)/\(∀ i,SetTable.below xs j<=i->i < xs.size->j<=xs.getD i j):=
 qU xs j hs _ _ _ (Nat.zero_le _) (Nat.le_refl _) (by exact zd) (fun i h=>absurd h (Nat.not_lt_zero _)) (fun i h1 h2=>absurd h2 (by exact yH h1))
theorem kS {xs : Array Nat} {j : Nat} (hs : xs.toList.Pairwise (· < ·)) (hj : xs[SetTable.below xs j]?≠some j) :
  (SetTable.insertAt xs (SetTable.below xs j) j).toList.Pairwise (· < ·):=by
 obtain ⟨h1,h2,h3⟩:=iG xs j hs
 generalize SetTable.below xs j = p at h1 h2 h3 hj
 refine aa (SetTable.toList_insertAt ..) (aa (propext (List.pairwise_append ..)) (aa (propext (List.pairwise_cons ..)) ?_))
 have ht : ∀ a∈xs.toList.take p,a < j:=by
  intro a ha
  obtain ⟨i,hi,e⟩:=List.getElem_of_mem ha
  rw [List.length_take] at hi
  have:=h2 i (by exact zc hi)
  have hi2 : i < xs.size:=by simp at hi; exact zx hi
  simp [Array.getD,hi2] at this
  simp at e
  exact zj this e
 have hd : ∀ b∈xs.toList.drop p,j < b:=by
  intro b hb
  obtain ⟨i,hi,e⟩:=List.getElem_of_mem hb
  rw [List.length_drop] at hi
  have hi2 : p + i < xs.size:=by simp at hi; exact xR hi
  have h4:=h3 (p + i) (by exact Af) hi2
  simp [Array.getD,hi2] at h4
  simp at e
  rw [e] at h4
  refine Nat.lt_of_le_of_ne h4 fun q=>?_
  clear hb h4; subst q
  by_cases hi0 : i = 0
  ·clear hi; subst hi0
   apply hj
   simp at hi2
   refine aa (Array.getElem?_eq_getElem hi2) ?_
   simpa using e
  ·have:=dX (d:=j) hs (show p < p + i by exact Ac hi0) hi2
   have h5:=h3 p (Nat.le_refl _) (by exact tX hi2)
   simp [Array.getD,hi2] at this
   rw [e] at this
   have hp2 : p < xs.size:=by exact tX hi2
   simp [Array.getD,hp2] at this h5
   exact p8 this h5
 exact ⟨hs.sublist (List.take_sublist _ _),⟨hd,hs.sublist (List.drop_sublist _ _)⟩,fun a ha b hb=>by
  rcases List.mem_cons.mp hb with rfl | hb
  ·exact ht a ha
  ·exact Nat.lt_trans (ht a ha) (hd b hb)⟩
theorem dz {α : Type} (xs : Array α) (p : Nat) : (SetTable.eraseAt xs p).toList = xs.toList.take p ++ xs.toList.drop (p + 1):=by
 simp [SetTable.eraseAt,List.extract_eq_take_drop,List.take_of_length_le]
theorem kt {α : Type} (xs : Array α) (p : Nat) : (SetTable.eraseAt xs p).toList.Sublist xs.toList:=by
 refine aa (dz ..) ?_
 conv=>rhs; rw [<-List.take_append_drop p xs.toList]
 refine List.Sublist.append (List.Sublist.refl _) ?_
 refine aa (Eq.symm (List.drop_drop ..)) ?_
 exact List.drop_sublist _ _
theorem cS {α : Type} (xs : Array α) (p : Nat) (x : α) : (SetTable.insertAt xs p x).size = xs.size + 1:=by
 have:=(SetTable.insertAt_perm xs p x).length_eq
 simpa using this
theorem ej {α : Type} (xs : Array α) (p : Nat) (hp : p < xs.size) : (SetTable.eraseAt xs p).size + 1 = xs.size:=by
 have:=congrArg List.length (dz xs p)
 simp at this
 exact yE hp this
def gJ (m : Nat) : Nat->Nat->Nat->Nat->Nat->List Nat
 | 0,_,_,_,_=>[]
 | f + 1,j,more,i,pt=>
  j :: (if more > 0 then gJ m f (j + 1) (more - 1) i pt else
   let q:=SetTable.leap m i pt
   gJ m f q.1 (SetTable.runEnd m q.1 - q.1) q.1 q.2)
def rP (m : Nat) (h : Int) : List Nat:=
 let p:=SetTable.probeStart { mask:=m,place:=#[],dummies:=#[],finger:=0,led:=true,moves:=0,plain:=true } h
 gJ m (10 * SetTable.turns m) p.j p.more p.i p.perturb
def aA : List Int:=[-1,0,1,2,3,4,5]
theorem pC : ∀ m∈[7,15,31],∀ x∈aA,∀ j∈List.range (m + 1),(rP m (hashInt x)).contains j = true:=by decide +kernel
theorem m7 (t : SetTable) (h : Int) : ∀ fuel (p : SetTable.Probe),(∃ j∈gJ t.mask fuel p.j p.more p.i p.perturb,t.slot j = .empty)->(∀ d,p.dummy = some d->t.slot d = .dummy)->
  ∃ j d,SetTable.probe.go t (fun _=>h + 1) h fuel p = some (.empty j d)/\t.slot j = .empty/\(∀ k,d = some k->t.slot k = .dummy):=by
 intro fuel
 induction fuel with
 | zero=>intro p ⟨j,hj,_⟩; simp [gJ] at hj
 | succ n ih=>
  intro p ⟨j,hj,he⟩ hd
  unfold SetTable.probe.go
  cases hs : t.slot p.j with
  | empty=>exact ⟨_,_,rfl,hs,hd⟩
  | dummy=>
   dsimp only
   refine ih _ ?_ ?_
   ·refine ⟨j,?_,he⟩
    rw [gJ] at hj
    rcases List.mem_cons.mp hj with rfl | hj
    ·rw [hs] at he; exact nomatch he
    ·unfold SetTable.advance
     split at hj
     ·rename_i hm; refine aa (if_pos hm) ?_; exact hj
     ·rename_i hm; refine aa (if_neg hm) ?_; exact hj
   ·intro d hdd
    unfold SetTable.advance at hdd
    split at hdd<;>(cases hdd; exact hs)
  | live i=>
   dsimp only
   have hne : ((h + 1 : Int) == h) = false:=by simp; exact zh
   refine aa (hne ..) ?_
   simp only [Bool.false_eq_true,if_false]
   refine ih _ ?_ ?_
   ·refine ⟨j,?_,he⟩
    rw [gJ] at hj
    rcases List.mem_cons.mp hj with rfl | hj
    ·rw [hs] at he; contradiction
    ·unfold SetTable.advance
     split at hj
     ·rename_i hm; refine aa (if_pos hm) ?_; exact hj
     ·rename_i hm; refine aa (if_neg hm) ?_; exact hj
   ·intro d hdd
    unfold SetTable.advance at hdd
    split at hdd<;>exact hd d hdd
theorem vc : ∀ (n : Nat) (L : List Nat),(∀ j,j < n->j∈L)->n<=L.length:=by
 intro n
 induction n with
 | zero=>intro L _; exact Nat.zero_le _
 | succ n ih=>
  intro L h
  have hm:=h n (Nat.lt_succ_self _)
  have h2:=ih (L.erase n) fun j hj=>(List.mem_erase_of_ne (by exact yq hj)).mpr (h j (by exact sC hj))
  rw [List.length_erase_of_mem hm] at h2
  have : 0 < L.length:=List.length_pos_of_mem hm
  exact rN this h2
theorem fF (t : SetTable) (j : Nat) : (t.slot j = .empty/\t.place[SetTable.below t.place j]?≠some j)\/(t.slot j = .dummy/\t.place[SetTable.below t.place j]?≠some j/\SetTable.has t.dummies j = true/\j∈t.dummies.toList)\/(∃ i,t.slot j = .live i/\j∈t.place.toList):=by
 unfold SetTable.slot
 dsimp only
 by_cases h1 : (t.place[SetTable.below t.place j]? == some j) = true
 ·refine .inr (.inr ⟨_,if_pos h1,?_⟩)
  exact Array.mem_toList_iff.mpr (Array.mem_of_getElem? (by simpa using h1))
 ·have h1' : t.place[SetTable.below t.place j]?≠some j:=by simpa using h1
  refine aa (if_neg h1) ?_
  by_cases h2 : SetTable.has t.dummies j = true
  ·refine .inr (.inl ⟨if_pos h2,h1',h2,?_⟩)
   unfold SetTable.has at h2
   exact Array.mem_toList_iff.mpr (Array.mem_of_getElem? (by simpa using h2))
  ·exact .inl ⟨if_neg h2,h1'⟩
structure bI (bt : Bool) (t : SetTable) (n : Nat) : Prop where
 size : t.place.size = n
 rise : t.place.toList.Pairwise (· < ·)
 few : t.fill * 5 < t.mask * 3
 mask : t.mask∈[7,15,31]
 plain : t.plain = true
 led : t.led = !bt
theorem bI.fits {bt : Bool} {t : SetTable} {n : Nat} (T : bI bt t n) : t.fits n = true:=by
 have:=T.few
 simp [SetTable.fits,T.size]
 exact C8 this
theorem r5 {bt : Bool} {t : SetTable} {n : Nat} (T : bI bt t n) {x : Int} (hx : x∈aA) :
  ∃ j wd,t.freeSlot (hashInt x) = some (j,wd)/\t.place[SetTable.below t.place j]?≠some j/\(wd = true->SetTable.has t.dummies j = true):=by
 have hfew:=T.few
 have hex : ∃ j,j < t.mask + 1/\t.slot j = .empty:=by
  refine Classical.byContradiction fun hn=>?_
  have:=vc (t.mask + 1) (t.place.toList ++ t.dummies.toList) fun j hj=>by
   rcases fF t j with ⟨h,_⟩ | ⟨_,_,_,h⟩ | ⟨_,_,h⟩
   ·exact absurd ⟨j,hj,h⟩ hn
   ·exact List.mem_append_right _ h
   ·exact List.mem_append_left _ h
  rw [List.length_append,Array.length_toList,Array.length_toList] at this
  unfold SetTable.fill at hfew
  exact CL hfew this
 refine bc fun GG=>?_
 obtain ⟨j,hj,he⟩:=hex
 refine GG ?_
 have htr:=pC t.mask T.mask x hx j (List.mem_range.mpr hj)
 rw [List.contains_iff_mem] at htr
 have hstart : ∃ j∈gJ t.mask (10 * SetTable.turns t.mask) (t.probeStart (hashInt x)).j (t.probeStart (hashInt x)).more (t.probeStart (hashInt x)).i (t.probeStart (hashInt x)).perturb,t.slot j = .empty:=⟨j,htr,he⟩
 refine bc fun GG=>?_
 obtain ⟨j1,d,e1,e2,e3⟩:=m7 t (hashInt x) _ _ hstart (fun d hd=>by simp [SetTable.probeStart] at hd)
 refine GG ?_
 unfold SetTable.freeSlot SetTable.probe
 refine aa (e1 ..) ?_
 dsimp only
 cases d with
 | none=>
  refine ⟨j1,false,rfl,?_,fun q=>by exact nomatch q⟩
  rcases fF t j1 with ⟨_,h⟩ | ⟨h,_⟩ | ⟨_,h,_⟩
  ·exact h
  ·rw [e2] at h; exact nomatch h
  ·rw [e2] at h; contradiction
 | some k=>
  have hk:=e3 k rfl
  rcases fF t k with ⟨h,_⟩ | ⟨_,h,h2,_⟩ | ⟨_,h,_⟩
  ·rw [hk] at h; exact nomatch h
  ·exact ⟨k,true,rfl,h,fun _=>h2⟩
  ·rw [hk] at h; contradiction
inductive uV (bt : Bool) (t : SetTable) (es : Array (Int × Value)) (x : Int) (v : Value) : Prop
 | mk (es' : Array (Int × Value)) (t' : SetTable) (wd : Bool) (hl : layNew t es (hashInt x) v = (es',t',wd,false)) (hp : es'.toList.Perm (es.toList ++ [(hashInt x,v)])) (hz : t'.place.size = es'.size) (hz1 : es'.size = es.size + 1) (hr : t'.place.toList.Pairwise (· < ·))
  (hf : t'.fill<=t'.mask) (hm : t'.mask = t.mask) (hpl : t'.plain = true) (hle : t'.led = !bt) (hd : wd = true->t'.fill * 5 < t'.mask * 3)
theorem o5 {bt : Bool} {t : SetTable} {es : Array (Int × Value)} (T : bI bt t es.size) {x : Int} (hx : x∈aA) (v : Value) : uV bt t es x v:=by
 refine bc fun GG=>?_
 obtain ⟨j,wd,hf,hj,hw⟩:=r5 T hx
 refine GG ?_
 have hfew:=T.few
 have hsz : t.place.size = es.size:=T.size
 have e1 : (SetTable.insertAt t.place (SetTable.below t.place j) j).size = es.size + 1:=by exact aa (cS ..) (aa (hsz ..) rfl)
 have e2 : (SetTable.insertAt es (SetTable.below t.place j) (hashInt x,v)).size = es.size + 1:=cS _ _ _
 have hfill : (t.put j).1.fill<=t.fill + 1/\(SetTable.has t.dummies j = true->(t.put j).1.fill = t.fill):=by
  unfold SetTable.put SetTable.fill
  dsimp only
  refine aa (cS ..) ?_
  split
  ·rename_i hh
   have hb : SetTable.below t.dummies j < t.dummies.size:=by
    unfold SetTable.has at hh
    refine Classical.byContradiction fun q=>?_
    rw [Array.getElem?_eq_none (by exact iB q)] at hh
    exact nomatch hh
   have:=ej t.dummies _ hb
   exact ⟨by exact Bo this,fun _=>by exact CT this⟩
  ·rename_i hh
   exact ⟨by exact Aw,fun q=>absurd q hh⟩
 have hmask : (t.put j).1.mask = t.mask:=rfl
 have hfits : (t.put j).1.fits (es.size + 1) = true:=by
  have h3 : (t.put j).1.place.size = es.size + 1:=e1
  simp only [SetTable.fits,Bool.and_eq_true,beq_iff_eq,decide_eq_true_eq]
  refine aa (h3 ..) (aa (hmask ..) ?_)
  exact ⟨rfl,by exact zg hfew hfill⟩
 refine ⟨SetTable.insertAt es (SetTable.below t.place j) (hashInt x,v),(t.put j).1,wd,?_,?_,?_,e2,?_,?_,hmask,T.plain,T.led,?_⟩
 ·unfold layNew
  refine aa (hf ..) ?_
  show (_,(t.put j).1.orStandIn (SetTable.insertAt es (SetTable.below t.place j) (hashInt x,v)).size,wd,!(t.put j).1.fits (SetTable.insertAt es (SetTable.below t.place j) (hashInt x,v)).size) = _
  refine aa (e2 ..) (aa (hfits ..) ?_)
  unfold SetTable.orStandIn
  refine aa (if_pos hfits) ?_
  rfl
 ·have:=SetTable.insertAt_perm es (SetTable.below t.place j) (hashInt x,v)
  rwa [Array.toList_push] at this
 ·exact e1.trans e2.symm
 ·exact kS T.rise hj
 ·refine aa (hmask ..) ?_; have:=hfill.1; exact zg hfew hfill
 ·intro q; refine aa (hmask ..) (aa (hfill.2 (hw q)) ?_); exact hfew
theorem sf {bt : Bool} {t : SetTable} {n i : Nat} (T : bI bt t (n + 1)) (hi : i < n + 1) : bI bt (t.drop i) n:=by
 have hs:=T.size
 have hi2 : i < t.place.size:=by exact yf hi hs
 have hd : t.drop i = { t with place:=SetTable.eraseAt t.place i,dummies:=SetTable.insertAt t.dummies (SetTable.below t.dummies (t.place[i])) (t.place[i]) }:=by
  unfold SetTable.drop
  exact aa (Array.getElem?_eq_getElem hi2) rfl
 have h1:=ej t.place i hi2
 refine aa (hd ..) ?_
 refine ⟨?_,T.rise.sublist (kt _ _),?_,T.mask,T.plain,T.led⟩
 ·dsimp only; exact B4 h1 hs
 ·have:=T.few
  unfold SetTable.fill at this ⊢
  dsimp only
  refine aa (cS ..) ?_
  exact Bw this h1
def cE (m : Nat) (h : Int) : Nat:=SetTable.bits h % (m + 1)
theorem qO : ∀ m∈[7,15,31],∀ x∈aA,∀ y∈aA,cE m (hashInt x) = cE m (hashInt y)->x = y:=by decide +kernel
theorem kU : ∀ (l : List (Option Nat)) (i k : Nat),l[i]? = some none->((l.set i (some k)).filterMap id).Perm (k :: l.filterMap id)
 | [],i,k,h=>by simp at h
 | o :: l,0,k,h=>by
  simp at h; subst h
  rfl
 | o :: l,i + 1,k,h=>by
  simp at h
  have ih:=kU l i k h
  cases o with
  | none=>assumption
  | some y=>
   simp only [List.set_cons_succ,List.filterMap_cons,id]
   exact (ih.cons y).trans (List.Perm.swap _ _ _)
theorem pG {m : Nat} {owner : Array (Option Nat)} {h : Int} (ho : owner[cE m h]? = some none) :
  SetTable.layClean.free m owner (SetTable.turns m) (SetTable.bits h % (m + 1)) (SetTable.bits h) = some (cE m h):=by
 have e : SetTable.turns m = (m + 14) + 1:=rfl
 refine aa (e ..) ?_
 unfold SetTable.layClean.free
 have h0 : ∃ r,SetTable.runEnd m (SetTable.bits h % (m + 1)) + 1 - SetTable.bits h % (m + 1) = r + 1:=by
  unfold SetTable.runEnd
  split
  ·exact ⟨9,by exact yT⟩
  ·exact ⟨0,by exact zf⟩
 obtain ⟨r,hr⟩:=h0
 refine aa (hr ..) (aa (List.range_succ_eq_map ..) (aa (List.find?_cons) ?_))
 have hg : (owner.getD (SetTable.bits h % (m + 1) + 0) (some 0)).isNone = true:=by
  unfold cE at ho
  refine aa (Nat.add_zero ..) (aa (Array.getD_eq_getD_getElem?) (aa (ho ..) ?_)); rfl
 refine aa (hg ..) ?_
 rfl
theorem kK (m : Nat) : ∀ (hs : List Int) (owner : Array (Option Nat)) (k : Nat),owner.size = m + 1->(∀ h∈hs,owner[cE m h]? = some none)->(hs.map (cE m)).Nodup->
  ∃ ow,hs.foldl (init:=some (owner,k)) (fun acc h=>do
   let (owner,k) <-acc
   let j <-SetTable.layClean.free m owner (SetTable.turns m) (SetTable.bits h % (m + 1)) (SetTable.bits h)
   pure (owner.setIfInBounds j (some k),k + 1)) = some (ow,k + hs.length)/\ow.size = m + 1/\(ow.toList.filterMap id).Perm (owner.toList.filterMap id ++ List.range' k hs.length)
 | [],owner,k,h1,h2,h3=>⟨owner,rfl,h1,by simp⟩
 | h :: hs,owner,k,h1,h2,h3=>by
  have hh:=h2 h (.head _)
  rw [List.map_cons,List.nodup_cons] at h3
  have hne : ∀ g∈hs,cE m g≠cE m h:=fun g hg e=>h3.1 (e▸List.mem_map_of_mem hg)
  refine bc fun GG=>?_
  obtain ⟨ow,a1,a2,a3⟩:=kK m hs (owner.setIfInBounds (cE m h) (some k)) (k + 1) (by simp [h1]) (fun g hg=>by
   refine aa (Array.getElem?_setIfInBounds_ne (fun e=>hne g hg e.symm)) ?_; exact h2 g (.tail _ hg)) h3.2
  refine GG ?_
  refine ⟨ow,?_,a2,?_⟩
  ·refine aa (List.foldl_cons ..) ?_
   have e : (do
     let (owner,k) <-some (owner,k)
     let j <-SetTable.layClean.free m owner (SetTable.turns m) (SetTable.bits h % (m + 1)) (SetTable.bits h)
     pure (owner.setIfInBounds j (some k),k + 1)) = some (owner.setIfInBounds (cE m h) (some k),k + 1):=by
    show (SetTable.layClean.free m owner (SetTable.turns m) (SetTable.bits h % (m + 1)) (SetTable.bits h) >>=fun j=>pure (owner.setIfInBounds j (some k),k + 1)) = _
    refine aa (pG hh) ?_
    rfl
   refine aa (e ..) (aa (a1 ..) (aa (List.length_cons ..) ?_))
   congr 2
   exact vX
  ·refine a3.trans ?_
   have hp:=kU owner.toList (cE m h) k (by simpa using hh)
   refine aa (Array.toList_setIfInBounds ..) (aa (List.length_cons ..) (aa (List.range'_succ ..) ?_))
   refine (hp.append_right _).trans ?_
   exact (List.perm_middle (a:=k) (l₁:=owner.toList.filterMap id) (l₂:=List.range' (k + 1) hs.length)).symm
theorem kN (ow : Array (Option Nat)) : (List.range ow.size).filterMap (fun j=>ow.getD j none) = ow.toList.filterMap id:=by
 have e : ow.toList = (List.range ow.size).map fun j=>ow.getD j none:=by
  apply List.ext_getElem
  ·simp
  ·intro i h1 h2
   simp at h1
   simp [Array.getD,h1]
 refine aa (e ..) (aa (List.filterMap_map ..) ?_)
 rfl
inductive BI (m f mv : Nat) (led pl : Bool) (hashes : Array Int) (n : Nat) : Prop
 | mk (t : SetTable) (order : Array Nat) (h : SetTable.laid m f mv led pl hashes = some (t,order)) (p : order.toList.Perm (List.range n)) (z : t.place.size = n) (r : t.place.toList.Pairwise (· < ·)) (d : t.dummies = #[]) (hm : t.mask = m) (hl : t.led = led) (hp : t.plain = pl)
theorem r7 {m : Nat} (hm : m∈[7,15,31]) (f mv : Nat) (led pl : Bool) {hashes : Array Int} {xs : List Int} (hh : hashes.toList = xs.map hashInt) (hx : ∀ x∈xs,x∈aA) (hn : xs.Nodup) : BI m f mv led pl hashes xs.length:=by
 have hnd : ((xs.map hashInt).map (cE m)).Nodup:=by
  rw [List.map_map,List.Nodup,List.pairwise_map]
  refine List.Pairwise.imp_of_mem ?_ hn
  intro a b ha hb hne e
  exact hne (qO m hm a (hx a ha) b (hx b hb) e)
 refine bc fun GG=>?_
 obtain ⟨ow,a1,a2,a3⟩:=kK m (xs.map hashInt) (Array.replicate (m + 1) none) 0 (by simp) (fun h _=>by
  have hb : cE m h < m + 1:=Nat.mod_lt _ (Nat.succ_pos _)
  simp [hb]) hnd
 refine GG ?_
 have hlay : SetTable.layClean m hashes = some ow:=by
  unfold SetTable.layClean
  refine aa (Eq.symm (Array.foldl_toList ..)) (aa (hh ..) (aa (a1 ..) ?_))
  rfl
 have horder : ((List.range (m + 1)).filterMap fun j=>(ow.getD j none).map (j,·)).map (·.2) = ow.toList.filterMap id:=by
  refine aa (List.map_filterMap ..) (aa (Eq.symm (kN ..)) (aa (a2 ..) ?_))
  congr 1
  funext j
  cases ow.getD j none<;>rfl
 have hperm : (((List.range (m + 1)).filterMap fun j=>(ow.getD j none).map (j,·)).map (·.2)).Perm (List.range xs.length):=by
  refine aa (horder ..) ?_
  have h0 : (Array.replicate (m + 1) (none : Option Nat)).toList.filterMap id = []:=by
   refine aa (Array.toList_replicate ..) (aa (propext (List.filterMap_eq_nil_iff ..)) ?_)
   intro a ha
   refine aa (List.eq_of_mem_replicate ha) ?_
   rfl
  rw [h0,List.nil_append,List.length_map] at a3
  refine aa (List.range_eq_range' ..) ?_
  exact a3
 refine ⟨{ mask:=m,place:=(((List.range (m + 1)).filterMap fun j=>(ow.getD j none).map (j,·)).map (·.1)).toArray,dummies:=#[],finger:=f,led,moves:=mv,plain:=pl },
  (((List.range (m + 1)).filterMap fun j=>(ow.getD j none).map (j,·)).map (·.2)).toArray,?_,?_,?_,?_,rfl,rfl,rfl,rfl⟩
 ·unfold SetTable.laid
  refine aa (hlay ..) ?_
  rfl
 ·exact hperm
 ·have:=hperm.length_eq
  simpa using this
 ·show List.Pairwise (· < ·) (((List.range (m + 1)).filterMap fun j=>(ow.getD j none).map (j,·)).map (·.1)).toArray.toList
  refine aa (propext (List.pairwise_map ..)) ?_
  refine List.Pairwise.filterMap _ ?_ List.pairwise_lt_range
  intro a b hab p hp q hq
  cases ha : ow.getD a none with
  | none=>rw [ha] at hp; contradiction
  | some u=>
   cases hb : ow.getD b none with
   | none=>rw [hb] at hq; contradiction
   | some v=>
    rw [ha] at hp; rw [hb] at hq
    cases hp; cases hq
    exact hab
theorem gr : ∀ (xs L : List Int),xs.Nodup->(∀ x∈xs,x∈L)->xs.length<=L.length
 | [],L,_,_=>Nat.zero_le _
 | x :: xs,L,hn,h=>by
  rw [List.nodup_cons] at hn
  have hx:=h x (.head _)
  have ih:=gr xs (L.erase x) hn.2 fun y hy=>(List.mem_erase_of_ne (fun e : y = x=>hn.1 (by refine aa (Eq.symm (e ..)) ?_; exact hy))).mpr (h y (.tail _ hy))
  rw [List.length_erase_of_mem hx] at ih
  have:=List.length_pos_of_mem hx
  simp only [List.length_cons]
  exact rN this ih
theorem w0 {xs : List Int} (hn : xs.Nodup) (hx : ∀ x∈xs,x∈aA) : xs.length<=7:=by
 exact gr xs aA hn hx
theorem ng : ∀ n∈List.range 8,n = 0\/(SetTable.sizeAbove (SetTable.grown n) - 1∈[7,15,31]/\n * 5 < (SetTable.sizeAbove (SetTable.grown n) - 1) * 3):=by decide +kernel
theorem pc : ∀ n∈List.range 8,∀ k∈List.range 8,SetTable.sizeAbove ((n + k) * 2) - 1∈[7,15,31]/\n * 5 < (SetTable.sizeAbove ((n + k) * 2) - 1) * 3/\(n + k) * 5 < (SetTable.sizeAbove ((n + k) * 2) - 1) * 3/\SetTable.sizeAbove ((n + k) * 2)<=32:=by decide +kernel
end
section
inductive AV where
 | none | bool (b : Bool) | int (i : Int) | str (s : Str) | ref (a : Addr) | other
def av : Value->AV
 | .none=>.none | .bool b=>.bool b | .int i _=>.int i | .str s _=>.str s | .ref a=>.ref a | _=>.other
inductive AO where
 | list (xs : List AV) | tuple (xs : List AV) | set (xs : List Int) | dict (es : List (Int × AV)) | inst (C dx : Addr) | attrs (es : List (Str × AV)) | range (n : Int)
abbrev ag:=Addr->Option AO
abbrev aS:=Str->Option AV
def an (H : ag) (a : Addr) (o : AO) : ag:=fun b=>if b = a then some o else H b
def put (m : aS) (x : Str) (v : AV) : aS:=fun y=>if y = x then some v else m y
theorem ad (H : ag) (a : Addr) (o : AO) : an H a o a = some o:=if_pos rfl
theorem aj {H : ag} {a b : Addr} {o : AO} (h : b≠a) : an H a o b = H b:=if_neg h
theorem fU (m : aS) (x : Str) (v : AV) : put m x v x = some v:=if_pos rfl
theorem f8 {m : aS} {x y : Str} {v : AV} (h : y≠x) : put m x v y = m y:=if_neg h
structure Cx where
 prog : Program
 w : World
 K : Frag
 mg : Str->Option Value
 mb : Str->Option Value
 h₀ : Heap
 os : OsState
 ro : Addr
 roItems : List Value
 X : K.In h₀
 G : h₀.Ns mainGlobals mg
 B : h₀.Ns builtinsNs mb
 bi : ∀ x : Str,x≠"__name__"->mb x = bootBuiltins x
 lim : h₀.NoLimit
 roIs : h₀.IsList ro roItems.toArray
def Cx.byText (c : Cx) : Bool:=c.w.params.followText "set-order"
def qw : Value->Option Int
 | .int i _=>some i
 | _=>none
def bd (es : Array (Int × Value)) (ks : List Int) : Prop:=es.toList.map (fun e=>(e.1,av e.2)) = ks.map (fun k=>(hashInt k,AV.int k))
theorem bd.size {es : Array (Int × Value)} {ks : List Int} (h : bd es ks) : es.size = ks.length:=by
 have:=congrArg List.length h
 simpa using this
def rE (byText : Bool) (h : Heap) (a : Addr) (xs : List Int) : Prop:=
 ∃ es n t ks,h.get? a = some { cls:=.type "set",dict:=none,data:=.set es n t,slots:=#[] }/\bI byText t es.size/\bd es ks/\ks.Perm xs/\xs.Pairwise (· < ·)/\∀ x∈xs,x∈aA
theorem aF {u : Value} {i : Int} (h : av u = .int i) : ∃ t,u = .int i t:=by
 cases u<;>first | exact AV.noConfusion h | exact ⟨_,congrArg (Value.int · _) (AV.int.inj h)⟩
theorem jU {u : Value} {i : Str} (h : av u = .str i) : ∃ t,u = .str i t:=by
 cases u<;>first | exact AV.noConfusion h | exact ⟨_,congrArg (Value.str · _) (AV.str.inj h)⟩
theorem jD {u : Value} {b : Bool} (h : av u = .bool b) : u = .bool b:=by
 cases u<;>first | exact AV.noConfusion h | exact congrArg Value.bool (AV.bool.inj h)
theorem aB {u : Value} {a : Addr} (h : av u = .ref a) : u = .ref a:=by
 cases u<;>first | exact AV.noConfusion h | exact congrArg Value.ref (AV.ref.inj h)
theorem so {u : Value} (h : av u = .none) : u = .none:=by
 cases u<;>first | exact AV.noConfusion h | rfl
def HR (c : Cx) (h : Heap) (a : Addr) : AO->Prop
 | .list xs=>∃ items n,IsL h a items n/\items.toList.map av = xs
 | .tuple xs=>∃ items n,h.get? a = some { cls:=.type "tuple",dict:=none,data:=.seq items n,slots:=#[] }/\items.toList.map av = xs
 | .set xs=>rE c.byText h a xs
 | .dict es=>a≠sysModules/\∃ kvs,h.DictOf (intKind c.prog c.w) a kvs/\kvs.map (fun kv=>(kv.1,av kv.2)) = es
 | .inst C dx=>h.get? a = some { cls:=.ref C,dict:=some dx,data:=.plain,slots:=#[] }
 | .attrs es=>∃ des n,h.get? a = some (dictOf des n)/\(∀ e∈des,∃ x t,e.key = .str x t)/\(des.map fun e=>(match e.key with | .str x _=>x | _=>Str.empty,av e.val)) = es/\des.length<=100
 | .range n=>∃ t u v,IsRange h a 0 n 1 t u v
theorem HR.of_get {c : Cx} {h h' : Heap} {a : Addr} (e : h'.get? a = h.get? a) {o : AO} (x : HR c h a o) : HR c h' a o:=by
 cases o with
 | list _=>exact Exists.elim x fun i x=>Exists.elim x fun n x=>⟨i,n,e.trans x.1,x.2⟩
 | tuple _=>exact Exists.elim x fun i x=>Exists.elim x fun n x=>⟨i,n,e.trans x.1,x.2⟩
 | set _=>exact Exists.elim x fun i x=>Exists.elim x fun n x=>Exists.elim x fun t x=>Exists.elim x fun k x=>⟨i,n,t,k,e.trans x.1,x.2⟩
 | dict _=>exact Exists.elim x.2 fun k y=>Exists.elim y.1 fun o z=>Exists.elim z fun es z=>Exists.elim z fun ep z=>⟨x.1,k,⟨o,es,ep,e.trans z.1,z.2⟩,y.2⟩
 | inst _ _=>exact e.trans x
 | attrs _=>exact Exists.elim x fun i x=>Exists.elim x fun n x=>⟨i,n,e.trans x.1,x.2⟩
 | range _=>exact Exists.elim x fun i x=>Exists.elim x fun n x=>Exists.elim x fun t x=>⟨i,n,t,e.trans x⟩
theorem HR.there {c : Cx} {h : Heap} {a : Addr} {o : AO} (x : HR c h a o) : ∃ ob,h.get? a = some ob:=by
 cases o with
 | list _=>exact Exists.elim x fun _ x=>Exists.elim x fun _ x=>⟨_,x.1⟩
 | tuple _=>exact Exists.elim x fun _ x=>Exists.elim x fun _ x=>⟨_,x.1⟩
 | set _=>exact Exists.elim x fun _ x=>Exists.elim x fun _ x=>Exists.elim x fun _ x=>Exists.elim x fun _ x=>⟨_,x.1⟩
 | dict _=>exact Exists.elim x.2 fun _ x=>Exists.elim x.1 fun o x=>Exists.elim x fun _ x=>Exists.elim x fun _ x=>⟨o,x.1⟩
 | inst _ _=>exact ⟨_,x⟩
 | attrs _=>exact Exists.elim x fun _ x=>Exists.elim x fun _ x=>⟨_,x.1⟩
 | range _=>exact Exists.elim x fun _ x=>Exists.elim x fun _ x=>Exists.elim x fun _ x=>⟨_,x⟩
abbrev aZ:=Addr->Option Obj
structure aT (c : Cx) (g : aZ) (H : ag) (s : Shared) : Prop where
 base : ∀ b o,c.h₀.get? b = some o->g b = some o
 keep : ∀ b o,g b = some o->s.heap.get? b = some o
 rep : ∀ a o,H a = some o->HR c s.heap a o
 apart : ∀ a o,H a = some o->g a = none
 gens : s.gens = #[]
 os : s.os = c.os
def ce (H : ag) (s : Shared) : aZ:=fun b=>match H b with | none=>s.heap.get? b | some _=>none
namespace aT
variable {c : Cx} {g : aZ} {H : ag} {s : Shared}
theorem old (R : aT c g H s) : ∀ b o,c.h₀.get? b = some o->s.heap.get? b = some o:=fun b o e=>R.keep _ _ (R.base _ _ e)
theorem inH (R : aT c g H s) : c.K.In s.heap:=c.X.keeps R.old
theorem none_of_g (R : aT c g H s) {b : Addr} {o : Obj} (e : g b = some o) : H b = none:=by
 cases q : H b with
 | none=>rfl
 | some x=>have:=R.apart _ _ q; rw [e] at this; contradiction
theorem none_of_fresh (R : aT c g H s) {b : Addr} (hb : s.heap.objs.size<=b) : H b = none:=by
 cases q : H b with
 | none=>rfl
 | some x=>
  obtain ⟨ob,e⟩:=HR.there (R.rep _ _ q)
  exact absurd (Heap.lt_size e) (Nat.not_lt.mpr hb)
theorem le_rest (R : aT c g H s) : ∀ b o,g b = some o->ce H s b = some o:=fun b o e=>by
 unfold ce; refine aa (R.none_of_g e) ?_; exact R.keep _ _ e
theorem toRest (R : aT c g H s) : aT c (ce H s) H s:=
 ⟨fun b o e=>R.le_rest _ _ (R.base _ _ e),fun b o e=>(by unfold ce at e; split at e; exact e; contradiction),R.rep,fun a o e=>(by unfold ce; exact aa (e ..) rfl),R.gens,R.os⟩
theorem mono {g' : aZ} (R : aT c g' H s) (hb : ∀ b o,c.h₀.get? b = some o->g b = some o) (hg : ∀ b o,g b = some o->g' b = some o) : aT c g H s:=
 ⟨hb,fun b o e=>R.keep _ _ (hg _ _ e),R.rep,fun a o e=>(by
  cases q : g a with
  | none=>rfl
  | some x=>have:=R.apart _ _ e; rw [hg _ _ q] at this; exact nomatch this),R.gens,R.os⟩
theorem back {H' : ag} {s' : Shared} (R : aT c g H s) (R' : aT c (ce H s) H' s') : aT c g H' s':=R'.mono R.base R.le_rest
theorem tok (R : aT c g H s) (t : Nat) : aT c g H { s with toks:=t }:=⟨R.base,R.keep,R.rep,R.apart,R.gens,R.os⟩
theorem update {a : Addr} {o o' : AO} {h' : Heap} {tk : Nat} (R : aT c g H s) (ha : H a = some o) (hs : ∀ b,b≠a->h'.get? b = s.heap.get? b) (hr : HR c h' a o') :
  aT c g (an H a o') { s with heap:=h',toks:=tk }:=
 ⟨R.base,fun b ob e=>(by
   have : b≠a:=fun q=>by clear hs hr; subst q; have:=R.apart _ _ ha; rw [e] at this; exact nomatch this
   exact (hs b this).trans (R.keep _ _ e)),
  fun b ob e=>(by
   by_cases q : b = a
   ·clear ha hs; subst q; rw [ad] at e; cases e; exact hr
   ·rw [aj q] at e; exact (R.rep _ _ e).of_get (hs b q)),
  fun b ob e=>(by
   by_cases q : b = a
   ·clear hs hr e; subst q; exact R.apart _ _ ha
   ·rw [aj q] at e; exact R.apart _ _ e),R.gens,R.os⟩
theorem other {h' : Heap} {tk : Nat} (R : aT c g H s) (hg : ∀ b o,g b = some o->s.heap.get? b = some o->h'.get? b = some o) (hH : ∀ b o,H b = some o->h'.get? b = s.heap.get? b) :
  aT c g H { s with heap:=h',toks:=tk }:=
 ⟨R.base,fun b ob e=>hg _ _ e (R.keep _ _ e),fun b ob e=>(R.rep _ _ e).of_get (hH _ _ e),R.apart,R.gens,R.os⟩
theorem grow {h' : Heap} {tk : Nat} (R : aT c g H s) (hk : ∀ b o,s.heap.get? b = some o->h'.get? b = some o) : aT c g H { s with heap:=h',toks:=tk }:=
 R.other (fun b o _ e=>hk b o e) fun b o e=>by
  refine bc fun GG=>?_
  obtain ⟨ob,q⟩:=HR.there (R.rep _ _ e)
  refine GG ?_
  refine aa (q ..) ?_; exact hk _ _ q
theorem push (R : aT c g H s) (ob : Obj) : aT c g H { s with heap:=s.heap.push ob }:=R.grow (tk:=s.toks) fun _ _ e=>Heap.get?_push_of_some ob e
theorem alloc {a : Addr} {o' : AO} {h' : Heap} {tk : Nat} (R : aT c g H s) (ha : s.heap.get? a = none) (hk : ∀ b o,s.heap.get? b = some o->h'.get? b = some o) (hr : HR c h' a o') :
  aT c g (an H a o') { s with heap:=h',toks:=tk }:=by
 have hga : g a = none:=by
  cases q : g a with
  | none=>rfl
  | some x=>have:=R.keep _ _ q; rw [ha] at this; exact nomatch this
 refine ⟨R.base,fun b ob e=>hk _ _ (R.keep _ _ e),fun b ob e=>?_,fun b ob e=>?_,R.gens,R.os⟩
 ·by_cases q : b = a
  ·clear ha hga; subst q; rw [ad] at e; cases e; exact hr
  ·rw [aj q] at e
   obtain ⟨oo,h1⟩:=HR.there (R.rep _ _ e)
   exact (R.rep _ _ e).of_get ((hk _ _ h1).trans h1.symm)
 ·by_cases q : b = a
  ·clear ha hr e; subst q; exact hga
  ·rw [aj q] at e; exact R.apart _ _ e
theorem none_of_get (R : aT c g H s) {a : Addr} (ha : s.heap.get? a = none) : H a = none:=by
 cases q : H a with
 | none=>rfl
 | some x=>obtain ⟨ob,e⟩:=HR.there (R.rep _ _ q); rw [ha] at e; exact nomatch e
end aT
structure Rm (k : Nat) (A : Around) : Prop where
 hd : A.handled = none
 dep : A.depth + k < recursionLimit
 un : A.units + 10 * k + 40 < cLine
inductive jt (get : Addr->Option Obj) (l : Addr) (sc : Scope) (m : aS) : Prop
 | mk (o es ep) (h : get l = some o) (hd : o.data = .dict es ep) (hk : StrKeys es) (hf : ∀ x,sc.names.lookup x = some .local->(nsFind es x).map av = m x)
inductive oO (get : Addr->Option Obj) (env : Env) (m : aS) (x : Str) : Prop
 | mk (a o ov) (h : env.cells.lookup x = some a) (h2 : get a = some o) (hd : o.data = .cell ov) (hv : ov.map av = m x)
theorem jt.mono {get get' : Addr->Option Obj} {l : Addr} {sc : Scope} {m : aS} (h : jt get l sc m) (hg : ∀ o,get l = some o->get' l = some o) : jt get' l sc m:=by
 cases h with | mk o es ep h hd hk hf=>exact ⟨o,es,ep,hg _ h,hd,hk,hf⟩
theorem oO.mono {get get' : Addr->Option Obj} {env : Env} {m : aS} {x : Str} (h : oO get env m x) (hg : ∀ a o,env.cells.lookup x = some a->get a = some o->get' a = some o) : oO get' env m x:=by
 cases h with | mk a o ov h h2 hd hv=>exact ⟨a,o,ov,h,hg _ _ h h2,hd,hv⟩
theorem jt.get {get : Addr->Option Obj} {l : Addr} {sc : Scope} {m : aS} (h : jt get l sc m) : ∃ o,get l = some o:=by
 cases h with | mk o es ep h hd hk hf=>exact ⟨o,h⟩
structure dJ (c : Cx) (env : Env) (sc : Scope) (m : aS) (get : Addr->Option Obj) : Prop where
 kind : env.scope.kind = .function
 nm : ∀ x,env.kindOf x = sc.names.lookup x\/(sc.names.lookup x = some .free/\env.kindOf x = some .cell)
 gl : env.globals = mainGlobals
 bl : env.builtins = builtinsNs
 cd : kdsCode c.K env.code = true
 loc : jt get env.locals sc m
 cel : ∀ x,sc.names.lookup x = some .cell\/sc.names.lookup x = some .free->oO get env m x
theorem dJ.mono {c : Cx} {env : Env} {sc : Scope} {m : aS} {g g' : Addr->Option Obj} (F : dJ c env sc m g) (hg : ∀ b o,g b = some o->g' b = some o) : dJ c env sc m g':=
 ⟨F.kind,F.nm,F.gl,F.bl,F.cd,F.loc.mono (hg _),fun x hx=>(F.cel x hx).mono fun _ _ _=>hg _ _⟩
abbrev F0 : Value->Shared->Prop:=fun _ _=>False
inductive pD {α β : Type} (c : Cx) (g : aZ) (ab : α->β) (Q : β->ag->Prop) (v : α) (s : Shared) : Prop | mk (H : ag) (R : aT c g H s) (q : Q (ab v) H)
def Wp {α β : Type} (c : Cx) (k : Nat) (t : Sem α) (ab : α->β) (H : ag) (Q : β->ag->Prop) : Prop:=
 ∀ A g s,Rm k A->aT c g H s->wpAny (model c.prog c.w) A t (pD c g ab Q) F0 s
def WE (c : Cx) (k : Nat) (sc : Scope) (e : Expr) (m : aS) (H : ag) (Q : AV->ag->Prop) : Prop:=
 ∀ A env g s,Rm k A->dJ c env sc m g->aT c g H s->wpAny (model c.prog c.w) A (eval e env) (pD c g av Q) F0 s
def WT (c : Cx) (k : Nat) (sc : Scope) (e : Expr) (m : aS) (H : ag) (Q : Bool->ag->Prop) : Prop:=
 ∀ A env g s,Rm k A->dJ c env sc m g->aT c g H s->wpAny (model c.prog c.w) A (isTrue e env (eval e env)) (pD c g id Q) F0 s
section rules
variable {c : Cx} {k : Nat} {sc : Scope} {m : aS} {H : ag} {Q : AV->ag->Prop} {QB : Bool->ag->Prop}
theorem aY {α : Type} {M : Model} {A : Around} {t : Sem α} {P P' : α->Shared->Prop} {s : Shared} (h : wpAny M A t P F0 s) (hp : ∀ v s',P v s'->P' v s') : wpAny M A t P' F0 s:=
 wpAny_mono h hp fun _ _ e=>e
theorem Wp.mono {α β : Type} {t : Sem α} {ab : α->β} {P P' : β->ag->Prop} (h : Wp c k t ab H P) (hp : ∀ v H',P v H'->P' v H') : Wp c k t ab H P':=
 fun A g s hA hR=>aY (h A g s hA hR) fun _ _ ⟨H',r,q⟩=>⟨H',r,hp _ _ q⟩
theorem WE.mono {e : Expr} {Q' : AV->ag->Prop} (h : WE c k sc e m H Q) (hp : ∀ v H',Q v H'->Q' v H') : WE c k sc e m H Q':=
 fun A env g s hA hF hR=>aY (h A env g s hA hF hR) fun _ _ ⟨H',r,q⟩=>⟨H',r,hp _ _ q⟩
theorem aT.ns_loc {env : Env} {g : aZ} {s : Shared} (hR : aT c g H s) (F : dJ c env sc m g) : ∃ f,s.heap.Ns env.locals f/\∀ x,sc.names.lookup x = some .local->(f x).map av = m x:=
 by cases F.loc with | mk o es ep h hd hk hf=>exact ⟨nsFind es,⟨o,es,ep,hR.keep _ _ h,hd,hk,fun _=>rfl⟩,hf⟩
theorem iy {x : Str} {v : AV} {A : Around} {env : Env} {g : aZ} {s : Shared} (F : dJ c env sc m g) (hR : aT c g H s) (hl : sc.names.lookup x = some .local) (hv : m x = some v) {P : Value->Shared->Prop}
  (h : ∀ u,av u = v->P u s) : wpAny (model c.prog c.w) A (loadName env x) P F0 s:=by
 obtain ⟨f,hn,hf⟩:=hR.ns_loc F
 have e:=hf x hl
 rw [hv] at e
 cases q : f x with
 | none=>rw [q] at e; contradiction
 | some u=>
  rw [q] at e
  have hk : env.kindOf x = some .local:=(F.nm x).elim (fun z=>z.trans hl) fun z=>by rw [hl] at z; exact nomatch z.1
  exact wpAny_loadName_local F.kind hk hn q (h u (Option.some.inj e))
theorem iY {x : Str} {v : AV} {A : Around} {env : Env} {g : aZ} {s : Shared} (F : dJ c env sc m g) (hR : aT c g H s) (hl : sc.names.lookup x = some .cell) (hv : m x = some v) {P : Value->Shared->Prop}
  (h : ∀ u,av u = v->P u s) : wpAny (model c.prog c.w) A (loadName env x) P F0 s:=by
 refine bc fun GG=>?_
 obtain ⟨a,o,ov,h1,h2,h3,h4⟩:=F.cel x (.inl hl)
 refine GG ?_
 rw [hv] at h4
 cases ov with
 | none=>contradiction
 | some u=>
  have hk : env.kindOf x = some .cell:=(F.nm x).elim (fun z=>z.trans hl) fun z=>z.2
  exact wpAny_loadName_cell F.kind hk h1 ⟨o,hR.keep _ _ h2,h3⟩ (h u (Option.some.inj h4))
theorem iX {x : Str} {v : AV} {A : Around} {env : Env} {g : aZ} {s : Shared} (F : dJ c env sc m g) (hR : aT c g H s) (hl : sc.names.lookup x = some .free) (hv : m x = some v) {P : Value->Shared->Prop}
  (hn : (x == ("__classdict__" : Str)) = false)
  (h : ∀ u,av u = v->P u s) : wpAny (model c.prog c.w) A (loadName env x) P F0 s:=by
 refine bc fun GG=>?_
 obtain ⟨a,o,ov,h1,h2,h3,h4⟩:=F.cel x (.inr hl)
 refine GG ?_
 rw [hv] at h4
 cases ov with
 | none=>contradiction
 | some u=>
  rcases F.nm x with hk | hk
  ·exact wpAny_loadName_free F.kind (hk.trans hl) h1 ⟨o,hR.keep _ _ h2,h3⟩ (h u (Option.some.inj h4)) hn
  ·exact wpAny_loadName_cell F.kind hk.2 h1 ⟨o,hR.keep _ _ h2,h3⟩ (h u (Option.some.inj h4))
def bb (sc : Scope) (x : Str) : Bool:=
 (sc.names.lookup x == some .local || sc.names.lookup x == some .cell || (sc.names.lookup x == some .free && !(x == ("__classdict__" : Str)))) && !(x == ("__debug__" : Str))
theorem gy {x : Str} {v : AV} {A : Around} {env : Env} {g : aZ} {s : Shared} (F : dJ c env sc m g) (hR : aT c g H s) (hx : bb sc x = true) (hv : m x = some v) {P : Value->Shared->Prop}
  (h : ∀ u,av u = v->P u s) : wpAny (model c.prog c.w) A (loadName env x) P F0 s:=by
 simp only [bb,Bool.and_eq_true,Bool.or_eq_true,beq_iff_eq,Bool.not_eq_true'] at hx
 rcases hx.1 with (hl | hl) | ⟨hl,hn⟩
 ·exact iy F hR hl hv h
 ·exact iY F hR hl hv h
 ·exact iX F hR hl hv hn h
theorem jO {x : Str} (hx : bb sc x = true) : (x == ("__debug__" : Str)) = false:=by
 simp only [bb,Bool.and_eq_true,Bool.not_eq_true'] at hx; exact hx.2
theorem be {x : Str} {pos : Pos} {v : AV} (hx : bb sc x = true) (hv : m x = some v) (h : Q v H) : WE c k sc (.Name x pos) m H Q:=
 fun _ _ _ _ _ hF hR=>wpAny_Name (gy hF hR hx hv fun u hu=>⟨H,hR,hu▸h⟩) (jO hx)
theorem iL {i : Int} {n : Nat} {pos : Pos} (h : Q (.int i) H) : WE c k sc (.Constant (.int i) n pos) m H Q:=
 fun _ _ _ _ _ _ hR=>wpAny_Constant_int ⟨H,hR.tok _,h⟩
theorem C1 {x : Str} {n : Nat} {pos : Pos} (h : Q (.str x) H) : WE c k sc (.Constant (.str x) n pos) m H Q:=
 fun _ _ _ _ _ _ hR=>Calls.Constant_str ⟨H,hR.tok _,h⟩
theorem Be {b : Bool} {n : Nat} {pos : Pos} (h : Q (.bool b) H) : WE c k sc (.Constant (.bool b) n pos) m H Q:=
 fun _ _ _ _ _ _ hR=>wpAny_pure ⟨H,hR,h⟩
theorem A7 {n : Nat} {pos : Pos} (h : Q .none H) : WE c k sc (.Constant .none n pos) m H Q:=
 fun _ _ _ _ _ _ hR=>wpAny_pure ⟨H,hR,h⟩
def dM (c : Cx) (k : Nat) (t : Value->Value->Sem Value) (a b : AV) (H : ag) (Q : AV->ag->Prop) : Prop:=∀ u v,av u = a->av v = b->Wp c k (t u v) av H Q
theorem rF {l r : Expr} {op : Operator} {pos : Pos} (h : WE c k sc l m H fun a H1=>WE c k sc r m H1 fun b H2=>dM c k (binaryOp op) a b H2 Q) : WE c k sc (.BinOp l op r pos) m H Q:=
 fun A env g s hA hF hR=>wpAny_BinOp (aY (h A env g s hA hF hR) fun a s1 ⟨_,R1,h1⟩=>aY (h1 A env g s1 hA hF R1) fun b s2 ⟨_,R2,h2⟩=>h2 a b rfl rfl A g s2 hA R2)
theorem uD {l r : Expr} {op : CmpOp} {pos : Pos} (h : WE c k sc l m H fun a H1=>WE c k sc r m H1 fun b H2=>dM c k (compareOp op) a b H2 Q) (hm : behindInMarks op r = false) : WE c k sc (.Compare l [op] [r] pos) m H Q:=
 fun A env g s hA hF hR=>wpAny_Compare1 (aY (h A env g s hA hF hR) fun a s1 ⟨_,R1,h1⟩=>aY (h1 A env g s1 hA hF R1) fun b s2 ⟨_,R2,h2⟩=>h2 a b rfl rfl A g s2 hA R2) hm
theorem vq {l r : Expr} {op : CmpOp} {pos : Pos}
  (h : WE c k sc l m H fun a H1=>WE c k sc r m H1 fun b H2=>dM c k (compareOp op) a b H2 fun v H3=>∃ b,v = .bool b/\QB b H3) (hm : behindInMarks op r = false) : WT c k sc (.Compare l [op] [r] pos) m H QB:=
 fun A env g s hA hF hR=>wpAny_isTrue_Compare1 (aY (h A env g s hA hF hR) fun a s1 ⟨_,R1,h1⟩=>aY (h1 A env g s1 hA hF R1) fun b s2 ⟨_,R2,h2⟩=>
  aY (h2 a b rfl rfl A g s2 hA R2) fun v s3 ⟨H3,R3,b',hb,hq⟩=>by
   refine aa (jD hb) ?_
   exact wpAny_truthy_bool ⟨H3,R3,hq⟩) hm
def xH {α β : Type} (c : Cx) (k : Nat) (t : Value->Sem α) (ab : α->β) (a : AV) (H : ag) (Q : β->ag->Prop) : Prop:=∀ u,av u = a->Wp c k (t u) ab H Q
theorem DG {x : Expr} {op : UnaryOp} {pos : Pos} (h : WE c k sc x m H fun a H1=>xH c k (unaryOp op) av a H1 Q) : WE c k sc (.UnaryOp op x pos) m H Q:=
 fun A env g s hA hF hR=>PyProof.Rows.UnaryOp_ (aY (h A env g s hA hF hR) fun a s1 ⟨_,R1,h1⟩=>h1 a rfl A g s1 hA R1)
theorem Db {x : Expr} {pos : Pos} (h : WT c k sc x m H fun b H1=>QB (!b) H1) : WT c k sc (.UnaryOp .Not x pos) m H QB:=
 fun A env g s hA hF hR=>PyProof.Rows.isTrue_not (aY (h A env g s hA hF hR) fun _ _ ⟨H',R,q⟩=>⟨H',R,q⟩)
theorem BD {t a b : Expr} {pos : Pos} (h : WT c k sc t m H fun x H1=>if x = true then WE c k sc a m H1 Q else WE c k sc b m H1 Q) : WE c k sc (.IfExp t a b pos) m H Q:=
 fun A env g s hA hF hR=>PyProof.Rows.IfExp_ (aY (h A env g s hA hF hR) fun x s1 ⟨_,R1,h1⟩=>by
  cases x
  ·exact h1 A env g s1 hA hF R1
  ·exact h1 A env g s1 hA hF R1)
theorem uu {pos : Pos} (h : QB true H) : WT c k sc (.BoolOp .And [] pos) m H QB:=fun _ _ _ _ _ _ hR=>PyProof.Rows.isTrue_and_nil ⟨H,hR,h⟩
theorem vA {pos : Pos} (h : QB false H) : WT c k sc (.BoolOp .Or [] pos) m H QB:=fun _ _ _ _ _ _ hR=>PyProof.Rows.isTrue_or_nil ⟨H,hR,h⟩
theorem C4 {x : Expr} {xs : List Expr} {pos : Pos} (h : WT c k sc x m H fun b H1=>if b = true then WT c k sc (.BoolOp .And xs pos) m H1 QB else QB false H1) : WT c k sc (.BoolOp .And (x :: xs) pos) m H QB:=
 fun A env g s hA hF hR=>PyProof.Rows.isTrue_and (aY (h A env g s hA hF hR) fun x s1 ⟨H1,R1,h1⟩=>by
  cases x
  ·exact ⟨H1,R1,h1⟩
  ·exact h1 A env g s1 hA hF R1)
theorem Eg {x : Expr} {xs : List Expr} {pos : Pos} (h : WT c k sc x m H fun b H1=>if b = true then QB true H1 else WT c k sc (.BoolOp .Or xs pos) m H1 QB) : WT c k sc (.BoolOp .Or (x :: xs) pos) m H QB:=
 fun A env g s hA hF hR=>PyProof.Rows.isTrue_or (aY (h A env g s hA hF hR) fun x s1 ⟨H1,R1,h1⟩=>by
  cases x
  ·exact h1 A env g s1 hA hF R1
  ·exact ⟨H1,R1,h1⟩)
theorem cf {e : Expr} (h : WE c k sc e m H fun v H1=>xH c k truthy id v H1 QB)
  (he : ∀ env whole,isTrue e env whole = (do let v <-whole; standAt e.pos; holding [v] (truthy v))) : WT c k sc e m H QB:=
 fun A env g s hA hF hR=>PyProof.Rows.isTrue_plain (aY (h A env g s hA hF hR) fun a s1 ⟨_,R1,h1⟩=>h1 a rfl A g s1 hA R1) (he _ _)
end rules
end
section
structure cM (c : Cx) (env : Env) (sc : Scope) (m : aS) (g : aZ) (H : ag) (s : Shared) : Prop where
 fr : dJ c env sc m s.heap.get?
 gL : g env.locals = none
 HL : H env.locals = none
 cl : ∀ n a,env.cells.lookup n = some a->(sc.names.lookup n = some .cell->g a = none)/\H a = none/\a≠env.locals/\∃ o,s.heap.get? a = some o
 ap : ∀ n n' a,sc.names.lookup n = some .cell->env.cells.lookup n = some a->env.cells.lookup n' = some a->n = n'
def BG (env : Env) (sc : Scope) (b : Addr) : Prop:=b = env.locals\/∃ n,env.cells.lookup n = some b/\sc.names.lookup n = some .cell
open Classical in
noncomputable def dN (env : Env) (sc : Scope) (H : ag) (s : Shared) : aZ:=fun b=>if BG env sc b then none else ce H s b
namespace cM
variable {c : Cx} {env : Env} {sc : Scope} {m : aS} {g : aZ} {H H' : ag} {s s' : Shared}
theorem toRest (F : cM c env sc m g H s) : dJ c env sc m (ce H s):=
 ⟨F.fr.kind,F.fr.nm,F.fr.gl,F.fr.bl,F.fr.cd,F.fr.loc.mono fun _ h=>by unfold ce; refine aa (F.HL ..) ?_; exact h,fun x hx=>(F.fr.cel x hx).mono fun a o h1 h2=>by unfold ce; refine aa ((F.cl x a h1).2.1) ?_; exact h2⟩
theorem behind (F : cM c env sc m g H s) (R' : aT c (ce H s) H' s') : cM c env sc m g H' s':=by
 have key : ∀ b o,s.heap.get? b = some o->H b = none->ce H s b = some o:=fun b o e q=>by unfold ce; refine aa (q ..) ?_; exact e
 exact ⟨F.toRest.mono R'.keep,F.gL,F.fr.loc.get.elim fun o h=>R'.none_of_g (key _ _ h F.HL),
  fun n a hn=>have z:=F.cl n a hn; ⟨z.1,z.2.2.2.elim fun o h4=>R'.none_of_g (key _ _ h4 z.2.1),z.2.2.1,z.2.2.2.elim fun o h4=>⟨o,R'.keep _ _ (key _ _ h4 z.2.1)⟩⟩,F.ap⟩
theorem not_own {b : Addr} (F : cM c env sc m g H s) {o : Obj} (e : g b = some o) : ¬ BG env sc b:=by
 rintro (rfl | ⟨n,h,hk⟩)
 ·rw [F.gL] at e; exact nomatch e
 ·rw [(F.cl n _ h).1 hk] at e; exact nomatch e
theorem restRel (F : cM c env sc m g H s) (R : aT c g H s) : aT c (dN env sc H s) H s:=by
 refine R.toRest.mono (fun b o e=>?_) fun b o e=>?_
 ·have:=F.not_own (R.base _ _ e)
  unfold dN; refine aa (if_neg this) ?_; exact R.toRest.base _ _ e
 ·unfold dN at e; split at e; cases e; exact e
theorem restFr (F : cM c env sc m g H s) : cM c env sc m (dN env sc H s) H s:=by
 refine ⟨F.fr,by unfold dN; exact aa (if_pos (.inl rfl)) rfl,F.HL,fun n a hn=>⟨fun hk=>?_,(F.cl n a hn).2⟩,F.ap⟩
 unfold dN; exact aa (if_pos (.inr ⟨n,hn,hk⟩)) rfl
theorem le_restF (F : cM c env sc m g H s) (R : aT c g H s) : ∀ b o,g b = some o->dN env sc H s b = some o:=fun b o e=>by
 unfold dN; refine aa (if_neg (F.not_own e)) ?_; exact R.le_rest _ _ e
theorem fW {α : Type} {x : α} {p : Prop} (h : none = some x) : p:=nomatch h
theorem mono_g {g' : aZ} (F : cM c env sc m g' H s) (hg : ∀ b o,g b = some o->g' b = some o) : cM c env sc m g H s:=by
 have key : ∀ b,g' b = none->g b = none:=fun b e=>by
  cases q : g b with
  | none=>rfl
  | some x=>exact fW (e.symm.trans (hg _ _ q))
 exact ⟨F.fr,key _ F.gL,F.HL,fun n a hn=>⟨fun hk=>key _ ((F.cl n a hn).1 hk),(F.cl n a hn).2⟩,F.ap⟩
theorem other {h' : Heap} {tk : Nat} (F : cM c env sc m g H s) (hL : ∀ o,s.heap.get? env.locals = some o->h'.get? env.locals = some o) (hc : ∀ n a,env.cells.lookup n = some a->∀ o,s.heap.get? a = some o->h'.get? a = some o) :
  cM c env sc m g H { s with heap:=h',toks:=tk }:=
 ⟨⟨F.fr.kind,F.fr.nm,F.fr.gl,F.fr.bl,F.fr.cd,F.fr.loc.mono hL,fun x hx=>(F.fr.cel x hx).mono fun a o h1 h2=>hc x a h1 _ h2⟩,F.gL,F.HL,
  fun n a hn=>have z:=F.cl n a hn; ⟨z.1,z.2.1,z.2.2.1,z.2.2.2.elim fun o h4=>⟨o,hc n a hn o h4⟩⟩,F.ap⟩
theorem updH {a : Addr} {o : AO} (F : cM c env sc m g H s) (ha : a≠env.locals) (hc : ∀ n b,env.cells.lookup n = some b->a≠b) : cM c env sc m g (an H a o) s:=
 ⟨F.fr,F.gL,by refine aa (aj (Ne.symm ha)) ?_; exact F.HL,fun n b hn=>have z:=F.cl n b hn; ⟨z.1,by refine aa (aj (Ne.symm (hc n b hn))) ?_; exact z.2.1,z.2.2⟩,F.ap⟩
end cM
theorem ns {α : Type} {x : α} {p : Prop} (h : none = some x) : p:=nomatch h
structure cq (env : Env) (g : aZ) (H : ag) (b : Addr) : Prop where
 L : b≠env.locals
 C : ∀ n a,env.cells.lookup n = some a->b≠a
 G : g b = none
 N : H b = none
section
variable {c : Cx} {env : Env} {sc : Scope} {m : aS} {g : aZ} {H : ag} {s : Shared} {b : Addr}
theorem cq.kept (W : cq env g H b) {o : Obj} (h : s.heap.get? b = some o) : dN env sc H s b = some o:=by
 unfold dN ce
 refine aa (if_neg (fun q : BG env sc b=>q.elim W.L fun q=>q.elim fun n q=>W.C n b q.1 rfl)) (aa (W.N ..) ?_); exact h
theorem cq.new (F : cM c env sc m g H s) (R : aT c g H s) (h : s.heap.get? b = none) : cq env g H b:=
 ⟨fun q=>F.fr.loc.get.elim fun o e=>ns ((q▸h).symm.trans e),fun n a hn q=>(F.cl n a hn).2.2.2.elim fun o e=>ns ((q▸h).symm.trans e),
  (by cases q : g b with
   | none=>rfl
   | some o=>exact ns (h.symm.trans (R.keep _ _ q))),R.none_of_get h⟩
theorem cq.step {D : Addr->Prop} {h' : Heap} {tk : Nat} (W : ∀ b,D b->cq env g H b) (F : cM c env sc m g H s) (R : aT c g H s) (hs : ∀ b o,¬D b->s.heap.get? b = some o->h'.get? b = some o) :
  cM c env sc m g H { s with heap:=h',toks:=tk }/\aT c g H { s with heap:=h',toks:=tk }:=
 ⟨F.other (fun o=>hs _ o fun d=>(W _ d).L rfl) fun n a hn o=>hs a o fun d=>(W _ d).C n a hn rfl,
  R.other (fun b o e=>hs b o fun d=>ns ((W _ d).G.symm.trans e)) fun b o e=>(R.rep _ _ e).there.elim fun ob q=>(hs b ob (fun d=>ns ((W _ d).N.symm.trans e)) q).trans q.symm⟩
theorem cq.step1 {h' : Heap} {tk : Nat} (W : cq env g H b) (F : cM c env sc m g H s) (R : aT c g H s) (hs : ∀ a o,a≠b->s.heap.get? a = some o->h'.get? a = some o) :
  cM c env sc m g H { s with heap:=h',toks:=tk }/\aT c g H { s with heap:=h',toks:=tk }:=
 cq.step (D:=(· = b)) (fun _ e=>e▸W) F R hs
theorem f0 {α : Type} {M : Model} {A : Around} {t : Sem α} {P : α->Shared->Prop} {E : Value->Shared->Prop} {s : Shared} (h : wpAny M A t P F0 s) : wpAny M A t P E s:=wpAny_mono h (fun _ _ x=>x) fun _ _ e=>e.elim
end
inductive Fl where
 | next | brk | cont
 | ret (v : AV)
def EK : Flow->Fl
 | .next=>.next | .brk=>.brk | .cont=>.cont | .ret v=>.ret (av v)
inductive rA (c : Cx) (env : Env) (sc : Scope) (g : aZ) (Q : Fl->aS->ag->Prop) (fl : Flow) (s : Shared) : Prop | mk (m : aS) (H : ag) (F : cM c env sc m g H s) (R : aT c g H s) (q : Q (EK fl) m H)
inductive ug (c : Cx) (env : Env) (sc : Scope) (g : aZ) (Q : aS->ag->Prop) (u : Unit) (s : Shared) : Prop | mk (m : aS) (H : ag) (F : cM c env sc m g H s) (R : aT c g H s) (q : Q m H)
def WS (c : Cx) (k : Nat) (sc : Scope) (t : Env->Sem Flow) (m : aS) (H : ag) (Q : Fl->aS->ag->Prop) : Prop:=
 ∀ A env g s,Rm k A->env.scope = sc->cM c env sc m g H s->aT c g H s->wpAny (model c.prog c.w) A (t env) (rA c env sc g Q) F0 s
def WU (c : Cx) (k : Nat) (sc : Scope) (t : Env->Sem Unit) (m : aS) (H : ag) (Q : aS->ag->Prop) : Prop:=
 ∀ A env g s,Rm k A->cM c env sc m g H s->aT c g H s->wpAny (model c.prog c.w) A (t env) (ug c env sc g Q) F0 s
section rules
variable {c : Cx} {k : Nat} {sc : Scope} {m : aS} {H : ag} {Q : Fl->aS->ag->Prop} {QU : aS->ag->Prop}
theorem WS.mono {t : Env->Sem Flow} {Q' : Fl->aS->ag->Prop} (h : WS c k sc t m H Q) (hp : ∀ f m H,Q f m H->Q' f m H) : WS c k sc t m H Q':=
 fun A env g s hA hsc hF hR=>aY (h A env g s hA hsc hF hR) fun _ _ ⟨m',H',f,r,q⟩=>⟨m',H',f,r,hp _ _ _ q⟩
theorem dQ {α β : Type} {t : Env->Sem α} {ab : α->β} {P : β->ag->Prop} {A : Around} {env : Env} {g : aZ} {s : Shared} {P' : α->Shared->Prop}
  (h : ∀ A env g s,Rm k A->dJ c env sc m g->aT c g H s->wpAny (model c.prog c.w) A (t env) (pD c g ab P) F0 s) (hA : Rm k A) (hF : cM c env sc m g H s) (hR : aT c g H s)
  (hp : ∀ v s' H',cM c env sc m g H' s'->aT c g H' s'->P (ab v) H'->P' v s') : wpAny (model c.prog c.w) A (t env) P' F0 s:=
 aY (h A env (ce H s) s hA hF.toRest hR.toRest) fun v s' ⟨H',R',q⟩=>hp v s' H' (hF.behind R') (hR.back R') q
theorem dY {x : Str} {v : Value} {A : Around} {env : Env} {g : aZ} {s : Shared} {P : Unit->Shared->Prop} (hF : cM c env sc m g H s) (hR : aT c g H s)
  (hx : (sc.names.lookup x == some .local || sc.names.lookup x == some .cell) = true)
  (h : ∀ s',cM c env sc (put m x (av v)) g H s'->aT c g H s'->P () s') : wpAny (model c.prog c.w) A (storeName env x v) P F0 s:=by
 simp only [Bool.or_eq_true,beq_iff_eq] at hx
 have hkin : env.scope.kind = .function:=hF.fr.kind
 have hnL : ∀ b o,g b = some o->b≠env.locals:=fun b o e q=>by subst q; rw [hF.gL] at e; exact ns e
 have hHL : ∀ b o,H b = some o->b≠env.locals:=fun b o e q=>by subst q; rw [hF.HL] at e; exact ns e
 rcases hx with hl | hl
 ·refine bc fun GG=>?_
  obtain ⟨o,es,ep,hLo,hd,hk,hf⟩:=hF.fr.loc
  refine GG ?_
  refine wpAny_storeName_local ((hF.fr.nm x).elim (fun z=>z.trans hl) fun z=>by rw [hl] at z; exact nomatch z.1) (m:=nsFind es) ⟨o,es,ep,hLo,hd,hk,fun _=>rfl⟩ (fun h' hn' hs'=>h _ ?_ ?_) (by refine aa (hkin ..) ?_; rfl)
  ·refine ⟨⟨hF.fr.kind,hF.fr.nm,hF.fr.gl,hF.fr.bl,hF.fr.cd,?_,?_⟩,hF.gL,hF.HL,?_,hF.ap⟩
   ·refine bc fun GG=>?_
    obtain ⟨o',es',ep',h1,h2,h3,h4⟩:=hn'
    refine GG ?_
    refine ⟨o',es',ep',h1,h2,h3,fun y hy=>?_⟩
    refine aa (h4 ..) ?_; dsimp only
    by_cases q : y = x
    ·clear h hl GG h4; subst q; refine aa (if_pos rfl) (aa (fU ..) ?_); rfl
    ·refine aa (if_neg q) (aa (f8 q) ?_); exact hf y hy
   ·intro y hy
    refine bc fun GG=>?_
    obtain ⟨a,o',ov,h1,h2,h3,h4⟩:=hF.fr.cel y hy
    refine GG ?_
    have hal:=(hF.cl y a h1).2.2.1
    refine ⟨a,o',ov,h1,(hs'.2 a hal).trans h2,h3,?_⟩
    have q : y≠x:=fun q=>by clear h hn' GG; subst q; rw [hl] at hy; rcases hy with hy | hy<;>exact nomatch hy
    refine aa (f8 q) ?_; exact h4
   ·intro n a hn
    refine bc fun GG=>?_
    obtain ⟨h1,h2,h3,o',h4⟩:=hF.cl n a hn
    refine GG ?_
    exact ⟨h1,h2,h3,o',(hs'.2 a h3).trans h4⟩
  ·exact hR.other (fun b o e q=>(hs'.2 b (hnL b o e)).trans q) fun b o e=>hs'.2 b (hHL b o e)
 ·refine bc fun GG=>?_
  obtain ⟨a,o,ov,h1,h2,h3,h4⟩:=hF.fr.cel x (.inl hl)
  refine GG ?_
  have ha:=hF.cl x a h1
  have hga:=ha.1 hl
  refine wpAny_storeName_cell hkin ((hF.fr.nm x).elim (fun z=>z.trans hl) fun z=>z.2) h1 ⟨o,h2,h3⟩ fun h' hc' hs'=>h _ ?_ ?_
  ·refine ⟨⟨hF.fr.kind,hF.fr.nm,hF.fr.gl,hF.fr.bl,hF.fr.cd,?_,?_⟩,hF.gL,hF.HL,?_,hF.ap⟩
   ·refine bc fun GG=>?_
    obtain ⟨o',es',ep',g1,g2,g3,g4⟩:=hF.fr.loc
    refine GG ?_
    refine ⟨o',es',ep',(hs'.2 _ (Ne.symm ha.2.2.1)).trans g1,g2,g3,fun y hy=>?_⟩
    have q : y≠x:=fun q=>by clear h h1 h4 ha GG; subst q; rw [hl] at hy; exact nomatch hy
    refine aa (f8 q) ?_; exact g4 y hy
   ·intro y hy
    by_cases q : y = x
    ·clear h hl GG h4 ha; subst q
     refine bc fun GG=>?_
     obtain ⟨o',h5,h6⟩:=hc'
     refine GG ?_
     exact ⟨a,o',_,h1,h5,h6,by refine aa (fU ..) ?_; rfl⟩
    ·refine bc fun GG=>?_
     obtain ⟨a',o',ov',g1,g2,g3,g4⟩:=hF.fr.cel y hy
     refine GG ?_
     have hne : a'≠a:=fun e=>by clear h2 ha hga hc' hs'; subst e; exact q (hF.ap _ _ _ hl h1 g1).symm
     exact ⟨a',o',ov',g1,(hs'.2 a' hne).trans g2,g3,by refine aa (f8 q) ?_; exact g4⟩
   ·intro n b hn
    refine bc fun GG=>?_
    obtain ⟨g1,g2,g3,o',g4⟩:=hF.cl n b hn
    refine GG ?_
    by_cases e : b = a
    ·clear h1 h2 ha hga hs'; subst e
     refine bc fun GG=>?_
     obtain ⟨o'',h5,_⟩:=hc'
     refine GG ?_
     exact ⟨g1,g2,g3,o'',h5⟩
    ·exact ⟨g1,g2,g3,o',(hs'.2 b e).trans g4⟩
  ·exact hR.other (tk:=s.toks) (fun b o e q=>(hs'.2 b (fun z=>by clear h1 h2 ha hc' hs'; subst z; rw [hga] at e; exact ns e)).trans q) fun b o e=>hs'.2 b (fun z=>by clear h1 h2 hga hc' hs'; subst z; rw [ha.2.1] at e; exact ns e)
abbrev a0 (sc : Scope) (x : Str) : Bool:=sc.names.lookup x == some .local || sc.names.lookup x == some .cell
theorem Bk (h : Q .next m H) : WS c k sc (execs []) m H Q:=fun _ _ _ _ _ _ hF hR=>wpAny_execs_nil ⟨m,H,hF,hR,h⟩
theorem kA {st : Stmt} {sts : List Stmt} (h : WS c k sc (exec st) m H fun f m' H'=>match f with | .next=>WS c k sc (execs sts) m' H' Q | f=>Q f m' H') : WS c k sc (execs (st :: sts)) m H Q:=
 fun A env g s hA hsc hF hR=>wpAny_execs_cons (aY (h A env g s hA hsc hF hR) fun f s' ⟨m',H',F',R',q⟩=>by
  cases f with
  | next=>exact q A env g s' hA hsc F' R'
  | brk=>exact ⟨m',H',F',R',q⟩
  | cont=>exact ⟨m',H',F',R',q⟩
  | ret v=>exact ⟨m',H',F',R',q⟩)
theorem jf {x : Str} {pos' pos : Pos} {value : Expr} (hx : a0 sc x = true) (h : WE c k sc value m H fun v H1=>Q .next (put m x v) H1)
  (hs : ∀ env,env.scope = sc->swapsWith value (some (.Name x pos')) pos.line env = pure false) : WS c k sc (exec (.Assign [.Name x pos'] value pos)) m H Q:=
 fun A env g s hA hsc hF hR=>wpAny_Assign_Name (dQ h hA hF hR fun v s1 H1 F1 R1 q=>dY F1 R1 hx fun s2 F2 R2=>⟨_,_,F2,R2,q⟩) (hs env hsc)
theorem uF {x : Str} {pos' pos : Pos} {op : Operator} {value : Expr} {v0 : AV} (hx : a0 sc x = true) (hn : bb sc x = true) (hv : m x = some v0)
  (h : WE c k sc value m H fun v H1=>dM c k (inplaceOp op) v0 v H1 fun r H2=>Q .next (put m x r) H2) : WS c k sc (exec (.AugAssign (.Name x pos') op value pos)) m H Q:=
 fun A env g s hA hsc hF hR=>wpAny_AugAssign_Name (gy hF.toRest hR.toRest hn hv fun u hu=>dQ h hA hF hR fun v s1 H1 F1 R1 q=>
  aY (q u v hu rfl A (ce H1 s1) s1 hA R1.toRest) fun r s2 ⟨H2,R2,q2⟩=>dY (F1.behind R2) (R1.back R2) hx fun s3 F3 R3=>⟨_,_,F3,R3,q2⟩)
theorem wU {t : Expr} {a b : List Stmt} {pos : Pos} (h : WT c k sc t m H fun x H1=>if x = true then WS c k sc (execs a) m H1 Q else WS c k sc (execs b) m H1 Q) : WS c k sc (exec (.If t a b pos)) m H Q:=
 fun A env g s hA hsc hF hR=>wpAny_If (dQ h hA hF hR fun x s1 H1 F1 R1 q=>by
  cases x
  ·exact q A env g s1 hA hsc F1 R1
  ·exact q A env g s1 hA hsc F1 R1)
theorem o3 {e : Expr} {pos : Pos} (h : WE c k sc e m H fun v H1=>Q (.ret v) m H1) : WS c k sc (exec (.Return (some e) pos)) m H Q:=
 fun A env g s hA hsc hF hR=>wpAny_Return_some (dQ h hA hF hR fun v s1 H1 F1 R1 q=>⟨_,_,F1,R1,q⟩)
theorem tL {pos : Pos} (h : Q .cont m H) : WS c k sc (exec (.Continue pos)) m H Q:=fun A env g s hA hsc hF hR=>by
 show wpAny _ A (do standAt pos; pure Flow.cont) _ _ s
 exact wpAny_bind (wpAny_standAt (wpAny_pure ⟨m,H,hF,hR,h⟩))
theorem sp (e : Expr) (pos : Pos) : dropValue e pos = (fun _=>pure .next)\/dropValue e pos = dropValue (.Constant .none 0 pos) pos:=by
 cases e<;>first | exact .inl rfl | exact .inr (by kernel_rfl)
theorem zG {e : Expr} {pos : Pos} {v : Value} {A : Around} {s : Shared} {P : Flow->Shared->Prop} (h : P .next s) : wpAny (model c.prog c.w) A (dropValue e pos v) P F0 s:=by
 rcases sp e pos with q | q
 ·refine aa (q ..) ?_; exact wpAny_pure h
 ·refine aa (q ..) ?_
  cases v with
  | ref a=>
   refine wpAny_bind (wpAny_standAt (wpAny_bind (wpAny_runValue (codeAny_builtin entry_let_go ?_))))
   show wpAny _ _ (pure _) _ _ s
   exact wpAny_pure (wpAny_pure h)
  | _=>exact wpAny_pure h
theorem rU {e : Expr} {pos : Pos} (h : WE c k sc e m H fun _ H1=>Q .next m H1) (hi : ∀ env,env.scope = sc->interactive env = false) (hs : ∀ env,env.scope = sc->swapsWith e none pos.line env = pure false) :
  WS c k sc (exec (.Expr e pos)) m H Q:=
 fun A env g s hA hsc hF hR=>by
  refine aa (exec_Expr env e pos (hi _ hsc) (hs _ hsc)) ?_
  exact wpAny_bind (wpAny_standAt (wpAny_bind (dQ h hA hF hR fun v s1 H1 F1 R1 q=>zG ⟨_,_,F1,R1,q⟩)))
theorem qF {test : Expr} {body : List Stmt} {pos : Pos} (I : Nat->aS->ag->Prop)
  (turn : ∀ n m H,I n m H->WT c k sc test m H fun b H1=>if b = true then WS c k sc (execs body) m H1 (fun f m' H'=>match f with
    | .next | .cont=>∃ n',n' < n/\I n' m' H'
    | .brk=>Q .next m' H'
    | .ret v=>Q (.ret v) m' H') else Q .next m H1) (n : Nat) (h : I n m H) : WS c k sc (exec (.While test body [] pos)) m H Q:=by
 intro A env g s hA hsc hF hR
 refine wpAny_While (codeAny_whileLoop (fun n s=>∃ m H,cM c env sc m g H s/\aT c g H s/\I n m H) ?_ n ⟨m,H,hF,hR,h⟩)
 intro n s hzz
 refine bc fun GG=>?_
 obtain ⟨m,H,hF,hR,hI⟩:=hzz
 refine GG ?_
 refine wpAny_mono (dQ (P':=fun b s2=>∃ H1,cM c env sc m g H1 s2/\aT c g H1 s2/\_) (turn n m H hI) hA hF hR fun b s1 H1 F1 R1 q=>⟨H1,F1,R1,q⟩) ?_ fun _ _ e=>e.elim
 intro b s2 hzz
 refine bc fun GG=>?_
 obtain ⟨H1,F1,R1,q⟩:=hzz
 refine GG ?_
 cases b with
 | false=>
  simp only [Bool.false_eq_true,if_false,id] at q ⊢
  exact wpAny_execs_nil ⟨m,H1,F1,R1,q⟩
 | true=>
  simp only [if_true,id] at q ⊢
  refine wpAny_mono (q A env g s2 hA hsc F1 R1) ?_ fun _ _ e=>e.elim
  intro f s3 hzz
  refine bc fun GG=>?_
  obtain ⟨m',H',F',R',q'⟩:=hzz
  refine GG ?_
  cases f with
  | next=>obtain ⟨n',hn,hI'⟩:=q'; exact ⟨n',hn,m',H',F',R',hI'⟩
  | cont=>obtain ⟨n',hn,hI'⟩:=q'; exact ⟨n',hn,m',H',F',R',hI'⟩
  | brk=>exact ⟨m',H',F',R',q'⟩
  | ret v=>exact ⟨m',H',F',R',q'⟩
end rules
end
section
def dy (H : ag) (v : AV) (xs : List AV) : Prop:=∃ l,v = .ref l/\(H l = some (.list xs)\/∃ n : Int,H l = some (.range n)/\0<=n/\n < 2 ^ 40/\xs = (List.range n.toNat).map fun i=>.int i)
def lx : List String:=["enumerate","zip","dict_itemiterator","dict_reverseitemiterator","odict_iterator","itertools.zip_longest","itertools.pairwise"]
def ec (H₀ : ag) (l : Addr) (own : Addr) (h : Heap) (xs : List AV) : Prop:=
 (∃ full i,H₀ l = some (.list full)/\h.IsListIter own l i/\xs = full.drop i)\/
 (∃ n x left : Int,H₀ l = some (.range n)/\IsRangeIter h own x left 1/\0<=x/\0<=left/\xs = (List.range left.toNat).map fun (i : Nat)=>AV.int (x + (i : Int)))
section
variable {c : Cx} {k : Nat} {g : aZ} {H : ag} {s : Shared} {A : Around}
theorem ec.there {H₀ : ag} {l own : Addr} {h : Heap} {xs : List AV} (x : ec H₀ l own h xs) : ∃ o n vs,h.get? own = some o/\o.cls = .type n/\o.data = .fields vs/\lx.contains n = false:=by
 rcases x with ⟨_,_,_,⟨o,h1,h2,h3⟩,_⟩ | ⟨_,_,_,_,h1,_⟩
 ·exact ⟨o,_,_,h1,h2,h3,by decide⟩
 ·exact ⟨_,_,_,h1,rfl,rfl,by decide⟩
theorem ec.get {H₀ : ag} {l own : Addr} {h : Heap} {xs : List AV} (x : ec H₀ l own h xs) : ∃ o,h.get? own = some o:=x.there.elim fun o e=>e.elim fun _ e=>e.elim fun _ e=>⟨o,e.1⟩
theorem ec.at {H₀ : ag} {l own : Addr} {h h' : Heap} {xs : List AV} (x : ec H₀ l own h xs) (e : ∀ o,h.get? own = some o->h'.get? own = some o) : ec H₀ l own h' xs:=by
 rcases x with ⟨f,i,h0,⟨o,h1,h2⟩,h3⟩ | ⟨n,x,left,h0,h1,h2⟩
 ·exact .inl ⟨f,i,h0,⟨o,e _ h1,h2⟩,h3⟩
 ·exact .inr ⟨n,x,left,h0,e _ h1,h2⟩
theorem aT.isList (R : aT c g H s) {l : Addr} {xs : List AV} (h : H l = some (.list xs)) : ∃ items n,IsL s.heap l items n/\items.toList.map av = xs:=R.rep _ _ h
theorem aT.isTup (R : aT c g H s) {l : Addr} {xs : List AV} (h : H l = some (.tuple xs)) :
  ∃ items n,s.heap.get? l = some { cls:=.type "tuple",dict:=none,data:=.seq items n,slots:=#[] }/\items.toList.map av = xs:=R.rep _ _ h
theorem kR {n : Int} (h : 0<=n) : Builtin.Range.rangeSize 0 n 1 = n:=by refine aa (rangeSize_one ..) ?_; split<;>omega
theorem jn {u : Value} {xs : List AV} {P : Value->Shared->Prop} (R : aT c g H s) (hv : dy H (av u) xs)
  (h : ∀ l own s',av u = .ref l->aT c g H s'->(∀ b o,s.heap.get? b = some o->s'.heap.get? b = some o)->s.heap.objs.size<=own->ec H l own s'.heap xs->P (.ref own) s') : wpAny (model c.prog c.w) A (pyIter u) P F0 s:=by
 obtain ⟨l,e,hl⟩:=hv
 have : u = .ref l:=aB e
 clear e; subst this
 rcases hl with hl | ⟨n,hl,h0,hn,rfl⟩
 ·obtain ⟨items,n,hi,hm⟩:=R.isList hl
  refine wpAny_pyIter_list hi.isList (h l _ _ rfl (R.push _) (fun b o e=>Heap.get?_push_of_some _ e) (Nat.le_refl _) (.inl ⟨xs,0,hl,⟨_,Heap.get?_push_size _ rfl,rfl,rfl⟩,rfl⟩))
 ·obtain ⟨t,u,v,hr⟩:=R.rep _ _ hl
  refine wpAny_pyIter_range hr (small_one (by omega) (by omega) (by omega) (by omega)) (h l _ _ rfl (R.push _) (fun b o e=>Heap.get?_push_of_some _ e) (Nat.le_refl _) (.inr ⟨n,0,n,hl,?_,by exact tC,h0,by simp⟩))
  refine aa (kR h0) ?_
  exact Heap.get?_push_size _ rfl
theorem kG {l own : Addr} {x : AV} {xs : List AV} {P : Option Value->Shared->Prop} {H₀ : ag} (R : aT c g H s) (hI : ec H₀ l own s.heap (x :: xs)) (hst : H l = H₀ l)
  (h : ∀ u h' tk,av u = x->Heap.SameBut own s.heap h'->ec H₀ l own h' xs->P (some u) { s with heap:=h',toks:=tk }) : wpAny (model c.prog c.w) A (pyNext (.ref own)) P F0 s:=by
 rcases hI with ⟨full,i,h0,h1,h2⟩ | ⟨n,y,left,h0,h1,h2,h3,h4⟩
 ·rw [<-hst] at h0
  obtain ⟨items,n,hi,hm⟩:=R.isList h0
  have hlen : i < full.length:=by
   rcases Nat.lt_or_ge i full.length with q | q
   ·exact q
   ·rw [List.drop_of_length_le q] at h2; contradiction
  rw [List.drop_eq_getElem_cons hlen] at h2
  injection h2 with e1 e2
  have hlen' : i < items.size:=by rw [<-hm,List.length_map,Array.length_toList] at hlen; exact hlen
  refine wpAny_pyNext_list_item h1 hi.isList (Array.getElem?_eq_getElem hlen') fun h' hit hs=>h _ _ _ ?_ hs (.inl ⟨full,i + 1,hst▸h0,hit,e2⟩)
  clear h0 e2; subst hm
  refine aa (e1 ..) ?_; simp
 ·have hl : 0 < left:=by
   rcases Int.lt_or_le 0 left with q | q
   ·exact q
   ·have : left.toNat = 0:=by exact wi q
    rw [this] at h4; contradiction
  obtain ⟨j,hj⟩ : ∃ j,left.toNat = j + 1:=⟨left.toNat - 1,by exact yi hl⟩
  rw [hj,List.range_succ_eq_map,List.map_cons] at h4
  injection h4 with e1 e2
  refine wpAny_pyNext_range_item h1 hl fun h' hit hs=>h _ _ _ ?_ hs (.inr ⟨n,y + 1,left - 1,h0,hit,by exact Dj h2,by exact Du hl,?_⟩)
  ·refine aa (e1 ..) ?_; simp [av]
  ·refine aa (e2 ..) (aa (List.map_map ..) ?_)
   have : (left - 1).toNat = j:=by exact CH hj
   refine aa (this ..) ?_
   apply List.map_congr_left
   intro a _
   simp only [Function.comp]
   congr 1
   push_cast
   exact zo
theorem mc {l own : Addr} {P : Option Value->Shared->Prop} {H₀ : ag} (hh : A.handled = none) (R : aT c g H s) (hI : ec H₀ l own s.heap []) (hst : H l = H₀ l)
  (h : ∀ h',Heap.ExtBut own s.heap h'->P none { s with heap:=h' }) : wpAny (model c.prog c.w) A (pyNext (.ref own)) P F0 s:=by
 rcases hI with ⟨full,i,h0,h1,h2⟩ | ⟨n,y,left,h0,h1,h2,h3,h4⟩
 ·rw [<-hst] at h0
  obtain ⟨items,n,hi,hm⟩:=R.isList h0
  refine wpAny_pyNext_list_end hh h1 hi.isList ?_ h
  have : full.length<=i:=by
   rcases Nat.lt_or_ge i full.length with q | q
   ·rw [List.drop_eq_getElem_cons q] at h2; contradiction
   ·exact q
  apply Array.getElem?_eq_none
  rw [<-hm,List.length_map,Array.length_toList] at this
  exact this
 ·refine wpAny_pyNext_range_end hh h1 ?_ h
  rcases Int.lt_or_le 0 left with q | q
  ·obtain ⟨j,hj⟩ : ∃ j,left.toNat = j + 1:=⟨left.toNat - 1,by exact yi q⟩
   rw [hj,List.range_succ_eq_map] at h4; contradiction
  ·exact q
theorem gw {target : Expr} {l own : Addr} {u : Value} {xs : List AV} {H₀ : ag} {P : Unit->Shared->Prop} (hI : ec H₀ l own s.heap xs) (h : P () s) : wpAny (model c.prog c.w) A (letOwnedTupleGo target (.ref own) u) P F0 s:=by
 obtain ⟨o,n,vs,h1,h2,h3,h4⟩:=hI.there
 have key : ∀ a,wpAny (model c.prog c.w) A (do
   let o <-load own
   match o.cls,o.data with
   | .type n,.fields vs=>
    if ["enumerate","zip","dict_itemiterator","dict_reverseitemiterator","odict_iterator","itertools.zip_longest","itertools.pairwise"].contains n && vs[0]? == some (rawInt a) then
     rule "for.unpacks-the-owned-tuple"
     updateField own 0 .none
   | _,_=>pure () : Sem Unit) P F0 s:=fun a=>by
  refine wpAny_bind (wpAny_load h1 ?_)
  refine aa (h2 ..) (aa (h3 ..) ?_)
  dsimp only
  have : ["enumerate","zip","dict_itemiterator","dict_reverseitemiterator","odict_iterator","itertools.zip_longest","itertools.pairwise"].contains n = false:=h4
  refine aa (this ..) ?_
  exact wpAny_pure h
 cases target with
 | Tuple _ _ _=>
  cases u with
  | ref a=>exact key a
  | _=>exact wpAny_pure h
 | List _ _=>
  cases u with
  | ref a=>exact key a
  | _=>exact wpAny_pure h
 | _=>exact wpAny_pure h
end
section rules
variable {c : Cx} {k : Nat} {sc : Scope} {m : aS} {H : ag} {Q : Fl->aS->ag->Prop} {QU : aS->ag->Prop}
def WA (c : Cx) (k : Nat) (sc : Scope) (target : Expr) (x : AV) (m : aS) (H : ag) (QU : aS->ag->Prop) : Prop:=∀ u,av u = x->WU c k sc (fun env=>assign target env u) m H QU
theorem ek {x : Str} {pos : Pos} {v : AV} (hx : a0 sc x = true) (h : QU (put m x v) H) : WA c k sc (.Name x pos) v m H QU:=
 fun u hu A env g s hA hF hR=>wpAny_assign_Name (dY hF hR hx fun s' F' R'=>⟨_,_,F',R',hu▸h⟩)
def i7 (c : Cx) (k : Nat) (sc : Scope) (target : Expr) (body : List Stmt) (stay : ag->Prop) : List AV->aS->ag->(Fl->aS->ag->Prop)->Prop
 | [],m,H,Q=>Q .next m H
 | x :: xs,m,H,Q=>WA c k sc target x m H fun m1 H1=>WS c k sc (execs body) m1 H1 fun f m2 H2=>match f with
   | .next | .cont=>stay H2/\i7 c k sc target body stay xs m2 H2 Q
   | .brk=>Q .next m2 H2
   | .ret v=>Q (.ret v) m2 H2
theorem WA.mono {target : Expr} {x : AV} {Q' : aS->ag->Prop} (h : WA c k sc target x m H QU) (hp : ∀ m H,QU m H->Q' m H) : WA c k sc target x m H Q':=
 fun u hu A env g s hA hF hR=>aY (h u hu A env g s hA hF hR) fun _ _ ⟨m',H',f,r,q⟩=>⟨m',H',f,r,hp _ _ q⟩
theorem jA {A : Around} {env : Env} {g : aZ} {s : Shared} {l own : Addr} {x : AV} {xs : List AV} {P : Option Value->Shared->Prop} {H₀ : ag} (W : cq env g H own) (F : cM c env sc m g H s) (R : aT c g H s) (hI : ec H₀ l own s.heap (x :: xs)) (hst : H l = H₀ l)
  (h : ∀ u s1,av u = x->cM c env sc m g H s1->aT c g H s1->ec H₀ l own s1.heap xs->(∀ b,b≠own->s1.heap.get? b = s.heap.get? b)->P (some u) s1) : wpAny (model c.prog c.w) A (pyNext (.ref own)) P F0 s:=
 kG R hI hst fun u h' tk hu hs hI'=>have X:=W.step1 (tk:=tk) F R fun b o q e=>(hs.2 b q).trans e; h u _ hu X.1 X.2 hI' hs.2
theorem kL {A : Around} {env : Env} {g : aZ} {s : Shared} {l own : Addr} {P : Option Value->Shared->Prop} {H₀ : ag} (hh : A.handled = none) (W : cq env g H own) (F : cM c env sc m g H s) (R : aT c g H s) (hI : ec H₀ l own s.heap []) (hst : H l = H₀ l)
  (h : ∀ s1,cM c env sc m g H s1->aT c g H s1->(∀ b o,b≠own->s.heap.get? b = some o->s1.heap.get? b = some o)->P none s1) : wpAny (model c.prog c.w) A (pyNext (.ref own)) P F0 s:=
 mc hh R hI hst fun h' he=>have X:=W.step1 (tk:=s.toks) F R he; h _ X.1 X.2 he
inductive y9 (c : Cx) (k : Nat) (sc : Scope) (env : Env) (g : aZ) (target : Expr) (body : List Stmt) (l own : Addr) (H₀ : ag) (Q : Fl->aS->ag->Prop) (n : Nat) (s : Shared) : Prop
 | mk (xs : List AV) (m : aS) (H : ag) (hn : n = xs.length) (F : cM c env sc m g H s) (R : aT c g H s) (I : ec H₀ l own s.heap xs) (st : H l = H₀ l) (o : H own = none) (h : i7 c k sc target body (fun H'=>H' l = H₀ l) xs m H Q)
theorem qn {target : Expr} {body : List Stmt} {l own : Addr} {H₀ : ag} {A : Around} {env : Env} {g : aZ} {s : Shared} {xs : List AV} {R' : Result->Shared->Prop} (hA : Rm k A) (hsc : env.scope = sc) (hF : cM c env sc m g H s) (hR : aT c g H s)
  (hI : ec H₀ l own s.heap xs) (hst : H l = H₀ l) (W : cq env g H own)
  (h : i7 c k sc target body (fun H'=>H' l = H₀ l) xs m H Q) (hR' : ∀ f s',rA c env sc g Q f s'->R' (.ok f) s') :
  codeAny (model c.prog c.w) A (.forLoop target (.ref own) body [] env) R' s:=by
 refine codeAny_forLoop_any (y9 c k sc env g target body l own H₀ Q) (fun n s J=>?_) xs.length ⟨xs,m,H,rfl,hF,hR,hI,hst,W.N,h⟩
 obtain ⟨xs,m,H,rfl,hF,hR,hI,hst,hoH,h⟩:=J
 have W : cq env g H own:=⟨W.L,W.C,W.G,hoH⟩
 cases xs with
 | nil=>exact f0 (kL hA.hd W hF hR hI hst fun s1 F1 R1 _=>wpAny_execs_nil (hR' .next _ ⟨m,H,F1,R1,h⟩))
 | cons x xs=>
  refine f0 (jA W hF hR hI hst fun u s1 hu F1 R1 hI' _=>?_)
  have mg:=F1.le_restF R1
  refine f0 (gw hI' (f0 (aY (h u hu A env _ _ hA F1.restFr (F1.restRel R1)) fun _ s2 J=>?_)))
  obtain ⟨m1,H1,F1,R1,q1⟩:=J
  refine f0 (aY (q1 A env _ s2 hA hsc F1 R1) fun f s3 J=>?_)
  obtain ⟨m2,H2,F2,R2,q2⟩:=J
  have F3:=F2.mono_g mg
  have R3:=R2.mono hR.base mg
  have go : (H2 l = H₀ l/\i7 c k sc target body (fun H'=>H' l = H₀ l) xs m2 H2 Q)->∃ n',n' < xs.length + 1/\y9 c k sc env g target body l own H₀ Q n' s3:=
   fun q=>⟨xs.length,Nat.lt_succ_self _,xs,m2,H2,rfl,F3,R3,hI'.at fun o e=>R2.keep _ _ (W.kept e),q.1,hI'.get.elim fun o e=>R2.none_of_g (W.kept e),q.2⟩
  cases f with
  | next=>exact go q2
  | cont=>exact go q2
  | brk=>exact hR' .next _ ⟨m2,H2,F3,R3,q2⟩
  | ret v=>exact hR' (.ret v) _ ⟨m2,H2,F3,R3,q2⟩
theorem uC {target iter : Expr} {body : List Stmt} {pos : Pos} (h : WE c k sc iter m H fun v H1=>∃ xs,dy H1 v xs/\∀ l,v = .ref l->i7 c k sc target body (fun H'=>H' l = H1 l) xs m H1 Q)
  (hs : ∀ env x,foldedSetIterable iter env x = pure x) : WS c k sc (exec (.For target iter body [] pos)) m H Q:=by
 intro A env g s hA hsc hF hR
 refine wpAny_For (dQ h hA hF hR fun v s1 H1 F1 R1 ⟨xs,hi,hl⟩=>?_) (hs env)
 refine jn R1.toRest hi fun l own s2 e R2 hk hown hI=>?_
 have F2:=F1.behind R2
 exact qn hA hsc F2 (R1.back R2) hI rfl (cq.new F1 R1 (Heap.get?_none_of_le hown)) (hl l e) fun f s' q=>q
end rules
end
section
theorem cy {α : Type} : ∀ {l : List (Str × α)} {n : Str} {k : α},(l.map (·.1)).Nodup->(n,k)∈l->l.lookup n = some k
 | (a,b) :: r,n,k,hn,hm=>by
  simp only [List.map_cons,List.nodup_cons] at hn
  rcases List.mem_cons.mp hm with e | hm
  ·cases e; simp
  ·have : n≠a:=fun e=>hn.1 (e▸List.mem_map.mpr ⟨_,hm,rfl⟩)
   refine aa (List.lookup_cons ..) (aa (beq_eq_false_iff_ne.mpr this) ?_)
   exact cy hn.2 hm
theorem aW : ∀ (names : List (Str × NameKind)) (k : Nat) (acc : List (Str × Addr)),cellsFrom k names acc = cellsFrom k names [] ++ acc
 | [],_,_=>rfl
 | (n,kind) :: r,k,acc=>by
  unfold cellsFrom
  split
  ·rw [aW r (k + 1) ((n,k) :: acc),aW r (k + 1) [(n,k)]]; simp
  ·exact aW r k acc
theorem cT : ∀ (names : List (Str × NameKind)) (k : Nat) {n : Str} {a : Addr},(n,a)∈cellsFrom k names []->(n,NameKind.cell)∈names
 | (m,kind) :: r,k,n,a,h=>by
  unfold cellsFrom at h
  split at h
  ·rename_i hk
   rw [aW] at h
   rcases List.mem_append.mp h with h | h
   ·exact .tail _ (cT r _ h)
   ·simp only [List.mem_singleton,Prod.mk.injEq] at h
    refine aa (h.1 ..) ?_; refine aa (eq_of_beq hk) ?_; exact .head _
  ·exact .tail _ (cT r _ h)
theorem cg : ∀ (names : List (Str × NameKind)) (k : Nat) {n : Str},(n,NameKind.cell)∈names->∃ a,(n,a)∈cellsFrom k names []
 | (m,kind) :: r,k,n,h=>by
  unfold cellsFrom
  rcases List.mem_cons.mp h with e | h
  ·clear h; cases e
   refine aa (if_pos (by rfl)) (aa (aW ..) ?_)
   exact ⟨k,List.mem_append_right _ (by simp)⟩
  ·split
   ·obtain ⟨a,ha⟩:=cg r (k + 1) h
    refine aa (aW ..) ?_; exact ⟨a,List.mem_append_left _ ha⟩
   ·exact cg r k h
theorem ci {α : Type} (n : Str) : ∀ (l r : List (Str × α)),(l ++ r).lookup n = (l.lookup n).or (r.lookup n)
 | [],r=>rfl
 | (a,b) :: l,r=>by
  refine aa (List.cons_append ..) (aa (List.lookup_cons ..) (aa (List.lookup_cons ..) ?_))
  cases n == a
  ·exact ci n l r
  ·rfl
def eG (env : Env) : List (Str × NameKind)->List (Str × Addr)->List (Str × Addr)
 | [],cs=>cs
 | (n,k) :: r,cs=>eG env r (if k == .free then (n,(env.cells.lookup n).getD 0) :: cs else cs)
theorem dC (env : Env) : ∀ (l : List (Str × NameKind)) (cs : List (Str × Addr)),eG env l cs = eG env l [] ++ cs
 | [],_=>rfl
 | (n,k) :: r,cs=>by
  unfold eG
  rw [dC env r]
  conv=>rhs; rw [dC env r]
  split<;>simp
theorem eR (env : Env) : ∀ (l : List (Str × NameKind)) {n : Str} {a : Addr},(n,a)∈eG env l []->(n,NameKind.free)∈l/\a = (env.cells.lookup n).getD 0
 | (m,k) :: r,n,a,h=>by
  unfold eG at h
  rw [dC] at h
  rcases List.mem_append.mp h with h | h
  ·exact ⟨.tail _ (eR env r h).1,(eR env r h).2⟩
  ·split at h
   ·rename_i hk
    simp only [List.mem_singleton,Prod.mk.injEq] at h
    refine aa (h.1 ..) (aa (h.2 ..) (aa (eq_of_beq hk) ?_)); exact ⟨.head _,rfl⟩
   ·exact nomatch h
theorem ki (env : Env) : ∀ (l : List (Str × NameKind)) {n : Str},(n,NameKind.free)∈l->(n,(env.cells.lookup n).getD 0)∈eG env l []
 | (m,k) :: r,n,h=>by
  unfold eG
  refine aa (dC ..) ?_
  rcases List.mem_cons.mp h with e | h
  ·clear h; cases e
   exact List.mem_append_right _ (by simp)
  ·exact List.mem_append_left _ (ki env r h)
theorem iU {scope : Scope} {env : Env} (h : ∀ x∈scope.names,x.2 = .free->(env.cells.lookup x.1).isSome = true) : closureFor scope env = pure (eG env scope.names []):=by
 unfold closureFor
 have key : ∀ (l : List (Str × NameKind)) (cs : List (Str × Addr)),(∀ x∈l,x.2 = .free->(env.cells.lookup x.1).isSome = true)->
   (forIn l cs fun x r=>(match x with
    | (name,kind)=>if (kind == NameKind.free) = true then do
      let __do_lift <-cellOf env name
      pure (ForInStep.yield ((name,__do_lift) :: r))
     else pure (ForInStep.yield r) : Sem (ForInStep (List (Str × Addr))))) = (pure (eG env l cs) : Sem _):=by
  intro l
  induction l with
  | nil=>intro cs _; rfl
  | cons x r ih=>
   intro cs hx
   obtain ⟨n,k⟩:=x
   refine aa (List.forIn_cons ..) ?_
   unfold eG
   by_cases hk : (k == NameKind.free) = true
   ·have h1:=hx (n,k) (.head _) (eq_of_beq hk)
    obtain ⟨a,ha⟩:=Option.isSome_iff_exists.mp h1
    have hc : cellOf env n = pure a:=by unfold cellOf; exact aa (ha ..) rfl
    simp only [hk,if_true,hc]
    refine aa (ha ..) ?_
    exact ih _ fun y hy=>hx y (.tail _ hy)
   ·simp only [hk]
    exact ih _ fun y hy=>hx y (.tail _ hy)
 have:=key scope.names [] h
 exact (congrArg (· >>=pure) this).trans rfl
theorem gZ (scope : Scope) (env : Env) (x : Str) : (relabel scope env).names.lookup x = (scope.names.lookup x).map fun k=>if (k == .free && env.scope.kind == .function && env.kindOf x == some .cell) then .cell else k:=by
 unfold relabel
 generalize scope.names = l
 show (l.map _).lookup x = _
 induction l with
 | nil=>rfl
 | cons p r ih=>
  obtain ⟨n,k⟩:=p
  refine aa (List.map_cons ..) ?_
  have gen : ∀ (P : NameKind->Str->Bool) (l' : List (Str × NameKind)) (R : Option NameKind),l'.lookup x = R->
    (((if P k n = true then (n,NameKind.cell) else (n,k)) :: l').lookup x) = if x = n then some (if P k x = true then .cell else k) else R:=by
   intro P l' R hR
   by_cases hx : x = n
   ·subst hx
    refine aa (if_pos rfl) ?_
    cases P k x<;>simp [List.lookup_cons]
   ·have hx' : (x == n) = false:=beq_eq_false_iff_ne.mpr hx
    refine aa (if_neg hx) ?_
    cases P k n<;>simp only [if_true,Bool.false_eq_true,if_false,List.lookup_cons,hx']<;>exact hR
  refine (gen (fun k n=>k == .free && env.scope.kind == .function && env.kindOf n == some .cell) _ _ ih).trans ?_
  by_cases hx : x = n
  ·clear gen; subst hx; refine aa (if_pos rfl) (aa (List.lookup_cons ..) (aa (beq_self_eq_true ..) ?_)); rfl
  ·have hx' : (x == n) = false:=beq_eq_false_iff_ne.mpr hx
   exact aa (if_neg hx) (aa (List.lookup_cons ..) (aa (hx' ..) rfl))
def dp (scope : Scope) (m : aS) : aS:=fun x=>if scope.names.lookup x = some .free then m x else none
def dL (sc scope : Scope) : Bool:=
 decide (scope.kind = .function) && decide ((scope.names.map (·.1)).Nodup) && scope.names.all fun x=>x.2 != .free || sc.names.lookup x.1 == some .cell || sc.names.lookup x.1 == some .free
section
variable {c : Cx} {k : Nat} {sc : Scope} {m : aS} {H : ag}
theorem ft {M : Model} {A : Around} {scope : Scope} {env : Env} {cl : List (Str × Addr)} {qual : Str} {s : Shared} {P : Env->Shared->Prop}
  (h : P { scope,locals:=s.heap.objs.size,globals:=env.globals,cells:=cellsFrom (s.heap.objs.size + 1) scope.names cl,qual:=qual,func:=none,code:=env.code,frame:=env.frame,builtins:=env.builtins }
   { s with heap:=pushCells (s.heap.push { cls:=.type "dict",data:=.dict #[] }) scope.names }) :
  wpAny M A (newFunctionEnv scope env.globals cl [] qual none .none (some env)) P F0 s:=by
 simp only [newFunctionEnv,Option.isSome_some,if_true]
 refine wpAny_bind (wpAny_alloc ?_)
 refine wpAny_bind (wpAny_layCells _ (fun name kind cells=>by cases hkc : kind == NameKind.cell<;>rfl) _ _ _ _ ?_)
 refine aa (show ({ s with heap:=s.heap.push { cls:=.type "dict",data:=.dict #[] } } : Shared).heap.objs.size = s.heap.objs.size + 1 from Heap.size_push ..) ?_
 exact wpAny_pure h
theorem l8 {scope : Scope} {env : Env} {g : aZ} {s : Shared} {tk : Nat} (hok : dL sc scope = true) (F : dJ c env sc m g) (R : aT c g H s) {C : Addr} {cenv : Env} {h' : Heap}
  (hC : C = s.heap.objs.size) (he : cenv = { scope:=relabel scope env,locals:=C,globals:=env.globals,cells:=cellsFrom (C + 1) scope.names (eG env scope.names []),qual:=env.qual,func:=none,code:=env.code,frame:=env.frame,builtins:=env.builtins })
  (hh : h' = pushCells (s.heap.push { cls:=.type "dict",data:=.dict #[] }) scope.names) :
  cM c cenv scope (dp scope m) g H { s with heap:=h',toks:=tk }/\(∀ b o,s.heap.get? b = some o->h'.get? b = some o):=by
 subst hC
 simp only [dL,Bool.and_eq_true,decide_eq_true_eq] at hok
 refine bc fun GG=>?_
 obtain ⟨⟨hkind,hnd⟩,hfr⟩:=hok
 refine GG ?_
 have hk : ∀ b o,s.heap.get? b = some o->h'.get? b = some o:=fun b o e=>hh▸pushCells_keeps _ _ b o (Heap.get?_push_of_some _ e)
 have hpush : h'.get? s.heap.objs.size = some { cls:=.type "dict",data:=.dict #[] }:=by refine aa (hh ..) ?_; exact pushCells_keeps _ _ _ _ (Heap.get?_push_size _ rfl)
 have ok:=cellsFrom_ok scope.names (s.heap.push { cls:=.type "dict",data:=.dict #[] }) (s.heap.objs.size + 1) [] ⟨fun _ _ hm=>(nomatch hm),List.Pairwise.nil⟩ (by refine aa (Heap.size_push ..) ?_; exact Nat.le_refl _)
 rw [Heap.size_push,<-hh] at ok
 have hcells : cenv.cells = cellsFrom (s.heap.objs.size + 1) scope.names [] ++ eG env scope.names []:=by refine aa (he ..) ?_; exact aW _ _ _
 have freeIn : ∀ x,(x,NameKind.free)∈scope.names->sc.names.lookup x = some .cell\/sc.names.lookup x = some .free:=fun x hx=>by
  have:=List.all_eq_true.mp hfr _ hx
  simpa [Bool.or_eq_true] using this
 have split : ∀ n a,cenv.cells.lookup n = some a->((n,a)∈cellsFrom (s.heap.objs.size + 1) scope.names []/\scope.names.lookup n = some .cell)\/(scope.names.lookup n = some .free/\env.cells.lookup n = some a):=by
  intro n a hl
  rw [hcells,ci] at hl
  cases q : (cellsFrom (s.heap.objs.size + 1) scope.names []).lookup n with
  | some b=>
   rw [q] at hl; cases hl
   have:=PySem.mem_of_lookup q
   exact .inl ⟨this,cy hnd (cT _ _ this)⟩
  | none=>
   rw [q] at hl
   have hm:=eR env _ (PySem.mem_of_lookup hl)
   refine .inr ⟨cy hnd hm.1,?_⟩
   refine bc fun GG=>?_
   obtain ⟨a',o,ov,h1,_⟩:=F.cel n (freeIn n hm.1)
   refine GG ?_
   rw [h1] at hm; refine aa (hm.2 ..) ?_; exact h1
 have freeLook : ∀ n a,scope.names.lookup n = some .free->env.cells.lookup n = some a->cenv.cells.lookup n = some a:=by
  intro n a hn ha
  refine aa (hcells ..) (aa (ci ..) ?_)
  have h1 : (cellsFrom (s.heap.objs.size + 1) scope.names []).lookup n = none:=by
   cases q : (cellsFrom (s.heap.objs.size + 1) scope.names []).lookup n with
   | none=>rfl
   | some b=>
    have:=cy hnd (cT _ _ (PySem.mem_of_lookup q))
    rw [hn] at this; exact nomatch this
  refine aa (h1 ..) ?_
  have hm:=ki env _ (PySem.mem_of_lookup hn)
  rw [ha] at hm
  cases q : (eG env scope.names []).lookup n with
  | none=>
   exfalso
   have : ∀ {l : List (Str × Addr)},(n,a)∈l->l.lookup n≠none:=fun {l} hm=>by
    induction l with
    | nil=>exact nomatch hm
    | cons p r ih=>
     refine bc fun GG=>?_
     obtain ⟨x,y⟩:=p
     refine GG ?_
     refine aa (List.lookup_cons ..) ?_
     cases e : n == x with
     | true=>simp
     | false=>
      rcases List.mem_cons.mp hm with z | z
      ·cases z; simp at e
      ·exact ih z
   exact this hm q
  | some b=>
   have:=(eR env _ (PySem.mem_of_lookup q)).2
   rw [ha] at this; simpa using this
 have gC : ∀ b,s.heap.objs.size<=b->g b = none:=fun b hb=>by
  cases q : g b with
  | none=>rfl
  | some o=>exact absurd (Heap.lt_size (R.keep _ _ q)) (Nat.not_lt.mpr hb)
 have loc : cenv.locals = s.heap.objs.size:=by exact aa (he ..) rfl
 refine ⟨⟨⟨by refine aa (he ..) ?_; exact hkind,fun x=>?_,by refine aa (he ..) ?_; exact F.gl,by refine aa (he ..) ?_; exact F.bl,by refine aa (he ..) ?_; exact F.cd,?_,?_⟩,?_,?_,?_,?_⟩,hk⟩
 ·have : cenv.kindOf x = (relabel scope env).names.lookup x:=by refine aa (he ..) ?_; rfl
  refine aa (this ..) (aa (gZ ..) ?_)
  cases q : scope.names.lookup x with
  | none=>exact .inl rfl
  | some kk=>
   simp only [Option.map_some]
   split
   ·rename_i hc
    simp only [Bool.and_eq_true,beq_iff_eq] at hc
    exact .inr ⟨by exact aa (hc.1.1 ..) rfl,rfl⟩
   ·exact .inl rfl
 ·refine aa (loc ..) ?_
  refine ⟨_,#[],0,hpush,rfl,fun e he=>by simp at he,fun x hx=>?_⟩
  unfold dp
  refine aa (hx ..) (aa (if_neg (by simp)) ?_); rfl
 ·intro x hx
  rcases hx with hx | hx
  ·refine bc fun GG=>?_
   obtain ⟨a,ha⟩:=cg scope.names (s.heap.objs.size + 1) (PySem.mem_of_lookup hx)
   refine GG ?_
   cases q : (cellsFrom (s.heap.objs.size + 1) scope.names []).lookup x with
   | none=>
    exfalso
    have : ∀ {l : List (Str × Addr)},(x,a)∈l->l.lookup x≠none:=fun {l} hm=>by
     induction l with
     | nil=>exact nomatch hm
     | cons p r ih=>
      refine bc fun GG=>?_
      obtain ⟨y,z⟩:=p
      refine GG ?_
      refine aa (List.lookup_cons ..) ?_
      cases e : x == y with
      | true=>simp
      | false=>
       rcases List.mem_cons.mp hm with w | w
       ·cases w; simp at e
       ·exact ih w
    exact this ha q
   | some b=>
    refine bc fun GG=>?_
    obtain ⟨⟨o,h1,h2⟩,_⟩:=ok.empty x b (PySem.mem_of_lookup q)
    refine GG ?_
    refine ⟨b,o,none,by refine aa (hcells ..) (aa (ci ..) (aa (q ..) ?_)); rfl,h1,h2,?_⟩
    unfold dp
    refine aa (hx ..) (aa (if_neg (by simp)) ?_); rfl
  ·refine bc fun GG=>?_
   obtain ⟨a,o,ov,h1,h2,h3,h4⟩:=F.cel x (freeIn x (PySem.mem_of_lookup hx))
   refine GG ?_
   refine ⟨a,o,ov,freeLook x a hx h1,hk _ _ (R.keep _ _ h2),h3,?_⟩
   unfold dp
   refine aa (if_pos hx) ?_; exact h4
 ·refine aa (loc ..) ?_; exact gC _ (Nat.le_refl _)
 ·refine aa (loc ..) ?_; exact R.none_of_fresh (Nat.le_refl _)
 ·intro n a hl
  rcases split n a hl with ⟨h1,h2⟩ | ⟨h1,h2⟩
  ·refine bc fun GG=>?_
   obtain ⟨⟨o,h3,h4⟩,h5⟩:=ok.empty n a h1
   refine GG ?_
   have : s.heap.objs.size<=a:=by exact yI h5
   exact ⟨fun _=>gC _ this,R.none_of_fresh this,by refine aa (loc ..) ?_; exact Nat.ne_of_gt h5,o,h3⟩
  ·refine bc fun GG=>?_
   obtain ⟨a',o,ov,g1,g2,_⟩:=F.cel n (freeIn n (PySem.mem_of_lookup h1))
   refine GG ?_
   rw [h2] at g1; cases g1
   refine ⟨fun z=>(by rw [h1] at z; exact nomatch z),R.none_of_g g2,?_,o,hk _ _ (R.keep _ _ g2)⟩
   refine aa (loc ..) ?_; exact Nat.ne_of_lt (Heap.lt_size (R.keep _ _ g2))
 ·intro n n' a hn hl hl'
  rcases split n a hl with ⟨h1,h2⟩ | ⟨h1,h2⟩
  ·rcases split n' a hl' with ⟨h3,h4⟩ | ⟨h3,h4⟩
   ·exact name_of_addr ok.apart h1 h3
   ·exfalso
    refine bc fun GG=>?_
    obtain ⟨a',o,ov,g1,g2,_⟩:=F.cel n' (freeIn n' (PySem.mem_of_lookup h3))
    refine GG ?_
    rw [h4] at g1; cases g1
    have h5:=(ok.empty n a h1).2
    have:=Heap.lt_size (R.keep _ _ g2)
    exact absurd (Nat.lt_of_lt_of_le this (Nat.le_of_succ_le h5)) (Nat.lt_irrefl _)
  ·rw [hn] at h1; exact nomatch h1
end
end
section
def cN (c : Cx) (k : Nat) (sc : Scope) : List Expr->aS->ag->(Bool->ag->Prop)->Prop
 | [],_,H,Q=>Q true H
 | e :: es,m,H,Q=>WT c k sc e m H fun b H1=>if b = true then cN c k sc es m H1 Q else Q false H1
def dB (c : Cx) (k : Nat) (sc : Scope) (target : Expr) (ifs : List Expr) (elt : Expr) (stay : ag->Prop) : List AV->List AV->aS->ag->(List AV->ag->Prop)->Prop
 | [],acc,_,H,Q=>Q acc H
 | x :: xs,acc,m,H,Q=>WA c k sc target x m H fun m1 H1=>cN c k sc ifs m1 H1 fun b H2=>
   if b = true then WE c k sc elt m1 H2 fun v H3=>stay H3/\dB c k sc target ifs elt stay xs (acc ++ [v]) m1 H3 Q
   else stay H2/\dB c k sc target ifs elt stay xs acc m1 H2 Q
section
variable {c : Cx} {k : Nat} {sc : Scope} {m : aS} {H : ag}
theorem eM {prog : Program} {w : World} {A : Around} {R : Result->Shared->Prop} {s : Shared} {elt target iter : Expr} {ifs : List Expr} {scope : Scope} {pos : Pos} {it acc : Value} {env : Env} (I : Nat->Shared->Prop)
  (turn : ∀ n s,I n s->wpAny (model prog w) A (pyNext it) (fun r s₁=>match r with
   | none=>R (.ok .next) s₁
   | some v=>wpAny (model prog w) A (letOwnedTupleGo target it v) (fun _ s₁=>wpAny (model prog w) A (assign target env v) (fun _ s₂=>
     wpAny (model prog w) A (forIn ifs true fun c r=>if r = true then do let ok <-isTrue c env (eval c env); pure (ForInStep.yield ok) else pure (ForInStep.yield r)) (fun ok s₃=>
      if ok = true then wpAny (model prog w) A (eval elt env) (fun x s₄=>
       wpAny (model prog w) A (call (.builtin "list.append") [acc,x]) (fun _ s₅=>∃ m,m < n/\I m s₅) F0 s₄) F0 s₃
      else ∃ m,m < n/\I m s₃) F0 s₂) F0 s₁) F0 s₁) F0 s)
  (n : Nat) (h : I n s) : codeAny (model prog w) A (.compLoop (.ListComp elt [⟨target,iter,ifs,0⟩] scope pos) 0 it acc env) R s:=by
 refine codeAny_loop rfl I (fun n s hI=>?_) n h
 show wpAny _ _ ((compTurn (.ListComp elt [⟨target,iter,ifs,0⟩] scope pos) 0 it acc env).onRaise (fun x=>do noteFrame x env; theTreesLotGoes x)) _ _ s
 refine wpAny_noted ?_
 refine eF (compTurn_list ..) ?_
 refine wpAny_bind (wpAny_standAt (wpAny_bind (wpAny_mono (turn n s hI) (fun r s₁ h₁=>?_) fun _ _ e=>e.elim)))
 cases r with
 | none=>exact wpAny_pure h₁
 | some v=>
  refine wpAny_bind (wpAny_mono h₁ (fun _ s₁ h₁=>?_) fun _ _ e=>e.elim)
  refine wpAny_bind (wpAny_mono h₁ (fun _ s₂ h₂=>wpAny_bind (wpAny_mono h₂ (fun ok s₃ h₃=>?_) fun _ _ e=>e.elim)) fun _ _ e=>e.elim)
  cases ok with
  | false=>exact wpAny_pure ⟨rfl,h₃⟩
  | true=>
   exact wpAny_bind (wpAny_bind (wpAny_mono h₃ (fun x s₄ h₄=>wpAny_bind (wpAny_mono h₄ (fun _ s₅ h₅=>wpAny_pure (wpAny_pure ⟨rfl,h₅⟩)) fun _ _ e=>e.elim)) fun _ _ e=>e.elim))
theorem pJ {A : Around} {env : Env} {g : aZ} (hA : Rm k A) {P : Bool->Shared->Prop} : ∀ (ifs : List Expr) {H : ag} {s : Shared} {Q : Bool->ag->Prop},cM c env sc m g H s->aT c g H s->cN c k sc ifs m H Q->
  (∀ b H' s',cM c env sc m g H' s'->aT c g H' s'->Q b H'->P b s')->
  wpAny (model c.prog c.w) A (forIn ifs true fun c r=>if r = true then do let ok <-isTrue c env (eval c env); pure (ForInStep.yield ok) else pure (ForInStep.yield r)) P F0 s:=by
 have off : ∀ (ifs : List Expr) (s : Shared),P false s->wpAny (model c.prog c.w) A (forIn ifs false fun c r=>if r = true then do let ok <-isTrue c env (eval c env); pure (ForInStep.yield ok) else pure (ForInStep.yield r)) P F0 s:=by
  intro ifs
  induction ifs with
  | nil=>intro s h; exact wpAny_pure h
  | cons e es ih=>
   intro s h
   refine eF (List.forIn_cons ..) ?_
   exact wpAny_bind (wpAny_pure (ih s h))
 intro ifs
 induction ifs with
 | nil=>intro H s Q F R h hp; exact wpAny_pure (hp _ _ _ F R h)
 | cons e es ih=>
  intro H s Q F R h hp
  refine aa (List.forIn_cons ..) (aa (if_pos rfl) ?_)
  refine wpAny_bind (wpAny_bind (dQ h hA F R fun b s1 H1 F1 R1 q=>wpAny_pure ?_))
  cases b with
  | false=>exact off es s1 (hp _ _ _ F1 R1 q)
  | true=>exact ih F1 R1 q hp
inductive zr (c : Cx) (k : Nat) (sc : Scope) (env : Env) (g : aZ) (target elt : Expr) (ifs : List Expr) (l own D : Addr) (H₀ : ag) (Q : List AV->ag->Prop) (n : Nat) (s : Shared) : Prop
 | mk (xs acc : List AV) (m : aS) (H : ag) (items : Array Value) (nn : Nat) (hn : n = xs.length) (F : cM c env sc m g H s) (R : aT c g H s) (I : ec H₀ l own s.heap xs) (st : H l = H₀ l) (o : H own = none) (d : H D = none)
  (L : IsL s.heap D items nn) (hm : items.toList.map av = acc) (hsz : acc.length + xs.length<=1000000) (h : dB c k sc target ifs elt (fun H'=>H' l = H₀ l) xs acc m H Q)
theorem pi {target elt iter : Expr} {ifs : List Expr} {scope : Scope} {pos : Pos} {l own D : Addr} {H₀ : ag} {A : Around} {env : Env} {g : aZ} {s : Shared} {xs acc : List AV} {items : Array Value} {nn : Nat}
  {Q : List AV->ag->Prop} {R' : Result->Shared->Prop} (hA : Rm k A) (hF : cM c env sc m g H s) (hR : aT c g H s) (hI : ec H₀ l own s.heap xs) (hst : H l = H₀ l) (W : cq env g H own) (WD : cq env g H D) (hDo : D≠own) (hL : IsL s.heap D items nn) (hm : items.toList.map av = acc)
  (hsz : acc.length + xs.length<=1000000)
  (h : dB c k sc target ifs elt (fun H'=>H' l = H₀ l) xs acc m H Q)
  (hR' : ∀ ys m' H' s' items' n',cM c env sc m' g H' s'->aT c g H' s'->IsL s'.heap D items' n'->items'.toList.map av = ys->H' D = none->Q ys H'->R' (.ok .next) s') :
  codeAny (model c.prog c.w) A (.compLoop (.ListComp elt [⟨target,iter,ifs,0⟩] scope pos) 0 (.ref own) (.ref D) env) R' s:=by
 refine eM (zr c k sc env g target elt ifs l own D H₀ Q) (fun n s J=>?_) xs.length ⟨xs,acc,m,H,items,nn,rfl,hF,hR,hI,hst,W.N,WD.N,hL,hm,hsz,h⟩
 obtain ⟨xs,acc,m,H,items,nn,rfl,hF,hR,hI,hst,hoH,hDH,hL,hm,hsz,h⟩:=J
 have W : cq env g H own:=⟨W.L,W.C,W.G,hoH⟩
 have WD : cq env g H D:=⟨WD.L,WD.C,WD.G,hDH⟩
 cases xs with
 | nil=>exact kL hA.hd W hF hR hI hst fun s1 F1 R1 he=>hR' acc m H _ items nn F1 R1 (he _ _ hDo hL) hm hDH h
 | cons x xs=>
  refine jA W hF hR hI hst fun u s1 hu F1 R1 hI' hs=>?_
  have gD:=WD.kept (sc:=sc) ((hs _ hDo).trans hL)
  have mg:=F1.le_restF R1
  refine gw hI' (aY (h u hu A env _ _ hA F1.restFr (F1.restRel R1)) fun _ s2 J=>?_)
  obtain ⟨m1,H1,F1,R1,q1⟩:=J
  have sz : xs.length < xs.length + 1:=Nat.lt_succ_self _
  refine pJ hA ifs F1 R1 q1 fun b H2 s3 F2 R2 q2=>?_
  cases b with
  | false=>
   have q2:=(if_neg Bool.false_ne_true).mp q2
   exact ⟨xs.length,sz,xs,acc,m1,H2,items,nn,rfl,F2.mono_g mg,R2.mono hR.base mg,hI'.at fun o e=>R2.keep _ _ (W.kept e),q2.1,hI'.get.elim fun o e=>R2.none_of_g (W.kept e),R2.none_of_g gD,R2.keep _ _ gD,hm,Nat.le_of_succ_le hsz,q2.2⟩
  | true=>
   refine dQ ((if_pos rfl).mp q2) hA F2 R2 fun v s4 H3 F3 R3 q3=>?_
   have hL4 : IsL s4.heap D items nn:=R3.keep _ _ gD
   have hl : items.size = acc.length:=by exact aa (Eq.symm (hm ..)) (aa (List.length_map ..) (aa (Array.length_toList ..) rfl))
   refine call_meets PySem.F.slot_list_append ⟨_,hL4,rfl⟩ PySem.F.entry_list_append (PySem.F.args_list_append_2 _ _) (list_append D items nn v (sizeLine_eq▸wD hsz hl)) ⟨hL4,?_⟩
   have hne : ∀ b,b≠D->(s4.heap.update D (Obj.mapSeq fun x=>x.push v)).get? b = s4.heap.get? b:=fun b hb=>Heap.get?_update_ne _ _ _ _ hb
   have hD3:=R3.none_of_g gD
   have Y:=cq.step1 (tk:=s4.toks) ⟨WD.L,WD.C,WD.G,hD3⟩ (F3.mono_g mg) (R3.mono hR.base mg) fun b o q e=>(hne b q).trans e
   exact ⟨xs.length,sz,xs,acc ++ [av v],m1,H3,items.push v,_,rfl,Y.1,Y.2,hI'.at fun o e=>(hne _ (Ne.symm hDo)).trans (R3.keep _ _ (W.kept e)),q3.1,hI'.get.elim fun o e=>R3.none_of_g (W.kept e),hD3,hL4.update _,by refine aa (Array.toList_push ..) (aa (List.map_append ..) (aa (hm ..) ?_)); rfl,
    by rw [List.length_append,Nat.add_assoc,List.length_singleton,Nat.add_comm 1]; exact hsz,q3.2⟩
theorem aT.adopt {g : aZ} {s : Shared} {a : Addr} {o : AO} (R : aT c g H s) (hg : g a = none) (hr : HR c s.heap a o) : aT c g (an H a o) s:=
 ⟨R.base,R.keep,fun b ob e=>(by
   by_cases q : b = a
   ·clear hg; subst q; rw [ad] at e; cases e; exact hr
   ·rw [aj q] at e; exact R.rep _ _ e),
  fun b ob e=>(by
   by_cases q : b = a
   ·clear hr e; subst q; exact hg
   ·rw [aj q] at e; exact R.apart _ _ e),R.gens,R.os⟩
theorem jx {elt target iter : Expr} {ifs : List Expr} {scope : Scope} {pos fpos : Pos} {A : Around} {env : Env} {g : aZ} {s : Shared} {use : Option (Value->Sem Unit)} {P : Value->Shared->Prop} {Q : AV->ag->Prop}
  (hok : dL sc scope = true) (hs : ∀ env x,foldedSetIterable iter env x = pure x) (hA : Rm k A) (hF : dJ c env sc m g) (hR : aT c g H s)
  (h : WE c k sc iter m H fun v H1=>∃ xs,dy H1 v xs/\xs.length<=1000000/\∀ l,v = .ref l->dB c k scope target ifs elt (fun H'=>H' l = H1 l) xs [] (dp scope m) H1 fun ys H2=>∀ a,H2 a = none->Q (.ref a) (an H2 a (.list ys)))
  (hP : ∀ C D s' H',aT c g H' s'->Q (.ref D) H'->(∃ mm,s'.heap.Ns C mm)->g C = none->H' C = none->compPost (model c.prog c.w) A F0 use P (.ref D) C (.ok .next) s') :
  wpAny (model c.prog c.w) A (comprehension (.ListComp elt [⟨target,iter,ifs,0⟩] scope pos) scope env fpos (newList []) false (eval iter env) use) P F0 s:=by
 have hok':=hok
 simp only [dL,Bool.and_eq_true,decide_eq_true_eq] at hok'
 refine bc fun GG=>?_
 obtain ⟨⟨hkind,hnd⟩,hfr⟩:=hok'
 refine GG ?_
 have hclos : closureFor scope env = pure (eG env scope.names []):=iU fun x hx hk=>by
  have:=List.all_eq_true.mp hfr x hx
  rw [hk] at this
  have h2 : sc.names.lookup x.1 = some .cell\/sc.names.lookup x.1 = some .free:=by simpa [Bool.or_eq_true] using this
  refine bc fun GG=>?_
  obtain ⟨a,o,ov,h3,_⟩:=hF.cel x.1 h2
  refine GG ?_
  refine aa (h3 ..) ?_; rfl
 refine wpAny_comprehension_free (g:=⟨target,iter,ifs,0⟩) (gs:=[]) rfl (hs env) hclos hkind (fun x hx hl=>?_) (aY (h A env g s hA hF hR) ?_)
 ·refine bc fun GG=>?_
  obtain ⟨n,kk⟩:=x
  refine GG ?_
  have hl' : kk = .local:=hl
  clear hl GG; subst hl'
  exact cy hnd hx
 intro v s1 hzz
 refine bc fun GG=>?_
 obtain ⟨H1,R1,xs,hi,hlen,hc⟩:=hzz
 refine GG ?_
 refine jn R1 hi fun l own s2 e R2 hk2 hown hI=>?_
 refine wpAny_newObj_type ?_ (by size_fits)
 have R3:=R2.push { cls:=.type "list",data:=.seq (#[] : Array Value) }
 have fr:=l8 (tk:=s2.toks) hok hF R3 (cenv:={ scope:=relabel scope env,locals:=(s2.heap.push { cls:=.type "list",data:=.seq (#[] : Array Value) }).objs.size,globals:=env.globals,cells:=cellsFrom ((s2.heap.push { cls:=.type "list",data:=.seq (#[] : Array Value) }).objs.size + 1) scope.names (eG env scope.names []),qual:=env.qual,func:=none,code:=env.code,frame:=env.frame,builtins:=env.builtins })
  rfl rfl rfl
 refine ft ?_
 refine bc fun GG=>?_
 obtain ⟨F4,hk4⟩:=fr
 have hk3 : ∀ b o,s2.heap.get? b = some o->(s2.heap.push { cls:=.type "list",data:=.seq (#[] : Array Value) }).get? b = some o:=fun b o e=>Heap.get?_push_of_some _ e
 obtain ⟨oi,_,_,hoi,_⟩:=hI.there
 refine GG ?_
 have hD3:=IsL.new s2.heap (#[] : Array Value)
 have R4:=R3.grow (tk:=s2.toks) hk4
 have hsz3 : (s2.heap.push { cls:=.type "list",data:=.seq (#[] : Array Value) }).objs.size = s2.heap.objs.size + 1:=Heap.size_push _ _
 have hlt : ∀ b o,s2.heap.get? b = some o->b < s2.heap.objs.size:=fun b o e=>Heap.lt_size e
 have gNone : ∀ b,s1.heap.objs.size<=b->g b = none:=fun b hb=>by
  cases q : g b with
  | none=>rfl
  | some o=>exact absurd (Heap.lt_size (R1.keep _ _ q)) (Nat.not_lt.mpr hb)
 have ownlt:=hlt own oi hoi
 have clt : ∀ n a,List.lookup n (cellsFrom ((s2.heap.push { cls:=.type "list",data:=.seq (#[] : Array Value) }).objs.size + 1) scope.names (eG env scope.names [])) = some a->(a < s1.heap.objs.size)\/s2.heap.objs.size + 1 < a:=by
  intro n a hn
  rw [aW,ci] at hn
  cases q : (cellsFrom ((s2.heap.push { cls:=.type "list",data:=.seq (#[] : Array Value) }).objs.size + 1) scope.names []).lookup n with
  | some b=>
   rw [q] at hn; cases hn
   right
   have e2 : ((s2.heap.push { cls:=.type "list",data:=.seq (#[] : Array Value) }).push { cls:=.type "dict",data:=.dict #[] }).objs.size = (s2.heap.push { cls:=.type "list",data:=.seq (#[] : Array Value) }).objs.size + 1:=Heap.size_push _ _
   have ok:=cellsFrom_ok scope.names ((s2.heap.push { cls:=.type "list",data:=.seq (#[] : Array Value) }).push { cls:=.type "dict",data:=.dict #[] }) ((s2.heap.push { cls:=.type "list",data:=.seq (#[] : Array Value) }).objs.size + 1) [] ⟨fun _ _ hm=>(nomatch hm),List.Pairwise.nil⟩ (Nat.le_of_eq e2.symm)
   rw [e2] at ok
   have:=(ok.empty n _ (PySem.mem_of_lookup q)).2
   rw [hsz3] at this
   exact this
  | none=>
   rw [q] at hn
   left
   have hm:=eR env _ (PySem.mem_of_lookup hn)
   have h2:=List.all_eq_true.mp hfr _ hm.1
   have h2 : sc.names.lookup n = some .cell\/sc.names.lookup n = some .free:=by simpa [Bool.or_eq_true] using h2
   refine bc fun GG=>?_
   obtain ⟨a',o,ov,h3,h4,_⟩:=hF.cel n h2
   refine GG ?_
   rw [h3] at hm
   have : a = a':=by simpa using hm.2
   clear hm h3; subst this
   exact Heap.lt_size (R1.keep _ _ h4)
 have go : codeAny (model c.prog c.w) A (.compLoop (.ListComp elt [⟨target,iter,ifs,0⟩] scope pos) 0 (.ref own) (.ref s2.heap.objs.size)
   { scope:=relabel scope env,locals:=(s2.heap.push { cls:=.type "list",data:=.seq (#[] : Array Value) }).objs.size,globals:=env.globals,cells:=cellsFrom ((s2.heap.push { cls:=.type "list",data:=.seq (#[] : Array Value) }).objs.size + 1) scope.names (eG env scope.names []),qual:=env.qual,func:=none,code:=env.code,frame:=env.frame,builtins:=env.builtins })
   (compPost (model c.prog c.w) A F0 use P (.ref s2.heap.objs.size) (s2.heap.push { cls:=.type "list",data:=.seq (#[] : Array Value) }).objs.size)
   { s2 with heap:=pushCells ((s2.heap.push { cls:=.type "list",data:=.seq (#[] : Array Value) }).push { cls:=.type "dict",data:=.dict #[] }) scope.names }:=by
  refine pi (D:=s2.heap.objs.size) (acc:=[]) (items:=#[]) (nn:=0) hA F4 R4 (hI.at fun o e=>hk4 _ _ (hk3 _ _ e)) rfl ⟨?_,?_,gNone _ hown,R1.none_of_fresh hown⟩ ⟨?_,?_,gNone _ (Nat.le_of_lt (Nat.lt_of_le_of_lt hown ownlt)),R2.none_of_fresh (Nat.le_refl _)⟩ (Nat.ne_of_gt ownlt) (hk4 _ _ hD3) rfl (by simpa using hlen) (hc l e) ?_
  ·show own≠_
   refine aa (hsz3 ..) ?_; exact Nat.ne_of_lt (Nat.lt_succ_of_lt ownlt)
  ·intro n a hn
   rcases clt n a hn with q | q
   ·exact Nat.ne_of_gt (Nat.lt_of_lt_of_le q hown)
   ·exact Nat.ne_of_lt (Nat.lt_trans (Nat.lt_succ_of_lt ownlt) q)
  ·show s2.heap.objs.size≠_
   refine aa (hsz3 ..) ?_; exact Nat.ne_of_lt (Nat.lt_succ_self _)
  ·intro n a hn
   rcases clt n a hn with q | q
   ·exact Nat.ne_of_gt (Nat.lt_of_lt_of_le q (Nat.le_of_lt (Nat.lt_of_le_of_lt hown ownlt)))
   ·exact Nat.ne_of_lt (Nat.lt_trans (Nat.lt_succ_self _) q)
  ·intro ys m' H' s' items' n' F' R' hL' hm' hDn hq
   have gD:=gNone s2.heap.objs.size (Nat.le_of_lt (Nat.lt_of_le_of_lt hown ownlt))
   refine bc fun GG=>?_
   obtain ⟨o',es,ep,hC,hCd,hCk,_⟩:=F'.fr.loc
   refine GG ?_
   refine hP _ _ s' _ (R'.adopt (o:=.list ys) gD ⟨items',n',hL',hm'⟩) (hq _ hDn) ⟨nsFind es,o',es,ep,hC,hCd,hCk,fun _=>rfl⟩ F'.gL ?_
   refine aa (aj (by show (s2.heap.push _).objs.size≠_; rw [hsz3]; exact Nat.ne_of_gt (Nat.lt_succ_self _))) ?_
   exact F'.HL
 refine codeAny_compStart_list go ?_
 rcases hI with ⟨_,i,_,h1,_⟩ | ⟨_,x,left,_,h1,_⟩
 ·refine wpAny_pyIter_listiter (h1.at fun o e=>hk4 _ _ (hk3 _ _ e)) go
 ·exact wpAny_pyIter_rangeiter (hk4 _ _ (hk3 _ _ h1)) go
theorem si {elt target iter : Expr} {ifs : List Expr} {scope : Scope} {pos : Pos} {Q : AV->ag->Prop}
  (hok : dL sc scope = true) (hs : ∀ env x,foldedSetIterable iter env x = pure x)
  (h : WE c k sc iter m H fun v H1=>∃ xs,dy H1 v xs/\xs.length<=1000000/\∀ l,v = .ref l->dB c k scope target ifs elt (fun H'=>H' l = H1 l) xs [] (dp scope m) H1 fun ys H2=>∀ a,H2 a = none->Q (.ref a) (an H2 a (.list ys))) :
  WE c k sc (.ListComp elt [⟨target,iter,ifs,0⟩] scope pos) m H Q:=by
 intro A env g s hA hF hR
 refine eF (eval_ListComp ..) ?_
 refine jx (use:=none) hok hs hA hF hR h fun C D s' H' R' q hC gC HC=>?_
 obtain ⟨mm,hn⟩:=hC
 refine ⟨mm,hn,fun h' hs'=>⟨H',R'.other (tk:=s'.toks) (fun b o e q=>(hs'.2 b fun z=>by clear HC hn hs'; subst z; rw [gC] at e; exact ns e).trans q) (fun b o e=>hs'.2 b fun z=>by clear gC hn hs'; subst z; rw [HC] at e; exact ns e),q⟩⟩
theorem r8 {x : Str} {pos' pos spos : Pos} {elt target iter : Expr} {ifs : List Expr} {scope : Scope} {Q : Fl->aS->ag->Prop} (hx : a0 sc x = true)
  (hok : dL sc scope = true) (hs : ∀ env x,foldedSetIterable iter env x = pure x)
  (hsw : ∀ env,env.scope = sc->swapsWith (.ListComp elt [⟨target,iter,ifs,0⟩] scope pos) (some (.Name x pos')) spos.line env = pure true)
  (h : WE c k sc iter m H fun v H1=>∃ xs,dy H1 v xs/\xs.length<=1000000/\∀ l,v = .ref l->dB c k scope target ifs elt (fun H'=>H' l = H1 l) xs [] (dp scope m) H1 fun ys H2=>∀ a,H2 a = none->Q .next (put m x (.ref a)) (an H2 a (.list ys))) :
  WS c k sc (exec (.Assign [.Name x pos'] (.ListComp elt [⟨target,iter,ifs,0⟩] scope pos) spos)) m H Q:=by
 intro A env g s hA hsc hF hR
 refine aa (exec_Assign_Name_used _ _ _ _ (hsw env hsc)) ?_
 refine wpAny_bind (wpAny_standAt (wpAny_bind ?_))
 show wpAny _ A (do let _ <-comprehension (.ListComp elt [⟨target,iter,ifs,0⟩] scope pos) scope env _ (newList []) false (eval iter env) (some (assign (.Name x pos') env))) _ _ s
 refine wpAny_bind (jx (use:=some (assign (.Name x pos') env)) (Q:=fun v H'=>Q .next (put m x v) H') hok hs hA hF.toRest hR.toRest h fun C D s' H' R' q hC gC HC=>?_)
 obtain ⟨mm,hn⟩:=hC
 have F1:=hF.behind R'
 have R1:=hR.back R'
 show wpAny _ A (assign (.Name x pos') env (.ref D)) _ _ s'
 have hCL : C≠env.locals:=by
  obtain ⟨o,es,ep,h1,_⟩:=hF.toRest.loc
  rintro rfl; rw [gC] at h1; exact ns h1
 have hCc : ∀ n,sc.names.lookup n = some .cell->env.cells.lookup n≠some C:=fun n hk hl=>by
  obtain ⟨a,o,ov,h1,h2,_⟩:=hF.toRest.cel n (.inl hk)
  rw [hl] at h1; cases h1; rw [gC] at h2; exact ns h2
 obtain ⟨oC,esC,epC,hCo,hCd,hCk,hCf⟩:=hn
 have hCrest : dN env sc H' s' C = some oC:=by
  unfold dN
  refine aa (if_neg (by rintro (z | ⟨n,z1,z2⟩); exact hCL z; exact hCc n z2 z1)) ?_
  unfold ce; refine aa (HC ..) ?_; exact hCo
 refine wpAny_assign_Name (dY F1.restFr (F1.restRel R1) hx fun s2 F2 R2=>?_)
 have hC2:=R2.keep _ _ hCrest
 have F3:=F2.mono_g (F1.le_restF R1)
 have R3:=R2.mono hR.base (F1.le_restF R1)
 have gC' : g C = none:=by
  cases z : g C with
  | none=>rfl
  | some o=>have:=hR.le_rest _ _ z; rw [gC] at this; exact ns this
 refine ⟨mm,⟨oC,esC,epC,hC2,hCd,hCk,hCf⟩,fun h' hs'=>wpAny_pure (wpAny_pure ⟨_,H',?_,?_,q⟩)⟩
 ·refine F3.other (tk:=s2.toks) (fun o e=>(hs'.2 _ (Ne.symm hCL)).trans e) fun n a hn o e=>(hs'.2 a ?_).trans e
  rintro rfl
  obtain ⟨_,h2,_,o2,h3⟩:=hF.cl n a hn
  have : ce H s a = some o2:=by unfold ce; refine aa (h2 ..) ?_; exact h3
  rw [gC] at this; exact ns this
 ·exact R3.other (tk:=s2.toks) (fun b o e q=>(hs'.2 b fun z=>by clear gC HC hCL hCc hCo hCrest hC2 hs'; subst z; rw [gC'] at e; exact ns e).trans q) (fun b o e=>hs'.2 b fun z=>by clear gC hCL hCc hCo hCrest hC2 gC' hs'; subst z; rw [HC] at e; exact ns e)
end
end
section
def f9 (c : Cx) (k : Nat) (sc : Scope) : List Expr->aS->ag->(List AV->ag->Prop)->Prop
 | [],_,H,Q=>Q [] H
 | e :: es,m,H,Q=>WE c k sc e m H fun v H1=>f9 c k sc es m H1 fun vs H2=>Q (v :: vs) H2
def cH (args : List Expr) : Prop:=∀ env,starEach args env = args.map fun e=>(false,eval e env)
theorem np (pos : Pos) (env : Env) (args : List Expr) : backTo pos (args.map fun e=>(false,eval e env)) = args.map fun e=>(false,eval e env):=by
 induction args with
 | nil=>rfl
 | cons e es ih=>exact congrArg ((false,eval e env) :: ·) ih
theorem cH.back {args : List Expr} (h : cH args) (pos : Pos) (env : Env) : backTo pos (starEach args env) = args.map fun e=>(false,eval e env):=(h env).symm▸np pos env args
def bF (c : Cx) (k : Nat) (f : Value) (args : List AV) (H : ag) (Q : AV->ag->Prop) : Prop:=∀ vals,vals.map av = args->Wp c k (call f vals) av H Q
def AC (c : Cx) (k : Nat) (fa : Addr) (args : List AV) (H : ag) (Q : AV->ag->Prop) : Prop:=
 ∀ A g s vals,Rm k A->aT c g H s->vals.map av = args->
  codeAny (model c.prog c.w) A (.call (.ref fa) ⟨vals,[]⟩) (fun r s'=>match r with | .ok (.ret v)=>pD c g av Q v s' | _=>False) s
def dE : List Str->List AV->aS->aS
 | x :: xs,v :: vs,m=>dE xs vs (put m x v)
 | _,_,m=>m
section
variable {c : Cx} {k : Nat} {sc : Scope} {m : aS} {H : ag} {Q : AV->ag->Prop}
theorem fC {A : Around} {env : Env} {g : aZ} (hA : Rm k A) (hF : dJ c env sc m g) (args : List Expr) : ∀ {P : List Value->Shared->Prop} {H : ag} {s : Shared} {QL : List AV->ag->Prop},aT c g H s->f9 c k sc args m H QL->
  (∀ vs s' H',aT c g H' s'->QL (vs.map av) H'->P vs s')->wpAny (model c.prog c.w) A (spliced (args.map fun e=>(false,eval e env))) P F0 s:=by
 induction args with
 | nil=>intro P H s QL hR h hp; exact Calls.spliced_nil (hp _ _ _ hR h)
 | cons e es ih=>
  intro P H s QL hR h hp
  refine Calls.spliced_cons (aY (h A env g s hA hF hR) fun v s1 J=>?_)
  obtain ⟨H1,R1,q1⟩:=J
  exact ih R1 q1 fun vs s2 H2 R2 q2=>hp (v :: vs) s2 H2 R2 q2
theorem gM {A : Around} {env : Env} {g : aZ} (hA : Rm k A) (hF : dJ c env sc m g) {pos : Pos} {P : List Value->Shared->Prop} (args : List Expr) {H : ag} {s : Shared} {QL : List AV->ag->Prop} (hs : cH args) (hR : aT c g H s) (h : f9 c k sc args m H QL)
  (hp : ∀ vs s' H',aT c g H' s'->QL (vs.map av) H'->P vs s') : wpAny (model c.prog c.w) A (spliced (backTo pos (starEach args env))) P F0 s:=by
 refine aa (hs.back ..) ?_; exact fC hA hF args hR h hp
theorem cx {A : Around} {env : Env} {g : aZ} (hA : Rm k A) (hF : dJ c env sc m g) {pos : Pos} {P : Args->Shared->Prop} {f : Value} (args : List Expr) {H : ag} {s : Shared} {QL : List AV->ag->Prop} (hs : cH args) (hR : aT c g H s) (h : f9 c k sc args m H QL)
  (hp : ∀ vs s' H',aT c g H' s'->QL (vs.map av) H'->P ⟨vs,[]⟩ s') : wpAny (model c.prog c.w) A (evalArgs f true (backTo pos (starEach args env)) []) P F0 s:=by
 refine aa (hs.back ..) ?_
 cases args with
 | nil=>exact PySem.evalArgs_none (hp [] _ _ hR h)
 | cons e es=>exact Calls.evalArgs_plain (fC (P:=fun vs s'=>P ⟨vs,[]⟩ s') hA hF (e :: es) hR h hp)
theorem pg (env : Env) (args : List Expr) : (args.map fun e=>(false,eval e env)).any (·.1) = false:=by
 induction args with
 | nil=>rfl
 | cons e es ih=>exact ih
theorem fV {pos : Pos} {env : Env} {args : List Expr} (hs : cH args) : (backTo pos (starEach args env)).any (·.1) = false:=by
 refine aa (hs.back ..) ?_; exact pg env args
theorem cD (f : Str) (fp pos : Pos) (args : List Expr) (env : Env) : eval (.Call (.Name f fp) args [] pos) env = (do callWith pos (<-eval (.Name f fp) env) [] (backTo pos (starEach args env)) []):=rfl
theorem js {A : Around} {env : Env} {g : aZ} {s : Shared} {f : Str} {fp : Pos} {v : Value} {P : Value->Shared->Prop} (hF : dJ c env sc m g) (hR : aT c g H s) (hf : sc.names.lookup f = some .globalImplicit)
  (hd : (f == ("__debug__" : Str)) = false) (hk : nsIn c.K mainGlobals f = some (some v)) (h : P v s) : wpAny (model c.prog c.w) A (eval (.Name f fp) env) P F0 s:=by
 have hx : env.kindOf f = some .globalImplicit:=(hF.nm f).elim (fun z=>z.trans hf) fun z=>by rw [hf] at z; exact nomatch z.1
 refine Calls.Name_function_global hF.kind hx (Calls.loadGlobal_global (mg:=c.mg) ?_ (mg_of c.X c.G hk) h) hd
 refine aa (hF.gl ..) ?_; exact c.G.keeps hR.old
theorem oE {A : Around} {env : Env} {g : aZ} {s : Shared} {f : Str} {fp : Pos} {v : Value} {P : Value->Shared->Prop} (hF : dJ c env sc m g) (hR : aT c g H s) (hf : sc.names.lookup f = some .globalImplicit)
  (hd : (f == ("__debug__" : Str)) = false) (hn : f≠"__name__") (hk : nsIn c.K mainGlobals f = some none) (hb : bootBuiltins f = some v) (h : P v s) : wpAny (model c.prog c.w) A (eval (.Name f fp) env) P F0 s:=by
 have hx : env.kindOf f = some .globalImplicit:=(hF.nm f).elim (fun z=>z.trans hf) fun z=>by rw [hf] at z; exact nomatch z.1
 refine Calls.Name_function_global hF.kind hx (Calls.loadGlobal_builtin (mg:=c.mg) (mb:=c.mb) ?_ (mg_none_of c.X c.G hk) ?_ ((c.bi f hn).trans hb) h) hd
 ·refine aa (hF.gl ..) ?_; exact c.G.keeps hR.old
 ·refine aa (hF.bl ..) ?_; exact c.B.keeps hR.old
theorem rY {f : Str} {fp pos : Pos} {args : List Expr} {fa : Addr} {oc : Value} {od : Option Addr} {fd : FuncData} {osl : Array (Option Value)} (hf : sc.names.lookup f = some .globalImplicit)
  (hd : (f == ("__debug__" : Str)) = false) (hk : nsIn c.K mainGlobals f = some (some (.ref fa))) (ho : c.K.lookup fa = some ⟨oc,od,.func fd,osl⟩) (hs : cH args)
  (h : f9 c k sc args m H fun vs H1=>AC c k fa vs H1 Q) : WE c k sc (.Call (.Name f fp) args [] pos) m H Q:=by
 intro A env g s hA hF hR
 refine eF (cD ..) ?_
 refine wpAny_bind (js hF hR hf hd hk ?_)
 refine Calls.callWith_function (cx hA hF args hs hR h fun vs s1 H1 R1 q1=>⟨⟨R1.inH _ _ ho,rfl⟩,wpAny_call (codeAny_mono (q1 A g s1 vs hA R1 rfl) fun r s' hr=>?_)⟩)
 cases r with
 | error e=>exact hr
 | ok fl=>cases fl<;>exact hr
theorem fL {A : Around} {s : Shared} {pos : Pos} {f : Value} {first : List Value} {args : List (Bool × Sem Value)} {P : Value->Shared->Prop} (hf : keeperOf f = pure .machine) (hplain : args.any (·.1) = false)
  (h : wpAny (model c.prog c.w) A (evalArgs f true args []) (fun a s₁=>wpAny (model c.prog c.w) A (call f (first ++ a.pos) a.kw) P F0 s₁) F0 s) :
  wpAny (model c.prog c.w) A (callWith pos f first args []) P F0 s:=by
 unfold callWith
 refine wpAny_bind (wpAny_holding (wpAny_mono h (fun a s₁ h₁=>wpAny_bind (wpAny_standAt ?_)) fun _ _ x=>x))
 simp only [hplain,List.any_nil,Bool.or_false]
 refine aa (hf ..) ?_
 refine wpAny_bind (wpAny_pure ?_)
 exact wpAny_bind (wpAny_mono h₁ (fun r s₂ hr=>wpAny_bind (wpAny_holding (wpAny_point (wpAny_pure hr)))) fun _ _ x=>x)
theorem w5 {f : Str} {fp pos : Pos} {args : List Expr} {v : Value} (hf : sc.names.lookup f = some .globalImplicit) (hd : (f == ("__debug__" : Str)) = false) (hn : f≠"__name__") (hk : nsIn c.K mainGlobals f = some none)
  (hb : bootBuiltins f = some v) (hv : keeperOf v = pure .machine) (hs : cH args)
  (h : f9 c k sc args m H fun vs H1=>bF c k v vs H1 Q) : WE c k sc (.Call (.Name f fp) args [] pos) m H Q:=by
 intro A env g s hA hF hR
 refine eF (cD ..) ?_
 refine wpAny_bind (oE hF hR hf hd hn hk hb ?_)
 exact fL hv (fV hs) (cx hA hF args hs hR h fun vs s1 H1 R1 q1=>q1 vs rfl A g s1 hA R1)
def AO.ty : AO->Option String
 | .list _=>some "list" | .tuple _=>some "tuple" | .set _=>some "set" | .dict _=>some "dict" | .range _=>some "range" | _=>none
theorem pd {h : Heap} {a : Addr} {o : AO} {T : String} (x : HR c h a o) (e : o.ty = some T) : ∃ ob,h.get? a = some ob/\ob.cls = .type T/\ob.dict = none:=by
 cases o with
 | list _=>exact Option.some.inj e▸Exists.elim x fun _ x=>Exists.elim x fun _ x=>⟨_,x.1,rfl,rfl⟩
 | tuple _=>exact Option.some.inj e▸Exists.elim x fun _ x=>Exists.elim x fun _ x=>⟨_,x.1,rfl,rfl⟩
 | set _=>exact Option.some.inj e▸Exists.elim x fun _ x=>Exists.elim x fun _ x=>Exists.elim x fun _ x=>Exists.elim x fun _ x=>⟨_,x.1,rfl,rfl⟩
 | dict _=>exact Option.some.inj e▸Exists.elim x.2 fun _ x=>Exists.elim x.1 fun o x=>Exists.elim x fun _ x=>Exists.elim x fun _ x=>⟨o,x.1,x.2.1.1,x.2.1.2.1⟩
 | inst _ _=>exact ns e
 | attrs _=>exact ns e
 | range _=>exact Option.some.inj e▸Exists.elim x fun _ x=>Exists.elim x fun _ x=>Exists.elim x fun _ x=>⟨_,x,rfl,rfl⟩
theorem sm {o : Expr} {name : Str} {apos pos : Pos} {args : List Expr} {T id : String} (hbase : ∀ env,attributeBase o name env (eval o env) = eval o env) (hs : cH args) (hlen : args.length < 30)
  (hline : (apos.endLine == pos.line) = true) (pa : PlainAttrs T) (slot : Slot T name id) (hty : typeOf (.builtin id) = pure (.type "method_descriptor"))
  (h : WE c k sc o m H fun ov H1=>∃ a ao,ov = .ref a/\H1 a = some ao/\ao.ty = some T/\f9 c k sc args m H1 fun vs H2=>bF c k (.builtin id) (ov :: vs) H2 Q) :
  WE c k sc (.Call (.Attribute o name apos) args [] pos) m H Q:=by
 intro A env g s hA hF hR
 refine wpAny_Call_method (hbase env) ?_ hline pa slot hty (aY (h A env g s hA hF hR) ?_)
 ·refine aa (hs.back ..) ?_
  have h1 : ∀ args : List Expr,(args.map fun e=>(false,eval e env)).all (fun x=>!x.1) = true:=fun args=>by
   induction args with
   | nil=>rfl
   | cons e es ih=>exact ih
  refine aa (h1 ..) ?_
  exact decide_eq_true hlen
 ·rintro ov s1 ⟨H1,R1,a,ao,e,ha,ht,q⟩
  have : ov = .ref a:=aB e
  clear e; subst this
  obtain ⟨ob,h1,h2,h3⟩:=pd (R1.rep _ _ ha) ht
  refine ⟨⟨ob,h1,h2⟩,fun a' e'=>by cases e'; exact ⟨ob,h1,h3⟩,?_⟩
  exact Calls.callWith_builtin (fV hs) (cx hA hF args hs R1 q fun vs s2 H2 R2 q2=>q2 (.ref a :: vs) rfl A g s2 hA R2)
theorem jv {kindOf : Str->Option NameKind} {x : Str} (hx : kindOf x = some .local) : ∀ (ns : List Str) (vals : List Value) (f : Str->Option Value) (m : aS),ns.length = vals.length->(f x).map av = m x->
  (bindL kindOf (ns.zip vals) f x).map av = dE ns (vals.map av) m x
 | [],[],f,m,_,h=>h
 | n :: ns,v :: vs,f,m,hl,h=>by
  refine jv hx ns vs _ (put m n (av v)) (by simpa using hl) ?_
  by_cases q : x = n
  ·subst q; rw [if_pos hx,fU]; simp
  ·refine aa (f8 q) ?_; split
   ·simp only [if_neg q]; exact h
   ·exact h
theorem ju {kindOf : Str->Option NameKind} {x : Str} (hx : kindOf x = some .cell) : ∀ (ns : List Str) (vals : List Value) (f : Str->Option Value) (m : aS),ns.length = vals.length->(f x).map av = m x->
  (bindC kindOf (ns.zip vals) f x).map av = dE ns (vals.map av) m x
 | [],[],f,m,_,h=>h
 | n :: ns,v :: vs,f,m,hl,h=>by
  refine ju hx ns vs _ (put m n (av v)) (by simpa using hl) ?_
  by_cases q : x = n
  ·clear hl; subst q
   rw [if_neg (by refine aa (hx ..) ?_; simp),fU]; simp
  ·refine aa (f8 q) ?_; split
   ·exact h
   ·simp only [if_neg q]; exact h
theorem co {α : Type} {n : Str} {a : α} : ∀ {l : List (Str × α)},(n,a)∈l->∃ b,l.lookup n = some b
 | (x,y) :: r,hm=>by
  refine aa (List.lookup_cons ..) ?_
  cases e : n == x with
  | true=>exact ⟨y,rfl⟩
  | false=>
   rcases List.mem_cons.mp hm with z | z
   ·cases z; simp at e
   ·exact co z
theorem jb {K : Frag} {cd : Value} {q : Str} (e : codeIn K cd q = true) : kdsCode K cd = true:=by
 unfold codeIn at e
 unfold kdsCode
 split at e
 ·split at e
  ·rename_i h
   simp only [h]
  ·exact nomatch e
 ·exact nomatch e
theorem qq {fa : Addr} {oc : Value} {od : Option Addr} {fd : FuncData} {osl : Array (Option Value)} {body : List Stmt} {args : List AV} {names : List Str} (ho : c.K.lookup fa = some ⟨oc,od,.func fd,osl⟩)
  (hbody : fd.body = .stmts body) (hclo : fd.closure = []) (hgl : fd.globals = mainGlobals) (hbl : fd.builtins = builtinsNs) (hcd : codeIn c.K fd.code fd.qualname = true)
  (hbind : ∀ vals : List Value,vals.map av = args->bindArgs fd ⟨vals,[]⟩ = pure (names.zip vals)) (hlen : names.length = args.length)
  (hok : (names.all fun n=>fd.scope.names.lookup n == some .local || fd.scope.names.lookup n == some .cell) = true) (hfree : (fd.scope.names.all fun x=>x.2 != .free) = true)
  (h : WS c k fd.scope (execs body) (dE names args fun _=>none) H fun fl m' H'=>match fl with | .ret v=>Q v H' | _=>Q .none H')
  (hco : fd.scope.isCoroutine = false:=by rfl) (hgen : fd.scope.isGenerator = false:=by rfl) (hkd : fd.scope.kind = .function:=by rfl) :
  AC c (k + 1) fa args H Q:=by
 intro A g s vals hA hR hv
 have hl : names.length = vals.length:=by exact aa (hlen ..) (aa (Eq.symm (hv ..)) (aa (List.length_map ..) rfl))
 refine codeAny_call_cells (binds:=names.zip vals) (by have:=hA.dep; exact oI this) (hR.inH _ _ ho) rfl (c.lim.keeps hR.old) (codeRec_of hR.inH hcd) hbody (hbind vals hv) hclo (fun x hx=>?_) (fun s1 X=>?_) hco hgen hkd
 ·have:=List.all_eq_true.mp hok x.1 (List.of_mem_zip hx).1
  simp only [Bool.or_eq_true,beq_iff_eq] at this
  rcases this with h1 | h1
  ·exact .inl h1
  ·refine .inr ⟨h1,?_⟩
   refine bc fun GG=>?_
   obtain ⟨a,ha⟩:=cg fd.scope.names (s.heap.objs.size + 1) (PySem.mem_of_lookup h1)
   obtain ⟨b,hb⟩:=co ha
   refine GG ?_
   refine aa (hb ..) ?_; rfl
 ·refine bc fun GG=>?_
  obtain ⟨h1,tk,e⟩:=X.toInCall.same
  refine GG ?_
  have hk : ∀ b o,s.heap.get? b = some o->h1.get? b = some o:=fun b o z=>by have:=X.toInCall.keep b o z; rw [e] at this; exact this
  have R1 : aT c g H s1:=by refine aa (e ..) ?_; exact hR.grow hk
  have gN : ∀ b,s.heap.objs.size<=b->g b = none:=fun b hb=>by
   cases q : g b with
   | none=>rfl
   | some o=>exact absurd (Heap.lt_size (hR.keep _ _ q)) (Nat.not_lt.mpr hb)
  have noFree : ∀ x,fd.scope.names.lookup x≠some .free:=fun x hx=>by
   have:=List.all_eq_true.mp hfree _ (PySem.mem_of_lookup hx)
   simp at this
  have F1 : cM c (callEnvC fd s.heap.objs.size fa) fd.scope (dE names args fun _=>none) g H s1:=by
   refine ⟨⟨hkd,fun x=>.inl rfl,hgl,hbl,jb hcd,?_,?_⟩,gN _ X.toInCall.fresh,hR.none_of_fresh X.toInCall.fresh,?_,?_⟩
   ·refine bc fun GG=>?_
    obtain ⟨o,es,ep,q1,q2,q3,q4⟩:=X.toInCall.ns
    refine GG ?_
    refine ⟨o,es,ep,q1,q2,q3,fun x hx=>?_⟩
    refine aa (q4 ..) (aa (Eq.symm (hv ..)) ?_)
    exact jv (kindOf:=(callEnvC fd s.heap.objs.size fa).kindOf) hx names vals (fun _=>none) (fun _=>none) hl rfl
   ·intro x hx
    have hx : fd.scope.names.lookup x = some .cell:=hx.elim (fun z=>z) fun z=>absurd z (noFree x)
    refine bc fun GG=>?_
    obtain ⟨a,ha⟩:=cg fd.scope.names (s.heap.objs.size + 1) (PySem.mem_of_lookup hx)
    obtain ⟨b,hb⟩:=co ha
    obtain ⟨o,q1,q2⟩:=X.cell x b hb
    refine GG ?_
    refine ⟨b,o,_,hb,q1,q2,?_⟩
    refine aa (Eq.symm (hv ..)) ?_
    exact ju (kindOf:=(callEnvC fd s.heap.objs.size fa).kindOf) hx names vals (fun _=>none) (fun _=>none) hl rfl
   ·intro n a hn
    have hab:=X.above n a (PySem.mem_of_lookup hn)
    refine bc fun GG=>?_
    obtain ⟨o,q1,q2⟩:=X.cell n a hn
    refine GG ?_
    have : s.heap.objs.size<=a:=Nat.le_of_lt (Nat.lt_of_le_of_lt X.toInCall.fresh hab)
    exact ⟨fun _=>gN _ this,hR.none_of_fresh this,Nat.ne_of_gt hab,o,q1⟩
   ·intro n n' a _ h2 h3
    exact name_of_addr X.apart (PySem.mem_of_lookup h2) (PySem.mem_of_lookup h3)
  have hA1 : Rm k (A.deeper (callEnvC fd s.heap.objs.size fa)):=⟨hA.hd,by have:=hA.dep; show A.depth + 1 + k < _; exact oQ this,by have:=hA.un; show A.units + 3 + 10 * k + 40 < _; exact C6 this⟩
  refine wpAny_mono (h _ _ g s1 hA1 rfl F1 R1) ?_ fun _ _ e=>e.elim
  intro fl s2 hzz
  refine bc fun GG=>?_
  obtain ⟨m',H',F2,R2,q⟩:=hzz
  refine GG ?_
  cases fl with
  | ret v=>exact ⟨H',R2,q⟩
  | next=>exact ⟨H',R2,q⟩
  | brk=>exact ⟨H',R2,q⟩
  | cont=>exact ⟨H',R2,q⟩
end
end
section
section
variable {c : Cx} {k : Nat} {sc : Scope} {m : aS} {H : ag} {Q : AV->ag->Prop} {QB : Bool->ag->Prop}
theorem uW {a b : Int} (h : Q (.int (a + b)) H) : dM c k (binaryOp .Add) (.int a) (.int b) H Q:=by
 intro u v hu hv A g s hA hR
 obtain ⟨t,rfl⟩:=aF hu; obtain ⟨t',rfl⟩:=aF hv
 exact P.add_int ⟨H,hR.tok _,h⟩
theorem oK {a b : Int} (h : Q (.int (a + b)) H) : dM c k (inplaceOp .Add) (.int a) (.int b) H Q:=by
 intro u v hu hv A g s hA hR
 obtain ⟨t,rfl⟩:=aF hu; obtain ⟨t',rfl⟩:=aF hv
 exact P.iadd_int ⟨H,hR.tok _,h⟩
theorem CF {a b : Int} (h : Q (.int (a - b)) H) : dM c k (binaryOp .Sub) (.int a) (.int b) H Q:=by
 intro u v hu hv A g s hA hR
 obtain ⟨t,rfl⟩:=aF hu; obtain ⟨t',rfl⟩:=aF hv
 exact P.sub_int ⟨H,hR.tok _,h⟩
theorem u4 {a b : Int} (hb : Builtin.Int.intBits b<=64) (h : Q (.int (a * b)) H) : dM c k (binaryOp .Mult) (.int a) (.int b) H Q:=by
 intro u v hu hv A g s hA hR
 obtain ⟨t,rfl⟩:=aF hu; obtain ⟨t',rfl⟩:=aF hv
 exact P.mul_int ⟨H,hR.tok _,h⟩ (IntMulOk.of_right hb)
theorem jP {a b : Int} (hb : b≠0) (h : Q (.int (a.fmod b)) H) : dM c k (binaryOp .Mod) (.int a) (.int b) H Q:=by
 intro u v hu hv A g s hA hR
 obtain ⟨t,rfl⟩:=aF hu; obtain ⟨t',rfl⟩:=aF hv
 exact PyProof.Rows.mod_int' hb ⟨H,hR.tok _,h⟩
theorem u3 {a b : Int} (hb : b≠0) (hs : b.natAbs < 1073741824) (h : Q (.int (a.fdiv b)) H) : dM c k (binaryOp .FloorDiv) (.int a) (.int b) H Q:=by
 intro u v hu hv A g s hA hR
 obtain ⟨t,rfl⟩:=aF hu; obtain ⟨t',rfl⟩:=aF hv
 exact PyProof.Rows.floordiv_int hb ⟨H,hR.tok _,h⟩ (.inl (PyProof.noPylong_small hs))
theorem CG {a : Int} (h : Q (.int (-a)) H) : xH c k (unaryOp .USub) av (.int a) H Q:=by
 intro u hu A g s hA hR
 obtain ⟨t,rfl⟩:=aF hu
 exact P.neg_int ⟨H,hR.tok _,h⟩
theorem C5 {a b : Int} (h : Q (.bool (a == b)) H) : dM c k (compareOp .Eq) (.int a) (.int b) H Q:=by
 intro u v hu hv A g s hA hR
 obtain ⟨t,rfl⟩:=aF hu; obtain ⟨t',rfl⟩:=aF hv
 exact P.eq_int ⟨H,hR,h⟩
theorem BV {a b : Int} (h : Q (.bool (a != b)) H) : dM c k (compareOp .NotEq) (.int a) (.int b) H Q:=by
 intro u v hu hv A g s hA hR
 obtain ⟨t,rfl⟩:=aF hu; obtain ⟨t',rfl⟩:=aF hv
 exact P.ne_int ⟨H,hR,h⟩
theorem BJ {a b : Int} (h : Q (.bool (decide (a < b))) H) : dM c k (compareOp .Lt) (.int a) (.int b) H Q:=by
 intro u v hu hv A g s hA hR
 obtain ⟨t,rfl⟩:=aF hu; obtain ⟨t',rfl⟩:=aF hv
 exact P.lt_int ⟨H,hR,h⟩
theorem Df {a b : Int} (h : Q (.bool (decide (a > b))) H) : dM c k (compareOp .Gt) (.int a) (.int b) H Q:=by
 intro u v hu hv A g s hA hR
 obtain ⟨t,rfl⟩:=aF hu; obtain ⟨t',rfl⟩:=aF hv
 exact P.gt_int ⟨H,hR,h⟩
theorem Ds {a b : Int} (h : Q (.bool (decide (a>=b))) H) : dM c k (compareOp .GtE) (.int a) (.int b) H Q:=by
 intro u v hu hv A g s hA hR
 obtain ⟨t,rfl⟩:=aF hu; obtain ⟨t',rfl⟩:=aF hv
 exact P.ge_int ⟨H,hR,h⟩
theorem Bg {a b : Str} (h : Q (.bool (a.cps.toList == b.cps.toList)) H) : dM c k (compareOp .Eq) (.str a) (.str b) H Q:=by
 intro u v hu hv A g s hA hR
 obtain ⟨t,rfl⟩:=jU hu; obtain ⟨t',rfl⟩:=jU hv
 exact P.eq_str ⟨H,hR,h⟩
theorem dG {b : Bool} (h : QB b H) : xH c k truthy id (.bool b) H QB:=by
 intro u hu A g s hA hR
 refine aa (jD hu) ?_; exact wpAny_truthy_bool ⟨H,hR,h⟩
theorem oP {a : Addr} {xs : List AV} (ha : H a = some (.list xs)) (hl : xs.length < 2 ^ 40) (h : QB (!xs.isEmpty) H) : xH c k truthy id (.ref a) H QB:=by
 intro u hu A g s hA hR
 refine aa (aB hu) ?_
 refine bc fun GG=>?_
 obtain ⟨items,n,hi,hm⟩:=hR.isList ha
 refine GG ?_
 have hsz : items.size = xs.length:=by refine aa (Eq.symm (hm ..)) ?_; simp
 refine wpAny_truthy_list hi.isList (by omega) ⟨H,hR.tok _,?_⟩
 have : items.isEmpty = xs.isEmpty:=by
  cases xs with
  | nil=>simp at hsz; simp [hsz]
  | cons x r=>simp at hsz; simp; intro e; subst e; simp at hsz
 refine aa (this ..) ?_; exact h
theorem r0 {elts : List Expr} {pos : Pos} (hs : cH elts) (h : f9 c k sc elts m H fun vs H1=>vs.length<=1000000/\∀ a,H1 a = none->Q (.ref a) (an H1 a (.list vs))) : WE c k sc (.List elts pos) m H Q:=by
 intro A env g s hA hF hR
 refine PyProof.Rows.List_ (gM hA hF elts hs hR h fun vs s1 H1 R1 ⟨hl,q⟩=>?_)
 rw [List.length_map] at hl
 refine wpAny_newObj_type ⟨_,R1.alloc (tk:=s1.toks) (Heap.get?_none_of_le (Nat.le_refl _)) (fun b o e=>Heap.get?_push_of_some _ e) (o':=.list (vs.map av)) ⟨vs.toArray,0,Heap.get?_push_size _ rfl,by simp⟩,q _ (R1.none_of_fresh (Nat.le_refl _))⟩ (by show vs.toArray.size<=sizeLine; refine aa (sizeLine_eq ..) (aa (List.size_toArray ..) ?_); exact tN hl)
theorem qt {elts : List Expr} {n : Nat} {pos : Pos} (hs : cH elts) (h : f9 c k sc elts m H fun vs H1=>vs.length<=1000000/\∀ a,H1 a = none->Q (.ref a) (an H1 a (.tuple vs))) : WE c k sc (.Tuple elts n pos) m H Q:=by
 intro A env g s hA hF hR
 refine PyProof.Rows.Tuple_ (gM hA hF elts hs hR h fun vs s1 H1 R1 ⟨hl,q⟩=>?_)
 rw [List.length_map] at hl
 refine wpAny_newObj_type ⟨_,R1.alloc (tk:=s1.toks) (Heap.get?_none_of_le (Nat.le_refl _)) (fun b o e=>Heap.get?_push_of_some _ e) (o':=.tuple (vs.map av)) ⟨vs.toArray,0,Heap.get?_push_size _ rfl,by simp⟩,q _ (R1.none_of_fresh (Nat.le_refl _))⟩ (by show vs.toArray.size<=sizeLine; refine aa (sizeLine_eq ..) (aa (List.size_toArray ..) ?_); exact tN hl)
def kX (n : Nat) (i : Int) : Option Nat:=if 0<=i/\i < n then some i.toNat else if i < 0/\-(n : Int)<=i then some (i + n).toNat else none
theorem jI {n : Nat} {i : Int} {j : Nat} (h : kX n i = some j) : seqIndex? i n = some j:=by
 unfold kX at h; unfold seqIndex?
 split at h
 ·rename_i q; cases h
  simp only [if_neg (show ¬ i < 0 by exact Cu q)]; exact aa (if_pos (by simp; exact Et q)) rfl
 ·split at h
  ·rename_i q q2; cases h
   simp only [if_pos (show i < 0 by exact t4 q2)]; exact aa (if_pos (by simp; exact A2 q2)) rfl
  ·exact ns h
theorem oS {items : Array Value} {xs : List AV} {j : Nat} {v : AV} (hm : items.toList.map av = xs) (h : xs[j]? = some v) : ∃ u,items[j]? = some u/\av u = v:=by
 subst hm
 rw [List.getElem?_map] at h
 cases q : items.toList[j]? with
 | none=>rw [q] at h; exact ns h
 | some u=>rw [q] at h; exact ⟨u,by simpa using q,Option.some.inj h⟩
theorem eB {a : Addr} {xs : List AV} {i : Int} {j : Nat} {v : AV} {t : Tok} {A : Around} {g : aZ} {s : Shared} {P : Value->Shared->Prop} (hR : aT c g H s) (ha : H a = some (.list xs)) (hl : xs.length < 2 ^ 40) (hi : kX xs.length i = some j) (hj : xs[j]? = some v)
  (h : ∀ u,av u = v->P u s) : wpAny (model c.prog c.w) A (getItem (.ref a) (.int i t)) P F0 s:=by
 refine bc fun GG=>?_
 obtain ⟨items,n,hL,hm⟩:=hR.isList ha
 have hsz : items.size = xs.length:=by refine aa (Eq.symm (hm ..)) ?_; simp
 obtain ⟨u,hu,e⟩:=oS hm hj
 refine GG ?_
 unfold kX at hi
 split at hi
 ·rename_i q; clear hj; cases hi
  exact wpAny_getItem_list hL.isList (by exact EE q) (by omega) hu (h u e)
 ·split at hi
  ·rename_i q q2; clear hj; cases hi
   exact wpAny_getItem_list_neg hL.isList (by exact t4 q2) (by exact zT q2 hsz) (by omega) (by refine aa (hsz ..) ?_; exact hu) (h u e)
  ·exact ns hi
def ku (slice : Expr) : Prop:=∀ o i,subscripted slice false o i = operate [o,i] (getItem o i)
def dO (c : Cx) (k : Nat) (o i : AV) (H : ag) (Q : AV->ag->Prop) : Prop:=
 ∃ a n,o = .ref a/\i = .int n/\
  ((∃ xs j v,H a = some (.list xs)/\xs.length < 2 ^ 40/\kX xs.length n = some j/\xs[j]? = some v/\Q v H)\/
   (∃ xs j v,H a = some (.tuple xs)/\xs.length < 2 ^ 40/\kX xs.length n = some j/\xs[j]? = some v/\Q v H)\/
   (∃ es v,H a = some (.dict es)/\es.lookup n = some v/\Q v H))
theorem iN {kvs : List (Int × Value)} {n : Int} {v : AV} (h : (kvs.map fun kv=>(kv.1,av kv.2)).lookup n = some v) : ∃ u,valueAt kvs n = some u/\av u = v:=by
 unfold valueAt
 induction kvs with
 | nil=>exact ns h
 | cons x r ih=>
  rw [List.map_cons,List.lookup_cons] at h
  refine aa (List.find?_cons) ?_
  by_cases q : x.1 = n
  ·refine aa (decide_eq_true q) ?_
   rw [q,beq_self_eq_true] at h
   exact ⟨x.2,rfl,Option.some.inj h⟩
  ·refine aa (decide_eq_false q) ?_
   have : (n == x.1) = false:=beq_eq_false_iff_ne.mpr (Ne.symm q)
   rw [this] at h
   exact ih h
theorem jC {value slice : Expr} {pos : Pos} (hok : ku slice) (h : WE c k sc value m H fun o H1=>WE c k sc slice m H1 fun i H2=>dO c k o i H2 Q) : WE c k sc (.Subscript value slice pos) m H Q:=by
 intro A env g s hA hF hR
 refine PyProof.Rows.Subscript_ (aY (h A env g s hA hF hR) ?_)
 intro o s1 hzz
 refine bc fun GG=>?_
 obtain ⟨H1,R1,q1⟩:=hzz
 refine GG ?_
 refine aY (q1 A env g s1 hA hF R1) ?_
 intro i s2 hzz
 refine bc fun GG=>?_
 obtain ⟨H2,R2,a,n,ho,hi,hq⟩:=hzz
 refine GG ?_
 have:=aB ho; clear q1 ho; subst this
 refine bc fun GG=>?_
 obtain ⟨t,rfl⟩:=aF hi
 refine GG ?_
 rcases hq with ⟨xs,j,v,ha,hl,hj,hv,q⟩ | ⟨xs,j,v,ha,hl,hj,hv,q⟩ | ⟨es,v,ha,hv,q⟩
 ·refine bc fun GG=>?_
  obtain ⟨items,n',hL,hm⟩:=R2.isList ha
  refine GG ?_
  exact PyProof.Rows.tail_any hL.isList.typeIs slot_list_getitem.lookup (eB R2 ha hl hj hv fun u hu=>⟨H2,R2,hu▸q⟩) (hok _ _)
 ·refine bc fun GG=>?_
  obtain ⟨items,n',hL,hm⟩:=R2.isTup ha
  obtain ⟨u,hu,e⟩:=oS hm hv
  refine GG ?_
  have hsz : items.size = xs.length:=by refine aa (Eq.symm (hm ..)) ?_; simp
  refine PyProof.Rows.item_tupleT (l:=items.toList) (j:=j) (x:=u) ⟨_,hL,rfl,n',by simp⟩ ?_ ?_ ?_ (by simpa using hu) ⟨H2,R2,e▸q⟩ (hok _ _)
  ·unfold kX at hj; split at hj; omega; split at hj; omega; exact ns hj
  ·unfold kX at hj; split at hj; omega; split at hj; omega; exact ns hj
  ·refine aa (Array.length_toList ..) (aa (hsz ..) ?_); exact jI hj
 ·refine bc fun GG=>?_
  obtain ⟨hns,kvs,hd,hm⟩:=R2.rep _ _ ha
  obtain ⟨u,hu,e⟩:=iN (hm▸hv)
  refine GG ?_
  have hmap:=Heap.DictOf.mapOf hd
  exact PyProof.Rows.tail_any hmap.typeIs slot_dict_getitem.lookup (wpAny_getItem_of (k:=n) (intKind_is c.prog c.w n t) hmap hu ⟨H2,R2.tok _,e▸q⟩) (hok _ _)
end
end
section
def cV (es : List (Int × AV)) (k : Int) (v : AV) : List (Int × AV):=
 if es.any (fun kv=>decide (kv.1 = k)) then es.map (fun kv=>if kv.1 = k then (kv.1,v) else kv) else es ++ [(k,v)]
def kH (kvs : List (Int × Value)) : List (Int × AV):=kvs.map fun kv=>(kv.1,av kv.2)
theorem hM (kvs : List (Int × Value)) (k : Int) (v : Value) : kH (stored kvs k v) = cV (kH kvs) k (av v):=by
 unfold stored cV kH
 refine aa (List.any_map ..) ?_
 have : (fun kv : Int × Value=>decide (kv.1 = k)) = ((fun kv : Int × AV=>decide (kv.1 = k)) ∘ fun kv=>(kv.1,av kv.2)):=rfl
 refine aa (Eq.symm (this ..)) ?_
 split
 ·refine aa (List.map_map ..) (aa (List.map_map ..) ?_)
  apply List.map_congr_left
  intro x _
  simp only [Function.comp]
  split<;>rfl
 ·refine aa (List.map_append ..) ?_; rfl
section
variable {c : Cx} {k : Nat} {sc : Scope} {m : aS} {H : ag} {Q : AV->ag->Prop} {QB : Bool->ag->Prop} {QS : Fl->aS->ag->Prop}
theorem gb {l : Addr} {items : Array Value} {n : Nat} {i : Int} {t : Tok} {v : Value} {A : Around} {s : Shared} {P : Unit->Shared->Prop} (hl : IsL s.heap l items n) (h0 : 0<=i) (hn : i < items.size) (hz : items.size < 2 ^ 40)
  (hQ : P () { s with heap:=s.heap.update l (Obj.mapSeq (·.setIfInBounds i.toNat v)) }) : wpAny (model c.prog c.w) A (setItem (.ref l) (.int i t) v) P F0 s:=by
 have hT:=hl.isList.typeIs (s:=s)
 have hfit : Builtin.List.listFitsIndex i = true:=fitsIndex_of h0 (by omega)
 clear hz
 unfold setItem
 try with_reducible refine wpAny_holding ?_
 refine wpAny_bind (wpAny_sequenceKey hT (by decide) ?_)
 refine wpAny_bind (wpAny_callSpecial?_slot (name:=Str.ofString "__setitem__") hT slot_list_setitem
  (wpAny_call_entry slot_list_setitem hT entry_list_setitem ?_ (args_list_setitem _ _ _)))
 show wpAny _ _ (Builtin.List.listSubscript? (.int i t) >>=_) _ _ s
 refine wpAny_bind (wpAny_listSubscript_int hfit ?_)
 clear hfit
 obtain ⟨j,rfl⟩:=Int.eq_ofNat_of_zero_le h0
 have hj : j < items.size:=by exact uJ hn
 have e1 : items[j]? = some items[j]:=Array.getElem?_eq_getElem hj
 show wpAny _ _ ((seqItemAt l j >>=fun r=>pure (r.map (j,·))) >>=_) _ _ s
 refine wpAny_bind (wpAny_bind (wpAny_seqItemAt hl rfl (wpAny_pure ?_)))
 refine aa (e1 ..) ?_
 show wpAny _ _ (setSeqItemAt l j v >>=_) _ _ s
 refine wpAny_bind (wpAny_setSeqItemAt hl rfl ?_)
 exact wpAny_pure ⟨.none,rfl,wpAny_pure hQ⟩
def rf (c : Cx) (k : Nat) (o i v : AV) (H : ag) (Q : ag->Prop) : Prop:=∀ uo ui uv,av uo = o->av ui = i->av uv = v->Wp c k (setItem uo ui uv) (fun _=>()) H fun _ H'=>Q H'
theorem dv {a : Addr} {n : Int} {v : AV} {xs : List AV} {QH : ag->Prop} (ha : H a = some (.list xs)) (hl : xs.length < 1000000) (h0 : 0<=n) (h1 : n < xs.length) (q : QH (an H a (.list (xs.set n.toNat v)))) : rf c k (.ref a) (.int n) v H QH:=by
 intro uo ui uv ho hi hv A g s hA hR
 have:=aB ho; clear ho; subst this
 obtain ⟨t,rfl⟩:=aF hi
 obtain ⟨items,n',hL,hm⟩:=hR.isList ha
 have hsz : items.size = xs.length:=by refine aa (Eq.symm (hm ..)) ?_; simp
 have hne : ∀ b,b≠a->(s.heap.update a (Obj.mapSeq (·.setIfInBounds n.toNat uv))).get? b = s.heap.get? b:=fun b hb=>Heap.get?_update_ne _ _ _ _ hb
 exact gb hL h0 (by exact zC h1 hsz) (by omega) ⟨_,hR.update (tk:=s.toks) (o':=.list (xs.set n.toNat v)) ha hne ⟨_,_,hL.update _,by subst hv; subst hm; simp⟩,q⟩
theorem cr {a : Addr} {n : Int} {v : AV} {es : List (Int × AV)} {QH : ag->Prop} (ha : H a = some (.dict es)) (hl : es.length < 1000000) (q : QH (an H a (.dict (cV es n v)))) : rf c k (.ref a) (.int n) v H QH:=by
 intro uo ui uv ho hi hv A g s hA hR
 have:=aB ho; clear ho; subst this
 obtain ⟨t,rfl⟩:=aF hi
 obtain ⟨hns,kvs,hd,hm⟩:=hR.rep _ _ ha
 have hlen : kvs.length = es.length:=by refine aa (Eq.symm (hm ..)) ?_; simp
 refine wpAny_setItem_pairs (k:=n) (intKind_is c.prog c.w n t) hd (fun h' hd' hs=>⟨_,hR.update (o':=.dict (cV es n v)) ha (fun b hb=>hs.2 b hb) ⟨hns,_,hd',?_⟩,q⟩) (by refine aa (sizeLine_eq ..) ?_; exact jj hl hlen)
 have:=hM kvs n uv
 unfold kH at this
 rw [hm,hv] at this; exact this
theorem oJ {α β : Type} {t : Sem α} {ab : α->β} {P : β->ag->Prop} {A : Around} {env : Env} {g : aZ} {s : Shared} {P' : α->Shared->Prop}
  (h : Wp c k t ab H P) (hA : Rm k A) (hF : cM c env sc m g H s) (hR : aT c g H s)
  (hp : ∀ v s' H',cM c env sc m g H' s'->aT c g H' s'->P (ab v) H'->P' v s') : wpAny (model c.prog c.w) A t P' F0 s:=
 aY (h A (ce H s) s hA hR.toRest) fun v s' ⟨H',R',q⟩=>hp v s' H' (hF.behind R') (hR.back R') q
theorem pA {o i value : Expr} {pos' pos : Pos} (hs : ∀ env,env.scope = sc->swapsWith value (some (.Subscript o i pos')) pos.line env = pure false)
  (h : WE c k sc value m H fun v H1=>WE c k sc o m H1 fun ov H2=>WE c k sc i m H2 fun iv H3=>rf c k ov iv v H3 fun H4=>QS .next m H4) : WS c k sc (exec (.Assign [.Subscript o i pos'] value pos)) m H QS:=by
 intro A env g s hA hsc hF hR
 exact wpAny_Assign_Subscript (dQ h hA hF hR fun v s1 H1 F1 R1 q1=>dQ q1 hA F1 R1 fun ov s2 H2 F2 R2 q2=>dQ q2 hA F2 R2 fun iv s3 H3 F3 R3 q3=>
  oJ (q3 ov iv v rfl rfl rfl) hA F3 R3 fun _ s4 H4 F4 R4 q4=>⟨_,_,F4,R4,q4⟩) (hs env hsc)
def zA (c : Cx) (k : Nat) (o i : AV) (H : ag) (Q : AV->ag->Prop) : Prop:=∀ uo ui,av uo = o->av ui = i->Wp c k (getItem uo ui) av H Q
theorem qB {a : Addr} {n : Int} {j : Nat} {v : AV} {xs : List AV} (ha : H a = some (.list xs)) (hl : xs.length < 2 ^ 40) (hj : kX xs.length n = some j) (hv : xs[j]? = some v) (q : Q v H) : zA c k (.ref a) (.int n) H Q:=by
 intro uo ui ho hi A g s hA hR
 have:=aB ho; clear ho; subst this
 obtain ⟨t,rfl⟩:=aF hi
 exact eB hR ha hl hj hv fun u hu=>⟨H,hR,hu▸q⟩
theorem pB {o i value : Expr} {op : Operator} {pos' pos : Pos} (hst : ∀ ov iv new,augStore i ov iv new = (do holding [new,ov,iv] (setItem ov iv new); release [new,ov,iv] []; pure .next))
  (h : WE c k sc o m H fun ov H1=>WE c k sc i m H1 fun iv H2=>zA c k ov iv H2 fun old H3=>WE c k sc value m H3 fun v H4=>dM c k (inplaceOp op) old v H4 fun new H5=>rf c k ov iv new H5 fun H6=>QS .next m H6) :
  WS c k sc (exec (.AugAssign (.Subscript o i pos') op value pos)) m H QS:=by
 intro A env g s hA hsc hF hR
 exact PyProof.Rows.wpAny_AugAssign_Subscript_any (dQ h hA hF hR fun ov s1 H1 F1 R1 q1=>dQ q1 hA F1 R1 fun iv s2 H2 F2 R2 q2=>oJ (q2 ov iv rfl rfl) hA F2 R2 fun old s3 H3 F3 R3 q3=>
  dQ q3 hA F3 R3 fun v s4 H4 F4 R4 q4=>oJ (q4 old v rfl rfl) hA F4 R4 fun new s5 H5 F5 R5 q5=>oJ (q5 ov iv new rfl rfl rfl) hA F5 R5 fun _ s6 H6 F6 R6 q6=>⟨_,_,F6,R6,q6⟩) hst
theorem qp {elts : List Expr} {n : Nat} {tpos pos : Pos} {value : Expr} (hsw : ∀ env,env.scope = sc->swapsWithSole [.Tuple elts n tpos] value pos.line env = pure false) (hss : ∀ env,env.scope = sc->swappedStores [.Tuple elts n tpos] value env = pure none)
  (h : WE c k sc value m H fun v H1=>WA c k sc (.Tuple elts n tpos) v m H1 fun m' H'=>QS .next m' H') : WS c k sc (exec (.Assign [.Tuple elts n tpos] value pos)) m H QS:=by
 intro A env g s hA hsc hF hR
 refine PyProof.Rows.Assign_Tuple (dQ h hA hF hR fun v s1 H1 F1 R1 q1=>?_) (hsw env hsc) (hss env hsc)
 exact aY (q1 v rfl A env g s1 hA F1 R1) fun _ s2 ⟨m',H',F2,R2,q⟩=>⟨m',H',F2,R2,q⟩
end
end
section
inductive eH (H : ag) : Nat->AV->AV->Bool->Prop
 | int (n : Nat) (a b : Int) : eH H n (.int a) (.int b) (a == b)
 | str (n : Nat) (a b : Str) : eH H n (.str a) (.str b) (a == b)
 | lens (n : Nat) {l l' : Addr} {xs ys : List AV} (h1 : H l = some (.list xs)) (h2 : H l' = some (.list ys)) (hl : xs.length≠ys.length) : eH H (n + 1) (.ref l) (.ref l') false
 | list (n : Nat) {l l' : Addr} {xs ys : List AV} (e : Nat->Bool) (h1 : H l = some (.list xs)) (h2 : H l' = some (.list ys)) (hl : xs.length = ys.length)
   (he : ∀ j x y,xs[j]? = some x->ys[j]? = some y->eH H n x y (e j)) : eH H (n + 1) (.ref l) (.ref l') ((List.range xs.length).all e)
 | tuple (n : Nat) {l l' : Addr} {xs ys : List AV} (e : Nat->Bool) (h1 : H l = some (.tuple xs)) (h2 : H l' = some (.tuple ys)) (hl : xs.length = ys.length)
   (he : ∀ j x y,xs[j]? = some x->ys[j]? = some y->eH H n x y (e j)) : eH H (n + 1) (.ref l) (.ref l') ((List.range xs.length).all e)
theorem eH.refl_true {H : ag} {n : Nat} {u v : AV} {b : Bool} (h : eH H n u v b) (e : u = v) : b = true:=by
 induction h with
 | int n a b=>cases e; simp
 | str n a b=>cases e; simp
 | lens n h1 h2 hl=>cases e; rw [h1] at h2; cases h2; exact absurd rfl hl
 | list n e' h1 h2 hl he ih=>
  cases e; rw [h1] at h2; clear hl he; cases h2
  refine aa (propext (List.all_eq_true ..)) ?_; intro j hj
  rw [List.mem_range] at hj
  exact ih j _ _ (List.getElem?_eq_getElem hj) (List.getElem?_eq_getElem hj) rfl
 | tuple n e' h1 h2 hl he ih=>
  cases e; rw [h1] at h2; clear hl he; cases h2
  refine aa (propext (List.all_eq_true ..)) ?_; intro j hj
  rw [List.mem_range] at hj
  exact ih j _ _ (List.getElem?_eq_getElem hj) (List.getElem?_eq_getElem hj) rfl
section
variable {c : Cx} {k : Nat} {sc : Scope} {m : aS} {H : ag} {Q : AV->ag->Prop} {QB : Bool->ag->Prop} {QS : Fl->aS->ag->Prop}
theorem aw {items : Array Value} {xs : List AV} (h : items.toList.map av = xs) : items.size = xs.length:=by refine aa (Eq.symm (h ..)) ?_; simp
theorem df {items : Array Value} {xs : List AV} (h : items.toList.map av = xs) {j : Nat} (hj : j < items.size) : xs[j]? = some (av items[j]):=by subst h; simp [hj]
theorem qI {h : Heap} {a : Addr} {items : Array Value} {n : Nat} (e : h.get? a = some { cls:=.type "tuple",dict:=none,data:=.seq items n,slots:=#[] }) : h.IsTuple a items:=⟨_,e,rfl,n,rfl⟩
theorem gU {g : aZ} {s : Shared} (hR : aT c g H s) : ∀ {n : Nat} {u' v' : AV} {b : Bool},eH H n u' v' b->∀ {u v : Value} {A : Around},av u = u'->av v = v'->A.units + n < cLine->EqAt A s u v b:=by
 intro n u' v' b h
 induction h with
 | int n a b=>intro u v A hu hv _; obtain ⟨t,rfl⟩:=aF hu; obtain ⟨t',rfl⟩:=aF hv; exact EqAt.int_int a t b t'
 | str n a b=>intro u v A hu hv _; obtain ⟨t,rfl⟩:=jU hu; obtain ⟨t',rfl⟩:=jU hv; exact EqAt.str_str a t b t'
 | lens n h1 h2 hl=>
  intro u v A hu hv hn
  have:=aB hu; clear hu; subst this; have:=aB hv; subst this
  refine bc fun GG=>?_
  obtain ⟨i1,n1,g1,m1⟩:=hR.isList h1
  obtain ⟨i2,n2,g2,m2⟩:=hR.isList h2
  refine GG ?_
  refine EqAt.of_refs (fun e=>by clear hv GG g2; subst e; rw [h1] at h2; clear m2; cases h2; exact hl rfl) (RcAt.lists_lengths g1.isList g2.isList ?_ (by exact oI hn))
  refine aa (aw m1) (aa (aw m2) ?_); simpa using hl
 | list n e h1 h2 hl he ih=>
  intro u v A hu hv hn
  have hu0:=hu; have hv0:=hv
  have:=aB hu; clear hu hu0; subst this; have:=aB hv; subst this
  rename_i l l' xs ys
  by_cases q : l = l'
  ·clear hv hv0; subst q
   have:=(eH.list n e h1 h2 hl he).refl_true rfl
   refine aa (this ..) ?_; exact EqAt.same _
  ·refine bc fun GG=>?_
   obtain ⟨i1,n1,g1,m1⟩:=hR.isList h1
   obtain ⟨i2,n2,g2,m2⟩:=hR.isList h2
   refine GG ?_
   have hsz : i1.size = i2.size:=by exact aa (aw m1) (aa (aw m2) (aa (hl ..) rfl))
   have:=RcAt.lists (A:=A) (e:=e) g1.isList g2.isList hsz (by exact oI hn) fun j a b=>ih j _ _ (df m1 a) (df m2 b) rfl rfl (by show A.units + 1 + n < cLine; exact oQ hn)
   rw [aw m1] at this
   exact EqAt.of_refs q this
 | tuple n e h1 h2 hl he ih=>
  intro u v A hu hv hn
  have:=aB hu; clear hu; subst this; have:=aB hv; subst this
  rename_i l l' xs ys
  by_cases q : l = l'
  ·clear hv; subst q
   have:=(eH.tuple n e h1 h2 hl he).refl_true rfl
   refine aa (this ..) ?_; exact EqAt.same _
  ·refine bc fun GG=>?_
   obtain ⟨i1,n1,g1,m1⟩:=hR.isTup h1
   obtain ⟨i2,n2,g2,m2⟩:=hR.isTup h2
   refine GG ?_
   have hsz : i1.size = i2.size:=by exact aa (aw m1) (aa (aw m2) (aa (hl ..) rfl))
   have:=RcAt.tuples (A:=A) (e:=e) (qI g1) (qI g2) (by exact oI hn) fun j a b=>ih j _ _ (df m1 a) (df m2 b) rfl rfl (by show A.units + 1 + n < cLine; exact oQ hn)
   rw [hsz,Nat.min_self,beq_self_eq_true,Bool.and_true,<-hsz,aw m1] at this
   exact EqAt.of_refs q this
theorem kT {l l' : Addr} {b : Bool} (h : eH H 20 (.ref l) (.ref l') b) (hl : (∃ xs,H l = some (.list xs))) (q : Q (.bool b) H) : dM c k (compareOp .Eq) (.ref l) (.ref l') H Q:=by
 intro u v hu hv A g s hA hR
 have hn:=hA.un
 have:=aB hu; clear hu; subst this; have:=aB hv; clear hv; subst this
 refine bc fun GG=>?_
 obtain ⟨xs0,hx0⟩:=hl
 refine GG ?_
 cases h with
 | lens n h1 h2 hl=>
  refine bc fun GG=>?_
  obtain ⟨i1,n1,g1,m1⟩:=hR.isList h1
  obtain ⟨i2,n2,g2,m2⟩:=hR.isList h2
  refine GG ?_
  exact eq_list_lengthsAt g1.isList g2.isList (by refine aa (aw m1) (aa (aw m2) ?_); simpa using hl) (by exact qd hn) ⟨H,hR,q⟩
 | list n e h1 h2 hl he=>
  refine bc fun GG=>?_
  obtain ⟨i1,n1,g1,m1⟩:=hR.isList h1
  obtain ⟨i2,n2,g2,m2⟩:=hR.isList h2
  refine GG ?_
  refine eq_listAt (e:=e) g1.isList g2.isList (by exact aa (aw m1) (aa (aw m2) (aa (hl ..) rfl))) (by exact qd hn) (fun j a b=>gU hR (he j _ _ (df m1 a) (df m2 b)) rfl rfl (by show A.units + 1 + 19 < cLine; exact yo hn)) ⟨H,hR,?_⟩
  refine aa (aw m1) ?_; exact q
 | tuple n e h1 h2 hl he=>rw [hx0] at h1; exact nomatch h1
theorem bO {l l' : Addr} {b : Bool} (h : eH H 20 (.ref l) (.ref l') b) (hl : (∃ xs,H l = some (.list xs))) (q : Q (.bool (!b)) H) : dM c k (compareOp .NotEq) (.ref l) (.ref l') H Q:=by
 intro u v hu hv A g s hA hR
 have hn:=hA.un
 have:=aB hu; clear hu; subst this; have:=aB hv; clear hv; subst this
 refine bc fun GG=>?_
 obtain ⟨xs0,hx0⟩:=hl
 refine GG ?_
 cases h with
 | lens n h1 h2 hl=>
  refine bc fun GG=>?_
  obtain ⟨i1,n1,g1,m1⟩:=hR.isList h1
  obtain ⟨i2,n2,g2,m2⟩:=hR.isList h2
  refine GG ?_
  exact RcNeAt.lists_lengths (A:=A) g1.isList g2.isList (by refine aa (aw m1) (aa (aw m2) ?_); simpa using hl) (by exact qd hn) c.prog c.w _ _ ⟨H,hR,q⟩
 | list n e h1 h2 hl he=>
  refine bc fun GG=>?_
  obtain ⟨i1,n1,g1,m1⟩:=hR.isList h1
  obtain ⟨i2,n2,g2,m2⟩:=hR.isList h2
  refine GG ?_
  refine RcNeAt.lists (A:=A) (e:=e) g1.isList g2.isList (by exact aa (aw m1) (aa (aw m2) (aa (hl ..) rfl))) (by exact qd hn) (fun j a b=>gU hR (he j _ _ (df m1 a) (df m2 b)) rfl rfl (by show A.units + 1 + 19 < cLine; exact yo hn)) c.prog c.w _ _ ⟨H,hR,?_⟩
  refine aa (aw m1) ?_; exact q
 | tuple n e h1 h2 hl he=>rw [hx0] at h1; exact nomatch h1
theorem any_map {items : Array Value} {xs : List AV} (hm : items.toList.map av = xs) (e : AV->Bool) : items.any (fun y=>e (av y)) = xs.any e:=by
 refine aa (Eq.symm (hm ..)) (aa (List.any_map ..) (aa (Eq.symm (Array.any_toList ..)) ?_)); rfl
theorem gI {x : AV} {l : Addr} {xs : List AV} (e : AV->Bool) (hl : H l = some (.list xs)) (he : ∀ y∈xs,eH H 10 y x (e y)) (q : Q (.bool (xs.any e)) H) : dM c k (compareOp .In) x (.ref l) H Q:=by
 intro u v hu hv A g s hA hR
 have hn:=hA.un
 have:=aB hv; clear hv; subst this
 refine bc fun GG=>?_
 obtain ⟨i1,n1,g1,m1⟩:=hR.isList hl
 refine GG ?_
 refine in_listAt (fun y=>e (av y)) g1.isList (fun y hy=>gU hR (he (av y) ?_) rfl hu (by show A.units + 1 + 10 < cLine; exact wQ hn)) ⟨H,hR,?_⟩
 ·refine aa (Eq.symm (m1 ..)) ?_; exact List.mem_map_of_mem (by simpa using hy)
 ·rw [any_map m1]; exact q
theorem io {x : AV} {l : Addr} {xs : List AV} (e : AV->Bool) (hl : H l = some (.list xs)) (he : ∀ y∈xs,eH H 10 y x (e y)) (q : Q (.bool (!xs.any e)) H) : dM c k (compareOp .NotIn) x (.ref l) H Q:=by
 intro u v hu hv A g s hA hR
 have hn:=hA.un
 have:=aB hv; clear hv; subst this
 refine bc fun GG=>?_
 obtain ⟨i1,n1,g1,m1⟩:=hR.isList hl
 refine GG ?_
 refine notIn_listAt (fun y=>e (av y)) g1.isList (fun y hy=>gU hR (he (av y) ?_) rfl hu (by show A.units + 1 + 10 < cLine; exact wQ hn)) ⟨H,hR,?_⟩
 ·refine aa (Eq.symm (m1 ..)) ?_; exact List.mem_map_of_mem (by simpa using hy)
 ·rw [any_map m1]; exact q
theorem uH {d : Addr} (h : d≠sysModules) : (d == sysModules) = false:=beq_eq_false_iff_ne.mpr h
theorem eQ {kvs : List (Int × Value)} {n : Int} : (valueAt kvs n).isSome = ((kvs.map fun kv=>(kv.1,av kv.2)).lookup n).isSome:=by
 unfold valueAt
 induction kvs with
 | nil=>rfl
 | cons x r ih=>
  refine aa (List.map_cons ..) (aa (List.lookup_cons ..) (aa (List.find?_cons) ?_))
  by_cases q : x.1 = n
  ·refine aa (decide_eq_true q) ?_; refine aa (q ..) (aa (beq_self_eq_true ..) ?_); rfl
  ·refine aa (decide_eq_false q) ?_
   have : (n == x.1) = false:=beq_eq_false_iff_ne.mpr (Ne.symm q)
   refine aa (this ..) ?_; exact ih
theorem kO {n : Int} {l : Addr} {es : List (Int × AV)} (hl : H l = some (.dict es)) (q : Q (.bool (es.lookup n).isSome) H) : dM c k (compareOp .In) (.int n) (.ref l) H Q:=by
 intro u v hu hv A g s hA hR
 have:=aB hv; clear hv; subst this
 obtain ⟨t,rfl⟩:=aF hu
 obtain ⟨hns,kvs,hd,hm⟩:=hR.rep _ _ hl
 refine wpAny_in_of (intKind_is c.prog c.w n t) (uH hns) hd.mapOf ⟨H,hR.tok _,?_⟩
 refine aa (eQ ..) (aa (hm ..) ?_); exact q
theorem aO {a : Addr} {v : AV} {xs : List AV} (ha : H a = some (.list xs)) (hl : xs.length < 1000000) (q : Q .none (an H a (.list (xs ++ [v])))) : bF c k (.builtin "list.append") [.ref a,v] H Q:=by
 intro vals hv A g s hA hR
 refine bc fun GG=>?_
 obtain ⟨w,ws,rfl,h1,h2⟩:=List.map_eq_cons_iff.mp hv
 obtain ⟨w',ws',rfl,h3,h4⟩:=List.map_eq_cons_iff.mp h2
 have:=List.map_eq_nil_iff.mp h4; clear h2 h4; subst this
 have:=aB h1; clear h1 hv; subst this
 obtain ⟨i1,n1,g1,m1⟩:=hR.isList ha
 refine GG ?_
 have hsz:=aw m1
 refine call_meets PySem.F.slot_list_append ⟨_,g1,rfl⟩ PySem.F.entry_list_append (PySem.F.args_list_append_2 _ _) (list_append a i1 n1 w' (by refine aa (sizeLine_eq ..) ?_; exact jj hl hsz)) ⟨g1,?_⟩
 exact ⟨_,hR.update (tk:=s.toks) (o':=.list (xs ++ [v])) ha (fun b hb=>Heap.get?_update_ne _ _ _ _ hb) ⟨_,_,g1.update _,by simp [m1,h3]⟩,q⟩
theorem fN {a : Addr} {v : AV} {xs : List AV} (ha : H a = some (.list (xs ++ [v]))) (hl : xs.length < 1000000) (q : Q v (an H a (.list xs))) : bF c k (.builtin "list.pop") [.ref a] H Q:=by
 intro vals hv A g s hA hR
 refine bc fun GG=>?_
 obtain ⟨w,ws,rfl,h1,h2⟩:=List.map_eq_cons_iff.mp hv
 have:=List.map_eq_nil_iff.mp h2; clear h2; subst this
 have:=aB h1; clear h1 hv; subst this
 obtain ⟨i1,n1,g1,m1⟩:=hR.isList ha
 refine GG ?_
 have hsz:=aw m1
 simp only [List.length_append,List.length_cons,List.length_nil] at hsz
 have hj : i1.size - 1 = xs.length:=by exact yM hsz
 refine bc fun GG=>?_
 obtain ⟨y,hy⟩ : ∃ y,i1[i1.size - 1]? = some y:=⟨_,Array.getElem?_eq_getElem (by exact sZ hsz)⟩
 refine GG ?_
 have hv' : av y = v:=by
  have e1 : (i1.toList.map av)[i1.size - 1]? = some (av y):=by refine aa (List.getElem?_map) ?_; simp [hy]
  rw [m1,hj] at e1
  simpa using e1.symm
 refine call_meets PySem.F.slot_list_pop ⟨_,g1,rfl⟩ PySem.F.entry_list_pop (PySem.F.args_list_pop_1 _) (PySem.MeetsSeq.list_pop_last a i1 n1 y hy (by refine aa (sizeLine_eq ..) ?_; exact w6 hl hsz)) ⟨g1,?_⟩
 refine ⟨_,hR.update (tk:=s.toks) (o':=.list xs) ha (fun b hb=>Heap.get?_update_ne _ _ _ _ hb) ⟨_,_,g1.update _,?_⟩,hv'▸q⟩
 have e2 : (i1.eraseIdxIfInBounds (i1.size - 1)).toList = i1.toList.eraseIdx (i1.size - 1):=by
  unfold Array.eraseIdxIfInBounds
  refine aa (dif_pos (by exact sZ hsz)) ?_
  simp
 refine aa (e2 ..) (aa (hj ..) ?_)
 have e3 : ∀ (l : List Value) (n : Nat),(l.eraseIdx n).map av = (l.map av).eraseIdx n:=by
  intro l
  induction l with
  | nil=>intro n; rfl
  | cons x r ih=>intro n; cases n with
   | zero=>rfl
   | succ n=>simp [List.eraseIdx_cons_succ,ih]
 refine aa (e3 ..) (aa (m1 ..) ?_)
 simp [List.eraseIdx_append_of_length_le]
end
end
section
theorem eE {vals : List Value} {a : AV} (h : vals.map av = [a]) : ∃ u,vals = [u]/\av u = a:=by
 obtain ⟨w,ws,rfl,h1,h2⟩:=List.map_eq_cons_iff.mp h
 have:=List.map_eq_nil_iff.mp h2; clear h h2; subst this
 exact ⟨w,rfl,h1⟩
theorem gz {vals : List Value} {a b : AV} (h : vals.map av = [a,b]) : ∃ u v,vals = [u,v]/\av u = a/\av v = b:=by
 refine bc fun GG=>?_
 obtain ⟨w,ws,rfl,h1,h2⟩:=List.map_eq_cons_iff.mp h
 obtain ⟨u,rfl,h3⟩:=eE h2
 refine GG ?_
 exact ⟨w,u,rfl,h1,h3⟩
theorem zI {vals : List Value} {a b d : AV} (h : vals.map av = [a,b,d]) : ∃ u v w,vals = [u,v,w]/\av u = a/\av v = b/\av w = d:=by
 refine bc fun GG=>?_
 obtain ⟨w,ws,rfl,h1,h2⟩:=List.map_eq_cons_iff.mp h
 obtain ⟨u,v,rfl,h3,h4⟩:=gz h2
 refine GG ?_
 exact ⟨w,u,v,rfl,h1,h3,h4⟩
section
variable {c : Cx} {k : Nat} {sc : Scope} {m : aS} {H : ag} {Q : AV->ag->Prop} {QB : Bool->ag->Prop} {QS : Fl->aS->ag->Prop}
theorem aT.big {g : aZ} {s : Shared} (R : aT c g H s) {a : Addr} (h : s.heap.objs.size<=a) : a≠sysModules:=by
 obtain ⟨o,es,ep,h1,_⟩:=c.G
 have:=Heap.lt_size (R.old _ _ h1)
 intro e
 exact absurd (Nat.lt_of_lt_of_le this (e▸h)) (by decide)
theorem fo {l : List (Int × AV)} {x : Int × AV} (h : x∈l) : (l.lookup x.1).isSome = true:=by
 induction l with
 | nil=>exact nomatch h
 | cons p r ih=>
  refine aa (List.lookup_cons ..) ?_
  by_cases z : x.1 = p.1
  ·refine aa (z ..) (aa (beq_self_eq_true ..) ?_); rfl
  ·refine aa (beq_eq_false_iff_ne.mpr z) ?_
   rcases List.mem_cons.mp h with e | e
   ·clear h; subst e; exact absurd rfl z
   ·exact ih e
theorem dU {g : aZ} {s : Shared} {vs : Array Value} {tk : Nat} {h' : Heap} {a : Addr} {xs : List AV} (R : aT c g H s) (ha : s.heap.get? a = none) (hk : ∀ b o,s.heap.get? b = some o->h'.get? b = some o) {n : Nat}
  (ho : h'.get? a = some { cls:=.type "list",dict:=none,data:=.seq vs n,slots:=#[] }) (hm : vs.toList.map av = xs) : aT c g (an H a (.list xs)) { s with heap:=h',toks:=tk }/\H a = none:=
 ⟨R.alloc (o':=.list xs) ha hk ⟨vs,n,ho,hm⟩,R.none_of_get ha⟩
theorem ka {a b : Addr} {xs ys : List AV} (ha : H a = some (.list xs)) (hb : H b = some (.list ys)) (hl : xs.length + ys.length < 1000000) (hne : a≠b) (q : Q .none (an H a (.list (xs ++ ys)))) : bF c k (.builtin "list.extend") [.ref a,.ref b] H Q:=by
 intro vals hv A g s hA hR
 refine bc fun GG=>?_
 obtain ⟨u,v,rfl,h1,h2⟩:=gz hv
 have:=aB h1; clear h1; subst this; have:=aB h2; clear h2 hv; subst this
 obtain ⟨i1,n1,g1,m1⟩:=hR.isList ha
 obtain ⟨i2,n2,g2,m2⟩:=hR.isList hb
 refine GG ?_
 have e1:=aw m1; have e2:=aw m2
 refine call_meets PySem.F.slot_list_extend ⟨_,g1,rfl⟩ PySem.F.entry_list_extend (PySem.F.args_list_extend_2 _ _) (AutoSeq1.list_extend_list_list_0 a i1 n1 b i2 n2 ?_ (by refine aa (sizeLine_eq ..) ?_; exact x9 hl e1) (by refine aa (sizeLine_eq ..) ?_; exact y7 hl e1 e2)) ⟨g1,g2,?_⟩
 ·simp [Builtin.List.listTooLong,sizeLine]; exact As hl e1 e2
 ·exact ⟨_,hR.update (tk:=s.toks) (o':=.list (xs ++ ys)) ha (fun b hb=>Heap.get?_update_ne _ _ _ _ hb) ⟨_,_,g1.update _,by simp [m1,m2]⟩,q⟩
theorem mf {a : Addr} {n : Int} {ns : List Int} {j : Nat} (ha : H a = some (.list (ns.map .int))) (hj : ns[j]? = some n) (hno : ∀ i,i < j->ns[i]?≠some n) (hl : ns.length < 1000000) (q : Q (.int j) H) : bF c k (.builtin "list.index") [.ref a,.int n] H Q:=by
 intro vals hv A g s hA hR
 obtain ⟨u,v,rfl,h1,h2⟩:=gz hv
 have:=aB h1; clear h1; subst this
 obtain ⟨t,rfl⟩:=aF h2
 obtain ⟨i1,n1,g1,m1⟩:=hR.isList ha
 have e1:=aw m1; rw [List.length_map] at e1
 have hjl : j < ns.length:=by
  rcases Nat.lt_or_ge j ns.length with q | q
  ·exact q
  ·rw [List.getElem?_eq_none q] at hj; contradiction
 have isInt : ∀ (i : Nat) (hi : i < i1.size),∃ t,i1[i] = .int (ns[i]'(by exact bM hi e1)) t:=fun i hi=>by
  have:=df m1 hi
  rw [List.getElem?_map,List.getElem?_eq_getElem (by exact bM hi e1)] at this
  exact aF (Option.some.inj this).symm
 refine call_meets PySem.F.slot_list_index ⟨_,g1,rfl⟩ PySem.F.entry_list_index (PySem.F.args_list_index_2 _ _) (PySem.SeqAt.list_indexAt a i1 n1 none #[] (.int n t) (fun y=>match y with | .int i _=>i == n | _=>false) j (by exact aU hjl e1) (by omega) ?_ ?_) ⟨g1,?_,⟨H,hR.tok _,q⟩⟩
 ·obtain ⟨t',e⟩:=isInt j (by exact aU hjl e1)
  refine aa (e ..) ?_
  rw [List.getElem?_eq_getElem hjl] at hj
  simpa using Option.some.inj hj
 ·intro i hi hij
  obtain ⟨t',e⟩:=isInt i hi
  refine aa (e ..) ?_
  have:=hno i hij
  rw [List.getElem?_eq_getElem (by exact bM hi e1)] at this
  exact PyProof.Rows.beq_int_false fun a=>this (congrArg some a)
 ·intro y hy
  obtain ⟨i,hi,rfl⟩:=Array.mem_iff_getElem.mp hy
  obtain ⟨t',e⟩:=isInt i hi
  refine aa (e ..) ?_
  exact EqAt.int_int _ _ _ _
theorem gS {a : Addr} {n : Int} {v : AV} {es : List (Int × AV)} (ha : H a = some (.dict es)) (hl : es.length < 1000000)
  (q : match es.lookup n with | some u=>Q u H | none=>Q v (an H a (.dict (es ++ [(n,v)])))) : bF c k (.builtin "dict.setdefault") [.ref a,.int n,v] H Q:=by
 intro vals hv A g s hA hR
 refine bc fun GG=>?_
 obtain ⟨u,w,d,rfl,h1,h2,h3⟩:=zI hv
 have:=aB h1; clear h1; subst this
 obtain ⟨t,rfl⟩:=aF h2
 obtain ⟨hns,kvs,hd,hm⟩:=hR.rep _ _ ha
 refine GG ?_
 have hlen : kvs.length = es.length:=by refine aa (Eq.symm (hm ..)) ?_; simp
 refine PySem.call_meetsIn PySem.F.slot_dict_setdefault hd.mapOf.typeIs PySem.F.entry_dict_setdefault (PySem.F.args_dict_setdefault_3 _ _ _) (kt_meets_setdefault (intKind c.prog c.w) a (intKind_is c.prog c.w n t) (uH hns) d)
  ⟨kvs,hd,by refine aa (sizeLine_eq ..) ?_; exact jj hl hlen,fun y hy=>?_,fun hn h' hd' hs=>?_⟩
 ·have : es.lookup n = some (av y):=by
   refine aa (Eq.symm (hm ..)) ?_
   clear hm hlen hd ha q hl hv
   unfold valueAt at hy
   induction kvs with
   | nil=>exact ns hy
   | cons x r ih=>
    rw [List.find?_cons] at hy
    refine aa (List.map_cons ..) (aa (List.lookup_cons ..) ?_)
    by_cases z : x.1 = n
    ·rw [decide_eq_true z] at hy; clear ih; cases hy; exact aa (z ..) (aa (beq_self_eq_true ..) rfl)
    ·rw [decide_eq_false z] at hy
     refine aa (beq_eq_false_iff_ne.mpr (Ne.symm z)) ?_; exact ih hy
  rw [this] at q
  exact ⟨H,hR.tok _,q⟩
 ·have hno : es.lookup n = none:=by
   have:=@eQ kvs n
   rw [hn,hm] at this
   cases z : es.lookup n with
   | none=>rfl
   | some y=>rw [z] at this; exact nomatch this
  rw [hno] at q
  refine ⟨_,hR.update (o':=.dict (es ++ [(n,v)])) ha (fun b hb=>hs.2 b hb) ⟨hns,_,hd',?_⟩,by refine aa (h3 ..) ?_; exact q⟩
  have e1:=hM kvs n d
  unfold kH at e1
  rw [hm] at e1
  refine aa (e1 ..) (aa (h3 ..) ?_)
  unfold cV
  rw [if_neg]
  intro z
  refine bc fun GG=>?_
  obtain ⟨x,hx,hxn⟩:=List.any_eq_true.mp z
  refine GG ?_
  have:=fo (l:=es) (x:=x) hx
  rw [of_decide_eq_true hxn] at this
  rw [hno] at this; exact nomatch this
theorem cK {a b : Addr} {xs ys : List AV} (ha : H a = some (.list xs)) (hb : H b = some (.list ys)) (hl : xs.length + ys.length < 1000000) (q : ∀ d,H d = none->Q (.ref d) (an H d (.list (xs ++ ys)))) : dM c k (binaryOp .Add) (.ref a) (.ref b) H Q:=by
 intro u v hu hv A g s hA hR
 have:=aB hu; clear hu; subst this; have:=aB hv; clear hv; subst this
 refine bc fun GG=>?_
 obtain ⟨i1,n1,g1,m1⟩:=hR.isList ha
 obtain ⟨i2,n2,g2,m2⟩:=hR.isList hb
 refine GG ?_
 have e1:=aw m1; have e2:=aw m2
 have N:=dU (tk:=s.toks) (xs:=xs ++ ys) hR (Heap.get?_none_of_le (Nat.le_refl _)) (fun b o e=>Heap.get?_push_of_some _ e) (IsL.new s.heap (i1 ++ i2)) (by simp [m1,m2])
 exact P.add_list g1 g2 ⟨_,N.1,q _ N.2⟩ (by refine aa (sizeLine_eq ..) ?_; exact Ak hl e1 e2)
theorem nx {a : Addr} {v : AV} {n : Int} (ha : H a = some (.list [v])) (h0 : 0<=n) (h1 : n < 1000000) (q : ∀ d,H d = none->Q (.ref d) (an H d (.list (List.replicate n.toNat v)))) : dM c k (binaryOp .Mult) (.ref a) (.int n) H Q:=by
 intro u w hu hv A g s hA hR
 have:=aB hu; clear hu; subst this
 refine bc fun GG=>?_
 obtain ⟨t,rfl⟩:=aF hv
 obtain ⟨i1,n1,g1,m1⟩:=hR.isList ha
 refine GG ?_
 have e1:=aw m1
 simp only [List.length_cons,List.length_nil] at e1
 have N:=dU (tk:=s.toks) (vs:=List.foldl (fun x1 x2=>x1 ++ x2) #[] (List.replicate (if i1.isEmpty = true then 0 else n.toNat) i1)) (xs:=List.replicate n.toNat v) hR (Heap.get?_none_of_le (Nat.le_refl _)) (fun b o e=>Heap.get?_push_of_some _ e) (IsL.new s.heap (List.foldl (fun x1 x2=>x1 ++ x2) #[] (List.replicate (if i1.isEmpty = true then 0 else n.toNat) i1))) (by
  have hne : ¬ i1.isEmpty = true:=by intro z; simp at z; clear g1 m1; subst z; simp at e1
  refine aa (if_neg hne) ?_
  refine bc fun GG=>?_
  obtain ⟨w,ws,e3,e4,e5⟩:=List.map_eq_cons_iff.mp m1
  refine GG ?_
  have:=List.map_eq_nil_iff.mp e5; clear e5; subst this
  have key : ∀ (j : Nat) (acc : Array Value),(List.foldl (fun x1 x2=>x1 ++ x2) acc (List.replicate j i1)).toList.map av = acc.toList.map av ++ List.replicate j v:=by
   intro j
   induction j with
   | zero=>intro acc; simp
   | succ j ih=>intro acc; refine aa (List.replicate_succ ..) (aa (List.foldl_cons ..) (aa (ih ..) (aa (List.replicate_succ ..) ?_))); simp [e3,e4]
  refine aa (key ..) ?_; rfl)
 refine wpAny_binaryOp_repeat_ref (T:="list") (U:="int") (by decide) ⟨_,g1,rfl⟩ (fun s'=>typeIs_int s' n t) noFill_list_mul F.fills_int_mul F.slot_int_rmul repeat_list F.slot_int_index.lookup
  (call_meets F.slot_int_rmul (typeIs_int s n t) F.entry_int_rmul (F.args_int_rmul_2 _ _) (int___rmul___int_list n t a i1 n1)
   ⟨g1,rfl,⟨_,g1,rfl⟩,call_meets F.slot_list_mul ⟨_,g1,rfl⟩ F.entry_list_mul (F.args_list_mul_2 _ _)
    (AutoListH.list___mul___list_int_3 a i1 n1 n t (by simp [Builtin.List.listFitsIndex]; exact Ck h0 h1) (by refine aa (e1 ..) ?_; omega) (by refine aa (e1 ..) ?_; simp [Builtin.List.listTooLong,sizeLine]; exact xI h1)) ⟨g1,⟨_,N.1,q _ N.2⟩⟩⟩)
theorem cF {a : Addr} {n : Nat} (ha : (∃ xs,H a = some (.list xs)/\n = xs.length)\/(∃ xs,H a = some (.tuple xs)/\n = xs.length)\/∃ xs,H a = some (.set xs)/\n = xs.length) (hn : n < 1000000) (q : Q (.int n) H) : bF c k (.builtin "len") [.ref a] H Q:=by
 intro vals hv A g s hA hR
 refine bc fun GG=>?_
 obtain ⟨u,rfl,h1⟩:=eE hv
 refine GG ?_
 have:=aB h1; clear h1 hv GG; subst this
 rcases ha with ⟨xs,ha,rfl⟩ | ⟨xs,ha,rfl⟩ | ⟨xs,ha,rfl⟩
 ·refine bc fun GG=>?_
  obtain ⟨i1,n1,g1,m1⟩:=hR.isList ha
  refine GG ?_
  have e1:=aw m1
  exact PyProof.Rows.len_list g1.isList (by omega) ⟨H,hR.tok _,by refine aa (e1 ..) ?_; exact q⟩
 ·refine bc fun GG=>?_
  obtain ⟨i1,n1,g1,m1⟩:=hR.isTup ha
  refine GG ?_
  have e1:=aw m1
  exact PyProof.Rows.len_tuple ⟨_,g1,rfl,n1,rfl⟩ (by omega) ⟨H,hR.tok _,by refine aa (e1 ..) ?_; exact q⟩
 ·refine bc fun GG=>?_
  obtain ⟨es,n1,t,ks,g1,T,f2,f3,_⟩:=hR.rep _ _ ha
  refine GG ?_
  have e1 : es.size = xs.length:=by exact aa (f2.size ..) (aa (f3.length_eq ..) rfl)
  exact call_len_set g1 ⟨rfl,rfl,rfl⟩ rfl T.fits (by omega) ⟨H,hR.tok _,by refine aa (e1 ..) ?_; exact q⟩
theorem bS {n : Int} (q : ∀ d,H d = none->Q (.ref d) (an H d (.range n))) : bF c k (.type "range") [.int n] H Q:=by
 intro vals hv A g s hA hR
 obtain ⟨u,rfl,h1⟩:=eE hv
 obtain ⟨t,rfl⟩:=aF h1
 exact call_range_1 ⟨_,hR.alloc (o':=.range n) (Heap.get?_none_of_le (Nat.le_refl _)) (fun b o e=>Heap.get?_push_of_some _ e) ⟨_,_,_,Heap.get?_push_size _ rfl⟩,q _ (hR.none_of_fresh (Nat.le_refl _))⟩
theorem hU {n : Int} (q : Q (.int n) H) : bF c k (.type "int") [.int n] H Q:=by
 intro vals hv A g s hA hR
 obtain ⟨u,rfl,h1⟩:=eE hv
 obtain ⟨t,rfl⟩:=aF h1
 exact call_int_int ⟨H,hR,q⟩
theorem dW {a : Addr} {xs : List AV} (ha : H a = some (.list xs)\/H a = some (.tuple xs)) (hl : xs.length < 1000000) (q : ∀ d,H d = none->Q (.ref d) (an H d (.list xs))) : bF c k (.type "list") [.ref a] H Q:=by
 intro vals hv A g s hA hR
 obtain ⟨u,rfl,h1⟩:=eE hv
 have:=aB h1; clear h1 hv; subst this
 rcases ha with ha | ha
 ·obtain ⟨i1,n1,g1,m1⟩:=hR.isList ha
  have e1:=aw m1
  refine call_list_seq a (T:="list") (.inl rfl) g1 rfl rfl (fun h' c' hk ho=>?_) (by refine aa (sizeLine_eq ..) ?_; exact jj hl e1)
  have N:=dU (tk:=s.toks) hR (Heap.get?_none_of_le (Nat.le_refl _)) hk ho m1
  exact ⟨_,N.1,q _ N.2⟩
 ·obtain ⟨i1,n1,g1,m1⟩:=hR.isTup ha
  have e1:=aw m1
  refine call_list_seq a (T:="tuple") (.inr rfl) g1 rfl rfl (fun h' c' hk ho=>?_) (by refine aa (sizeLine_eq ..) ?_; exact jj hl e1)
  have N:=dU (tk:=s.toks) hR (Heap.get?_none_of_le (Nat.le_refl _)) hk ho m1
  exact ⟨_,N.1,q _ N.2⟩
theorem d7 {pos : Pos} (q : ∀ d,H d = none->Q (.ref d) (an H d (.dict []))) : WE c k sc (.Dict [] [] pos) m H Q:=by
 intro A env g s hA hF hR
 refine wpAny_Dict_empty ⟨_,hR.alloc (tk:=s.toks) (o':=.dict []) (Heap.get?_none_of_le (Nat.le_refl _)) (fun b o e=>Heap.get?_push_of_some _ e) ⟨hR.big (Nat.le_refl _),[],Heap.DictOf.new _,rfl⟩,q _ (hR.none_of_fresh (Nat.le_refl _))⟩
def ee (c : Cx) (k : Nat) (sc : Scope) : Option Expr->aS->ag->(Option Int->ag->Prop)->Prop
 | none,_,H,Q=>Q none H
 | some e,m,H,Q=>WE c k sc e m H fun v H1=>∃ i,v = .int i/\Q (some i) H1
def cC (xs : List AV) (lo hi st : Option Int) : List AV:=(sliceRange (sliceBounds lo hi st xs.length).1 (sliceBounds lo hi st xs.length).2.1 (sliceBounds lo hi st xs.length).2.2).filterMap (xs[·]?)
theorem fm {A : Around} {env : Env} {g : aZ} (hA : Rm k A) (hF : dJ c env sc m g) {o : Option Expr} {H : ag} {s : Shared} {QO : Option Int->ag->Prop} {P : Value->Shared->Prop} (hR : aT c g H s) (h : ee c k sc o m H QO)
  (hp : ∀ v i s' H',IsPart v i->aT c g H' s'->QO i H'->P v s') : wpAny (model c.prog c.w) A (evalPart o env) P F0 s:=by
 cases o with
 | none=>exact wpAny_pure (hp _ _ _ _ .none hR h)
 | some e=>
  refine aY (h A env g s hA hF hR) ?_
  rintro v s' ⟨H',R',i,hv,q⟩
  obtain ⟨t,rfl⟩:=aF hv
  exact hp _ _ _ _ (.int i t) R' q
theorem pM {value : Expr} {lower upper step : Option Expr} {p pos : Pos} (hok : ∀ o i,∃ ops,subscripted (.Slice lower upper step p) false o i = operate ops (getItem o i))
  (h : WE c k sc value m H fun o H1=>ee c k sc lower m H1 fun lo H2=>ee c k sc upper m H2 fun hi H3=>ee c k sc step m H3 fun st H4=>
   ∃ a xs,o = .ref a/\H4 a = some (.list xs)/\xs.length < 1000000/\st≠some 0/\∀ d,H4 d = none->Q (.ref d) (an H4 d (.list (cC xs lo hi st)))) :
  WE c k sc (.Subscript value (.Slice lower upper step p) pos) m H Q:=by
 intro A env g s hA hF hR
 refine PyProof.Rows.Subscript_ (aY (h A env g s hA hF hR) ?_)
 intro o s1 hzz
 refine bc fun GG=>?_
 obtain ⟨H1,R1,q1⟩:=hzz
 refine GG ?_
 refine wpAny_Slice (fm hA hF R1 q1 fun vl lo s2 H2 pl R2 q2=>fm hA hF R2 q2 fun vu hi s3 H3 pu R3 q3=>fm hA hF R3 q3 fun vs st s4 H4 ps R4 q4=>?_)
 refine bc fun GG=>?_
 obtain ⟨a,xs,ho,ha,hl,h0,q⟩:=q4
 have:=aB ho; clear q1 q2 q3 ho; subst this
 obtain ⟨i1,n1,g1,m1⟩:=R4.isList ha
 have e1:=aw m1
 have R5:=R4.push { cls:=.type "slice",data:=.fields #[vl,vu,vs] }
 have g5:=g1.push { cls:=.type "slice",data:=.fields #[vl,vu,vs] }
 obtain ⟨ops,hops⟩:=hok (.ref a) (.ref s4.heap.objs.size)
 refine GG ?_
 refine PyProof.Rows.tail_any (T:="list") ⟨_,g5,rfl⟩ slot_list_getitem.lookup (wpAny_getItem_list_slice g5.isList (Heap.IsSliceOf.new ..) pl pu ps h0 ?_ (by refine aa (sizeLine_eq ..) ?_; exact jj hl e1)) hops
 have N:=dU (tk:=s4.toks) (vs:=slicePick i1 lo hi st) (xs:=cC xs lo hi st) R5 (Heap.get?_none_of_le (Nat.le_refl _)) (fun b o e=>Heap.get?_push_of_some _ e) (IsL.new (s4.heap.push { cls:=.type "slice",data:=.fields #[vl,vu,vs] }) (slicePick i1 lo hi st)) (by
  unfold slicePick cC
  refine aa (e1 ..) ?_
  clear ha hl q e1; subst m1
  refine aa (List.map_filterMap ..) ?_
  congr 1
  funext j
  simp [List.getElem?_map])
 exact ⟨_,N.1,q _ N.2⟩
end
end
section
def ae (e : DictEntry) : Str × AV:=(match e.key with | .str x _=>x | _=>Str.empty,av e.val)
def f7 : List (Str × AV)->Str->AV->List (Str × AV)
 | [],x,v=>[(x,v)]
 | (y,w) :: r,x,v=>if y = x then (y,v) :: r else (y,w) :: f7 r x v
def iM (es : List DictEntry) : Prop:=∀ e∈es,∃ x t,e.key = .str x t
theorem je (x name : Str) (t : Tok) : (Value.str x t).isStr name = (x == name):=rfl
theorem kW {name : Str} {hsh : Int} {tk : Tok} {v : Value} : ∀ {es : List DictEntry},iM es->(putL name hsh (.str name tk) v es).map ae = f7 (es.map ae) name (av v)/\iM (putL name hsh (.str name tk) v es)/\(putL name hsh (.str name tk) v es).length<=es.length + 1
 | [],_=>⟨rfl,fun e he=>by simp [putL] at he; subst he; exact ⟨_,_,rfl⟩,by simp [putL]⟩
 | e :: r,h=>by
  obtain ⟨x,t,hx⟩:=h e (.head _)
  obtain ⟨i1,i2,i3⟩:=kW (name:=name) (hsh:=hsh) (tk:=tk) (v:=v) (es:=r) fun y hy=>h y (.tail _ hy)
  have e1 : ae e = (x,av e.val):=by unfold ae; exact aa (hx ..) rfl
  refine aa (List.map_cons ..) (aa (e1 ..) ?_)
  unfold putL f7
  refine aa (hx ..) (aa (je ..) ?_)
  by_cases q : x = name
  ·clear i1 i2 i3; subst q
   refine aa (if_pos (beq_self_eq_true x)) (aa (if_pos rfl) ?_)
   refine ⟨?_,?_,by simp⟩
   ·refine aa (List.map_cons ..) ?_; congr 1
   ·intro y hy
    rcases List.mem_cons.mp hy with z | z
    ·clear hy; subst z; exact ⟨x,t,rfl⟩
    ·exact h y (.tail _ z)
  ·refine aa (if_neg (by simpa using q)) (aa (if_neg q) ?_)
   refine ⟨by exact aa (List.map_cons ..) (aa (i1 ..) (aa (e1 ..) rfl)),?_,by simp; exact zD i3⟩
   intro y hy
   rcases List.mem_cons.mp hy with z | z
   ·clear h e1 hy; subst z; exact ⟨x,t,hx⟩
   ·exact i2 y z
theorem kP {name : Str} {v : AV} : ∀ {es : List DictEntry},iM es->(es.map ae).lookup name = some v->∃ u,getL name es = some (some u)/\av u = v
 | e :: r,h,hl=>by
  obtain ⟨x,t,hx⟩:=h e (.head _)
  have e1 : ae e = (x,av e.val):=by unfold ae; exact aa (hx ..) rfl
  rw [List.map_cons,e1,List.lookup_cons] at hl
  unfold getL
  refine aa (List.find?_cons) (aa (hx ..) (aa (je ..) ?_))
  by_cases q : name = x
  ·clear hx e1; subst q
   rw [beq_self_eq_true] at hl ⊢
   exact ⟨e.val,rfl,Option.some.inj hl⟩
  ·rw [beq_eq_false_iff_ne.mpr q] at hl
   refine aa (beq_eq_false_iff_ne.mpr (Ne.symm q)) ?_
   obtain ⟨u,i1,i2⟩:=kP (es:=r) (fun y hy=>h y (.tail _ hy)) hl
   refine ⟨u,?_,i2⟩
   unfold getL at i1
   dsimp only
   cases z : r.find? (·.key.isStr name) with
   | some en=>rw [z] at i1; exact i1
   | none=>rw [z] at i1; dsimp only at i1; split at i1<;>cases i1
theorem kd {name : Str} {es : List DictEntry} (h : iM es) : (getL name es).isSome = true:=by
 unfold getL
 split
 ·rfl
 ·rw [if_neg]; rfl
  intro z
  obtain ⟨e,he,hr⟩:=List.any_eq_true.mp z
  obtain ⟨x,t,hx⟩:=h e he
  unfold DictEntry.refKey at hr; rw [hx] at hr; contradiction
def bz (K : Frag) (C : Addr) (name : Str) : Bool:=
 plainGet K C name && hasDictIn K C && (match findIn K (.ref C) name with | some attr=>noGet K attr | none=>false) &&
 findIn K (.ref C) "__setattr__" == some (some (.builtin "object.__setattr__")) && plainOver K C && takerIn K C name == some none
section
variable {c : Cx} {k : Nat} {sc : Scope} {m : aS} {H : ag} {Q : AV->ag->Prop} {QB : Bool->ag->Prop} {QS : Fl->aS->ag->Prop}
theorem aT.instAt {g : aZ} {s : Shared} (R : aT c g H s) {a C dx : Addr} {es : List (Str × AV)} (h1 : H a = some (.inst C dx)) (h2 : H dx = some (.attrs es)) :
  ∃ des n,W.InstAt s.heap a { cls:=.ref C,dict:=some dx,data:=.plain,slots:=#[] } C (some (dictOf des n))/\s.heap.get? dx = some (dictOf des n)/\iM des/\des.map ae = es/\des.length<=100:=by
 have e1:=R.rep _ _ h1
 refine bc fun GG=>?_
 obtain ⟨des,n,e2,e3,e4,e5⟩:=R.rep _ _ h2
 refine GG ?_
 exact ⟨des,n,⟨e1,rfl,rfl,e2⟩,e2,e3,e4,e5⟩
def kD (c : Cx) (k : Nat) (o : AV) (name : Str) (H : ag) (Q : AV->ag->Prop) : Prop:=
 ∃ a C dx es v,o = .ref a/\H a = some (.inst C dx)/\H dx = some (.attrs es)/\es.lookup name = some v/\bz c.K C name = true/\v≠.other/\Q v H
theorem pH {u : Value} (h : av u≠.other) : handedIn u = true:=by
 cases u<;>first | rfl | exact absurd rfl h
theorem nV {u : Value} {name : Str} {b : Bool} {A : Around} {g : aZ} {s : Shared} {P : Value->Shared->Prop} (hR : aT c g H s) (h : kD c k (av u) name H Q) (hp : ∀ v tk H',aT c g H' { s with toks:=tk }->Q (av v) H'->P v { s with toks:=tk }) :
  wpAny (model c.prog c.w) A (getAttr u name b) P F0 s:=by
 refine bc fun GG=>?_
 obtain ⟨a,C,dx,es,v,ho,h1,h2,hl,hc,hv,q⟩:=h
 have:=aB ho; clear ho; subst this
 obtain ⟨des,n,I,hd,hs,hm,_⟩:=hR.instAt h1 h2
 obtain ⟨u,hu,e⟩:=kP hs (hm▸hl)
 refine GG ?_
 simp only [bz,Bool.and_eq_true] at hc
 refine bc fun GG=>?_
 obtain ⟨⟨⟨⟨⟨c1,c2⟩,c3⟩,_⟩,_⟩,_⟩:=hc
 refine GG ?_
 split at c3
 ·rename_i attr hat
  exact get_value hR.inH I (plainGet_of c1).1 (findObj_own c2 hat c3 hu) (pH (by refine aa (e ..) ?_; exact hv)) (hp u _ _ (hR.tok _) (e▸q))
 ·exact nomatch c3
def jy (c : Cx) (k : Nat) (o : AV) (name : Str) (v : AV) (H : ag) (Q : ag->Prop) : Prop:=
 ∃ a C dx es,o = .ref a/\H a = some (.inst C dx)/\H dx = some (.attrs es)/\es.length < 50/\bz c.K C name = true/\Q (an H dx (.attrs (f7 es name v)))
theorem ie {o v : Value} {name : Str} {A : Around} {g : aZ} {s : Shared} {P : Unit->Shared->Prop} {QH : ag->Prop} (hR : aT c g H s) (h : jy c k (av o) name (av v) H QH)
  (hp : ∀ s' H',aT c g H' s'->QH H'->P () s') : wpAny (model c.prog c.w) A (setAttr o name v) P F0 s:=by
 refine bc fun GG=>?_
 obtain ⟨a,C,dx,es,ho,h1,h2,hlen,hc,q⟩:=h
 have:=aB ho; clear ho; subst this
 obtain ⟨des,n,I,hd,hs,hm,hle⟩:=hR.instAt h1 h2
 refine GG ?_
 simp only [bz,Bool.and_eq_true,beq_iff_eq] at hc
 refine bc fun GG=>?_
 obtain ⟨⟨⟨⟨⟨c1,c2⟩,c3⟩,c4⟩,c5⟩,c6⟩:=hc
 refine GG ?_
 refine set_plain hR.inH I c4 ?_
 refine osa_open (s:={ s with toks:=s.toks + 1 }) hR.inH I c5 c6 fun b=>?_
 refine bc fun GG=>?_
 obtain ⟨cd,hcc,hd'⟩:=any_some c2
 refine GG ?_
 have hx:=I.at_
 refine wpAny_bind (wpAny_pure (wpAny_bind (wpAny_bind (wpAny_loadPart (s:={ s with toks:=s.toks + 1 }) hx (wpAny_bind ((looks_clsIn (hR.tok (s.toks + 1)).inH hcc).here ?_))))))
 refine aa (hd' ..) ?_
 refine wpAny_pure (a:=some dx) (wpAny_bind (wpAny_pure (wpAny_bind ?_)))
 unfold nsSet
 refine wpAny_bind (wpAny_bind (wpAny_askSetting (wpAny_pure (wpAny_bind (wpAny_mkText (wpAny_bind (wpAny_loadPart (s:={ s with toks:=s.toks + 1 + 1 }) hd ?_)))))))
 dsimp only
 have cc : (!des.toArray.any (·.key.isStr name) && des.toArray.any (·.refKey)) = false:=by
  have:=kd (name:=name) hs
  unfold getL at this
  refine aa (Eq.symm (Array.any_toList ..)) (aa (Eq.symm (Array.any_toList ..)) ?_)
  dsimp only
  split at this
  ·rename_i en he
   refine aa (List.any_eq_true.mpr ⟨en,List.mem_of_find?_eq_some he,List.find?_some he⟩) ?_; rfl
  ·split at this
   ·exact nomatch this
   ·rename_i z; rw [Bool.not_eq_true] at z; exact aa (z ..) (aa (Bool.and_false ..) rfl)
 refine aa (aRefKeyMayBeTheName_at ..) (aa (cc ..) ?_)
 have hput:=putName_dict name (PyData.keyHash c.w.params name) (.str name (s.toks + 1)) v des n
 have D' : (s.heap.update dx (Obj.putName name (PyData.keyHash c.w.params name) (.str name (s.toks + 1)) v)).get? dx = some (dictOf (putL name (PyData.keyHash c.w.params name) (.str name (s.toks + 1)) v des) (putN name des n)):=by
  refine aa (Eq.symm (hput ..)) ?_
  exact Heap.get?_update_self _ hd (by refine aa (hput ..) ?_; rfl)
 refine bc fun GG=>?_
 obtain ⟨p1,p2,p3⟩:=kW (name:=name) (hsh:=PyData.keyHash c.w.params name) (tk:=s.toks + 1) (v:=v) hs
 refine GG ?_
 have hlen' : des.length = es.length:=by exact aa (Eq.symm (hm ..)) (aa (List.length_map ..) rfl)
 refine wpAny_updatePart (s:={ s with toks:=s.toks + 1 + 1 }) hd ?_
 refine wpAny_bind (wpAny_lookBehind D' (by show Data.pastItsLine (.dict _ _) = none; exact pastItsLine_dict (by refine aa (List.size_toArray ..) (aa (sizeLine_eq ..) ?_); exact zK hlen hlen' p3)) ?_)
 refine wpAny_pure (hp _ _ (hR.update (tk:=s.toks + 1 + 1) (o':=.attrs (f7 es name (av v))) h2 (fun b hb=>Heap.get?_update_ne _ _ _ _ hb) ⟨_,_,D',p2,?_,by exact xE hlen hlen' p3⟩) q)
 refine aa (Eq.symm (hm ..)) ?_; exact p1
end
end
section
def va (c : Cx) (k : Nat) (sc : Scope) : List Expr->List AV->aS->ag->(aS->ag->Prop)->Prop
 | e :: es,v :: vs,m,H,Q=>WA c k sc e v m H fun m1 H1=>va c k sc es vs m1 H1 Q
 | _,_,m,H,Q=>Q m H
section
variable {c : Cx} {k : Nat} {sc : Scope} {m : aS} {H : ag} {Q : AV->ag->Prop} {QB : Bool->ag->Prop} {QS : Fl->aS->ag->Prop} {QU : aS->ag->Prop}
theorem nY {o value : Expr} {name : Str} {pos' pos : Pos} (hs : ∀ env,env.scope = sc->swapsWith value (some (.Attribute o name pos')) pos.line env = pure false)
  (h : WE c k sc value m H fun v H1=>WE c k sc o m H1 fun ov H2=>jy c k ov name v H2 fun H3=>QS .next m H3) : WS c k sc (exec (.Assign [.Attribute o name pos'] value pos)) m H QS:=by
 intro A env g s hA hsc hF hR
 refine plainObj_wpAny_Assign_Attribute (dQ h hA hF hR fun v s1 H1 F1 R1 q1=>dQ q1 hA F1 R1 fun ov s2 H2 F2 R2 q2=>?_) (hs env hsc)
 exact ie R2.toRest q2 fun s3 H3 R3 q3=>⟨_,_,F2.behind R3,R2.back R3,q3⟩
theorem Bc {o : Expr} {name : Str} {pos : Pos} {v : AV} (h : WE c k sc o m H fun ov H1=>jy c k ov name v H1 fun H2=>QU m H2) : WA c k sc (.Attribute o name pos) v m H QU:=by
 intro u hu A env g s hA hF hR
 show wpAny _ A (do
  let ov <-holding [u] (eval o env)
  standAt pos.atName
  holding [u,ov] (setAttr ov name u)
  release [u,ov] []) _ _ s
 refine wpAny_bind (wpAny_holding (dQ h hA hF hR fun ov s1 H1 F1 R1 q1=>wpAny_bind (wpAny_standAt (wpAny_bind (wpAny_holding ?_)))))
 rw [<-hu] at q1
 exact ie R1.toRest q1 fun s2 H2 R2 q2=>fun Γ p _=>by refine aa (Sem.wp_release ..) ?_; exact ⟨_,_,F1.behind R2,R1.back R2,q2⟩
def pX (elts : List Expr) : Prop:=∀ env,assignEach elts env = elts.map fun e=>(false,assign e env)
theorem se {A : Around} {env : Env} {g : aZ} (hA : Rm k A) {P : Unit->Shared->Prop} (elts : List Expr) : ∀ (vals : List Value) {m : aS} {H : ag} {s : Shared},elts.length = vals.length->cM c env sc m g H s->aT c g H s->
  va c k sc elts (vals.map av) m H QU->(∀ m' H' s',cM c env sc m' g H' s'->aT c g H' s'->QU m' H'->P () s')->wpAny (model c.prog c.w) A (assignInOrder (elts.map fun e=>assign e env) vals) P F0 s:=by
 induction elts with
 | nil=>
  intro vals m H s hl F R h hp
  cases vals with
  | nil=>exact wpAny_pure (hp _ _ _ F R h)
  | cons=>exact nomatch hl
 | cons e es ih=>
  intro vals m H s hl F R h hp
  cases vals with
  | nil=>exact nomatch hl
  | cons v vs=>
   show wpAny _ A (do holding vs (assign e env v); assignInOrder _ vs) _ _ _
   refine wpAny_bind (wpAny_holding (aY (h v rfl A env g s hA F R) fun _ s1 J=>?_))
   obtain ⟨m1,H1,F1,R1,q1⟩:=J
   exact ih vs (Nat.succ.inj hl) F1 R1 q1 hp
theorem uZ (env : Env) (elts : List Expr) : (elts.map fun e=>(false,assign e env)).findIdx? (·.1) = none:=List.findIdx?_eq_none_iff.mpr fun x hx=>by
 obtain ⟨_,_,rfl⟩:=List.mem_map.mp hx; rfl
theorem mO {elts : List Expr} {n : Nat} {pos : Pos} {a : Addr} {vs : List AV} (hs : pX elts) (hl : elts.length = vs.length)
  (ha : H a = some (.tuple vs)) (h : va c k sc elts vs m H QU) : WA c k sc (.Tuple elts n pos) (.ref a) m H QU:=by
 intro u hu A env g s hA hF hR
 have:=aB hu; clear hu; subst this
 obtain ⟨items,en,hi,hm⟩:=hR.isTup ha
 show wpAny _ A (assign (.Tuple elts n pos) env (.ref a)) _ _ s
 refine aa (PyProof.Rows.assign_Tuple ..) (aa (hs ..) ?_)
 refine wpAny_bind (wpAny_standAt ?_)
 unfold unpack
 refine wpAny_bind (wpAny_holding ?_)
 have hsz : elts.length = items.size:=by exact aa (hl ..) (aa (Eq.symm (hm ..)) (aa (List.length_map ..) (aa (Array.length_toList ..) rfl)))
 refine aa (List.length_map ..) (aa (hsz ..) (aa (uZ ..) (aa (List.map_map ..) ?_)))
 refine PyProof.Rows.unpackItems_tuple hA.hd ⟨_,hi,rfl,en,rfl⟩ fun h' he=>?_
 have hk : ∀ b o,s.heap.get? b = some o->h'.get? b = some o:=fun b o e=>he b o (Nat.ne_of_lt (Heap.lt_size e)) e
 exact se hA elts items.toList hsz (hF.other (tk:=s.toks) (fun o e=>hk _ _ e) fun n a _ o e=>hk _ _ e) (hR.grow (tk:=s.toks) hk) (by refine aa (hm ..) ?_; exact h) fun m' H' s' F' R' q=>⟨_,_,F',R',q⟩
theorem uR {f : Str} {fp pos : Pos} {args : List Expr} {C fI : Addr} (hf : sc.names.lookup f = some .globalImplicit) (hd : (f == ("__debug__" : Str)) = false) (hk : nsIn c.K mainGlobals f = some (some (.ref C)))
  (hs : cH args) (hkeep : keepIn c.K (.ref C) = true) (hmk : makesIn c.K C = true) (hi : findIn c.K (.ref C) "__init__" = some (some (.ref fI))) (hfn : typeIn c.K (.ref fI) = some (.type "function"))
  (h : f9 c (k + 1) sc args m H fun vs H1=>∀ a dx,H1 a = none->H1 dx = none->a≠dx->AC c k fI (.ref a :: vs) (an (an H1 dx (.attrs [])) a (.inst C dx)) fun v H2=>v = .none/\Q (.ref a) H2) :
  WE c (k + 1) sc (.Call (.Name f fp) args [] pos) m H Q:=by
 intro A env g s hA hF hR
 refine eF (cD ..) ?_
 refine wpAny_bind (js hF hR hf hd hk ?_)
 refine callWith_of (P:=fun h=>c.K.In h) (by refine aa (fV hs) ?_; rfl) (keeps_K hkeep) (cx hA hF args hs hR h fun vs s1 H1 R1 q1=>⟨R1.inH,?_⟩)
 refine wpAny_call ?_
 obtain ⟨hh,gg,d,t,os⟩:=s1
 have hx : ((hh.push emptyDict).push (instObj C hh.objs.size)).get? (hh.objs.size + 1) = some (instObj C hh.objs.size):=by
  have:=Heap.get?_push_size (hh.push emptyDict) (o:=instObj C hh.objs.size) rfl
  rwa [Heap.size_push] at this
 have n1 : H1 hh.objs.size = none:=R1.none_of_fresh (Nat.le_refl _)
 have n2 : H1 (hh.objs.size + 1) = none:=R1.none_of_fresh (Nat.le_succ _)
 have R2:=R1.alloc (tk:=t) (a:=hh.objs.size) (h':=hh.push emptyDict) (o':=.attrs []) (Heap.get?_none_of_le (Nat.le_refl _)) (fun b o e=>Heap.get?_push_of_some _ e) ⟨[],0,Heap.get?_push_size _ rfl,(fun e he=>nomatch he),rfl,by simp⟩
 have R3:=R2.alloc (tk:=t) (a:=hh.objs.size + 1) (h':=(hh.push emptyDict).push (instObj C hh.objs.size)) (o':=.inst C hh.objs.size) (Heap.get?_none_of_le (by refine aa (Heap.size_push ..) ?_; exact Nat.le_refl _)) (fun b o e=>Heap.get?_push_of_some _ e) hx
 have hA1 : Rm k (A.under (.builtin "type.__call__" ⟨.ref C :: vs,[]⟩)):=by
  refine ⟨hA.hd,?_,?_⟩
  ·have:=hA.dep
   show A.depth + Code.weight _ + k < _
   have w1 : Code.weight (.builtin "type.__call__" ⟨.ref C :: vs,[]⟩) = 1:=by rfl
   refine aa (w1 ..) ?_; exact oQ this
  ·have:=hA.un
   show A.units + Code.cUnits _ + 10 * k + 40 < _
   have w1 : Code.cUnits (.builtin "type.__call__" ⟨.ref C :: vs,[]⟩) = 1:=by rfl
   exact De this w1
 refine make_core (makes_of R1.inH hmk) (looks_findIn R1.inH hi) (fun self=>bind_fn R1.inH self hfn) (.inl rfl) (codeAny_mono (q1 (hh.objs.size + 1) hh.objs.size n2 n1 (Nat.ne_of_gt (Nat.lt_succ_self _)) _ g _ (.ref (hh.objs.size + 1) :: vs) hA1 R3 rfl) fun r s' hr=>?_)
 cases r with
 | error e=>exact hr
 | ok fl=>cases fl with
  | ret v=>
   obtain ⟨H2,R4,hv,q⟩:=hr
   exact ⟨so hv,H2,R4,q⟩
  | next=>exact hr
  | brk=>exact hr
  | cont=>exact hr
end
end
section
def aN (es : Array (Int × Value)) (n : Nat) (t : SetTable) : Obj:={ cls:=.type "set",dict:=none,data:=.set es n t,slots:=#[] }
abbrev aE (w : World) : Bool:=w.params.followText "set-order"
inductive aR (bt : Bool) (h : Heap) (a : Addr) (ks : List Int) : Prop
 | mk (es : Array (Int × Value)) (n : Nat) (t : SetTable) (g : h.get? a = some (aN es n t)) (T : bI bt t es.size) (e : bd es ks) (hn : ks.Nodup) (hx : ∀ x∈ks,x∈aA)
theorem aR.keep {bt : Bool} {h h' : Heap} {a : Addr} {ks : List Int} (X : aR bt h a ks) (k : ∀ o,h.get? a = some o->h'.get? a = some o) : aR bt h' a ks:=by
 cases X with | mk es n t g T e hn hx=>exact ⟨es,n,t,k _ g,T,e,hn,hx⟩
theorem aR.get {bt : Bool} {h : Heap} {a : Addr} {ks : List Int} (X : aR bt h a ks) : ∃ es n t,h.get? a = some (aN es n t):=by
 cases X with | mk es n t g T e hn hx=>exact ⟨es,n,t,g⟩
theorem aR.typeIs {bt : Bool} {s : Shared} {a : Addr} {ks : List Int} (X : aR bt s.heap a ks) : s.TypeIs (.ref a) "set":=X.get.elim fun _ x=>x.elim fun _ x=>x.elim fun _ g=>⟨_,g,rfl⟩
theorem aR.lt {bt : Bool} {h : Heap} {a : Addr} {ks : List Int} (X : aR bt h a ks) : a < h.objs.size:=X.get.elim fun _ x=>x.elim fun _ x=>x.elim fun _ g=>Heap.lt_size g
theorem k0 {α : Type} {l : List α} {x : α} (h : l.Nodup) (hx : x∉l) : (l ++ [x]).Nodup:=List.nodup_append.mpr ⟨h,List.pairwise_singleton _ x,fun a ha b hb e=>hx ((e.trans (List.mem_singleton.mp hb))▸ha)⟩
theorem bd.elems {prog : Program} {w : World} {es : Array (Int × Value)} {ks : List Int} (h : bd es ks) : ElemsOf (intKind prog w) es.toList:=by
 intro e he
 have : (e.1,av e.2)∈es.toList.map (fun e=>(e.1,av e.2)):=List.mem_map_of_mem he
 rw [show es.toList.map (fun e=>(e.1,av e.2)) = _ from h] at this
 refine bc fun GG=>?_
 obtain ⟨k,_,e2⟩:=List.mem_map.mp this
 have e3 : e.1 = hashInt k:=(congrArg Prod.fst e2).symm
 have e4 : av e.2 = .int k:=(congrArg Prod.snd e2).symm
 obtain ⟨tk,e5⟩:=aF e4
 refine GG ?_
 refine aa (e5 ..) ?_
 exact ⟨⟨k,intKind_is _ _ _ _,e3⟩,rfl⟩
inductive sK : List (Int × Value)->List Int->Prop
 | nil : sK [] []
 | cons (k : Int) (tk : Tok) {l : List (Int × Value)} {r : List Int} (t : sK l r) : sK ((hashInt k,.int k tk) :: l) (k :: r)
theorem ny {l : List (Int × Value)} : ∀ {kl : List Int},l.map (fun e=>(e.1,av e.2)) = kl.map (fun k=>(hashInt k,AV.int k))->sK l kl:=by
 induction l with
 | nil=>
  intro kl h
  cases kl with
  | nil=>exact .nil
  | cons=>exact nomatch h
 | cons e l ih=>
  intro kl h
  cases kl with
  | nil=>exact nomatch h
  | cons k r=>
   have h1:=Prod.mk.inj (List.cons.inj h).1
   obtain ⟨tk,h5⟩:=aF h1.2
   exact (Prod.ext h1.1 h5 : e = (hashInt k,.int k tk))▸.cons k tk (ih (List.cons.inj h).2)
theorem bd.ent {es : Array (Int × Value)} {ks : List Int} (h : bd es ks) : sK es.toList ks:=ny h
theorem bd.at {es : Array (Int × Value)} {ks : List Int} (h : bd es ks) {i : Nat} {e : Int × Value} (hi : es[i]? = some e) : ∃ k tk,ks[i]? = some k/\e = (hashInt k,.int k tk):=by
 have h1 : (es.toList.map (fun e=>(e.1,av e.2)))[i]? = some (e.1,av e.2):=by simp [hi]
 rw [show es.toList.map (fun e=>(e.1,av e.2)) = _ from h,List.getElem?_map] at h1
 cases hk : ks[i]? with
 | none=>rw [hk] at h1; exact ns h1
 | some k=>
  rw [hk] at h1
  simp only [Option.map_some,Option.some.injEq,Prod.mk.injEq] at h1
  obtain ⟨tk,e5⟩:=aF h1.2.symm
  exact ⟨k,tk,rfl,by exact aa (Eq.symm (e5 ..)) (aa (h1.1 ..) rfl)⟩
theorem bd.find {prog : Program} {w : World} {es : Array (Int × Value)} {ks : List Int} (h : bd es ks) (x : Int) :
  es.toList.findIdx? (fun e=>(intKind prog w).is x e.2) = ks.findIdx? (· == x):=by
 have:=h.ent; clear h
 generalize es.toList = l at this ⊢
 induction this with
 | nil=>rfl
 | cons k tk t ih=>
  have e : (intKind prog w).is x (.int k tk) = (k == x):=by
   refine aa (KeyKind.is_eq_decide (knd:=intKind prog w) (k:=k) (intKind_is _ _ _ _) x) ?_
   by_cases q : x = k
   ·exact aa (decide_eq_true q) (aa (beq_iff_eq.mpr q.symm) rfl)
   ·exact aa (decide_eq_false q) (aa (beq_false_of_ne (Ne.symm q)) rfl)
  exact aa (List.findIdx?_cons) (aa (List.findIdx?_cons) (aa (ih ..) (aa (e ..) rfl)))
theorem bd.perm {es es' : Array (Int × Value)} {ks : List Int} (h : bd es ks) (p : es'.toList.Perm es.toList) : ∃ ks',bd es' ks'/\ks'.Perm ks:=by
 refine ⟨es'.toList.filterMap fun e=>qw e.2,?_,?_⟩
 ·have : ∀ l : List (Int × Value),(∀ e∈l,∃ k tk,e = (hashInt k,Value.int k tk))->l.map (fun e=>(e.1,av e.2)) = (l.filterMap fun e=>qw e.2).map (fun k=>(hashInt k,AV.int k)):=by
   intro l
   induction l with
   | nil=>intro _; rfl
   | cons e l ih=>
    intro he
    obtain ⟨k,tk,rfl⟩:=he e (.head _)
    refine aa (List.map_cons ..) (aa (List.filterMap_cons ..) (aa (ih fun e he'=>he e (.tail _ he')) ?_))
    rfl
  refine this _ fun e he=>?_
  have he2:=p.mem_iff.mp he
  obtain ⟨i,hi,e2⟩:=List.getElem_of_mem he2
  have : es[i]? = some e:=by exact aa (Eq.symm (Array.getElem?_toList)) (aa (List.getElem?_eq_getElem hi) (aa (e2 ..) rfl))
  obtain ⟨k,tk,_,e3⟩:=h.at this
  exact ⟨k,tk,e3⟩
 ·have hk : es.toList.filterMap (fun e=>qw e.2) = ks:=by
   have:=h.ent; clear h; generalize es.toList = l at this ⊢
   induction this with
   | nil=>rfl
   | cons k tk t ih=>exact congrArg (k :: ·) ih
  refine aa (Eq.symm (hk ..)) ?_
  exact p.filterMap _
theorem bd.hashes {es : Array (Int × Value)} {ks : List Int} (h : bd es ks) : (es.map (·.1)).toList = ks.map hashInt:=by
 have:=congrArg (List.map Prod.fst) h
 rw [List.map_map,List.map_map] at this
 refine aa (Array.toList_map ..) ?_
 exact this
inductive rS (m f mv : Nat) (led pl : Bool) (es : Array (Int × Value)) : Prop
 | mk (t' : SetTable) (order : Array Nat) (h : SetTable.laid m f mv led pl (es.map (·.1)) = some (t',order)) (p : order.toList.Perm (List.range es.size)) (p' : (order.filterMap (es[·]?)).toList.Perm es.toList) (z : t'.place.size = es.size) (r : t'.place.toList.Pairwise (· < ·)) (d : t'.dummies = #[]) (hm : t'.mask = m) (hl : t'.led = led) (hp : t'.plain = pl)
theorem g9 {m : Nat} (hm : m∈[7,15,31]) (f mv : Nat) (led pl : Bool) {es : Array (Int × Value)} {ks : List Int} (e : bd es ks) (hn : ks.Nodup) (hx : ∀ x∈ks,x∈aA) : rS m f mv led pl es:=by
 refine bc fun GG=>?_
 obtain ⟨t',o,a1,a2,a3,a4,a5,a6,a7,a8⟩:=r7 hm f mv led pl e.hashes hx hn
 refine GG ?_
 rw [<-e.size] at a2 a3
 refine ⟨t',o,a1,a2,?_,a3,a4,a5,a6,a7,a8⟩
 refine aa (Array.toList_filterMap ..) ?_
 exact (a2.filterMap _).trans (by rw [filterMap_getElem?_range])
theorem gx {α : Type} {a b : Array α} (h : a.toList.Perm b.toList) : a.size = b.size:=by
 have:=h.length_eq
 simpa using this
theorem bI.of_laid {bt : Bool} {t' : SetTable} {n m : Nat} (a3 : t'.place.size = n) (a4 : t'.place.toList.Pairwise (· < ·)) (a5 : t'.dummies = #[]) (a6 : t'.mask = m) (a7 : t'.led = !bt) (a8 : t'.plain = true)
  (hm : m∈[7,15,31]) (hf : n * 5 < m * 3) : bI bt t' n:=
 ⟨a3,a4,by unfold SetTable.fill; refine aa (a3 ..) (aa (a5 ..) (aa (a6 ..) ?_)); exact hf,by refine aa (a6 ..) ?_; exact hm,a8,a7⟩
theorem pQ {bt : Bool} {t : SetTable} {es : Array (Int × Value)} {ks : List Int} (e : bd es ks) (hn : ks.Nodup) (hx : ∀ x∈ks,x∈aA) (h0 : es.size≠0) (hl : t.led = !bt) (hp : t.plain = true) :
  ∃ es2 t2,relayAll t es (SetTable.grown es.size) = (es2,t2,false)/\bI bt t2 es2.size/\es2.toList.Perm es.toList:=by
 have hs : es.size<=7:=by refine aa (e.size ..) ?_; exact w0 hn hx
 rcases ng es.size (List.mem_range.mpr (by exact oM hs)) with h | ⟨hm,hf⟩
 ·exact absurd h h0
 refine bc fun GG=>?_
 obtain ⟨t',o,a1,a2,a2',a3,a4,a5,a6,a7,a8⟩:=g9 hm t.finger (t.movedTo (SetTable.sizeAbove (SetTable.grown es.size) - 1)) t.led t.plain e hn hx
 refine GG ?_
 have hsz:=gx a2'
 have T : bI bt t' es.size:=.of_laid a3 a4 a5 a6 (a7.trans hl) (a8.trans hp) hm hf
 refine ⟨o.filterMap (es[·]?),t',?_,by refine aa (hsz ..) ?_; exact T,a2'⟩
 have hr : t.relaid (es.map (·.1)) (SetTable.grown es.size) = some (t',o):=a1
 have hc : (coversAll o es.size && t'.fits (o.filterMap (es[·]?)).size) = true:=by
  refine aa (hsz ..) (aa (T.fits ..) (aa (Bool.and_true ..) ?_))
  exact List.isPerm_iff.mpr a2
 unfold relayAll
 refine aa (hr ..) ?_
 dsimp only
 exact aa (if_pos hc) rfl
section
variable {prog : Program} {w : World} {A : Around} {E : Value->Shared->Prop} {s : Shared}
theorem dS {Q : Bool->Shared->Prop} (h : Q (aE w) s) : wpAny (model prog w) A setsByText Q E s:=by
 unfold setsByText
 exact wpAny_bind (wpAny_askSetting (wpAny_pure h))
theorem bN {a : Addr} {es : Array (Int × Value)} {n : Nat} {t : SetTable} {Q : (Array (Int × Value) × Nat × SetTable)->Shared->Prop}
  (g : s.heap.get? a = some (aN es n t)) (T : bI (aE w) t es.size) (h : Q (es,n,t) s) : wpAny (model prog w) A (setState a) Q E s:=
 wpAny_setState_of g rfl T.fits h
theorem dI {es : Array (Int × Value)} {ks : List Int} (e : bd es ks) (hn : ks.Nodup) (hx : ∀ x∈ks,x∈aA) : es.size<=7:=by
 refine aa (e.size ..) ?_; exact w0 hn hx
theorem nI {a : Addr} {ks : List Int} {x : Int} {tk : Tok} {Q : Option Nat->Shared->Prop} (X : aR (aE w) s.heap a ks)
  (h : Q (ks.findIdx? (· == x)) s) : wpAny (model prog w) A (setFind a (.int x tk) (hashInt x)) Q E s:=by
 refine bc fun GG=>?_
 obtain ⟨es,n,t,g,T,e,hn,hx⟩:=X
 refine GG ?_
 have hs:=dI e hn hx
 unfold setFind setFindIn
 refine wpAny_bind (bN g T ?_)
 dsimp only
 refine aa (byScan_of (knd:=intKind prog w) rfl (by unfold scanBound; exact rx hs) e.elems) ?_
 refine wpAny_bind (wpAny_rule ?_)
 refine wpAny_bind (wpAny_setScan_of (knd:=intKind prog w) (k:=x) (intKind_is _ _ _ _) g rfl T.fits e.elems ?_)
 refine aa (e.find x) ?_
 cases hr : ks.findIdx? (· == x) with
 | none=>rw [hr] at h; exact wpAny_pure h
 | some j=>rw [hr] at h; simp only [Nat.zero_add]; exact wpAny_pure h
theorem o4 {h : Heap} {a : Addr} {es es' : Array (Int × Value)} {n : Nat} {t t' : SetTable} (g : h.get? a = some (aN es n t)) :
  (h.update a (Obj.putSet es' t')).get? a = some (aN es' (n + 1) t'):=by
 have:=Heap.get?_update_self (Obj.putSet es' t') g (by refine aa (putSet_of es' t' rfl) ?_; rfl)
 rw [putSet_of es' t' rfl] at this
 exact this
theorem fk {a : Addr} {es es' : Array (Int × Value)} {n : Nat} {t t' : SetTable} {Q : Unit->Shared->Prop} (g : s.heap.get? a = some (aN es n t)) (hz : es'.size<=20)
  (h : ∀ h',Heap.SameBut a s.heap h'->h'.get? a = some (aN es' (n + 1) t')->Q () { s with heap:=h' }) : wpAny (model prog w) A (storeSet a es' t') Q E s:=
 wpAny_storeSet_of g rfl (h _ (Heap.SameBut.update _ _ _) (o4 g)) (by refine aa (sizeLine_eq ..) ?_; exact xi hz)
theorem kr {a : Addr} {ks : List Int} {x : Int} {tk : Tok} {Q : Bool->Shared->Prop} (X : aR (aE w) s.heap a ks) (hx : x∈aA)
  (h : ∀ h' ks',Heap.SameBut a s.heap h'->aR (aE w) h' a ks'->ks'.Perm (if ks.contains x then ks else ks ++ [x])->Q (!ks.contains x) { s with heap:=h' }) :
  wpAny (model prog w) A (setAddHashed a (.int x tk) (hashInt x)) Q E s:=by
 refine bc fun GG=>?_
 obtain ⟨es,n,t,g,T,e,hn,hks⟩:=id X
 refine GG ?_
 have hs:=dI e hn hks
 unfold setAddHashed setAddHashedIn
 refine wpAny_holding (wpAny_bind (bN g T ?_))
 dsimp only
 refine aa (byScan_of (knd:=intKind prog w) rfl (by unfold scanBound; exact rx hs) e.elems) ?_
 unfold setAddByScan
 refine wpAny_bind ?_
 refine wpAny_bind (wpAny_rule ?_)
 refine wpAny_bind (wpAny_setScan_of (knd:=intKind prog w) (k:=x) (intKind_is _ _ _ _) g rfl T.fits e.elems ?_)
 refine aa (e.find x) ?_
 cases hr : ks.findIdx? (· == x) with
 | some j=>
  dsimp only
  have hc : ks.contains x = true:=by
   refine bc fun GG=>?_
   obtain ⟨hj,hp,_⟩:=List.findIdx?_eq_some_iff_getElem.mp hr
   refine GG ?_
   refine aa (propext (List.contains_iff_mem ..)) ?_
   have : ks[j] = x:=by simpa using hp
   refine aa (Eq.symm (this ..)) ?_; exact List.getElem_mem hj
  have:=h s.heap ks (Heap.SameBut.refl a s.heap) X (by refine aa (hc ..) ?_; exact .rfl)
  rw [hc] at this
  exact wpAny_pure (wpAny_pure this)
 | none=>
  dsimp only
  have hc : ks.contains x = false:=by
   refine aa (Eq.symm (Bool.not_eq_true ..)) (aa (propext (List.contains_iff_mem ..)) ?_)
   intro hm
   have:=List.findIdx?_eq_none_iff.mp hr x hm
   simp at this
  have hnm : x∉ks:=by rw [<-List.contains_iff_mem,hc]; exact Bool.false_ne_true
  refine bc fun GG=>?_
  obtain ⟨es1,t1,wd,hl,hp,hz,hz1,hrise,hfill,hmask,hplain,hled,hdum⟩:=o5 T hx (.int x tk)
  refine GG ?_
  refine aa (hl ..) ?_
  dsimp only
  refine wpAny_bind (wpAny_pure ?_)
  refine aa (hplain ..) ?_
  refine wpAny_bind ?_
  refine aa (hashByValue_scannable 8 (x:=.int x tk) rfl) ?_
  refine wpAny_pure ?_
  simp only [show plainKind (.int x tk) = true from rfl,if_true]
  have hs1 : es1.size<=20:=by exact yp hz1 hs
  refine bc fun GG=>?_
  obtain ⟨ks1,e1,p1⟩ : ∃ ks1,bd es1 ks1/\ks1.Perm (ks ++ [x]):=by
   have e0 : bd (es.push (hashInt x,.int x tk)) (ks ++ [x]):=by
    unfold bd at e ⊢
    refine aa (Array.toList_push ..) (aa (List.map_append ..) (aa (List.map_append ..) (aa (e ..) ?_))); rfl
   exact e0.perm (by refine aa (Array.toList_push ..) ?_; exact hp)
  refine GG ?_
  have hn1 : ks1.Nodup:=p1.nodup_iff.mpr (k0 hn hnm)
  have hx1 : ∀ y∈ks1,y∈aA:=fun y hy=>(List.mem_append.mp (p1.mem_iff.mp hy)).elim (hks y) fun q=>List.mem_singleton.mp q▸hx
  refine wpAny_bind (fk g hs1 fun h1 sb1 g1=>?_)
  rw [hc] at h
  have hplace : ∀ h2,Heap.SameBut a s.heap h2->aR (aE w) h2 a ks1->Q (!false) { s with heap:=h2 }:=fun h2 sb X2=>h h2 ks1 sb X2 (by assumption)
  by_cases htf : (!wd && t1.tooFull) = true
  ·refine aa (if_pos htf) ?_
   refine bc fun GG=>?_
   obtain ⟨es2,t2,hr2,T2,p2⟩:=pQ (bt:=aE w) (t:=t1) e1 hn1 hx1 (by exact zR hz1) hled hplain
   refine GG ?_
   refine aa (hr2 ..) ?_
   dsimp only
   refine wpAny_bind (wpAny_pure ?_)
   have hs2:=gx p2
   refine wpAny_bind (fk (s:={ s with heap:=h1 }) g1 (by exact y5 hz1 hs hs2) fun h2 sb2 g2=>?_)
   refine bc fun GG=>?_
   obtain ⟨ks2,e2,q2⟩:=e1.perm p2
   refine GG ?_
   refine wpAny_pure (wpAny_pure (h h2 ks2 (sb1.trans sb2) ⟨es2,_,t2,g2,T2,e2,q2.nodup_iff.mpr hn1,fun y hy=>hx1 y (q2.mem_iff.mp hy)⟩ ?_))
   simpa using q2.trans p1
  ·refine aa (if_neg htf) ?_
   refine wpAny_pure (wpAny_pure (hplace h1 sb1 ⟨es1,_,t1,g1,⟨hz,hrise,?_,by refine aa (hmask ..) ?_; exact T.mask,hplain,hled⟩,e1,hn1,hx1⟩))
   cases hwd : wd with
   | true=>exact hdum hwd
   | false=>
    rw [hwd] at htf
    simpa [SetTable.tooFull] using htf
theorem o8 {a : Addr} {ks : List Int} {x : Int} {tk : Tok} {Q : Bool->Shared->Prop} (X : aR (aE w) s.heap a ks)
  (h : ∀ h' ks',Heap.SameBut a s.heap h'->aR (aE w) h' a ks'->ks'.Perm (ks.erase x)->Q (ks.contains x) { s with heap:=h' }) :
  wpAny (model prog w) A (setDiscardHashed a (.int x tk) (hashInt x)) Q E s:=by
 refine bc fun GG=>?_
 obtain ⟨es,n,t,g,T,e,hn,hks⟩:=id X
 refine GG ?_
 have hs:=dI e hn hks
 unfold setDiscardHashed
 refine wpAny_bind (nI X ?_)
 cases hr : ks.findIdx? (· == x) with
 | none=>
  dsimp only
  have hnm : x∉ks:=fun hm=>by
   have:=List.findIdx?_eq_none_iff.mp hr x hm
   simp at this
  have hc : ks.contains x = false:=by refine aa (Eq.symm (Bool.not_eq_true ..)) (aa (propext (List.contains_iff_mem ..)) ?_); exact hnm
  rw [hc] at h
  exact wpAny_pure (h s.heap ks (Heap.SameBut.refl a s.heap) X (by rw [List.erase_of_not_mem hnm]))
 | some i=>
  dsimp only
  refine bc fun GG=>?_
  obtain ⟨hi,hp,_⟩:=List.findIdx?_eq_some_iff_getElem.mp hr
  refine GG ?_
  have hx : ks[i] = x:=by simpa using hp
  have hc : ks.contains x = true:=by refine aa (propext (List.contains_iff_mem ..)) (aa (Eq.symm (hx ..)) ?_); exact List.getElem_mem hi
  rw [hc] at h
  refine wpAny_bind (bN g T ?_)
  dsimp only
  have hsz : es.size = ks.length:=e.size
  have hi2 : i < es.size:=by exact aU hi hsz
  have hes:=ej es i hi2
  refine wpAny_bind (fk g (by exact Ca hes hs) fun h1 sb1 g1=>?_)
  refine wpAny_bind (wpAny_point (wpAny_pure ?_))
  have e1 : bd (SetTable.eraseAt es i) (ks.take i ++ ks.drop (i + 1)):=by
   unfold bd at e ⊢
   exact aa (dz ..) (aa (List.map_append ..) (aa (List.map_append ..) (aa (List.map_take ..) (aa (List.map_take ..) (aa (List.map_drop ..) (aa (List.map_drop ..) (aa (e ..) rfl)))))))
  have hsplit : ks = ks.take i ++ x :: ks.drop (i + 1):=by
   conv=>lhs; rw [<-List.take_append_drop i ks]
   exact aa (Eq.symm (List.getElem_cons_drop hi)) (aa (hx ..) rfl)
  have hnd:=hn
  rw [hsplit,List.nodup_append] at hnd
  have hxt : x∉ks.take i:=fun q=>hnd.2.2 x q x (.head _) rfl
  have her : ks.erase x = ks.take i ++ ks.drop (i + 1):=by
   conv=>lhs; rw [hsplit]
   exact aa (List.erase_append_right _ hxt) (aa (List.erase_cons_head ..) rfl)
  refine h h1 _ sb1 ⟨_,_,_,g1,?_,e1,?_,?_⟩ (by rw [her])
  ·have T' : bI (aE w) t ((SetTable.eraseAt es i).size + 1):=by refine aa (hes ..) ?_; exact T
   exact sf T' (by exact Cg hes hsz hi)
  ·refine aa (Eq.symm (her ..)) ?_; exact hn.erase _
  ·intro y hy
   rw [<-her] at hy
   exact hks y (List.mem_of_mem_erase hy)
theorem qH {Q : Value->Shared->Prop} (h : aR (aE w) (s.heap.push (aN #[] 0 (.fresh 0 0 (!aE w)))) s.heap.objs.size []->Q (.ref s.heap.objs.size) { s with heap:=s.heap.push (aN #[] 0 (.fresh 0 0 (!aE w))) }) :
  wpAny (model prog w) A (newSet (.type "set")) Q E s:=by
 unfold newSet
 refine wpAny_bind (dS ?_)
 dsimp only
 refine wpAny_bind (wpAny_alloc (wpAny_pure (h ⟨#[],0,_,Heap.get?_push_size _ rfl,⟨rfl,List.Pairwise.nil,by show (0 + 0) * 5 < 7 * 3; exact tG,by simp [SetTable.fresh],rfl,rfl⟩,rfl,by simp,fun x hx=>by exact nomatch hx⟩)))
end
end
section
section
variable {prog : Program} {w : World} {A : Around} {E : Value->Shared->Prop} {s : Shared}
theorem nf {α : Type} (l : List α) (i : Nat) (h : i < l.length) : ([l[i]] ++ l.eraseIdx i).Perm l:=by
 refine aa (List.eraseIdx_eq_take_drop_succ ..) ?_
 conv=>rhs; rw [<-List.take_append_drop i l,<-List.getElem_cons_drop h]
 show (l[i] :: (List.take i l ++ List.drop (i + 1) l)).Perm _
 exact (List.perm_middle).symm
theorem ot {α : Type} (next : Nat->Nat) : ∀ (fuel k : Nat) (left : List α) (out : Array α),left.length<=fuel->(pickOrder.go next fuel k left out).toList.Perm (out.toList ++ left)
 | 0,k,left,out,h=>by
  have : left = []:=by cases left with
   | nil=>rfl
   | cons=>simp at h
  clear h; subst this
  simp [pickOrder.go]
 | fuel + 1,k,left,out,h=>by
  unfold pickOrder.go
  cases left with
  | nil=>simp
  | cons y l=>
   have hi : next k % (y :: l).length < (y :: l).length:=Nat.mod_lt _ (by simp)
   refine aa (List.getElem?_eq_getElem hi) ?_
   dsimp only
   refine (ot next fuel (k + 1) _ _ (by refine aa (List.length_eraseIdx ..) ?_; refine aa (if_pos hi) ?_; exact wM h)).trans ?_
   refine aa (Array.toList_push ..) (aa (List.append_assoc ..) ?_)
   exact (nf _ _ hi).append_left _
theorem jo {α : Type} (next : Nat->Nat) (xs : Array α) : (pickOrder next xs).toList.Perm xs.toList:=by
 have:=ot next xs.size 0 xs.toList #[] (by simp)
 simpa [pickOrder] using this
theorem uG {a : Addr} {ks : List Int} {Q : Array (Int × Value)->Shared->Prop} (X : aR (aE w) s.heap a ks)
  (h : ∀ gW ks',bd gW ks'->ks'.Perm ks->Q gW s) : wpAny (model prog w) A (setWalk a) Q E s:=by
 refine bc fun GG=>?_
 obtain ⟨es,n,t,g,T,e,hn,hks⟩:=id X
 refine GG ?_
 unfold setWalk
 refine wpAny_bind (bN g T ?_)
 dsimp only
 refine wpAny_bind (dS ?_)
 cases hb : aE w with
 | true=>
  refine wpAny_bind (wpAny_askSetting ?_)
  refine bc fun GG=>?_
  obtain ⟨ks',e',p'⟩:=e.perm (jo (w.params.setOrder a n) es)
  refine GG ?_
  exact wpAny_pure (h _ ks' e' p')
 | false=>
  have hl : t.led = true:=by refine aa (T.led ..) (aa (hb ..) ?_); rfl
  show wpAny _ _ (if (!t.plain && _) = true then _ else _) _ _ _
  refine aa (T.plain ..) ?_
  refine wpAny_bind ?_
  show wpAny _ _ (if (!t.led && _) = true then _ else _) _ _ _
  refine aa (hl ..) ?_
  exact wpAny_pure (wpAny_pure (h es ks e .rfl))
theorem eu {a : Addr} {ks : List Int} {others : List Addr} {filled : Option Addr} {Q : Array (Int × Value)->Shared->Prop} (X : aR (aE w) s.heap a ks)
  (h : ∀ gW ks',bd gW ks'->ks'.Perm ks->Q gW s) : wpAny (model prog w) A (setWalkUnseen a others filled) Q E s:=by
 refine bc fun GG=>?_
 obtain ⟨es,n,t,g,T,e,hn,hks⟩:=id X
 refine GG ?_
 unfold setWalkUnseen
 refine wpAny_bind (bN g T ?_)
 dsimp only
 refine wpAny_bind (dS ?_)
 have hl : (aE w || t.led && t.plain || decide (es.size<=1)) = true:=by
  refine aa (T.led ..) (aa (T.plain ..) ?_)
  cases aE w<;>rfl
 refine aa (hl ..) ?_
 exact uG X h
theorem oU {a : Addr} {es : Array (Int × Value)} {n : Nat} {t : SetTable} {ks : List Int} {wanted : Nat} {Q : Unit->Shared->Prop}
  (g : s.heap.get? a = some (aN es n t)) (T : bI (aE w) t es.size) (e : bd es ks) (hn : ks.Nodup) (hx : ∀ x∈ks,x∈aA)
  (hm : SetTable.sizeAbove wanted - 1∈[7,15,31]) (hm2 : SetTable.sizeAbove wanted<=32) (hf : es.size * 5 < (SetTable.sizeAbove wanted - 1) * 3)
  (h : ∀ h' es' n' t' ks',Heap.SameBut a s.heap h'->h'.get? a = some (aN es' n' t')->bI (aE w) t' es'.size->bd es' ks'->ks'.Perm ks->t'.mask = SetTable.sizeAbove wanted - 1->t'.dummies = #[]->Q () { s with heap:=h' }) :
  wpAny (model prog w) A (setRelay a wanted) Q E s:=by
 unfold setRelay
 refine wpAny_bind (bN g T ?_)
 dsimp only
 refine aa (if_neg (by rw [sizeLine_eq]; exact vZ hm2)) ?_
 refine bc fun GG=>?_
 obtain ⟨t',o,a1,a2,a2',a3,a4,a5,a6,a7,a8⟩:=g9 hm t.finger (t.movedTo (SetTable.sizeAbove wanted - 1)) t.led t.plain e hn hx
 refine GG ?_
 have hr : t.relaid (es.map (·.1)) wanted = some (t',o):=a1
 have hsz:=gx a2'
 have hs:=dI e hn hx
 refine aa (hr ..) ?_
 refine wpAny_bind ?_
 wp_delta
 dsimp only
 refine aa (if_neg (by rw [hsz]; simp)) ?_
 refine wpAny_pure ?_
 dsimp only
 refine fk g (by exact sA hsz hs) fun h1 sb1 g1=>?_
 refine bc fun GG=>?_
 obtain ⟨ks',e',p'⟩:=e.perm a2'
 refine GG ?_
 exact h h1 _ _ _ ks' sb1 g1 (by refine aa (hsz ..) ?_; exact .of_laid a3 a4 a5 a6 (a7.trans T.led) (a8.trans T.plain) hm hf) e' p' a6 a5
theorem uM {a : Addr} {es : Array (Int × Value)} {n : Nat} {t : SetTable} {ks : List Int} {more : Nat} {Q : Unit->Shared->Prop}
  (g : s.heap.get? a = some (aN es n t)) (T : bI (aE w) t es.size) (e : bd es ks) (hn : ks.Nodup) (hx : ∀ x∈ks,x∈aA) (hmore : more<=7)
  (h : ∀ h' es' n' t' ks',Heap.SameBut a s.heap h'->h'.get? a = some (aN es' n' t')->bI (aE w) t' es'.size->bd es' ks'->ks'.Perm ks->more * 5 < t'.mask * 3->Q () { s with heap:=h' }) :
  wpAny (model prog w) A (setRoomFor a more) Q E s:=by
 unfold setRoomFor
 refine wpAny_bind (bN g T ?_)
 dsimp only
 have hs:=dI e hn hx
 unfold SetTable.roomFor
 by_cases hc : (t.fill + more) * 5>=t.mask * 3
 ·refine aa (if_pos hc) ?_
  dsimp only
  refine aa (T.size ..) ?_
  refine bc fun GG=>?_
  obtain ⟨r1,r2,r3,r4⟩:=pc es.size (List.mem_range.mpr (by exact oM hs)) more (List.mem_range.mpr (by exact oM hmore))
  refine GG ?_
  refine oU g T e hn hx r1 r4 r2 fun h' es' n' t' ks' a1 a2 a3 a4 a5 a6 _=>h h' es' n' t' ks' a1 a2 a3 a4 a5 ?_
  refine aa (a6 ..) ?_; exact Bs r3
 ·refine aa (if_neg hc) ?_
  exact wpAny_pure (h s.heap es n t ks (Heap.SameBut.refl _ _) g T e .rfl (by exact yw hc))
theorem fX {ks ks' : List Int} {x : Int} (p : ks'.Perm (if ks.contains x then ks else ks ++ [x])) (y : Int) : y∈ks'↔y∈ks\/y = x:=by
 refine aa (propext (p.mem_iff ..)) ?_
 split
 ·rename_i hc
  rw [List.contains_iff_mem] at hc
  exact ⟨.inl,fun h=>h.elim id fun e=>e▸hc⟩
 ·simp
theorem oT {s0 : Addr} {body : (Int × Value)->PUnit->Sem (ForInStep PUnit)} {I : Shared->Prop} {p : Int->Bool}
  (hI : ∀ (st : Shared) h',Heap.SameBut s0 st.heap h'->I st->I { st with heap:=h' })
  (hb : ∀ (k : Int) (tk : Tok) (st : Shared) (ks : List Int) (Q : ForInStep PUnit->Shared->Prop),I st->aR (aE w) st.heap s0 ks->k∈aA->
   (∀ h' ks',Heap.SameBut s0 st.heap h'->aR (aE w) h' s0 ks'->(∀ y,y∈ks'↔y∈ks\/(y = k/\p k = true))->Q (.yield ⟨⟩) { st with heap:=h' })->wpAny (model prog w) A (body (hashInt k,.int k tk) ⟨⟩) Q E st)
  {l : List (Int × Value)} {kl : List Int} (he : sK l kl) : ∀ (st : Shared) (ks : List Int) (Q : PUnit->Shared->Prop),(∀ x∈kl,x∈aA)->I st->aR (aE w) st.heap s0 ks->
   (∀ h' ks',Heap.SameBut s0 st.heap h'->aR (aE w) h' s0 ks'->(∀ y,y∈ks'↔y∈ks\/(y∈kl/\p y = true))->Q ⟨⟩ { st with heap:=h' })->wpAny (model prog w) A (forIn l PUnit.unit body) Q E st:=by
 induction he with
 | nil=>intro st ks Q hx hi X h; exact eF List.forIn_nil (wpAny_pure (h st.heap ks (Heap.SameBut.refl _ _) X fun y=>⟨.inl,fun q=>by cases q with | inl q=>exact q | inr q=>exact nomatch q.1⟩))
 | cons k tk t ih=>
  intro st ks Q hx hi X h
  refine eF (List.forIn_cons ..) (wpAny_bind (hb k tk st ks _ hi X (hx k (.head _)) fun h1 ks1 sb1 X1 m1=>?_))
  refine ih { st with heap:=h1 } ks1 Q (fun x q=>hx x (.tail _ q)) (hI _ _ sb1 hi) X1 fun h2 ks2 sb2 X2 m2=>h h2 ks2 (sb1.trans sb2) X2 fun y=>?_
  refine aa (propext (m2 ..)) (aa (propext (m1 ..)) (aa (propext (List.mem_cons ..)) ?_))
  exact ⟨fun q=>q.elim (fun q=>q.elim .inl fun q=>.inr ⟨.inl q.1,q.1.symm▸q.2⟩) fun q=>.inr ⟨.inr q.1,q.2⟩,fun q=>q.elim (fun q=>.inl (.inl q)) fun q=>q.1.elim (fun e=>.inl (.inr ⟨e,e▸q.2⟩)) fun e=>.inr ⟨e,q.2⟩⟩
theorem p9 {s0 : Addr} {body : (Int × Value)->PUnit->Sem (ForInStep PUnit)} {I : Shared->Prop}
  (hI : ∀ (st : Shared) h',Heap.SameBut s0 st.heap h'->I st->I { st with heap:=h' })
  (hb : ∀ (k : Int) (tk : Tok) (st : Shared) (ks : List Int) (Q : ForInStep PUnit->Shared->Prop),I st->aR (aE w) st.heap s0 ks->k∈aA->
   (∀ h' ks',Heap.SameBut s0 st.heap h'->aR (aE w) h' s0 ks'->(∀ y,y∈ks'↔y∈ks\/y = k)->Q (.yield ⟨⟩) { st with heap:=h' })->wpAny (model prog w) A (body (hashInt k,.int k tk) ⟨⟩) Q E st)
  {l : List (Int × Value)} {kl : List Int} (he : sK l kl) (st : Shared) (ks : List Int) (Q : PUnit->Shared->Prop) (hx : ∀ x∈kl,x∈aA) (hi : I st) (X : aR (aE w) st.heap s0 ks)
  (h : ∀ h' ks',Heap.SameBut s0 st.heap h'->aR (aE w) h' s0 ks'->(∀ y,y∈ks'↔y∈ks\/y∈kl)->Q ⟨⟩ { st with heap:=h' }) : wpAny (model prog w) A (forIn l PUnit.unit body) Q E st:=
 oT (p:=fun _=>true) hI (fun k tk st ks Q hi X hk q=>hb k tk st ks Q hi X hk fun h' ks' sb X' m=>q h' ks' sb X' fun y=>(m y).trans (or_congr Iff.rfl ⟨fun e=>⟨e,rfl⟩,And.left⟩)) he st ks Q hx hi X fun h' ks' sb X' m=>h h' ks' sb X' fun y=>(m y).trans (or_congr Iff.rfl ⟨And.left,fun e=>⟨e,rfl⟩⟩)
theorem oy {a o : Addr} {ks ko : List Int} {each : Sem Unit} {Q : Unit->Shared->Prop} (hne : a≠o) (X : aR (aE w) s.heap a ks) (Y : aR (aE w) s.heap o ko)
  (hE : ∀ (st : Shared) (Q' : Unit->Shared->Prop),st.heap.get? o = s.heap.get? o->Q' () st->wpAny (model prog w) A each Q' E st)
  (h : ∀ h' ks',Heap.SameBut a s.heap h'->aR (aE w) h' a ks'->(∀ y,y∈ks'↔y∈ks\/y∈ko)->Q () { s with heap:=h' }) :
  wpAny (model prog w) A (setMerge a o each) Q E s:=by
 refine bc fun GG=>?_
 obtain ⟨es,n,t,g,T,e,hn,hks⟩:=id X
 obtain ⟨eo,no,t_o,go,To,eeo,hno,hko⟩:=id Y
 refine GG ?_
 have hso:=dI eeo hno hko
 unfold setMerge
 refine eA (by simpa using hne) ?_
 refine wpAny_bind (bN go To ?_)
 dsimp only
 by_cases hem : eo.isEmpty = true
 ·refine aa (if_pos hem) ?_
  have h0 : eo.size = 0:=by simpa using hem
  have hk0 : ko = []:=by rw [eeo.size] at h0; exact List.length_eq_zero_iff.mp h0
  clear Y eeo hno hko; subst hk0
  exact wpAny_pure (h s.heap ks (Heap.SameBut.refl _ _) X (by simp))
 refine eA (hem) ?_
 refine wpAny_bind (uM g T e hn hks (by exact AL hso) fun h1 es1 n1 t1 ks1 sb1 g1 T1 e1 p1 hroom=>?_)
 have hn1:=p1.nodup_iff.mpr hn
 have hk1 : ∀ x∈ks1,x∈aA:=fun x hx=>hks x (p1.mem_iff.mp hx)
 refine wpAny_bind (bN (s:={ s with heap:=h1 }) g1 T1 ?_)
 dsimp only
 have go1 : h1.get? o = some (aN eo no t_o):=by refine aa (sb1.2 o (Ne.symm hne)) ?_; exact go
 have Y1 : aR (aE w) h1 o ko:=⟨eo,no,t_o,go1,To,eeo,hno,hko⟩
 unfold SetTable.road
 by_cases hfill : (t1.fill != 0) = true
 ·refine aa (if_pos hfill) ?_
  dsimp only
  refine wpAny_bind (eu (s:={ s with heap:=h1 }) Y1 fun gW kw ew pw=>?_)
  refine aa (Eq.symm (Array.forIn_toList ..)) ?_
  refine wpAny_bind (p9 (w:=w) (s0:=a) (I:=fun st=>st.heap.get? o = some (aN eo no t_o)) (fun st h' sb hi=>(sb.2 o (Ne.symm hne)).trans hi) (fun k tk st ks2 Q2 hi X2 hk hq=>?_) (ny ew) { s with heap:=h1 } ks1 _ (fun x hx=>hko x (pw.mem_iff.mp hx)) go1 ⟨es1,n1,t1,g1,T1,e1,hn1,hk1⟩ fun h2 ks2 sb2 X2 m2=>?_)
  ·skip
   dsimp only
   refine wpAny_bind (wpAny_holding (kr X2 hk fun h3 ks3 sb3 X3 p3=>?_))
   have hi3 : h3.get? o = some (aN eo no t_o):=(sb3.2 o (Ne.symm hne)).trans hi
   refine wpAny_bind (hE _ _ (hi3.trans go.symm) ?_)
   refine wpAny_bind (bN (s:={ st with heap:=h3 }) hi3 To ?_)
   dsimp only
   simp only [bne_self_eq_false,Bool.false_eq_true,if_false]
   exact wpAny_pure (hq h3 ks3 sb3 X3 (fX p3))
  ·refine wpAny_pure (h h2 ks2 (sb1.trans sb2) X2 fun y=>?_)
   rw [m2,p1.mem_iff,pw.mem_iff]
 ·refine aa (if_neg hfill) ?_
  have hf0 : t1.fill = 0:=by simpa using hfill
  have hes0 : es1.size = 0:=by refine aa (Eq.symm (T1.size ..)) ?_; unfold SetTable.fill at hf0; exact AI hf0
  have hks1 : ks1 = []:=by rw [e1.size] at hes0; exact List.length_eq_zero_iff.mp hes0
  clear e1 hn1 hk1; subst hks1
  have hks0 : ks = []:=List.perm_nil.mp p1.symm
  clear X e hn hks p1; subst hks0
  by_cases hr : (t1.mask == t_o.mask && t_o.dummies.isEmpty) = true
  ·refine aa (if_pos hr) ?_
   dsimp only
   refine fk (s:={ s with heap:=h1 }) g1 (by exact yG hso) fun h2 sb2 g2=>?_
   refine h h2 ko (sb1.trans sb2) ⟨_,_,_,g2,⟨To.size,To.rise,To.few,To.mask,?_,?_⟩,eeo,hno,hko⟩ (by simp)
   ·show (t1.plain && t_o.plain) = true
    refine aa (T1.plain ..) (aa (To.plain ..) ?_); rfl
   ·show (t1.led && t_o.led) = _
    refine aa (T1.led ..) (aa (To.led ..) ?_); cases aE w<;>rfl
  ·refine aa (if_neg hr) ?_
   dsimp only
   refine bc fun GG=>?_
   obtain ⟨t',od,a1,a2,a2',a3,a4,a5,a6,a7,a8⟩:=g9 T1.mask t1.finger t1.moves (t1.led && t_o.led) (t1.plain && t_o.plain) eeo hno hko
   refine GG ?_
   refine aa (a1 ..) ?_
   have hsz:=gx a2'
   refine wpAny_bind ?_
   wp_delta
   dsimp only
   refine aa (if_neg (by rw [hsz]; simp)) ?_
   refine wpAny_pure ?_
   dsimp only
   refine fk (s:={ s with heap:=h1 }) g1 (by exact sA hsz hso) fun h2 sb2 g2=>?_
   refine bc fun GG=>?_
   obtain ⟨k2,e2,p2⟩:=eeo.perm a2'
   refine GG ?_
   refine h h2 k2 (sb1.trans sb2) ⟨_,_,_,g2,?_,e2,p2.nodup_iff.mpr hno,fun x hx=>hko x (p2.mem_iff.mp hx)⟩ fun y=>by refine aa (propext (p2.mem_iff ..)) ?_; simp
   refine aa (hsz ..) ?_
   refine .of_laid a3 a4 a5 a6 (a7.trans ?_) (a8.trans ?_) T1.mask (by exact Bv hroom)
   ·refine aa (T1.led ..) (aa (To.led ..) ?_); cases aE w<;>rfl
   ·refine aa (T1.plain ..) (aa (To.plain ..) ?_); rfl
end
end
section
theorem dk : Manifest.owners.lookup (String.ofList ['r','o','t','a','r','e','t','i','_','t','e','s'].reverse) = some Manifest.sig_set_iterator:=by kernel_rfl
theorem bL : Slot "set_iterator" "__next__" "set_iterator.__next__":=
 .of (owner:="set_iterator") (n:="__next__") (by rw [typeLookup_type,builtinLookup_eq_fast]; kernel_rfl) (by decide +kernel) (by decide +kernel) (by decide +kernel)
  (by first | exact .inl (by decide +kernel) | exact .inr (by decide +kernel)) (by rw [isSubtype_type]; kernel_rfl)
theorem eP : entryFor table "set_iterator.__next__" = some Builtin.«set_iterator.__next__»:=entryFor_of_tree (by kernel_rfl)
theorem fu (a : Value) : argsOk "set_iterator.__next__" ⟨[a],[]⟩:=by
 unfold argsOk; rw [signature?_of (id:="set_iterator.__next__") (n:=['_','_','t','x','e','n','_','_']) (o:=['r','o','t','a','r','e','t','i','_','t','e','s']) (by kernel_rfl) dk]; kernel_rfl
theorem fz : Slot "set_iterator" "__iter__" "set_iterator.__iter__":=
 .of (owner:="set_iterator") (n:="__iter__") (by rw [typeLookup_type,builtinLookup_eq_fast]; kernel_rfl) (by decide +kernel) (by decide +kernel) (by decide +kernel)
  (by first | exact .inl (by decide +kernel) | exact .inr (by decide +kernel)) (by rw [isSubtype_type]; kernel_rfl)
theorem ik : entryFor table "set_iterator.__iter__" = some Builtin.«dict_keyiterator.__iter__»:=
 entryFor_alias (id':="dict_keyiterator.__iter__") (by kernel_rfl) rfl (by decide +kernel) (by kernel_rfl)
theorem iZ (a : Value) : argsOk "set_iterator.__iter__" ⟨[a],[]⟩:=by
 unfold argsOk; rw [signature?_of (id:="set_iterator.__iter__") (n:=['_','_','r','e','t','i','_','_']) (o:=['r','o','t','a','r','e','t','i','_','t','e','s']) (by kernel_rfl) dk]; kernel_rfl
theorem iE : entryFor table "set.__iter__" = some Builtin.«frozenset.__iter__»:=
 entryFor_alias (id':="frozenset.__iter__") (by kernel_rfl) rfl (by decide +kernel) (by kernel_rfl)
theorem jE : entryFor table "set.__or__" = some Builtin.«frozenset.__or__»:=
 entryFor_alias (id':="frozenset.__or__") (by kernel_rfl) rfl (by decide +kernel) (by kernel_rfl)
theorem iT : entryFor table "set.__sub__" = some Builtin.«frozenset.__sub__»:=
 entryFor_alias (id':="frozenset.__sub__") (by kernel_rfl) rfl (by decide +kernel) (by kernel_rfl)
theorem jS : entryFor table "set.__ne__" = some Builtin.«frozenset.__ne__»:=
 entryFor_alias (id':="frozenset.__ne__") (by kernel_rfl) rfl (by decide +kernel) (by kernel_rfl)
end
section
def ck (place : Array Nat) (i : Nat) : Nat:=if i = 0 then 0 else place.getD (i - 1) 0 + 1
theorem ql (place : Array Nat) (hs : place.toList.Pairwise (· < ·)) (i : Nat) (hi : i<=place.size) : SetTable.below place (ck place i) = i:=by
 obtain ⟨h1,h2,h3⟩:=iG place (ck place i) hs
 generalize SetTable.below place (ck place i) = p at h1 h2 h3
 have hg : ∀ k,k < place.size->place.getD k (ck place i) = place.getD k 0:=fun k hk=>by simp [Array.getD,hk]
 unfold ck at *
 split at h2
 ·rename_i h0
  clear hi h3 hg; subst h0
  rcases Nat.eq_zero_or_pos p with h | h
  ·exact h
  ·exact absurd (h2 0 h) (by exact nofun)
 ·rename_i h0
  rw [if_neg h0] at h3 hg
  rcases Nat.lt_trichotomy p i with h | h | h
  ·have a:=h3 p (Nat.le_refl _) (by exact oY h hi)
   rw [hg p (by exact oY h hi)] at a
   rcases Nat.lt_or_ge p (i - 1) with q | q
   ·have:=dX (d:=0) hs q (by exact AY h hi)
    exact AE a this
   ·have : p = i - 1:=by exact zW h q
    clear h1 h3 h2 h q; subst this
    exact Bm a
  ·exact h
  ·have a:=h2 i h
   rw [hg i (by exact oY h h1)] at a
   have:=dX (d:=0) hs (show i - 1 < i by exact AF h0) (by exact oY h h1)
   exact Ai a this
def bZ (w : World) (a : Addr) (es : Array (Int × Value)) (ep : Nat) : Array (Int × Value):=if aE w then pickOrder (w.params.setOrder a ep) es else es
theorem dP (w : World) (a : Addr) (es : Array (Int × Value)) (ep : Nat) : (bZ w a es ep).toList.Perm es.toList:=by
 unfold bZ
 split
 ·exact jo _ _
 ·exact .rfl
structure dT (w : World) (h : Heap) (it a : Addr) (es : Array (Int × Value)) (ep : Nat) (t : SetTable) (i : Nat) : Prop where
 ob : ∃ o,h.get? it = some o/\o.cls = .type "set_iterator"/\o.data = .fields #[.int (if aE w then 0 else (ck t.place i : Nat)) 0,.int i 0,.ref a,.int es.size 0,.int ep 0]
theorem dT.typeIs {w : World} {s : Shared} {it a : Addr} {es : Array (Int × Value)} {ep i : Nat} {t : SetTable} (X : dT w s.heap it a es ep t i) : s.TypeIs (.ref it) "set_iterator":=
 let ⟨⟨o,g,hc,_⟩⟩:=X; ⟨o,g,hc⟩
theorem dT.at {w : World} {h h' : Heap} {it a : Addr} {es : Array (Int × Value)} {ep i : Nat} {t : SetTable} (X : dT w h it a es ep t i) (e : ∀ o,h.get? it = some o->h'.get? it = some o) : dT w h' it a es ep t i:=
 let ⟨⟨o,g,r⟩⟩:=X; ⟨⟨o,e _ g,r⟩⟩
section
variable {prog : Program} {w : World} {A : Around} {E : Value->Shared->Prop} {s : Shared} {it a : Addr} {es : Array (Int × Value)} {ep i : Nat} {t : SetTable} {ks : List Int}
theorem rQ {Q : Array (Int × Value)->Shared->Prop} (g : s.heap.get? a = some (aN es ep t)) (T : bI (aE w) t es.size)
  (h : Q (bZ w a es ep) s) : wpAny (model prog w) A (setWalk a) Q E s:=by
 unfold bZ at h
 unfold setWalk
 refine wpAny_bind (bN g T ?_)
 dsimp only
 refine wpAny_bind (dS ?_)
 cases hb : aE w with
 | true=>
  rw [hb] at h
  exact wpAny_bind (wpAny_askSetting (wpAny_pure h))
 | false=>
  rw [hb] at h
  have hl : t.led = true:=by refine aa (T.led ..) (aa (hb ..) ?_); rfl
  show wpAny _ _ (if (!t.plain && _) = true then _ else _) _ _ _
  refine aa (T.plain ..) ?_
  refine wpAny_bind ?_
  show wpAny _ _ (if (!t.led && _) = true then _ else _) _ _ _
  refine aa (hl ..) ?_
  exact wpAny_pure (wpAny_pure h)
theorem qs {Q : Option (Value × Nat)->Shared->Prop} (g : s.heap.get? a = some (aN es ep t)) (T : bI (aE w) t es.size) (hi : i<=es.size) {sl : Nat} (hsl : sl = if aE w then 0 else ck t.place i)
  (h : Q (((bZ w a es ep)[i]?).map fun e=>(e.2,if aE w then 0 else ck t.place (i + 1))) s) : wpAny (model prog w) A (setNext a sl i ep) Q E s:=by
 unfold setNext
 refine wpAny_bind (bN g T ?_)
 dsimp only
 refine wpAny_bind (dS ?_)
 cases hb : aE w with
 | true=>
  rw [hb] at h hsl
  simp only [if_true] at h hsl ⊢
  refine eA (by simp) ?_
  refine wpAny_bind (rQ g T ?_)
  subst hsl
  exact wpAny_pure h
 | false=>
  rw [hb] at hsl
  simp only [Bool.false_eq_true,if_false] at hsl ⊢
  have h' : Q ((es[i]?).map fun e=>(e.2,ck t.place (i + 1))) s:=by
   have e1 : bZ w a es ep = es:=by unfold bZ; refine aa (hb ..) ?_; rfl
   rw [e1,hb] at h
   exact h
  have hl : t.led = true:=by refine aa (T.led ..) (aa (hb ..) ?_); rfl
  show wpAny _ _ (if (!t.plain && _) = true then _ else _) _ _ _
  refine aa (T.plain ..) ?_
  refine wpAny_bind ?_
  show wpAny _ _ (if (!t.led && _) = true then _ else _) _ _ _
  refine aa (hl ..) ?_
  refine wpAny_pure ?_
  have hsz:=T.size
  have hbel : SetTable.below t.place sl = i:=by subst hsl; exact ql _ T.rise i (by exact wH hsz hi)
  refine aa (hbel ..) ?_
  by_cases hlt : i < es.size
  ·have hp : i < t.place.size:=by exact aU hlt hsz
   refine aa (Array.getElem?_eq_getElem hlt) (aa (Array.getElem?_eq_getElem hp) ?_)
   rw [Array.getElem?_eq_getElem hlt] at h'
   refine wpAny_pure ?_
   have : ck t.place (i + 1) = t.place[i] + 1:=by unfold ck; simp [Array.getD,hp]
   rw [this] at h'
   exact h'
  ·have : es[i]? = none:=Array.getElem?_eq_none (by exact iB hlt)
   rw [this] at h' ⊢
   exact wpAny_pure h'
theorem gO {e : Int × Value} {Q : Option Value->Shared->Prop} (hit : dT w s.heap it a es ep t i) (g : s.heap.get? a = some (aN es ep t)) (T : bI (aE w) t es.size)
  (hx : (bZ w a es ep)[i]? = some e)
  (hQ : ∀ h',dT w h' it a es ep t (i + 1)->Heap.SameBut it s.heap h'->Q (some e.2) { s with heap:=h' }) :
  wpAny (model prog w) A (pyNext (.ref it)) Q E s:=by
 obtain ⟨o,ho,hc,hd⟩:=hit.ob
 have hlen:=gx (dP w a es ep)
 have hi : i < es.size:=by
  refine aa (Eq.symm (hlen ..)) ?_
  refine Classical.byContradiction fun q=>?_
  rw [Array.getElem?_eq_none (by exact iB q)] at hx
  exact ns hx
 unfold pyNext
 refine wpAny_bind (wpAny_attempt (wpAny_callSpecial?_slot (name:=Str.ofString "__next__") hit.typeIs bL
  (wpAny_call_entry bL hit.typeIs eP ?_ (fu _))))
 refine wpAny_bind (wpAny_pure ?_)
 refine wpAny_bind (wpAny_fieldsOf ho hd ?_)
 dsimp only
 refine wpAny_bind (wpAny_setEntries_of g rfl T.fits ?_)
 refine eA (by simp) ?_
 refine wpAny_bind (qs (i:=i) g T (by exact yR hi) (sl:=(Int.toNat (if aE w then 0 else (ck t.place i : Nat)))) (by cases aE w<;>rfl) ?_)
 refine aa (hx ..) ?_
 dsimp only [Option.map]
 refine wpAny_bind (wpAny_setField ho hd (by simp) ?_)
 have ho1:=Heap.get?_update_self (Obj.mapFields (·.setIfInBounds 0 (rawInt ((if aE w = true then 0 else ck t.place (i + 1) : Nat) : Int)))) ho (Obj.isFreed_of_fields (Obj.data_mapFields hd _))
 have hd1:=Obj.data_mapFields hd (·.setIfInBounds 0 (rawInt ((if aE w = true then 0 else ck t.place (i + 1) : Nat) : Int)))
 refine wpAny_bind (wpAny_setField (s:={ s with heap:=_ }) ho1 hd1 (by exact Nat.one_lt_succ_succ [Value.ref a,Value.int (↑es.size) 0,Value.int (↑ep) 0].length) ?_)
 have ho2:=Heap.get?_update_self (Obj.mapFields (·.setIfInBounds 1 (rawInt ((i : Int) + 1)))) ho1 (Obj.isFreed_of_fields (Obj.data_mapFields hd1 _))
 have hd2:=Obj.data_mapFields hd1 (·.setIfInBounds 1 (rawInt ((i : Int) + 1)))
 refine wpAny_pure ⟨_,rfl,wpAny_pure (hQ _ ⟨⟨_,ho2,?_,?_⟩⟩ ((Heap.SameBut.update ..).trans (Heap.SameBut.update ..)))⟩
 ·refine aa (Obj.cls_mapFields ..) (aa (Obj.cls_mapFields ..) ?_); exact hc
 ·refine aa (hd2 ..) ?_
  cases aE w<;>rfl
theorem iA {Q : Option Value->Shared->Prop} (hh : A.handled = none) (hit : dT w s.heap it a es ep t es.size) (g : s.heap.get? a = some (aN es ep t)) (T : bI (aE w) t es.size)
  (hQ : ∀ h',Heap.ExtBut it s.heap h'->Q none { s with heap:=h' }) : wpAny (model prog w) A (pyNext (.ref it)) Q E s:=by
 refine bc fun GG=>?_
 obtain ⟨o,ho,hc,hd⟩:=hit.ob
 refine GG ?_
 have hlen:=gx (dP w a es ep)
 unfold pyNext
 refine wpAny_bind (wpAny_attempt (wpAny_callSpecial?_slot (name:=Str.ofString "__next__") hit.typeIs bL
  (wpAny_call_entry bL hit.typeIs eP ?_ (fu _))))
 refine wpAny_bind (wpAny_pure ?_)
 refine wpAny_bind (wpAny_fieldsOf ho hd ?_)
 dsimp only
 refine wpAny_bind (wpAny_setEntries_of g rfl T.fits ?_)
 refine eA (by simp) ?_
 refine wpAny_bind (qs (i:=es.size) g T (by exact AZ) (sl:=(Int.toNat (if aE w then 0 else (ck t.place es.size : Nat)))) (by cases aE w<;>rfl) ?_)
 refine aa (Array.getElem?_eq_none (by exact ri hlen)) ?_
 dsimp only [Option.map]
 refine wpAny_bind (wpAny_setField ho hd (by simp) ?_)
 refine wpAny_bind ?_
 refine wpAny_bind (wpAny_newObj_type ?_ (by size_fits))
 refine wpAny_bind (m:=firstArgMember _ _) (wpAny_of_eq (a:=Value.none) (by first | rfl | (simp only [firstArgMember]; rfl)) ?_)
 refine wpAny_newObj_type ?_ (by size_fits)
 refine wpAny_bind (wpAny_handled ?_)
 refine aa (show A.in1.handled = none from hh) ?_
 refine wpAny_bind (wpAny_pure (wpAny_throw ?_))
 refine wpAny_bind (wpAny_isInstance (T:="StopIteration") (b:=true) ⟨_,Heap.get?_push_size _ rfl,rfl⟩ isSubtype_stop ?_)
 exact wpAny_pure (hQ _ (((Heap.SameBut.update ..).extBut.push _).push _))
theorem nJ {Q : Value->Shared->Prop} (hit : dT w s.heap it a es ep t i) (h : Q (.ref it) s) : wpAny (model prog w) A (pyIter (.ref it)) Q E s:=by
 refine wpAny_pyIter_slot hit.typeIs fz (wpAny_call_entry fz hit.typeIs ik ?_ (iZ _))
 show wpAny _ _ (ret (.ref it)) _ _ s
 exact wpAny_pure ⟨_,rfl,"set_iterator",_,hit.typeIs,bL.lookup,h⟩
theorem Walks.setW (hh : A.handled = none) (I a : Addr) (hne : a≠I) (es : Array (Int × Value)) (ep : Nat) (t : SetTable) (T : bI (aE w) t es.size) :
  Walks prog w A I [I,a] [I] es.size (fun i v=>((bZ w a es ep)[i]?).map (·.2) = some v) (fun i h=>dT w h I a es ep t i/\h.get? a = some (aN es ep t)) where
 sub:=fun b hb=>by simp at hb; simp [hb]
 frame:=fun _ _ _ st hk=>⟨st.1.at fun o e=>hk I (by simp) o e,hk a (by simp) _ st.2⟩
 item:=fun i s Q E hi st hQ=>by
  have hlen:=gx (dP w a es ep)
  have hx : (bZ w a es ep)[i]? = some ((bZ w a es ep)[i]'(by exact aU hi hlen)):=Array.getElem?_eq_getElem _
  refine gO st.1 st.2 T hx fun h' hit' hs'=>?_
  exact hQ _ h' s.toks (by refine aa (hx ..) ?_; rfl) ⟨hit',(hs'.2 a hne).trans st.2⟩ fun b o hb e=>hs'.extBut b o (fun h=>hb (by simp [h])) e
 done:=fun s Q E st hQ=>iA hh st.1 st.2 T fun h' he'=>hQ h' s.toks fun b o hb e=>he' b o (fun h=>hb (by simp [h])) e
 self:=fun _ _ _ _ st hQ=>nJ st.1 hQ
theorem ve {Q : Value->Shared->Prop} (g : s.heap.get? a = some (aN es ep t)) (T : bI (aE w) t es.size)
  (hQ : dT w (s.heap.push { cls:=.type "set_iterator",data:=.fields #[rawInt 0,rawInt 0,.ref a,rawInt es.size,rawInt ep] }) s.heap.objs.size a es ep t 0->
   Q (.ref s.heap.objs.size) { s with heap:=s.heap.push { cls:=.type "set_iterator",data:=.fields #[rawInt 0,rawInt 0,.ref a,rawInt es.size,rawInt ep] } }) :
  wpAny (model prog w) A (pyIter (.ref a)) Q E s:=by
 have hT : s.TypeIs (.ref a) "set":=⟨_,g,rfl⟩
 have hit : dT w (s.heap.push { cls:=.type "set_iterator",data:=.fields #[rawInt 0,rawInt 0,.ref a,rawInt es.size,rawInt ep] }) s.heap.objs.size a es ep t 0:=
  ⟨⟨_,Heap.get?_push_size _ rfl,rfl,by cases aE w<;>rfl⟩⟩
 refine wpAny_pyIter_slot hT F.slot_set_iter (wpAny_call_entry F.slot_set_iter hT iE ?_ (F.args_set_iter_1 _))
 unfold Builtin.«frozenset.__iter__» Builtin.Frozenset.slot0 slotArgs
 simp only [List.isEmpty_nil,Bool.not_true,Bool.false_eq_true,↓reduceIte,bind_assoc,List.length_nil,bne_self_eq_false]
 unfold Builtin.Frozenset.addrOf Builtin.Frozenset.sizeOf
 refine wpAny_bind (wpAny_pure ?_)
 try dsimp only
 refine wpAny_bind (wpAny_pure ?_)
 refine wpAny_bind (wpAny_bind (wpAny_setEntries_of g rfl T.fits (wpAny_pure ?_)))
 unfold setDrawn
 refine wpAny_bind (wpAny_bind (bN g T ?_))
 dsimp only
 refine wpAny_bind (dS ?_)
 refine wpAny_pure ?_
 refine aa (if_neg (by show ¬ ((!aE w && (!t.plain && decide (es.size > 1))) = true); rw [T.plain]; simp)) ?_
 refine wpAny_bind (wpAny_pure ?_)
 refine wpAny_bind (wpAny_setEpoch_of g rfl T.fits ?_)
 refine wpAny_bind (m:=newFields _ _) ?_
 unfold newFields
 refine wpAny_newObj_type ?_ (by size_fits)
 exact wpAny_pure ⟨_,rfl,"set_iterator",_,hit.typeIs,bL.lookup,hQ hit⟩
theorem rh {r : Addr} {Q : Bool->Shared->Prop} (hT : s.TypeIs (.ref r) "set") (h : Q false s) : wpAny (model prog w) A (Builtin.List.listLengthHint (.ref r)) Q E s:=by
 unfold Builtin.List.listLengthHint
 refine wpAny_bind (wpAny_specialOf hT PySem.F.slot_set_len.lookup ?_)
 generalize hid : ("set.__len__" : String) = id0
 wp_delta
 refine aa (show splitId id0 = some ("set","__len__") from by subst hid; decide +kernel) ?_
 subst hid
 refine wpAny_bind (wpAny_isInstance (T:="set") (b:=true) hT sub_set_self ?_)
 refine wpAny_ite_split (fun hab=>absurd hab (by decide)) (fun _=>?_)
 refine wpAny_ite_split (fun _=>?_) (fun hab=>absurd (by decide +kernel) hab)
 refine wpAny_bind (wpAny_typeOf hT ?_)
 exact wpAny_pure h
theorem rK (T : bI (aE w) t es.size) : KdlSrc prog w "set" a a es.size (fun i v=>((bZ w a es ep)[i]?).map (·.2) = some v) (fun h=>h.get? a = some (aN es ep t)) where
 type:=fun _ g=>⟨_,g,rfl⟩
 there:=fun _ g=>⟨Heap.lt_size g,Heap.lt_size g⟩
 keep:=fun _ _ g hk=>hk a (.inl rfl) _ g
 notList:=by decide
 notTuple:=by decide
 hint:=fun _ _ _ _ g hq=>rh ⟨_,g,rfl⟩ hq
 iter:=fun _ _ hh g=>⟨_,fun i h=>dT w h _ a es ep t i/\h.get? a = some (aN es ep t),(fun _ _ hq=>ve g T fun _=>hq),Walks.setW hh _ a (Nat.ne_of_lt (Heap.lt_size g)) es ep t T,⟨⟨⟨_,Heap.get?_push_size _ rfl,rfl,by cases aE w<;>rfl⟩⟩,Heap.get?_push_of_some _ g⟩⟩
end
end
section
open Builtin.Frozenset
theorem fM (nm : String) (x y : Value) : slot1 nm ⟨[x,y],[]⟩ = pure (x,y):=rfl
section
variable {prog : Program} {w : World} {A : Around} {E : Value->Shared->Prop} {s : Shared} {a o : Addr} {ks ko : List Int}
theorem c9 {Q : Bool->Shared->Prop} (hT : s.TypeIs (.ref a) "set") (h : Q true s) : wpAny (model prog w) A (isAnySet (.ref a)) Q E s:=by
 unfold isAnySet
 refine wpAny_bind (wpAny_isInstance hT sub_set_self ?_)
 exact wpAny_pure h
theorem qb {Q : Value->Shared->Prop} (hT : s.TypeIs (.ref a) "set") (h : Q (.type "set") s) : wpAny (model prog w) A (baseOf a) Q E s:=by
 unfold baseOf
 refine wpAny_bind (wpAny_isInstance hT sub_set_self ?_)
 exact wpAny_pure h
theorem qy {id : String} {Q : Unit->Shared->Prop} (hne : a≠o) (X : aR (aE w) s.heap a ks) (Y : aR (aE w) s.heap o ko)
  (h : ∀ h' ks',Heap.SameBut a s.heap h'->aR (aE w) h' a ks'->(∀ y,y∈ks'↔y∈ks\/y∈ko)->Q () { s with heap:=h' }) :
  wpAny (model prog w) A (merge id a o) Q E s:=by
 refine bc fun GG=>?_
 obtain ⟨eo,no,t_o,go,To,eeo,hno,hko⟩:=Y
 refine GG ?_
 have Y : aR (aE w) s.heap o ko:=⟨eo,no,t_o,go,To,eeo,hno,hko⟩
 unfold merge
 refine wpAny_bind (wpAny_setEpoch_of go rfl To.fits ?_)
 refine oy hne X Y (fun st Q' e hq=>?_) h
 unfold unchanged
 refine wpAny_bind (wpAny_setEpoch_of (s:=st) (e.trans go) rfl To.fits ?_)
 simp only [bne_self_eq_false,Bool.false_eq_true,if_false]
 exact wpAny_pure hq
theorem eI {id : String} {Q : Unit->Shared->Prop} (hne : a≠o) (X : aR (aE w) s.heap a ks) (Y : aR (aE w) s.heap o ko)
  (h : ∀ h' ks',Heap.SameBut a s.heap h'->aR (aE w) h' a ks'->(∀ y,y∈ks'↔y∈ks\/y∈ko)->Q () { s with heap:=h' }) :
  wpAny (model prog w) A (updateFrom id a (.ref o)) Q E s:=by
 unfold updateFrom
 refine wpAny_bind (c9 Y.typeIs ?_)
 refine wpAny_bind (m:=addrOf (.ref o)) (wpAny_pure ?_)
 exact qy hne X Y h
theorem rB {Q : Value->Shared->Prop} (Y : aR (aE w) s.heap o ko)
  (h : ∀ h' ks',(∀ b ob,s.heap.get? b = some ob->h'.get? b = some ob)->aR (aE w) h' s.heap.objs.size ks'->(∀ y,y∈ks'↔y∈ko)->Q (.ref s.heap.objs.size) { s with heap:=h' }) :
  wpAny (model prog w) A (copyOf o) Q E s:=by
 have hlt : o < s.heap.objs.size:=Y.lt
 unfold copyOf
 refine wpAny_bind (qb Y.typeIs ?_)
 refine wpAny_bind (qH fun X=>?_)
 refine wpAny_bind (m:=addrOf _) (wpAny_pure ?_)
 have Y1:=Y.keep fun ob e=>Heap.get?_push_of_some (aN #[] 0 (.fresh 0 0 (!aE w))) e
 refine wpAny_bind (oy (s:={ s with heap:=_ }) (Nat.ne_of_gt hlt) X Y1 (fun st Q' _ hq=>wpAny_pure hq) fun h' ks' sb X' m=>?_)
 refine wpAny_pure (h h' ks' (fun b ob e=>?_) X' fun y=>by refine aa (propext (m ..)) ?_; simp)
 refine aa (sb.2 b (Nat.ne_of_lt (Heap.lt_size e))) ?_
 exact Heap.get?_push_of_some _ e
abbrev qA (w : World) (s : Shared) (r : Addr) (P : Int->Prop) (Q : Value->Shared->Prop) : Prop:=
 ∀ h' ks' tk,(∀ b ob,s.heap.get? b = some ob->h'.get? b = some ob)->aR (aE w) h' r ks'->(∀ y,y∈ks'↔P y)->Q (.ref r) { s with heap:=h',toks:=tk }
theorem o7 : ∀ n∈List.range 8,SetTable.sizeAbove (SetTable.grown n) - 1∈[7,15,31]/\n * 5 < (SetTable.sizeAbove (SetTable.grown n) - 1) * 3/\SetTable.sizeAbove (SetTable.grown n)<=32:=by decide +kernel
theorem uy {Q : Unit->Shared->Prop} (X : aR (aE w) s.heap a ks)
  (h : ∀ h' ks',Heap.SameBut a s.heap h'->aR (aE w) h' a ks'->(∀ y,y∈ks'↔y∈ks)->Q () { s with heap:=h' }) : wpAny (model prog w) A (setTidy a) Q E s:=by
 refine bc fun GG=>?_
 obtain ⟨es,n,t,g,T,e,hn,hks⟩:=id X
 refine GG ?_
 have hs:=dI e hn hks
 unfold setTidy
 refine wpAny_bind (bN g T ?_)
 dsimp only
 split
 ·refine bc fun GG=>?_
  obtain ⟨r1,r2,r3⟩:=o7 es.size (List.mem_range.mpr (by exact oM hs))
  refine GG ?_
  refine oU g T e hn hks r1 r3 r2 fun h' es' n' t' ks' a1 a2 a3 a4 a5 _ _=>h h' ks' a1 ⟨es',n',t',a2,a3,a4,a5.nodup_iff.mpr hn,fun x q=>hks x (a5.mem_iff.mp q)⟩ fun y=>a5.mem_iff
 ·exact wpAny_pure (h s.heap ks (Heap.SameBut.refl _ _) X fun _=>.rfl)
theorem Cn {Q : Value->Shared->Prop} (hne : a≠o) (X : aR (aE w) s.heap a ks) (Y : aR (aE w) s.heap o ko)
  (h : qA w s s.heap.objs.size (fun y=>y∈ks\/y∈ko) Q) : wpAny (model prog w) A (call (.builtin "set.__or__") [.ref a,.ref o]) Q E s:=by
 refine wpAny_call_entry F.slot_set_or X.typeIs jE ?_ (F.args_set_or_2 _ _)
 unfold Builtin.«frozenset.__or__»
 wp_delta
 refine wpAny_bind (m:=slot1 _ _) (wpAny_of_eq (fM _ _ _) ?_)
 dsimp only
 simp only [Bool.false_eq_true,if_false]
 refine wpAny_bind (m:=(isAnySet _ <&&> isAnySet _)) ?_
 refine wpAny_bind (c9 X.typeIs ?_)
 refine c9 Y.typeIs ?_
 refine wpAny_bind (m:=addrOf (.ref a)) (wpAny_pure ?_)
 refine wpAny_bind ?_
 wp_delta
 refine wpAny_bind (rB X fun h1 k1 kp X1 m1=>?_)
 have hlt : o < s.heap.objs.size:=Y.lt
 refine oG (by simpa using Ne.symm hne) ?_
 refine wpAny_bind (m:=addrOf _) (wpAny_pure ?_)
 refine wpAny_bind (wpAny_holding ?_)
 refine eI (s:={ s with heap:=h1 }) (Nat.ne_of_gt hlt) X1 (Y.keep (kp _)) fun h2 k2 sb X2 m2=>?_
 refine wpAny_pure (wpAny_pure ⟨_,rfl,h h2 k2 s.toks (fun b ob e=>?_) X2 fun y=>by rw [m2,m1]⟩)
 refine aa (sb.2 b (Nat.ne_of_lt (Heap.lt_size e))) ?_
 exact kp _ _ e
theorem xA {Q : Value->Shared->Prop} (hne : a≠o) (X : aR (aE w) s.heap a ks) (Y : aR (aE w) s.heap o ko)
  (h : qA w s s.heap.objs.size (fun y=>y∈ks/\y∉ko) Q) : wpAny (model prog w) A (call (.builtin "set.__sub__") [.ref a,.ref o]) Q E s:=by
 refine wpAny_call_entry F.slot_set_sub X.typeIs iT ?_ (F.args_set_sub_2 _ _)
 unfold Builtin.«frozenset.__sub__»
 wp_delta
 refine wpAny_bind (m:=slot1 _ _) (wpAny_of_eq (fM _ _ _) ?_)
 dsimp only
 simp only [Bool.false_eq_true,if_false]
 refine wpAny_bind (m:=(isAnySet _ <&&> isAnySet _)) ?_
 refine wpAny_bind (c9 X.typeIs ?_)
 refine c9 Y.typeIs ?_
 refine wpAny_bind (m:=addrOf (.ref a)) (wpAny_pure ?_)
 refine wpAny_bind ?_
 have hla : a < s.heap.objs.size:=X.lt
 have hlt : o < s.heap.objs.size:=Y.lt
 refine bc fun GG=>?_
 obtain ⟨es,n,t,g,T,e,hn,hks⟩:=id X
 obtain ⟨eo,no,t_o,go,To,eeo,hno,hko⟩:=id Y
 refine GG ?_
 unfold difference
 refine wpAny_bind (c9 Y.typeIs ?_)
 refine eA (c:=(!true) = true) Bool.false_ne_true ?_
 refine wpAny_bind (m:=addrOf (.ref o)) (wpAny_pure ?_)
 refine eA (c:=(!true && o == sysModules) = true) Bool.false_ne_true ?_
 refine oG (c:=true = true) rfl ?_
 refine wpAny_bind (m:=sizeOf o) (wpAny_bind (wpAny_setEntries_of go rfl To.fits (wpAny_pure ?_)))
 refine wpAny_bind (m:=sizeOf a) (wpAny_bind (wpAny_setEntries_of g rfl T.fits (wpAny_pure ?_)))
 by_cases hbig : es.size / 4 > eo.size
 ·refine aa (if_pos hbig) ?_
  have hs:=dI e hn hks
  have h0 : eo.size = 0:=by exact yO hbig hs
  have hk0 : ko = []:=by rw [eeo.size] at h0; exact List.length_eq_zero_iff.mp h0
  clear eeo hno hko; subst hk0
  refine wpAny_bind (wpAny_rule ?_)
  refine wpAny_bind (rB X fun h1 k1 kp X1 m1=>?_)
  refine wpAny_bind (m:=addrOf _) (wpAny_pure ?_)
  refine wpAny_bind (wpAny_holding ?_)
  unfold differenceUpdate
  refine eA (by simp; exact Nat.ne_of_lt hlt) ?_
  have Y1:=Y.keep (kp _)
  refine bc fun GG=>?_
  obtain ⟨e1,n1,t1,g1,T1,ee1,hn1,hk1⟩:=id X1
  refine GG ?_
  refine wpAny_bind (c9 (s:={ s with heap:=h1 }) Y1.typeIs ?_)
  refine wpAny_bind (m:=addrOf (.ref o)) (wpAny_pure ?_)
  have go1:=kp _ _ go
  refine wpAny_bind (m:=sizeOf o) (wpAny_bind (wpAny_setEntries_of (s:={ s with heap:=h1 }) go1 rfl To.fits (wpAny_pure ?_)))
  refine wpAny_bind (m:=sizeOf _) (wpAny_bind (wpAny_setEntries_of (s:={ s with heap:=h1 }) g1 rfl T1.fits (wpAny_pure ?_)))
  refine eA (by exact yL h0) ?_
  refine wpAny_bind (wpAny_setEpoch_of (s:={ s with heap:=h1 }) go1 rfl To.fits ?_)
  refine wpAny_bind (wpAny_holding ?_)
  refine wpAny_bind (eu (s:={ s with heap:=h1 }) Y1 fun gW kw ew pw=>?_)
  have hkw : kw = []:=List.perm_nil.mp pw
  clear pw; subst hkw
  have ha0 : gW.toList = []:=by
   have:=ew.size
   exact List.length_eq_zero_iff.mp (by assumption)
  refine aa (Eq.symm (Array.forIn_toList ..)) (aa (ha0 ..) (aa (List.forIn_nil ..) ?_))
  refine wpAny_bind (wpAny_pure (wpAny_pure ?_))
  refine uy (s:={ s with heap:=h1 }) X1 fun h2 k2 sb2 X2 m2=>?_
  refine wpAny_pure (wpAny_pure ⟨_,rfl,h h2 k2 s.toks (fun b ob q=>?_) X2 fun y=>?_⟩)
  ·refine aa (sb2.2 b (Nat.ne_of_lt (Heap.lt_size q))) ?_
   exact kp _ _ q
  ·refine aa (propext (m2 ..)) (aa (propext (m1 ..)) ?_); simp
 ·refine aa (if_neg hbig) ?_
  refine wpAny_bind (qb X.typeIs ?_)
  refine wpAny_bind (qH fun Z=>?_)
  refine wpAny_bind (m:=addrOf _) (wpAny_pure ?_)
  have g1:=Heap.get?_push_of_some (aN #[] 0 (.fresh 0 0 (!aE w))) g
  have go1:=Heap.get?_push_of_some (aN #[] 0 (.fresh 0 0 (!aE w))) go
  refine wpAny_bind (wpAny_setEpoch_of (s:={ s with heap:=_ }) g1 rfl T.fits ?_)
  refine wpAny_bind (wpAny_holding ?_)
  refine wpAny_bind (oG (c:=true = true) rfl (eu (s:={ s with heap:=_ }) (X.keep fun ob q=>Heap.get?_push_of_some _ q) fun gW kw ew pw=>?_))
  refine aa (Eq.symm (Array.forIn_toList ..)) ?_
  refine wpAny_bind (oT (w:=w) (s0:=s.heap.objs.size) (p:=fun k=>!ko.contains k) (I:=fun st=>st.heap.get? o = some (aN eo no t_o)/\st.heap.get? a = some (aN es n t))
   (fun st h' sb hi=>⟨(sb.2 o (Nat.ne_of_lt hlt)).trans hi.1,(sb.2 a (Nat.ne_of_lt hla)).trans hi.2⟩) (fun k tk st ks2 Q2 hi X2 hk hq=>?_) (ny ew) { s with heap:=_ } [] _ (fun x hx=>hks x (pw.mem_iff.mp hx)) ⟨go1,g1⟩ Z fun h2 ks2 sb2 X2 m2=>?_)
  ·skip
   dsimp only
   have Yst : aR (aE w) st.heap o ko:=⟨eo,no,t_o,hi.1,To,eeo,hno,hko⟩
   refine wpAny_bind (wpAny_holding ?_)
   refine oG (c:=true = true) rfl ?_
   refine wpAny_bind (nI Yst ?_)
   refine wpAny_bind (wpAny_pure ?_)
   have hsome : (ko.findIdx? (· == k)).isSome = ko.contains k:=by
    refine aa (List.findIdx?_isSome) ?_
    simp [List.any_beq']
   refine aa (hsome ..) ?_
   cases hc : ko.contains k with
   | true=>
    refine wpAny_pure ?_
    unfold unchanged
    refine wpAny_bind (wpAny_bind (wpAny_setEpoch_of hi.2 rfl T.fits ?_))
    simp only [bne_self_eq_false,Bool.false_eq_true,if_false]
    refine wpAny_pure (wpAny_pure (hq st.heap ks2 (Heap.SameBut.refl _ _) X2 fun y=>?_))
    have hkm : k∈ko:=by rw [<-List.contains_iff_mem]; exact hc
    constructor
    ·exact .inl
    ·rintro (q | ⟨_,q⟩)
     ·exact q
     ·simp [hkm] at q
   | false=>
    refine wpAny_bind (kr X2 hk fun h3 k3 sb3 X3 p3=>?_)
    refine wpAny_pure ?_
    unfold unchanged
    have ga : h3.get? a = some (aN es n t):=(sb3.2 a (Nat.ne_of_lt hla)).trans hi.2
    refine wpAny_bind (wpAny_bind (wpAny_setEpoch_of (s:={ st with heap:=h3 }) ga rfl T.fits ?_))
    simp only [bne_self_eq_false,Bool.false_eq_true,if_false]
    refine wpAny_pure (wpAny_pure (hq h3 k3 sb3 X3 fun y=>?_))
    rw [fX p3,hc]
    simp
  ·refine wpAny_pure (wpAny_pure (wpAny_pure ⟨_,rfl,h h2 ks2 s.toks (fun b ob q=>?_) X2 fun y=>?_⟩))
   ·refine aa (sb2.2 b (Nat.ne_of_lt (Heap.lt_size q))) ?_
    exact Heap.get?_push_of_some _ q
   ·refine aa (propext (m2 ..)) (aa (propext (pw.mem_iff ..)) ?_)
    simp
theorem bd.shape {es : Array (Int × Value)} (e : bd es ks) : ∀ x∈es.toList,∃ k tk,x = (hashInt k,.int k tk):=by
 intro x hx
 refine bc fun GG=>?_
 obtain ⟨i,hi,e2⟩:=List.getElem_of_mem hx
 have : es[i]? = some x:=by exact aa (Eq.symm (Array.getElem?_toList)) (aa (List.getElem?_eq_getElem hi) (aa (e2 ..) rfl))
 obtain ⟨k,tk,_,e3⟩:=e.at this
 refine GG ?_
 exact ⟨k,tk,e3⟩
theorem gB {β : Type} {body : (Int × Value)->β->Sem (ForInStep β)} {b : β} (hb : ∀ k tk,body (hashInt k,.int k tk) b = pure (.yield b)) :
  ∀ l : List (Int × Value),(∀ x∈l,∃ k tk,x = (hashInt k,Value.int k tk))->forIn l b body = pure b
 | [],_=>rfl
 | x :: l,h=>by
  obtain ⟨k,tk,rfl⟩:=h x (.head _)
  refine aa (List.forIn_cons ..) (aa (hb ..) ?_)
  exact gB hb l fun y hy=>h y (.tail _ hy)
theorem yv {body : (Int × Value)->Option Bool × Unit->Sem (ForInStep (Option Bool × Unit))} {p : Int->Bool}
  (hb : ∀ k tk (Q : ForInStep (Option Bool × Unit)->Shared->Prop),Q (if p k then .yield (none,()) else .done (some false,())) s->wpAny (model prog w) A (body (hashInt k,.int k tk) (none,())) Q E s) :
  ∀ {l : List (Int × Value)} {kl : List Int} (_ : sK l kl) (Q : Option Bool × Unit->Shared->Prop),Q (if kl.all p then (none,()) else (some false,())) s->wpAny (model prog w) A (forIn l (none,()) body) Q E s:=by
 intro l kl he
 induction he with
 | nil=>intro Q h; exact eF List.forIn_nil (wpAny_pure h)
 | cons k tk t ih=>
  intro Q h
  refine eF (List.forIn_cons ..) (wpAny_bind (hb k tk _ ?_))
  rw [List.all_cons] at h
  cases hp : p k with
  | true=>rw [hp] at h; exact ih Q h
  | false=>rw [hp] at h; exact wpAny_pure h
theorem pW {id : String} {Q : Bool->Shared->Prop} (X : aR (aE w) s.heap a ks) (Y : aR (aE w) s.heap o ko) (hlen : ks.length<=ko.length)
  (h : Q (ks.all fun k=>ko.contains k) s) : wpAny (model prog w) A (subsetOf id a o) Q E s:=by
 refine bc fun GG=>?_
 obtain ⟨es,n,t,g,T,e,hn,hks⟩:=X
 obtain ⟨eo,no,t_o,go,To,eeo,hno,hko⟩:=Y
 refine GG ?_
 unfold subsetOf
 refine wpAny_bind (m:=sizeOf a) (wpAny_bind (wpAny_setEntries_of g rfl T.fits (wpAny_pure ?_)))
 refine wpAny_bind (m:=sizeOf o) (wpAny_bind (wpAny_setEntries_of go rfl To.fits (wpAny_pure ?_)))
 refine aa (if_neg (by rw [e.size,eeo.size]; exact Ap hlen)) ?_
 refine wpAny_bind (wpAny_setEpoch_of g rfl T.fits ?_)
 refine wpAny_bind ?_
 unfold walkUnseen
 refine wpAny_bind (wpAny_setEntries_of g rfl T.fits ?_)
 refine wpAny_bind (wpAny_setEntries_of go rfl To.fits ?_)
 refine aa (gB (fun k tk=>rfl) _ (fun x hx=>(List.mem_append.mp hx).elim (e.shape x) (eeo.shape x))) ?_
 refine wpAny_bind (wpAny_pure ?_)
 dsimp only
 refine wpAny_pure ?_
 refine wpAny_bind (yv (p:=fun k=>ko.contains k) (fun k tk Q2 hq=>?_) e.ent _ ?_)
 ·dsimp only
  refine wpAny_bind (wpAny_holding (nI ⟨eo,no,t_o,go,To,eeo,hno,hko⟩ ?_))
  have hsome : (ko.findIdx? (· == k)).isNone = !ko.contains k:=by
   refine aa (Eq.symm (Option.not_isSome ..)) (aa (List.findIdx?_isSome) ?_)
   simp [List.any_beq']
  refine aa (hsome ..) ?_
  cases hc : ko.contains k with
  | true=>
   rw [hc] at hq
   simp only [Bool.not_true,Bool.false_eq_true,if_false,if_true] at hq ⊢
   unfold unchanged
   refine wpAny_bind (wpAny_bind (wpAny_setEpoch_of g rfl T.fits ?_))
   simp only [bne_self_eq_false,Bool.false_eq_true,if_false]
   exact wpAny_pure (wpAny_pure hq)
  | false=>
   rw [hc] at hq
   simp only [Bool.not_false,Bool.false_eq_true,if_false,if_true] at hq ⊢
   exact wpAny_pure hq
 ·cases hall : ks.all (fun k=>ko.contains k) with
  | true=>rw [hall] at h; exact wpAny_pure h
  | false=>rw [hall] at h; exact wpAny_pure h
theorem Cp {Q : Value->Shared->Prop} (X : aR (aE w) s.heap a ks) (Y : aR (aE w) s.heap o ko)
  (h : Q (.bool (!(decide (ks.length = ko.length) && ks.all fun k=>ko.contains k))) s) : wpAny (model prog w) A (call (.builtin "set.__ne__") [.ref a,.ref o]) Q E s:=by
 refine bc fun GG=>?_
 obtain ⟨es,n,t,g,T,e,hn,hks⟩:=id X
 obtain ⟨eo,no,t_o,go,To,eeo,hno,hko⟩:=id Y
 refine GG ?_
 refine wpAny_call_entry F.slot_set_ne X.typeIs jS ?_ (F.args_set_ne_2 _ _)
 unfold Builtin.«frozenset.__ne__»
 wp_delta
 refine wpAny_bind (m:=slot1 _ _) (wpAny_of_eq (fM _ _ _) ?_)
 dsimp only
 refine wpAny_bind (c9 Y.typeIs ?_)
 refine wpAny_bind (m:=addrOf (.ref a)) (wpAny_pure ?_)
 refine wpAny_bind (m:=addrOf (.ref o)) (wpAny_pure ?_)
 refine wpAny_bind (m:=sizeOf a) (wpAny_bind (wpAny_setEntries_of g rfl T.fits (wpAny_pure ?_)))
 refine wpAny_bind (m:=sizeOf o) (wpAny_bind (wpAny_setEntries_of go rfl To.fits (wpAny_pure ?_)))
 rw [<-e.size,<-eeo.size] at h
 by_cases hz : es.size = eo.size
 ·refine aa (if_neg (by simp [hz])) ?_
  rw [decide_eq_true hz,Bool.true_and] at h
  have hf : isSubtype (.type "set") (.type "frozenset") = pure false:=by rw [isSubtype_type]; kernel_rfl
  refine wpAny_bind (wpAny_bind (m:=(isInstance _ _ <&&> _)) (wpAny_bind (wpAny_isInstance X.typeIs hf (wpAny_pure ?_))))
  refine pW X Y (by refine aa (Eq.symm (e.size ..)) (aa (Eq.symm (eeo.size ..)) ?_); exact ri hz) ?_
  exact wpAny_pure ⟨_,rfl,h⟩
 ·refine aa (if_pos (by simp [hz])) ?_
  rw [decide_eq_false hz,Bool.false_and] at h
  exact wpAny_bind (wpAny_pure (wpAny_pure ⟨_,rfl,h⟩))
theorem zi {Q : Value->Shared->Prop} (hne : a≠o) (X : aR (aE w) s.heap a ks) (Y : aR (aE w) s.heap o ko)
  (h : ∀ h' ks',Heap.SameBut a s.heap h'->aR (aE w) h' a ks'->(∀ y,y∈ks'↔y∈ks\/y∈ko)->Q (.ref a) { s with heap:=h' }) :
  wpAny (model prog w) A (call (.builtin "set.__ior__") [.ref a,.ref o]) Q E s:=by
 refine wpAny_call_entry F.slot_set_ior X.typeIs F.entry_set_ior ?_ (F.args_set_ior_2 _ _)
 unfold Builtin.«set.__ior__»
 wp_delta
 refine wpAny_bind (m:=slot1 _ _) (wpAny_of_eq (fM _ _ _) ?_)
 dsimp only
 refine wpAny_bind (c9 Y.typeIs ?_)
 refine wpAny_bind (m:=addrOf (.ref a)) (wpAny_pure ?_)
 refine wpAny_bind (eI hne X Y fun h1 k1 sb X1 m1=>?_)
 exact wpAny_pure ⟨_,rfl,h h1 k1 sb X1 m1⟩
end
end
section
open Builtin.Frozenset
section
variable {prog : Program} {w : World} {A : Around} {E : Value->Shared->Prop} {s : Shared}
abbrev gQ (w : World) : Obj:={ cls:=.type "set",dict:=none,data:=.set #[] 0 (.fresh 0 0 (!aE w)) }
theorem qu (w : World) (h : Heap) : aR (aE w) (h.push (gQ w)) h.objs.size []:=
 ⟨#[],0,_,Heap.get?_push_size _ rfl,⟨rfl,List.Pairwise.nil,by show (0 + 0) * 5 < 7 * 3; exact tG,by simp [SetTable.fresh],rfl,rfl⟩,rfl,by simp,fun x hx=>by exact nomatch hx⟩
theorem iW {args : List Value} (hc : checkBuiltinCall "set.__new__" ⟨.type "set" :: args,[]⟩ = pure ()) {Q₁ : Value->Shared->Prop} (h : Q₁ (.ref s.heap.objs.size) { s with heap:=s.heap.push (gQ w) }) :
  codeAny (model prog w) A (.call (.builtin "set.__new__") ⟨.type "set" :: args,[]⟩) (wants Q₁ E) s:=by
 refine codeAny_of_tree ?_
 show wpAny _ A.in1 (do checkBuiltinCall "set.__new__" ⟨.type "set" :: args,[]⟩; again (.builtin "set.__new__" ⟨.type "set" :: args,[]⟩)) _ _ s
 refine wpAny_bind (wpAny_of_eq hc (wpAny_pure ⟨plainId_quiet PySem.F.plain_set_new _,codeAny_builtin PySem.F.entry_set_new ?_⟩))
 refine aa (Around.under_plainId PySem.F.plain_set_new _) ?_
 unfold Builtin.«set.__new__» Builtin.Frozenset.newClass
 have hsub:=sub_set_self
 obtain ⟨hp,g,d,tk,os⟩:=s
 dsimp only
 wp_walk
 refine wpAny_askSetting (wpAny_pure ?_)
 dsimp only
 simp only [newObj]
 refine wpAny_bind (wpAny_alloc (wpAny_pure ?_))
 exact wpAny_pure h
set_option maxHeartbeats 1000000 in
theorem qo {args : List Value} (hct : checkTypeCall "set" ⟨args,[]⟩ = pure ()) (hcn : checkBuiltinCall "set.__new__" ⟨.type "set" :: args,[]⟩ = pure ()) {Q : Value->Shared->Prop}
  (hi : ∀ A,codeAny (model prog w) A (.call (.builtin "set.__init__") ⟨.ref s.heap.objs.size :: args,[]⟩) (wants (fun r s₂=>r = .none/\Q (.ref s.heap.objs.size) s₂) E) { s with heap:=s.heap.push (gQ w) }) :
  wpAny (model prog w) A (call (.type "set") args) Q E s:=by
 obtain ⟨c,tl,hmro⟩:=PySem.F.called_set.mro
 have hmade:=PySem.F.called_set.made
 have hsub:=PySem.F.called_set.sub
 refine wpAny_call (codeAny_of_tree ?_)
 show wpAny _ _ (callAny (.type "set") _) _ _ _
 refine wpAny_pure ⟨Code.quiet_builtin _ (by decide +kernel),codeAny_builtin PySem.F.entry_type_call ?_⟩
 refine aa (Around.under_plain (weight_type_call_type "set" args []) rfl) ?_
 repeat (any_goals (first | assumption | wp_step))
 refine codeAny_mono (iW hcn (E:=E) (Q₁:=fun obj s₁=>obj = .ref s.heap.objs.size/\s₁ = { s with heap:=s.heap.push (gQ w) }) ⟨rfl,rfl⟩) fun r s₁ hr=>?_
 cases r with
 | error e=>exact hr
 | ok fl=>
  cases fl with
  | ret obj=>
   obtain ⟨rfl,rfl⟩:=hr
   have hS : (s.heap.push (gQ w)).get? s.heap.objs.size = some (gQ w):=Heap.get?_push_size _ rfl
   have hT : Shared.TypeIs { s with heap:=s.heap.push (gQ w) } (.ref s.heap.objs.size) "set":=⟨_,hS,rfl⟩
   have hli:=PySem.F.called_set.init.lookup
   have hbi:=PySem.F.called_set.init.bind (.ref s.heap.objs.size)
   repeat (any_goals (first | assumption | wp_step))
   refine codeAny_mono (hi _) fun r₂ s₂ hr₂=>?_
   cases r₂ with
   | error e=>exact hr₂
   | ok fl₂=>
    cases fl₂ with
    | ret r=>
     obtain ⟨rfl,hq⟩:=hr₂
     repeat (any_goals (first | assumption | wp_step))
    | _=>exact hr₂.elim
  | _=>exact hr.elim
theorem vf {Q : Value->Shared->Prop} (h : Q (.ref s.heap.objs.size) { s with heap:=s.heap.push (gQ w) }) :
  wpAny (model prog w) A (call (.type "set") []) Q E s:=
 qo PySem.F.typeCall_set_0 PySem.F.newCall_set_0 fun A=>by
  have hT : Shared.TypeIs { s with heap:=s.heap.push (gQ w) } (.ref s.heap.objs.size) "set":=⟨_,Heap.get?_push_size _ rfl,rfl⟩
  refine codeAny_call_builtin PySem.F.called_set.init.plain PySem.F.entry_set_init (check_set_init hT ?_)
  unfold Builtin.«set.__init__» noKeywords
  wp_walk
  exact ⟨rfl,h⟩
theorem uP {o : Addr} {ko : List Int} {Q : Value->Shared->Prop} (Y : aR (aE w) s.heap o ko)
  (h : ∀ h' ks',(∀ b ob,s.heap.get? b = some ob->h'.get? b = some ob)->aR (aE w) h' s.heap.objs.size ks'->(∀ y,y∈ks'↔y∈ko)->Q (.ref s.heap.objs.size) { s with heap:=h' }) :
  wpAny (model prog w) A (call (.type "set") [.ref o]) Q E s:=
 qo (PySem.F.typeCall_set_1 (.ref o)) (PySem.F.newCall_set_1 (.ref o)) fun A=>by
  have hlt : o < s.heap.objs.size:=Y.lt
  have hT : Shared.TypeIs { s with heap:=s.heap.push (gQ w) } (.ref s.heap.objs.size) "set":=⟨_,Heap.get?_push_size _ rfl,rfl⟩
  refine codeAny_call_builtin PySem.F.called_set.init.plain PySem.F.entry_set_init (check_set_init_1 hT ?_)
  have Y1:=Y.keep fun ob e=>Heap.get?_push_of_some (gQ w) e
  have hne : (Value.type "set" == Value.type "dict") = false:=by decide
  unfold Builtin.«set.__init__» noKeywords
  generalize hUF : updateFrom = UF
  wp_walk
  subst hUF
  refine eI (s:={ s with heap:=s.heap.push (gQ w) }) (Nat.ne_of_gt hlt) (qu w s.heap) Y1 fun h' ks' sb X' m'=>?_
  refine wpAny_pure ⟨rfl,h h' ks' (fun b ob e=>?_) X' fun y=>by refine aa (propext (m' ..)) ?_; simp⟩
  refine aa (sb.2 b (Nat.ne_of_lt (Heap.lt_size e))) ?_
  exact Heap.get?_push_of_some _ e
end
end
section
open Builtin.Frozenset
def aK (p : Int->Bool) : List Int:=aA.filter p
theorem br {p : Int->Bool} {y : Int} : y∈aK p↔y∈aA/\p y = true:=List.mem_filter
theorem jW : aA.Pairwise (· < ·):=by decide
theorem bv (p : Int->Bool) : (aK p).Pairwise (· < ·):=jW.sublist List.filter_sublist
theorem cv {l : List Int} (h : l.Pairwise (· < ·)) : l.Nodup:=h.imp fun q=>Int.ne_of_lt q
theorem bP : ∀ {l l' : List Int},l.Pairwise (· < ·)->l'.Pairwise (· < ·)->(∀ y,y∈l↔y∈l')->l = l'
 | [],[],_,_,_=>rfl
 | [],b :: l',_,_,h=>by have:=(h b).mpr (.head _); exact nomatch this
 | a :: l,[],_,_,h=>by have:=(h a).mp (.head _); exact nomatch this
 | a :: l,b :: l',h1,h2,h=>by
  rw [List.pairwise_cons] at h1 h2
  have hab : a = b:=by
   rcases List.mem_cons.mp ((h a).mp (.head _)) with e | e
   ·exact e
   ·rcases List.mem_cons.mp ((h b).mpr (.head _)) with e' | e'
    ·exact e'.symm
    ·have x:=h1.1 _ e'
     have y:=h2.1 _ e
     exact ym x y
  subst hab
  rw [bP h1.2 h2.2 fun y=>?_]
  constructor
  ·intro hy
   rcases List.mem_cons.mp ((h y).mp (.tail _ hy)) with e | e
   ·clear h2 h; subst e; exact absurd (h1.1 _ hy) (Int.lt_irrefl _)
   ·exact e
  ·intro hy
   rcases List.mem_cons.mp ((h y).mpr (.tail _ hy)) with e | e
   ·clear h1 h; subst e; exact absurd (h2.1 _ hy) (Int.lt_irrefl _)
   ·exact e
theorem f5 {bt : Bool} {h : Heap} {a : Addr} {ks : List Int} {p : Int->Bool} (X : aR bt h a ks) (hm : ∀ y,y∈ks↔(y∈aA/\p y = true)) : rE bt h a (aK p):=by
 refine bc fun GG=>?_
 obtain ⟨es,n,t,g,T,e,hn,hks⟩:=X
 refine GG ?_
 refine ⟨es,n,t,ks,g,T,e,?_,bv p,fun x hx=>(br.mp hx).1⟩
 refine aa (propext (List.perm_ext_iff_of_nodup hn (cv (bv p)))) ?_
 intro y
 rw [hm,br]
theorem rM {bt : Bool} {h : Heap} {a : Addr} {xs : List Int} (X : rE bt h a xs) : ∃ ks,aR bt h a ks/\ks.Perm xs/\xs.Pairwise (· < ·)/\∀ x∈xs,x∈aA:=by
 refine bc fun GG=>?_
 obtain ⟨es,n,t,ks,g,T,e,p,hs,hx⟩:=X
 refine GG ?_
 exact ⟨ks,⟨es,n,t,g,T,e,p.nodup_iff.mpr (cv hs),fun x h=>hx x (p.mem_iff.mp h)⟩,p,hs,hx⟩
theorem ja {ks xs : List Int} (p : ks.Perm xs) (x : Int) : ks.contains x = xs.contains x:=by
 refine aa (propext (Bool.eq_iff_iff ..)) (aa (propext (List.contains_iff_mem ..)) (aa (propext (List.contains_iff_mem ..)) ?_))
 exact p.mem_iff
section
variable {c : Cx} {k : Nat} {sc : Scope} {m : aS} {H : ag} {Q : AV->ag->Prop} {QB : Bool->ag->Prop} {QS : Fl->aS->ag->Prop}
theorem aT.isSet {g : aZ} {s : Shared} (R : aT c g H s) {a : Addr} {xs : List Int} (ha : H a = some (.set xs)) : ∃ ks,aR (aE c.w) s.heap a ks/\ks.Perm xs/\xs.Pairwise (· < ·)/\∀ x∈xs,x∈aA:=
 rM (R.rep _ _ ha)
theorem aT.setUpd {g : aZ} {s : Shared} {a : Addr} {xs ks' : List Int} {h' : Heap} {tk : Nat} {p : Int->Bool} (R : aT c g H s) (ha : H a = some (.set xs)) (sb : Heap.SameBut a s.heap h') (X : aR (aE c.w) h' a ks')
  (hm : ∀ y,y∈ks'↔(y∈aA/\p y = true)) : aT c g (an H a (.set (aK p))) { s with heap:=h',toks:=tk }:=
 R.update ha (fun b hb=>sb.2 b hb) (f5 X hm)
theorem aT.setNew {g : aZ} {s : Shared} {a : Addr} {ks' : List Int} {h' : Heap} {tk : Nat} {p : Int->Bool} (R : aT c g H s) (ha : s.heap.objs.size<=a) (hk : ∀ b o,s.heap.get? b = some o->h'.get? b = some o) (X : aR (aE c.w) h' a ks')
  (hm : ∀ y,y∈ks'↔(y∈aA/\p y = true)) : aT c g (an H a (.set (aK p))) { s with heap:=h',toks:=tk }:=
 R.alloc (Heap.get?_none_of_le ha) hk (f5 X hm)
theorem rZ {bt : Bool} {prog : Program} {w : World} {h : Heap} {a : Addr} {ks : List Int} (X : aR bt h a ks) : ∃ n,h.SetOf (intKind prog w) a (fun j=>ks.contains j) n:=by
 refine bc fun GG=>?_
 obtain ⟨es,n1,t1,g1,T,e,hn,hks⟩:=X
 refine GG ?_
 have hs:=dI e hn hks
 refine ⟨es.size,_,es,n1,t1,g1,⟨rfl,rfl,rfl⟩,rfl,e.elems,fun j=>?_,by unfold scanBound; exact rx hs,T.fits,rfl⟩
 refine aa (propext (List.contains_iff_mem ..)) ?_
 have:=e.find (prog:=prog) (w:=w) j
 constructor
 ·intro hj
  cases hr : ks.findIdx? (· == j) with
  | none=>have:=List.findIdx?_eq_none_iff.mp hr j hj; simp at this
  | some i=>
   rw [hr] at this
   refine bc fun GG=>?_
   obtain ⟨hi,hp,_⟩:=List.findIdx?_eq_some_iff_getElem.mp this
   refine GG ?_
   exact ⟨_,List.getElem_mem hi,hp⟩
 ·intro hzz
  refine bc fun GG=>?_
  obtain ⟨x,hx,hp⟩:=hzz
  refine GG ?_
  cases hr : ks.findIdx? (· == j) with
  | none=>
   rw [hr] at this
   have:=List.findIdx?_eq_none_iff.mp this x hx
   rw [hp] at this; exact nomatch this
  | some i=>
   refine bc fun GG=>?_
   obtain ⟨hi,hp,_⟩:=List.findIdx?_eq_some_iff_getElem.mp hr
   refine GG ?_
   have hx : ks[i] = j:=by simpa using hp
   refine aa (Eq.symm (hx ..)) ?_; exact List.getElem_mem hi
theorem cQ {n : Int} {l : Addr} {xs : List Int} (hl : H l = some (.set xs)) (q : Q (.bool (!xs.contains n)) H) : dM c k (compareOp .NotIn) (.int n) (.ref l) H Q:=by
 intro u v hu hv A g s hA hR
 have:=aB hv; clear hv; subst this
 refine bc fun GG=>?_
 obtain ⟨t,rfl⟩:=aF hu
 obtain ⟨ks,X,p,_,_⟩:=hR.isSet hl
 obtain ⟨n1,S⟩:=rZ (prog:=c.prog) (w:=c.w) X
 refine GG ?_
 refine wpAny_notInSet_of (knd:=intKind c.prog c.w) (k:=n) (intKind_is _ _ _ _) rfl S ⟨H,hR.tok _,?_⟩
 rw [ja p]; exact q
theorem eW {a : Addr} {n : Int} {xs : List Int} (ha : H a = some (.set xs)) (hn : n∈aA) (q : Q .none (an H a (.set (aK fun i=>xs.contains i || i == n)))) : bF c k (.builtin "set.add") [.ref a,.int n] H Q:=by
 intro vals hv A g s hA hR
 obtain ⟨u,v,rfl,h1,h2⟩:=gz hv
 have:=aB h1; clear h1; subst this
 obtain ⟨t,rfl⟩:=aF h2
 obtain ⟨ks,X,p,_,hx⟩:=hR.isSet ha
 refine wpAny_call_entry PySem.F.slot_set_add X.typeIs PySem.F.entry_set_add ?_ (PySem.F.args_set_add_2 _ _)
 unfold Builtin.«set.add» Builtin.Frozenset.oneOther
 simp only [List.isEmpty_nil,bind_assoc]
 unfold Builtin.Frozenset.addrOf setAdd
 refine wpAny_bind (wpAny_pure ?_)
 refine wpAny_bind (wpAny_pure ?_)
 try dsimp only
 refine wpAny_bind ?_
 refine wpAny_holding ?_
 refine wpAny_bind ((intKind c.prog c.w).pyHash (k:=n) (intKind_is _ _ _ _) ?_)
 refine kr (s:={ s with toks:=_ }) X hn fun h' ks' sb X' m'=>?_
 refine wpAny_pure ⟨_,rfl,_,hR.setUpd ha sb X' (fun y=>?_),q⟩
 rw [fX m',p.mem_iff]
 simp only [Bool.or_eq_true,beq_iff_eq,List.contains_iff_mem]
 constructor
 ·rintro (h | h)
  ·exact ⟨hx _ h,.inl h⟩
  ·clear q h2 hv m'; subst h; exact ⟨hn,.inr rfl⟩
 ·exact fun h=>h.2
theorem jJ {a : Addr} {n : Int} {xs : List Int} (ha : H a = some (.set xs)) (q : Q .none (an H a (.set (aK fun i=>xs.contains i && i != n)))) : bF c k (.builtin "set.discard") [.ref a,.int n] H Q:=by
 intro vals hv A g s hA hR
 obtain ⟨u,v,rfl,h1,h2⟩:=gz hv
 have:=aB h1; clear h1; subst this
 obtain ⟨t,rfl⟩:=aF h2
 obtain ⟨ks,X,p,_,hx⟩:=hR.isSet ha
 refine wpAny_call_entry PySem.F.slot_set_discard X.typeIs PySem.F.entry_set_discard ?_ (PySem.F.args_set_discard_2 _ _)
 unfold Builtin.«set.discard» Builtin.Frozenset.oneOther
 simp only [List.isEmpty_nil,bind_assoc]
 unfold Builtin.Frozenset.addrOf withSetAsKey setDiscard
 refine wpAny_bind (wpAny_pure ?_)
 try dsimp only
 refine wpAny_bind (wpAny_pure ?_)
 try dsimp only
 refine wpAny_bind (wpAny_tryCatch ?_)
 refine wpAny_holding ?_
 refine wpAny_bind ((intKind c.prog c.w).pyHash (k:=n) (intKind_is _ _ _ _) ?_)
 refine o8 (s:={ s with toks:=_ }) X fun h' ks' sb X' m'=>?_
 refine wpAny_pure ⟨_,rfl,_,hR.setUpd ha sb X' (fun y=>?_),q⟩
 have hnd : ks.Nodup:=let ⟨_,_,_,_,_,_,h,_⟩:=X; h
 refine aa (propext (m'.mem_iff ..)) (aa (propext (hnd.mem_erase_iff ..)) (aa (propext (p.mem_iff ..)) ?_))
 simp only [Bool.and_eq_true,bne_iff_ne,List.contains_iff_mem]
 exact ⟨fun h=>⟨hx _ h.2,h.2,h.1⟩,fun h=>⟨h.2.2,h.2.1⟩⟩
theorem pS {a b : Addr} {xs ys : List Int} (ha : H a = some (.set xs)) (hb : H b = some (.set ys)) (hne : a≠b) (q : ∀ d,H d = none->Q (.ref d) (an H d (.set (aK fun i=>xs.contains i || ys.contains i)))) : dM c k (binaryOp .BitOr) (.ref a) (.ref b) H Q:=by
 intro u v hu hv A g s hA hR
 have:=aB hu; clear hu; subst this
 have:=aB hv; clear hv; subst this
 refine bc fun GG=>?_
 obtain ⟨ks,X,p,_,hx⟩:=hR.isSet ha
 obtain ⟨ko,Y,po,_,hy⟩:=hR.isSet hb
 refine GG ?_
 refine wpAny_binaryOp_same (op:=.BitOr) X.typeIs Y.typeIs PySem.F.fills_set_or PySem.F.slot_set_or (Cn hne X Y fun h' ks' tk kp X' m'=>⟨by simp,_,hR.setNew (Nat.le_refl _) kp X' (fun y=>?_),q _ (hR.none_of_fresh (Nat.le_refl _))⟩)
 refine aa (propext (m' ..)) ?_
 dsimp only
 refine aa (propext (p.mem_iff ..)) (aa (propext (po.mem_iff ..)) ?_)
 simp only [Bool.or_eq_true,List.contains_iff_mem]
 exact ⟨fun h=>⟨h.elim (hx _) (hy _),h⟩,fun h=>h.2⟩
theorem pj {a b : Addr} {xs ys : List Int} (ha : H a = some (.set xs)) (hb : H b = some (.set ys)) (hne : a≠b) (q : ∀ d,H d = none->Q (.ref d) (an H d (.set (aK fun i=>xs.contains i && !ys.contains i)))) : dM c k (binaryOp .Sub) (.ref a) (.ref b) H Q:=by
 intro u v hu hv A g s hA hR
 have:=aB hu; clear hu; subst this
 have:=aB hv; clear hv; subst this
 refine bc fun GG=>?_
 obtain ⟨ks,X,p,_,hx⟩:=hR.isSet ha
 obtain ⟨ko,Y,po,_,hy⟩:=hR.isSet hb
 refine GG ?_
 refine wpAny_binaryOp_same (op:=.Sub) X.typeIs Y.typeIs PySem.F.fills_set_sub PySem.F.slot_set_sub (xA hne X Y fun h' ks' tk kp X' m'=>⟨by simp,_,hR.setNew (Nat.le_refl _) kp X' (fun y=>?_),q _ (hR.none_of_fresh (Nat.le_refl _))⟩)
 refine aa (propext (m' ..)) ?_
 dsimp only
 refine aa (propext (p.mem_iff ..)) (aa (propext (po.mem_iff ..)) ?_)
 simp only [Bool.and_eq_true,Bool.not_eq_true',<-Bool.not_eq_true,List.contains_iff_mem]
 exact ⟨fun h=>⟨hx _ h.1,h⟩,fun h=>h.2⟩
theorem i6 : fillsInplaceSlot (.type "set") "or" false = pure true:=by
 unfold fillsInplaceSlot
 show (typeLookup (.type "set") (dunderI "or") >>=fun fi=>_) = _
 rw [PySem.F.slot_set_ior.lookup]
 kernel_rfl
theorem pE {a b : Addr} {xs ys : List Int} (ha : H a = some (.set xs)) (hb : H b = some (.set ys)) (hne : a≠b) (q : Q (.ref a) (an H a (.set (aK fun i=>xs.contains i || ys.contains i)))) : dM c k (inplaceOp .BitOr) (.ref a) (.ref b) H Q:=by
 intro u v hu hv A g s hA hR
 have:=aB hu; clear hu; subst this
 have:=aB hv; clear hv; subst this
 refine bc fun GG=>?_
 obtain ⟨ks,X,p,_,hx⟩:=hR.isSet ha
 obtain ⟨ko,Y,po,_,hy⟩:=hR.isSet hb
 refine GG ?_
 unfold inplaceOp
 refine wpAny_holding ?_
 refine wpAny_bind (wpAny_typeOf X.typeIs (wpAny_bind (wpAny_of_eq i6 ?_)))
 refine wpAny_bind (wpAny_tryMethod_slot (name:=dunderI "or") X.typeIs PySem.F.slot_set_ior (zi hne X Y fun h' ks' sb X' m'=>⟨by simp,?_⟩))
 refine wpAny_bind (wpAny_rule (wpAny_pure ⟨_,hR.setUpd (tk:=s.toks) ha sb X' (fun y=>?_),q⟩))
 refine aa (propext (m' ..)) (aa (propext (p.mem_iff ..)) (aa (propext (po.mem_iff ..)) ?_))
 simp only [Bool.or_eq_true,List.contains_iff_mem]
 exact ⟨fun h=>⟨h.elim (hx _) (hy _),h⟩,fun h=>h.2⟩
theorem md {a b : Addr} {xs ys : List Int} (ha : H a = some (.set xs)) (hb : H b = some (.set ys)) (q : Q (.bool (xs != ys)) H) : dM c k (compareOp .NotEq) (.ref a) (.ref b) H Q:=by
 intro u v hu hv A g s hA hR
 have:=aB hu; clear hu; subst this
 have:=aB hv; clear hv; subst this
 refine bc fun GG=>?_
 obtain ⟨ks,X,p,sx,hx⟩:=hR.isSet ha
 obtain ⟨ko,Y,po,sy,hy⟩:=hR.isSet hb
 refine GG ?_
 have hA':=hA.un
 refine wpAny_richCompare_same_room (op:=.NotEq) X.typeIs Y.typeIs PySem.F.slot_set_ne (Cp X Y ⟨by exact nofun,H,hR,?_⟩) (by exact qd hA')
 have : (!(decide (ks.length = ko.length) && ks.all fun k=>ko.contains k)) = (xs != ys):=by
  have hnx:=cv sx
  have hny:=cv sy
  by_cases e : xs = ys
  ·clear hb q sy hy hny; subst e
   have h1 : ks.length = ko.length:=by exact aa (p.length_eq ..) (aa (po.length_eq ..) rfl)
   have h2 : ks.all (fun k=>ko.contains k) = true:=by
    refine aa (propext (List.all_eq_true ..)) ?_
    intro y hy2
    rw [List.contains_iff_mem,po.mem_iff,<-p.mem_iff]; exact hy2
   refine aa (h2 ..) (aa (decide_eq_true h1) ?_); simp
  ·have h3 : (xs != ys) = true:=by simpa using e
   refine aa (h3 ..) ?_
   cases hd : decide (ks.length = ko.length) with
   | false=>rfl
   | true=>
    have hl:=of_decide_eq_true hd
    cases hall : ks.all (fun k=>ko.contains k) with
    | false=>rfl
    | true=>
     exfalso
     apply e
     refine bP sx sy fun y=>?_
     have hsub : ∀ y,y∈ks->y∈ko:=fun y hy2=>by
      have:=List.all_eq_true.mp hall y hy2
      rwa [List.contains_iff_mem] at this
     have hnk : ks.Nodup:=p.nodup_iff.mpr hnx
     rw [<-p.mem_iff,<-po.mem_iff]
     refine ⟨hsub y,fun hyo=>?_⟩
     refine Classical.byContradiction fun hn=>?_
     have:=gr (y :: ks) ko (List.nodup_cons.mpr ⟨hn,hnk⟩) (fun z hz=>(List.mem_cons.mp hz).elim (fun e=>e▸hyo) (hsub z))
     simp only [List.length_cons] at this
     exact AH this hl
 refine aa (this ..) ?_; exact q
end
end
section
open Builtin.Frozenset
section
variable {prog : Program} {w : World} {A : Around} {E : Value->Shared->Prop} {s : Shared}
theorem i5 {R : Result->Shared->Prop} {S I l : Addr} {items : Array Value} {ns : List Int} (hi : items.toList.map av = ns.map AV.int) (hns : ∀ x∈ns,x∈aA) (hh : A.handled = none)
  (hSI : S≠I) (hSl : S≠l) (hlI : l≠I) (P : Int->Prop) :
  ∀ (k i : Nat) (s : Shared) (ks : List Int),items.size - i = k->i<=items.size->s.heap.IsListIter I l i->s.heap.IsList l items->aR (aE w) s.heap S ks->(∀ y,y∈ks↔P y\/y∈ns.take i)->
   (∀ h' tk ks',(∀ b o,b≠S->b≠I->s.heap.get? b = some o->h'.get? b = some o)->aR (aE w) h' S ks'->(∀ y,y∈ks'↔P y\/y∈ns)->R (.ok (.ret .none)) { s with heap:=h',toks:=tk })->
   codeAny (model prog w) A (.builtin "set.update.loop" ⟨[.ref S,.ref I],[]⟩) R s:=by
 have hlen : items.size = ns.length:=by
  have:=congrArg List.length hi
  simpa using this
 intro k
 induction k with
 | zero=>
  intro i s ks hk hin hit hl X hm hR
  have hin : i = items.size:=by exact AM hk hin
  subst hin
  refine codeAny_builtin PyProof.Rows.F.entry_set_update_loop ?_
  refine aa (Around.under_plainId PyProof.Rows.F.plain_set_update_loop _) ?_
  show wpAny _ A.in1 (pyNext (.ref I) >>=_) _ _ s
  refine wpAny_bind (wpAny_pyNext_list_end (by simpa using hh) hit hl (by simp) fun h' he'=>?_)
  show wpAny _ A.in1 (ret Value.none) _ _ _
  refine wpAny_pure (hR h' s.toks ks (fun b o h1 h2 e=>he' b o h2 e) (X.keep fun o e=>he' S o hSI e) ?_)
  intro y
  rw [hm,hlen,List.take_length]
 | succ k ih=>
  intro i s ks hk hin hit hl X hm hR
  have hlt : i < items.size:=by exact vU hk
  refine codeAny_builtin PyProof.Rows.F.entry_set_update_loop ?_
  refine aa (Around.under_plainId PyProof.Rows.F.plain_set_update_loop _) ?_
  show wpAny _ A.in1 (pyNext (.ref I) >>=_) _ _ s
  refine wpAny_bind (wpAny_pyNext_list_item hit hl (x:=items[i]) (by simp [hlt]) fun h1 hit1 hs1=>?_)
  have hx : av items[i] = .int (ns[i]'(by exact bM hlt hlen)):=by
   have:=congrArg (fun l=>l[i]?) hi
   simp only [List.getElem?_map] at this
   rw [List.getElem?_eq_getElem (by simpa using hlt),List.getElem?_eq_getElem (by exact bM hlt hlen)] at this
   simpa using this
  refine bc fun GG=>?_
  obtain ⟨t,ht⟩:=aF hx
  refine GG ?_
  dsimp only
  refine aa (ht ..) ?_
  have X1:=X.keep fun o e=>hs1.extBut S o hSI e
  refine wpAny_bind (wpAny_holding ?_)
  unfold setAdd
  refine wpAny_holding ?_
  refine wpAny_bind ((intKind prog w).pyHash (k:=ns[i]'(by exact bM hlt hlen)) (intKind_is _ _ _ _) ?_)
  refine kr (s:={ s with heap:=h1,toks:=_ }) X1 (hns _ (List.getElem_mem _)) fun h2 ks2 sb2 X2 m2=>?_
  refine wpAny_pure ⟨plainId_quiet PyProof.Rows.F.plain_set_update_loop _,ih (i + 1) _ ks2 (by exact sU hk) hlt ?_ ?_ X2 ?_ fun h3 tk3 ks3 hk3 X3 m3=>?_⟩
  ·refine bc fun GG=>?_
   obtain ⟨o,g,r⟩:=hit1
   refine GG ?_
   exact ⟨o,(sb2.2 I (Ne.symm hSI)).trans g,r⟩
  ·have hl1:=hl.extBut hs1.extBut hlI
   refine bc fun GG=>?_
   obtain ⟨o,g,r⟩:=hl1
   refine GG ?_
   exact ⟨o,(sb2.2 l (Ne.symm hSl)).trans g,r⟩
  ·intro y
   rw [fX m2,hm]
   have : ns.take (i + 1) = ns.take i ++ [ns[i]'(by exact bM hlt hlen)]:=by exact aa (List.take_succ_eq_append_getElem (by exact bM hlt hlen)) rfl
   refine aa (this ..) (aa (propext (List.mem_append ..)) (aa (propext (List.mem_singleton ..)) ?_))
   exact or_assoc
  ·exact hR h3 tk3 ks3 (fun b o q1 q2 e=>hk3 b o q1 q2 ((sb2.2 b q1).trans (hs1.extBut b o q2 e))) X3 m3
theorem jF {l a : Addr} {id : String} {items : Array Value} {ns ks : List Int} {Q : Unit->Shared->Prop} (hh : A.handled = none) (X : aR (aE w) s.heap a ks) (hl : s.heap.IsList l items) (hi : items.toList.map av = ns.map AV.int) (hns : ∀ x∈ns,x∈aA)
  (h : ∀ h' tk ks',(∀ b o,b≠a->s.heap.get? b = some o->h'.get? b = some o)->aR (aE w) h' a ks'->(∀ y,y∈ks'↔y∈ks\/y∈ns)->Q () { s with heap:=h',toks:=tk }) :
  wpAny (model prog w) A (updateFrom id a (.ref l)) Q E s:=by
 have hla : a≠l:=fun e=>by
  subst e
  refine bc fun GG=>?_
  obtain ⟨_,_,_,g,_⟩:=X
  obtain ⟨o,ho,hc,_⟩:=hl
  refine GG ?_
  rw [g] at ho
  cases ho
  simp [aN] at hc
 have hT : s.TypeIs (.ref l) "list":=hl.typeIs
 have hlt : l < s.heap.objs.size:=let ⟨o,ho,_⟩:=hl; Heap.lt_size ho
 have hat : a < s.heap.objs.size:=X.lt
 unfold updateFrom
 unfold isAnySet
 refine wpAny_bind (wpAny_bind (wpAny_isInstance hT PySem.F.sub_list_set (wpAny_isInstance hT PySem.F.sub_list_frozenset ?_)))
 refine wpAny_bind (wpAny_typeOf hT ?_)
 refine eA (by decide) ?_
 refine wpAny_bind (wpAny_pyIter_list hl ?_)
 refine wpAny_bind (wpAny_runValue ?_)
 refine i5 hi hns (by simpa using hh) (S:=a) (l:=l) (by exact Nat.ne_of_lt hat) hla (Nat.ne_of_lt hlt) (fun y=>y∈ks) (items.size - 0) 0 _ ks rfl (Nat.zero_le _) ⟨_,Heap.get?_push_size _ rfl,rfl,rfl⟩ (hl.push _) (X.keep fun o e=>Heap.get?_push_of_some _ e) (by simp) fun h' tk ks' hk X' m'=>?_
 refine wpAny_pure (h h' tk ks' (fun b o hb e=>hk b o hb (Nat.ne_of_lt (Heap.lt_size e)) (Heap.get?_push_of_some _ e)) X' m')
end
section
variable {c : Cx} {k : Nat} {sc : Scope} {m : aS} {H : ag} {Q : AV->ag->Prop} {QB : Bool->ag->Prop} {QS : Fl->aS->ag->Prop}
theorem aT.updateK {g : aZ} {s : Shared} {a : Addr} {o o' : AO} {h' : Heap} {tk : Nat} (R : aT c g H s) (ha : H a = some o) (hs : ∀ b ob,b≠a->s.heap.get? b = some ob->h'.get? b = some ob) (hr : HR c h' a o') :
  aT c g (an H a o') { s with heap:=h',toks:=tk }:=by
 have hne : ∀ b ob,g b = some ob->b≠a:=fun b ob e q=>by clear hs hr; subst q; have:=R.apart _ _ ha; rw [e] at this; exact ns this.symm
 refine ⟨R.base,fun b ob e=>hs b ob (hne b ob e) (R.keep _ _ e),fun b ob e=>?_,fun b ob e=>?_,R.gens,R.os⟩
 ·by_cases q : b = a
  ·clear ha hs hne; subst q; rw [ad] at e; cases e; exact hr
  ·rw [aj q] at e
   obtain ⟨oo,h1⟩:=HR.there (R.rep _ _ e)
   exact (R.rep _ _ e).of_get ((hs b oo q h1).trans h1.symm)
 ·by_cases q : b = a
  ·clear hs hr hne e; subst q; exact R.apart _ _ ha
  ·rw [aj q] at e; exact R.apart _ _ e
theorem dR (q : ∀ d,H d = none->Q (.ref d) (an H d (.set []))) : bF c k (.type "set") [] H Q:=by
 intro vals hv A g s hA hR
 have:=List.map_eq_nil_iff.mp hv; clear hv; subst this
 have e : aK (fun _=>false) = []:=by decide
 refine vf (w:=c.w) ⟨_,hR.setNew (tk:=s.toks) (p:=fun _=>false) (Nat.le_refl _) (fun b o e=>Heap.get?_push_of_some _ e) (qu c.w s.heap) (fun y=>by simp),?_⟩
 refine aa (e ..) ?_
 exact q _ (hR.none_of_fresh (Nat.le_refl _))
theorem pR {xs : List Int} (hs : xs.Pairwise (· < ·)) (hx : ∀ x∈xs,x∈aA) : aK (fun i=>xs.contains i) = xs:=by
 refine bP (bv _) hs fun y=>?_
 refine aa (propext (br ..)) (aa (propext (List.contains_iff_mem ..)) ?_)
 exact ⟨fun h=>h.2,fun h=>⟨hx y h,h⟩⟩
theorem ji {a : Addr} {xs : List Int} (ha : H a = some (.set xs)) (q : ∀ d,H d = none->Q (.ref d) (an H d (.set xs))) : bF c k (.type "set") [.ref a] H Q:=by
 intro vals hv A g s hA hR
 obtain ⟨u,rfl,h1⟩:=eE hv
 have:=aB h1; clear h1 hv; subst this
 obtain ⟨ks,X,p,hs,hx⟩:=hR.isSet ha
 refine uP (w:=c.w) X fun h' ks' kp X' m'=>⟨_,hR.setNew (tk:=s.toks) (p:=fun i=>xs.contains i) (Nat.le_refl _) kp X' (fun y=>?_),?_⟩
 ·refine aa (propext (m' ..)) (aa (propext (p.mem_iff ..)) (aa (propext (List.contains_iff_mem ..)) ?_))
  exact ⟨fun h=>⟨hx _ h,h⟩,fun h=>h.2⟩
 ·refine aa (pR hs hx) ?_
  exact q _ (hR.none_of_fresh (Nat.le_refl _))
theorem gH {a b : Addr} {xs ns : List Int} (ha : H a = some (.set xs)) (hb : H b = some (.list (ns.map .int))) (hns : ∀ x∈ns,x∈aA) (q : Q .none (an H a (.set (aK fun i=>xs.contains i || ns.contains i)))) : bF c k (.builtin "set.update") [.ref a,.ref b] H Q:=by
 intro vals hv A g s hA hR
 refine bc fun GG=>?_
 obtain ⟨u,v,rfl,h1,h2⟩:=gz hv
 have:=aB h1; clear h1; subst this
 have:=aB h2; clear h2 hv; subst this
 obtain ⟨ks,X,p,_,hx⟩:=hR.isSet ha
 obtain ⟨i1,n1,g1,m1⟩:=hR.isList hb
 refine GG ?_
 refine wpAny_call_entry PySem.F.slot_set_update X.typeIs PySem.F.entry_set_update ?_ (PySem.F.args_set_update_2 _ _)
 unfold Builtin.«set.update» Builtin.Frozenset.manyOthers
 unfold Builtin.Frozenset.addrOf
 refine wpAny_bind (wpAny_pure ?_)
 dsimp only
 refine aa (List.forIn_cons ..) ?_
 refine wpAny_bind (wpAny_bind (wpAny_bind (jF (ns:=ns) (by simpa using hA.hd) X g1.isList m1 hns fun h' tk ks' hk X' m'=>?_)))
 refine wpAny_pure ?_
 dsimp only
 refine eF List.forIn_nil ?_
 refine wpAny_pure (wpAny_pure ⟨_,rfl,_,hR.updateK (o':=.set (aK fun i=>xs.contains i || ns.contains i)) ha (fun b o hb e=>hk b o hb e) (f5 X' fun y=>?_),q⟩)
 refine aa (propext (m' ..)) (aa (propext (p.mem_iff ..)) ?_)
 simp only [Bool.or_eq_true,List.contains_iff_mem]
 exact ⟨fun h=>⟨h.elim (hx _) (hns _),h⟩,fun h=>h.2⟩
theorem nH {e : Expr} {pos : Pos} (hp : kdsPlain e = true) (h : WE c k sc e m H fun v H1=>∃ n,v = .int n/\n∈aA/\∀ d,H1 d = none->Q (.ref d) (an H1 d (.set [n]))) : WE c k sc (.Set [e] 0 pos) m H Q:=by
 intro A env g s hA hF hR
 refine eF (arm_eval_Set ..) ?_
 refine wpAny_bind (wpAny_standAt ?_)
 refine wpAny_bind (kds_main hR.inH hF.cd fun b=>?_)
 refine aa (kds_star [e] (by simpa using hp)) (aa (List.map_map ..) ?_)
 have hroad : displayRoad 0 [e] = .oneByOne:=rfl
 refine aa (hroad ..) ?_
 unfold setDisplay
 try dsimp only
 refine eA (by decide) ?_
 refine wpAny_bind (qH fun X=>?_)
 have he : evalEach [e] env = [eval e env]:=by refine aa (arm_evalEach_cons ..) ?_; rfl
 refine aa (he ..) ?_
 simp only [List.map_cons,List.map_nil,List.length_cons,List.length_nil,List.findIdx?_cons,List.findIdx?_nil,Function.comp,Bool.false_eq_true,if_false,Option.map_none,Option.getD_none,Nat.zero_add,
  show ¬ (1 : Nat) > 30 from by exact xa,List.take_succ_cons,List.take_zero,List.drop_succ_cons,List.drop_zero,List.forIn_nil]
 have hd0 : H s.heap.objs.size = none:=hR.none_of_fresh (Nat.le_refl _)
 have R1:=hR.push (aN #[] 0 (SetTable.fresh 0 0 !aE c.w))
 have hg1 : ce H { s with heap:=s.heap.push (aN #[] 0 (SetTable.fresh 0 0 !aE c.w)) } s.heap.objs.size = some (aN #[] 0 (SetTable.fresh 0 0 !aE c.w)):=by
  unfold ce; refine aa (hd0 ..) ?_; exact Heap.get?_push_size _ rfl
 refine wpAny_bind (wpAny_holding ?_)
 refine wpAny_bind ?_
 show wpAny _ _ ((eval e env >>=fun v=>standAt pos >>=fun _=>pure v) >>=fun v=>holding [v] (evalAll []) >>=fun r=>pure (v :: r)) _ _ _
 refine wpAny_bind (wpAny_bind (aY (h A env _ _ hA (hF.mono R1.le_rest) R1.toRest) ?_))
 intro v s2 hzz
 refine bc fun GG=>?_
 obtain ⟨H2,R2,n,hv,hn,q⟩:=hzz
 obtain ⟨t,rfl⟩:=aF hv
 refine GG ?_
 refine wpAny_bind (wpAny_standAt (wpAny_pure ?_))
 refine wpAny_bind (wpAny_holding (wpAny_pure (wpAny_pure ?_)))
 refine wpAny_bind (wpAny_holding ?_)
 refine aa (List.forIn_cons ..) ?_
 have g2:=R2.keep _ _ hg1
 have X2 : aR (aE c.w) s2.heap s.heap.objs.size []:=X.keep fun o e=>by
  have this : (s.heap.push (aN #[] 0 (SetTable.fresh 0 0 !aE c.w))).get? s.heap.objs.size = some (aN #[] 0 (SetTable.fresh 0 0 !aE c.w)):=Heap.get?_push_size _ rfl
  rw [this] at e; cases e; exact g2
 unfold setAdd
 refine wpAny_bind (wpAny_bind (wpAny_bind (wpAny_holding ?_)))
 refine wpAny_bind ((intKind c.prog c.w).pyHash (k:=n) (intKind_is _ _ _ _) ?_)
 refine kr (s:={ s2 with toks:=_ }) X2 hn fun h' ks' sb X' m'=>?_
 refine wpAny_pure ?_
 dsimp only
 refine eF List.forIn_nil ?_
 refine wpAny_pure ?_
 refine eA (by decide) ?_
 refine wpAny_pure (wpAny_bind (wpAny_pure (wpAny_pure (wpAny_pure ?_))))
 have hd2 : H2 s.heap.objs.size = none:=R2.none_of_g hg1
 have hgd : g s.heap.objs.size = none:=by
  cases q : g s.heap.objs.size with
  | none=>rfl
  | some o=>exact absurd (Heap.lt_size (hR.keep _ _ q)) (Nat.lt_irrefl _)
 have R3 : aT c g H2 { s2 with heap:=h',toks:=s2.toks + 1 }:=by
  have R2':=R1.back R2
  refine R2'.other (fun b o hb e=>?_) fun b o hb=>?_
  ·refine aa (sb.2 b (fun e=>by rw [e,hgd] at hb; exact ns hb)) ?_; exact e
  ·exact sb.2 b (fun e=>by rw [e,hd2] at hb; exact ns hb)
 have e1 : aK (fun i=>i == n) = [n]:=by
  refine bP (bv _) (List.pairwise_singleton _ _) fun y=>?_
  refine aa (propext (br ..)) (aa (propext (List.mem_singleton ..)) (aa (propext (beq_iff_eq ..)) ?_))
  exact ⟨fun h=>h.2,fun h=>⟨h▸hn,h⟩⟩
 refine ⟨_,R3.adopt hgd (o:=.set [n]) (e1▸f5 X' fun y=>?_),q _ hd2⟩
 rw [fX m']
 simp only [List.not_mem_nil,false_or,beq_iff_eq]
 exact ⟨fun h=>⟨h▸hn,h⟩,fun h=>h.2⟩
end
end
section
def ev {α : Type} (f : Nat->Nat->Bool) (n : Nat) : KasT α->Option α
 | .ret a=>some a
 | .ask i j k=>if (decide (i < n) && decide (j < n) && i != j) = true then ev f n (k (f i j)) else none
theorem tY {α : Type} {f : Nat->Nat->Bool} {n : Nat} {cmp : Nat->Nat->(Bool->Shared->Prop)->Shared->Prop} {Q : α->Shared->Prop} {s : Shared} {p : α}
  (hc : ∀ i j,i < n->j < n->i≠j->∀ C : Bool->Shared->Prop,C (f i j) s->cmp i j C s) (hq : Q p s) : ∀ (t : KasT α),ev f n t = some p->t.kasWp cmp Q s
 | .ret a,h=>by cases h; exact hq
 | .ask i j k,h=>by
  unfold ev at h
  split at h
  ·rename_i hij
   simp only [Bool.and_eq_true,decide_eq_true_eq,bne_iff_ne] at hij
   exact hc i j hij.1.1 hij.1.2 hij.2 _ (tY hc hq _ h)
  ·exact nomatch h
def gW : List Nat->Nat->List (List Nat)
 | _,0=>[[]]
 | pool,k + 1=>pool.flatMap fun x=>(gW (pool.erase x) k).map (x :: ·)
theorem oF : ∀ (k : Nat) (pool σ : List Nat),σ.Nodup->(∀ x∈σ,x∈pool)->σ.length = k->σ∈gW pool k
 | 0,pool,σ,_,_,hl=>by
  have:=List.length_eq_zero_iff.mp hl
  clear hl; subst this
  exact .head _
 | k + 1,pool,[],_,_,hl=>by contradiction
 | k + 1,pool,x :: σ,hn,hp,hl=>by
  rw [List.nodup_cons] at hn
  unfold gW
  refine aa (propext (List.mem_flatMap ..)) ?_
  refine ⟨x,hp x (.head _),List.mem_map_of_mem (oF k (pool.erase x) σ hn.2 (fun y hy=>?_) (by simpa using hl))⟩
  exact (List.mem_erase_of_ne (fun e : y = x=>hn.1 (by refine aa (Eq.symm (e ..)) ?_; exact hy))).mpr (hp y (.tail _ hy))
def dK (n : Nat) (σ : List Nat) : Bool:=
 match ev (fun i j=>decide (σ.getD i 0 < σ.getD j 0)) n (kas_sort n) with
 | some p=>p.toList.isPerm (List.range n) && (p.toList.map fun i=>σ.getD i 0) == List.range n
 | none=>false
theorem oZ : ∀ n∈[2,3,4,5],∀ σ∈gW (List.range n) n,dK n σ = true:=by decide +kernel
theorem nM : ∀ σ∈gW ((List.range 6).erase 0) 5,dK 6 (0 :: σ) = true:=by decide +kernel
theorem lJ : ∀ σ∈gW ((List.range 6).erase 1) 5,dK 6 (1 :: σ) = true:=by decide +kernel
theorem mK : ∀ σ∈gW ((List.range 6).erase 2) 5,dK 6 (2 :: σ) = true:=by decide +kernel
theorem m6 : ∀ σ∈gW ((List.range 6).erase 3) 5,dK 6 (3 :: σ) = true:=by decide +kernel
theorem lO : ∀ σ∈gW ((List.range 6).erase 4) 5,dK 6 (4 :: σ) = true:=by decide +kernel
theorem nR : ∀ σ∈gW ((List.range 6).erase 5) 5,dK 6 (5 :: σ) = true:=by decide +kernel
theorem pr : ∀ x∈[0,1,2,3,4,5],∀ τ∈gW ((List.range 6).erase x) 5,dK 6 (x :: τ) = true:=List.forall_mem_cons.mpr ⟨nM,List.forall_mem_cons.mpr ⟨lJ,List.forall_mem_cons.mpr ⟨mK,List.forall_mem_cons.mpr ⟨m6,List.forall_mem_cons.mpr ⟨lO,List.forall_mem_cons.mpr ⟨nR,fun _ h=>nomatch h⟩⟩⟩⟩⟩⟩
theorem q9 : ∀ n∈[2,3,4,5,6],∀ σ∈gW (List.range n) n,dK n σ = true:=fun n hn σ h=>by
 rcases List.mem_append.mp (show n∈[2,3,4,5] ++ [6] from hn) with a | a
 ·exact oZ n a σ h
 ·cases List.mem_singleton.mp a
  obtain ⟨x,hx,h⟩:=List.mem_flatMap.mp (show σ∈(List.range 6).flatMap fun x=>(gW ((List.range 6).erase x) 5).map (x :: ·) from h)
  obtain ⟨τ,hτ,rfl⟩:=List.mem_map.mp h
  exact pr x hx τ hτ
def fb (cs : List Int) (c : Int) : Nat:=cs.countP fun x=>decide (x < c)
theorem jH : ∀ (l : List Int) (a b : Int),a < b->fb l a + (if a∈l then 1 else 0)<=fb l b
 | [],a,b,h=>by simp [fb]
 | x :: l,a,b,h=>by
  have ih:=jH l a b h
  unfold fb at ih ⊢
  simp only [List.countP_cons,List.mem_cons,decide_eq_true_eq]
  by_cases h1 : x < a
  ·have h2 : x < b:=by exact zq h1 h
   have h3 : ¬ a = x:=by exact tf h1
   simp only [h1,h2,h3,false_or,if_true]
   exact ti ih
  ·by_cases h2 : a = x
   ·subst h2
    simp only [h1,h,true_or,if_true,if_false]
    have : List.countP (fun x=>decide (x < a)) l<=List.countP (fun x=>decide (x < b)) l:=by split at ih<;>omega
    exact wF this
   ·simp only [h1,h2,false_or,if_false]
    split<;>split at ih<;>omega
theorem oB : ∀ (l : List Int) (a : Int),fb l a + (if a∈l then 1 else 0)<=l.length
 | [],a=>by simp [fb]
 | x :: l,a=>by
  have ih:=oB l a
  unfold fb at ih ⊢
  simp only [List.countP_cons,List.mem_cons,decide_eq_true_eq,List.length_cons]
  by_cases h1 : x < a
  ·have h3 : ¬ a = x:=by exact tf h1
   simp only [h1,h3,false_or,if_true]
   exact ti ih
  ·by_cases h2 : a = x
   ·subst h2
    simp only [h1,true_or,if_true,if_false]
    split at ih<;>omega
   ·simp only [h1,h2,false_or,if_false]
    exact xr ih
theorem fT {cs : List Int} {a b : Int} (ha : a∈cs) (hb : b∈cs) : fb cs a < fb cs b↔a < b:=by
 constructor
 ·intro h
  rcases Int.lt_trichotomy a b with q | q | q
  ·exact q
  ·clear hb; subst q; exact y8 h
  ·have:=jH cs b a q
   rw [if_pos hb] at this
   exact zb this h
 ·intro h
  have:=jH cs a b h
  rw [if_pos ha] at this
  exact tZ this
theorem nT (cs : List Int) (hn : cs.Nodup) (h2 : 2<=cs.length) (h6 : cs.length<=6) :
  ∃ p : Array Nat,ev (fun i j=>decide (cs.getD i 0 < cs.getD j 0)) cs.length (kas_sort cs.length) = some p/\p.toList.Perm (List.range cs.length)/\(p.toList.map fun i=>cs.getD i 0).Pairwise (· < ·):=by
 have hget : ∀ i,i < cs.length->(cs.map (fb cs)).getD i 0 = fb cs (cs.getD i 0)/\cs.getD i 0∈cs:=fun i hi=>by
  refine aa (List.getD_eq_getElem?_getD) (aa (List.getD_eq_getElem?_getD) (aa (List.getElem?_map) (aa (List.getElem?_eq_getElem hi) ?_)))
  exact ⟨rfl,List.getElem_mem hi⟩
 have hmem : cs.map (fb cs)∈gW (List.range cs.length) cs.length:=by
  refine oF _ _ _ ?_ ?_ (List.length_map _)
  ·rw [List.Nodup,List.pairwise_map]
   refine List.Pairwise.imp_of_mem ?_ hn
   intro a b ha hb hne e
   rcases Int.lt_trichotomy a b with q | q | q
   ·have:=(fT ha hb).mpr q; exact AQ this e
   ·exact hne q
   ·have:=(fT hb ha).mpr q; exact tQ this e
  ·intro x hx
   obtain ⟨a,ha,rfl⟩:=List.mem_map.mp hx
   have:=oB cs a
   rw [if_pos ha] at this
   exact List.mem_range.mpr (by exact tZ this)
 have hd:=q9 cs.length (by simp; exact C0 h2 h6) _ hmem
 unfold dK at hd
 have hev : ∀ {α : Type} (t : KasT α),ev (fun i j=>decide (cs.getD i 0 < cs.getD j 0)) cs.length t = ev (fun i j=>decide ((cs.map (fb cs)).getD i 0 < (cs.map (fb cs)).getD j 0)) cs.length t:=by
  intro α t
  induction t with
  | ret a=>rfl
  | ask i j k ih=>
   unfold ev
   split
   ·rename_i hij
    simp only [Bool.and_eq_true,decide_eq_true_eq] at hij
    have hij:=hij.1
    have e : decide (cs.getD i 0 < cs.getD j 0) = decide ((cs.map (fb cs)).getD i 0 < (cs.map (fb cs)).getD j 0):=by
     refine aa ((hget i hij.1).1) (aa ((hget j hij.2).1) ?_)
     exact decide_eq_decide.mpr (fT (hget i hij.1).2 (hget j hij.2).2).symm
    refine aa (Eq.symm (e ..)) ?_
    exact ih _
   ·rfl
 refine aa (hev ..) ?_
 split at hd
 ·rename_i p hp
  simp only [Bool.and_eq_true,beq_iff_eq] at hd
  have hperm:=List.isPerm_iff.mp hd.1
  refine ⟨p,hp,hperm,?_⟩
  have hr : (p.toList.map fun i=>(cs.map (fb cs)).getD i 0).Pairwise (· < ·):=by refine aa (hd.2 ..) ?_; exact List.pairwise_lt_range
  rw [List.pairwise_map] at hr ⊢
  refine List.Pairwise.imp_of_mem ?_ hr
  intro i j hi hj hlt
  have hi':=List.mem_range.mp (hperm.mem_iff.mp hi)
  have hj':=List.mem_range.mp (hperm.mem_iff.mp hj)
  rw [(hget i hi').1,(hget j hj').1] at hlt
  exact (fT (hget i hi').2 (hget j hj').2).mp hlt
 ·exact nomatch hd
end
section
section
variable {prog : Program} {w : World} {A : Around} {E : Value->Shared->Prop} {s : Shared}
abbrev iI (h h' : Heap) : Prop:=∀ b o,h.get? b = some o->h'.get? b = some o
abbrev fc (a : Addr) (h h' : Heap) : Prop:=∀ b o,b≠a->h.get? b = some o->h'.get? b = some o
theorem kn {r : Addr} {P : List Value->Prop} {R : List Value->Prop} {Q : Value->Shared->Prop}
  (hcol : ∀ Q' : List Value->Shared->Prop,(∀ h' tk vs,iI s.heap h'->P vs->Q' vs { s with heap:=h',toks:=tk })->wpAny (model prog w) A.in1 (collect (.ref r)) Q' E s)
  (hlen : ∀ vs,P vs->vs.length < 64)
  (hsort : ∀ h1 tk vs a n (Pf : PySem.Fin->Shared->Prop),P vs->iI s.heap h1->h1.get? a = some (seqObj "list" vs.toArray n)->s.heap.get? a = none->
   (∀ h2 out e,fc a h1 h2->h2.get? a = some (seqObj "list" out e)->R out.toList->Pf (.done (.ret .none)) { s with heap:=h2,toks:=tk })->
   wpAny (model prog w) A.in1.in1 (Builtin.«list.sort» ⟨[.ref a],[]⟩) Pf E { s with heap:=h1,toks:=tk })
  (h : ∀ h2 tk out d e,s.heap.get? d = none->iI s.heap h2->h2.get? d = some (seqObj "list" out e)->R out.toList->Q (.ref d) { s with heap:=h2,toks:=tk }) :
  wpAny (model prog w) A (call (.builtin "sorted") [.ref r]) Q E s:=by
 refine Calls.call_function_entry kind_sorted plain_sorted entry_sorted (args_sorted1 _) ?_
 unfold Builtin.«sorted»
 refine wpAny_bind (m:=checkCount "sorted" 1 1 _) (wpAny_pure ?_)
 refine wpAny_bind (hcol _ fun h' tk vs hk hP=>?_)
 have hl:=hlen vs hP
 refine wpAny_bind (wpAny_newList ?_ (by refine aa (sizeLine_eq ..) ?_; exact ul hl))
 have hnone : s.heap.get? h'.objs.size = none:=by
  cases hg : s.heap.get? h'.objs.size with
  | none=>rfl
  | some o=>exact absurd (Heap.lt_size (hk _ _ hg)) (Nat.lt_irrefl _)
 have hoL : (h'.push (seqObj "list" vs.toArray 0)).get? h'.objs.size = some (seqObj "list" vs.toArray 0):=Heap.get?_push_size _ rfl
 refine wpAny_bind (wpAny_holding (wpAny_call_entry slot_list_sort ⟨_,hoL,rfl⟩ entry_list_sort (hsort _ tk vs _ 0 _ hP (fun b o e=>Heap.get?_push_of_some _ (hk b o e)) hoL hnone fun h2 out e hk2 g2 hR=>⟨_,rfl,?_⟩) (args_list_sort _)))
 refine wpAny_pure ⟨_,rfl,h h2 tk out _ e hnone (fun b o e'=>hk2 b o (fun q=>?_) (Heap.get?_push_of_some _ (hk b o e'))) g2 hR⟩
 rw [q,hnone] at e'
 exact ns e'
theorem kh {vs : List Value} {ns : List Int} {a : Addr} {n : Nat} {P : PySem.Fin->Shared->Prop} (ho : s.heap.get? a = some (seqObj "list" vs.toArray n)) (hI : IntsAre vs ns) (h64 : vs.length < 64)
  (h : ∀ h2 out e,fc a s.heap h2->h2.get? a = some (seqObj "list" out e)->(∃ fW,IntsAre out.toList fW/\fW.Perm ns/\fW.Pairwise (·<=·))->P (.done (.ret .none)) { s with heap:=h2 }) :
  wpAny (model prog w) A (Builtin.«list.sort» ⟨[.ref a],[]⟩) P E s:=by
 refine list_sort_tree ho hI h64 fun out fW h1 h2 h3=>?_
 obtain ⟨e,he⟩:=sortedHeap_at (vs:=vs) (out:=out) ho
 exact h _ out e (fun b o hb hg=>(sortedHeap_old hb (Heap.lt_size hg)).trans hg) he ⟨fW,h1,h2,h3⟩
theorem km : ∀ l : List Value,(l.zip l).map (·.2) = l
 | []=>rfl
 | x :: l=>by rw [List.zip_cons_cons,List.map_cons,km l]
theorem nu {vs : List Value} {a : Addr} {n : Nat} {P : PySem.Fin->Shared->Prop} (ho : s.heap.get? a = some (seqObj "list" vs.toArray n)) (h2 : vs.length < 2)
  (h : ∀ h2 e,fc a s.heap h2->h2.get? a = some (seqObj "list" vs.toArray e)->P (.done (.ret .none)) { s with heap:=h2 }) :
  wpAny (model prog w) A (Builtin.«list.sort» ⟨[.ref a],[]⟩) P E s:=by
 refine eF (list_sort_plain ..) ?_
 have ha : a < s.heap.objs.size:=Heap.lt_size ho
 refine wpAny_bind (listItems_at ho rfl ?_)
 refine wpAny_bind (listUpdate_at ho rfl ?_)
 obtain ⟨e1,ho1⟩ : ∃ e1,(s.heap.update a (Obj.mapSeq fun _=>#[])).get? a = some (seqObj "list" #[] e1):=⟨_,get?_update_seq ho (fun _=>#[])⟩
 refine wpAny_bind (seqEpoch_at ho1 rfl ?_)
 refine wpAny_bind (wpAny_newTuple ?_)
 refine wpAny_bind (wpAny_newList ?_)
 refine wpAny_holding ?_
 have ho6 : (((s.heap.update a (Obj.mapSeq fun _=>#[])).push (seqObj "tuple" vs.toArray 0)).push (seqObj "list" #[] 0)).get? a = some (seqObj "list" #[] e1):=by
  refine aa (Heap.get?_push_ne _ _ _ (by rw [size_push',Heap.size_update]; exact Nat.ne_of_lt (Nat.lt_succ_of_lt ha))) (aa (Heap.get?_push_ne _ _ _ (by rw [Heap.size_update]; exact Nat.ne_of_lt ha)) ?_)
  exact ho1
 show wpAny (model prog w) A _ P E { s with heap:=((s.heap.update a (Obj.mapSeq fun _=>#[])).push (seqObj "tuple" vs.toArray 0)).push (seqObj "list" #[] 0) }
 dsimp only
 have hsz : vs.toArray.size < 2:=by assumption
 refine aa (if_pos hsz) (aa (if_pos hsz) ?_)
 refine wpAny_bind (wpAny_pure ?_)
 refine aa (StateT.run_pure ..) ?_
 refine wpAny_bind (wpAny_pure ?_)
 dsimp only
 refine wpAny_bind (seqEpoch_at ho6 rfl ?_)
 have hz : arrOf (SortSt.mk' general' (vs.toArray.zip vs.toArray) #[] 7 none) = pairsOf vs:=rfl
 refine wpAny_bind (listUpdate_at ho6 rfl ?_ (hsz2:=by refine aa (hz ..) (aa (Array.size_map ..) ?_); show (pairsOf vs).size<=_; refine aa (pairsOf_size ..) (aa (sizeLine_eq ..) ?_); exact xU h2))
 simp only [bne_self_eq_false,Bool.false_eq_true,if_false]
 have hout : (arrOf (SortSt.mk' general' (vs.toArray.zip vs.toArray) #[] 7 none)).map (·.2) = vs.toArray:=by
  refine aa (hz ..) ?_
  apply Array.ext'
  simp only [pairsOf,Array.toList_map,Array.toList_zip]
  exact km vs
 refine aa (hout ..) ?_
 refine wpAny_pure (h _ _ (fun b o hb hg=>?_) (get?_update_seq ho6 _))
 have hlt:=Heap.lt_size hg
 refine aa (Heap.get?_update_ne _ _ _ _ hb) (aa (Heap.get?_push_ne _ _ _ (by rw [size_push',Heap.size_update]; exact Nat.ne_of_lt (Nat.lt_succ_of_lt hlt))) (aa (Heap.get?_push_ne _ _ _ (by rw [Heap.size_update]; exact Nat.ne_of_lt hlt)) (aa (Heap.get?_update_ne _ _ _ _ hb) ?_)))
 exact hg
theorem jV {vs : List Value} {cs : List Int} {a : Addr} {n : Nat} {P : PySem.Fin->Shared->Prop} (ho : s.heap.get? a = some (seqObj "list" vs.toArray n)) (hl : vs.length = cs.length) (hn : cs.Nodup) (h6 : cs.length<=6)
  (hk : ∀ s1 : Shared,fc a s.heap s1.heap->∀ Q : SortKind->Shared->Prop,(∀ κ,(∀ i j,i < cs.length->j < cs.length->i≠j->∀ C : Bool->Shared->Prop,C (decide (cs.getD i 0 < cs.getD j 0)) s1->kas_ask prog w A κ vs i j C s1)->Q κ s1)->2<=vs.length->wpAny (model prog w) A (keyKind' vs.toArray) Q E s1)
  (h : ∀ h2 out e,fc a s.heap h2->h2.get? a = some (seqObj "list" out e)->(∃ p : List Nat,p.Perm (List.range cs.length)/\(p.map fun i=>cs.getD i 0).Pairwise (· < ·)/\out.toList = p.map fun i=>vs.getD i Value.none)->P (.done (.ret .none)) { s with heap:=h2 }) :
  wpAny (model prog w) A (Builtin.«list.sort» ⟨[.ref a],[]⟩) P E s:=by
 by_cases h2 : vs.length < 2
 ·refine nu ho h2 fun h' e k g=>h h' _ e k g ⟨List.range cs.length,.rfl,?_,?_⟩
  ·refine aa (Eq.symm (hl ..)) ?_
   have : vs.length = 0\/vs.length = 1:=by exact zX h2
   rcases this with e | e<;>refine aa (e ..) ?_<;>simp [List.range_succ]
  ·refine aa (Eq.symm (hl ..)) ?_
   apply List.ext_getElem?
   intro i
   simp only [List.getElem?_map]
   by_cases hi : i < vs.length
   ·simp [hi]
   ·simp [hi]
 ·have h2 : 2<=vs.length:=by exact xx h2
  refine eF (list_sort_plain ..) ?_
  have ha : a < s.heap.objs.size:=Heap.lt_size ho
  refine wpAny_bind (listItems_at ho rfl ?_)
  refine wpAny_bind (listUpdate_at ho rfl ?_)
  refine bc fun GG=>?_
  obtain ⟨e1,ho1⟩ : ∃ e1,(s.heap.update a (Obj.mapSeq fun _=>#[])).get? a = some (seqObj "list" #[] e1):=⟨_,get?_update_seq ho (fun _=>#[])⟩
  refine GG ?_
  refine wpAny_bind (seqEpoch_at ho1 rfl ?_)
  refine wpAny_bind (wpAny_newTuple ?_)
  refine wpAny_bind (wpAny_newList ?_)
  refine wpAny_holding ?_
  have ho6 : (((s.heap.update a (Obj.mapSeq fun _=>#[])).push (seqObj "tuple" vs.toArray 0)).push (seqObj "list" #[] 0)).get? a = some (seqObj "list" #[] e1):=by
   refine aa (Heap.get?_push_ne _ _ _ (by rw [size_push',Heap.size_update]; exact Nat.ne_of_lt (Nat.lt_succ_of_lt ha))) (aa (Heap.get?_push_ne _ _ _ (by rw [Heap.size_update]; exact Nat.ne_of_lt ha)) ?_)
   exact ho1
  have hkeep : fc a s.heap (((s.heap.update a (Obj.mapSeq fun _=>#[])).push (seqObj "tuple" vs.toArray 0)).push (seqObj "list" #[] 0)):=fun b o hb hg=>by
   have hlt:=Heap.lt_size hg
   refine aa (Heap.get?_push_ne _ _ _ (by rw [size_push',Heap.size_update]; exact Nat.ne_of_lt (Nat.lt_succ_of_lt hlt))) (aa (Heap.get?_push_ne _ _ _ (by rw [Heap.size_update]; exact Nat.ne_of_lt hlt)) (aa (Heap.get?_update_ne _ _ _ _ hb) ?_))
   exact hg
  show wpAny (model prog w) A _ P E { s with heap:=((s.heap.update a (Obj.mapSeq fun _=>#[])).push (seqObj "tuple" vs.toArray 0)).push (seqObj "list" #[] 0) }
  dsimp only
  have hsz : ¬ vs.toArray.size < 2:=by simp; exact BE h2
  refine aa (if_neg hsz) (aa (if_neg hsz) ?_)
  refine wpAny_bind (hk _ hkeep _ (fun κ hask=>?_) h2)
  refine bc fun GG=>?_
  obtain ⟨p,hp1,hp2,hp3⟩:=nT cs hn (by exact wv hl ‹_›) h6
  refine GG ?_
  have hps : p.size = vs.length:=by have:=hp2.length_eq; simpa [hl] using this
  refine wpAny_bind (wpAny_mono (kat_run (ks:=vs) (vs:=vs) (κ:=κ) (E:=E) (s:={ s with heap:=_ }) (Q:=fun st' s'=>s' = { s with heap:=((s.heap.update a (Obj.mapSeq fun _=>#[])).push (seqObj "tuple" vs.toArray 0)).push (seqObj "list" #[] 0) }/\arrOf st' = p.map (kas_item (vs.toArray.zip vs.toArray))/\failedOf st' = none)
   (G:=fun p' s'=>p' = p/\s' = { s with heap:=((s.heap.update a (Obj.mapSeq fun _=>#[])).push (seqObj "tuple" vs.toArray 0)).push (seqObj "list" #[] 0) }) rfl h2 (by exact qz hl h6)
   (fun p' st' s' a1 a2 a3 a4=>by clear hp1 hp2 hp3 hps; obtain ⟨rfl,rfl⟩:=a4; exact ⟨rfl,a2,a3⟩) ?_) ?_ fun _ _ e=>e)
  ·refine aa (hl ..) ?_
   exact tY (fun i j hi hj hij C hC=>hask i j hi hj hij C hC) ⟨rfl,rfl⟩ _ hp1
  ·rintro ⟨⟨⟩,st'⟩ s' ⟨rfl,har,hf⟩
   dsimp only
   have hout:=kat_snds rfl har
   refine wpAny_bind (seqEpoch_at ho6 rfl ?_)
   refine wpAny_bind (listUpdate_at ho6 rfl ?_ (hsz2:=by refine aa (hout ..) ?_; simp [hps]; refine aa (sizeLine_eq ..) ?_; exact Aa hl h6))
   refine aa (hf ..) ?_
   simp only [bne_self_eq_false,Bool.false_eq_true,if_false]
   refine aa (hout ..) ?_
   refine wpAny_pure (h _ _ _ (fun b o hb hg=>?_) (get?_update_seq ho6 _) ⟨p.toList,hp2,hp3,rfl⟩)
   refine aa (Heap.get?_update_ne _ _ _ _ hb) ?_
   exact hkeep b o hb hg
end
end
section
theorem il : ∀ {vs : List Value} {ns : List Int},vs.map av = ns.map AV.int->IntsAre vs ns
 | [],[],_=>.nil
 | [],_ :: _,h=>by contradiction
 | _ :: _,[],h=>by contradiction
 | v :: vs,n :: ns,h=>by
  rw [List.map_cons,List.map_cons,List.cons.injEq] at h
  obtain ⟨t,rfl⟩:=aF h.1
  exact .cons n t (il h.2)
theorem fG : ∀ {vs : List Value} {ns : List Int},IntsAre vs ns->vs.map av = ns.map AV.int
 | _,_,.nil=>rfl
 | _,_,.cons n t h=>by rw [List.map_cons,List.map_cons,fG h]; rfl
section
variable {c : Cx} {k : Nat} {sc : Scope} {m : aS} {H : ag} {Q : AV->ag->Prop} {QB : Bool->ag->Prop} {QS : Fl->aS->ag->Prop}
theorem eK : ∀ {l l' : List Int},l.Perm l'->l.Pairwise (·<=·)->l'.Pairwise (·<=·)->l = l':=fun p h h'=>p.eq_of_pairwise (fun a b _ _ h1 h2=>Int.le_antisymm h1 h2) h h'
theorem eT {r : Addr} {ns : List Int} {A : Around} {g : aZ} {s : Shared} (hR : aT c g H s) (hl : ns.length < 64)
  (hcol : ∀ Q' : List Value->Shared->Prop,(∀ h' tk vs,iI s.heap h'->(∃ ns1 : List Int,vs.map av = ns1.map AV.int/\ns1.Perm ns)->Q' vs { s with heap:=h',toks:=tk })->wpAny (model c.prog c.w) A.in1 (collect (.ref r)) Q' F0 s)
  (q : ∀ (d : Addr) (fW : List Int),H d = none->fW.Perm ns->fW.Pairwise (·<=·)->Q (.ref d) (an H d (.list (fW.map .int)))) :
  wpAny (model c.prog c.w) A (call (.builtin "sorted") [.ref r]) (pD c g av Q) F0 s:=by
 refine kn (P:=fun vs=>∃ ns1 : List Int,vs.map av = ns1.map AV.int/\ns1.Perm ns) (R:=fun out=>∃ fW,IntsAre out fW/\fW.Perm ns/\fW.Pairwise (·<=·)) hcol (fun vs ⟨ns1,e,p⟩=>?_) (fun h1 tk vs a n Pf ⟨ns1,e,p⟩ hk ho hn hfin=>?_) fun h2 tk out d e hd hk g2 ⟨fW,hI,p,hs⟩=>?_
 ·have:=congrArg List.length e
  simp only [List.length_map] at this
  refine aa (this ..) (aa (p.length_eq ..) ?_); exact hl
 ·have hlen : vs.length < 64:=by
   have:=congrArg List.length e
   simp only [List.length_map] at this
   refine aa (this ..) (aa (p.length_eq ..) ?_); exact hl
  refine kh (s:={ s with heap:=h1,toks:=tk }) ho (il e) hlen fun h2 out e' hk2 g2 ⟨fW,hI,p',hs⟩=>hfin h2 out e' hk2 g2 ⟨fW,hI,p'.trans p,hs⟩
 ·exact ⟨_,hR.alloc (o':=.list (fW.map .int)) hd hk ⟨out,e,g2,fG hI⟩,q d fW (hR.none_of_get hd) p hs⟩
theorem b0 {a : Addr} {ns : List Int} (ha : H a = some (.list (ns.map .int))) (hl : ns.length < 64) (q : ∀ (d : Addr) (fW : List Int),H d = none->fW.Perm ns->fW.Pairwise (·<=·)->Q (.ref d) (an H d (.list (fW.map .int)))) : bF c k (.builtin "sorted") [.ref a] H Q:=by
 intro vals hv A g s hA hR
 refine bc fun GG=>?_
 obtain ⟨u,rfl,h1⟩:=eE hv
 have:=aB h1; clear h1 hv; subst this
 obtain ⟨i1,n1,g1,m1⟩:=hR.isList ha
 refine GG ?_
 refine eT hR hl (fun Q' hq=>collect_list (vs:=i1.toList) (by refine aa (Array.toArray_toList ..) ?_; exact g1.isList) ?_ ?_) q
 ·refine hq _ _ _ (fun b o e=>?_) ⟨ns,m1,.rfl⟩
  refine aa (Heap.get?_update_ne _ _ _ _ (Nat.ne_of_lt (Heap.lt_size e))) ?_
  exact Heap.get?_push_of_some _ e
 ·have:=congrArg List.length m1
  simp only [List.length_map] at this
  refine aa (this ..) (aa (sizeLine_eq ..) ?_); exact ul hl
theorem cj {a : Addr} {xs : List Int} (ha : H a = some (.set xs)) (q : ∀ d,H d = none->Q (.ref d) (an H d (.list (xs.map .int)))) : bF c k (.builtin "sorted") [.ref a] H Q:=by
 intro vals hv A g s hA hR
 refine bc fun GG=>?_
 obtain ⟨u,rfl,h1⟩:=eE hv
 have:=aB h1; clear h1 hv; subst this
 obtain ⟨ks,⟨es,n,t,g1,T,e,hn,hks⟩,p,hs,hx⟩:=hR.isSet ha
 refine GG ?_
 have hsz:=dI e hn hks
 have hlen : xs.length < 64:=by refine aa (Eq.symm (p.length_eq ..)) (aa (Eq.symm (e.size ..)) ?_); exact wf hsz
 have hle : xs.Pairwise (·<=·):=hs.imp fun h=>Int.le_of_lt h
 refine eT hR hlen (fun Q' hq=>kdu_collect (rK (w:=c.w) (ep:=n) T) (by simpa using hA.hd) g1 (by refine aa (sizeLine_eq ..) ?_; exact wC hsz) fun h' tk acc hk hacc=>hq h' tk _ hk ?_) fun d fW hd p' hs'=>by
  refine aa (eK p' hs' hle) ?_; exact q d hd
 refine bc fun GG=>?_
 obtain ⟨kw,ew,pw⟩:=e.perm (dP c.w a es n)
 refine GG ?_
 refine ⟨kw,?_,pw.trans p⟩
 have hw:=gx (dP c.w a es n)
 have : acc.toList = (bZ c.w a es n).toList.map (·.2):=by
  apply List.ext_getElem?
  intro i
  refine aa (List.getElem?_map) (aa (Array.getElem?_toList) (aa (Array.getElem?_toList) ?_))
  by_cases hi : i < acc.size
  ·have:=hacc.2 i acc[i] (by simp [hi])
   refine aa (this ..) ?_; simp [hi]
  ·have h2:=hacc.1
   refine aa (Array.getElem?_eq_none (by exact iB hi)) (aa (Array.getElem?_eq_none (by exact zV h2 hw hi)) ?_)
   rfl
 refine aa (this ..) (aa (List.map_map ..) ?_)
 have:=congrArg (List.map Prod.snd) ew
 rw [List.map_map,List.map_map] at this
 exact this
theorem gn {a : Addr} {es : List (Int × AV)} (ha : H a = some (.dict es)) (hl : es.length < 64) (q : ∀ (d : Addr) (fW : List Int),H d = none->fW.Perm (es.map (·.1))->fW.Pairwise (·<=·)->Q (.ref d) (an H d (.list (fW.map .int)))) : bF c k (.builtin "sorted") [.ref a] H Q:=by
 intro vals hv A g s hA hR
 obtain ⟨u,rfl,h1⟩:=eE hv
 have:=aB h1; clear h1 hv; subst this
 obtain ⟨hns,kvs,hd,hm⟩:=hR.rep _ _ ha
 obtain ⟨ep,hat⟩:=hd.dictAt
 have hlen : kvs.length = es.length:=by refine aa (Eq.symm (hm ..)) ?_; simp
 refine eT hR (by simpa using hl) (fun Q' hq=>kdu_collect (kdl_dict (knd:=intKind c.prog c.w) (kvs:=kvs) (ep:=ep) (uH hns)) (by simpa using hA.hd) hat (by refine aa (sizeLine_eq ..) ?_; exact z0 hl hlen) fun h' tk acc hk hacc=>hq h' tk _ hk ⟨es.map (·.1),?_,.rfl⟩) q
 apply List.ext_getElem?
 intro i
 refine aa (List.getElem?_map) (aa (List.getElem?_map) (aa (List.getElem?_map) (aa (Array.getElem?_toList) ?_)))
 by_cases hi : i < acc.size
 ·obtain ⟨k1,x1,hx,hk1⟩:=hacc.2 i acc[i] (by simp [hi])
  have h2 : es[i]? = some (k1,av x1):=by refine aa (Eq.symm (hm ..)) (aa (List.getElem?_map) (aa (hx ..) ?_)); rfl
  refine aa (h2 ..) ?_
  obtain ⟨t,ht⟩:=Value.isInt_shape (show Value.isInt k1 acc[i] = true from hk1)
  refine aa (Array.getElem?_eq_getElem hi) (aa (ht ..) ?_); rfl
 ·have h2:=hacc.1
  refine aa (Array.getElem?_eq_none (by exact iB hi)) (aa (List.getElem?_eq_none (by exact wB h2 hlen hi)) ?_)
  rfl
def ux (H : ag) (t : Addr) (a b : Int) : Prop:=∃ ce,H t = some (.tuple (.int a :: .int b :: ce))
theorem aT.tup2 {g : aZ} {s : Shared} (R : aT c g H s) {t : Addr} {a b : Int} (h : ux H t a b) :
  ∃ u v r n,s.heap.get? t = some { cls:=.type "tuple",dict:=none,data:=.seq (List.toArray (.int a u :: .int b v :: r)) n,slots:=#[] }:=by
 refine bc fun GG=>?_
 obtain ⟨ce,ht⟩:=h
 obtain ⟨items,n,g1,m1⟩:=R.rep _ _ ht
 obtain ⟨x,xs,e,h1,h2⟩:=List.map_eq_cons_iff.mp m1
 obtain ⟨y,ys,rfl,h3,h4⟩:=List.map_eq_cons_iff.mp h2
 obtain ⟨u,rfl⟩:=aF h1
 obtain ⟨v,rfl⟩:=aF h3
 refine GG ?_
 exact ⟨u,v,ys,n,by exact aa (g1 ..) (aa (Eq.symm (e ..)) (aa (Array.toArray_toList ..) rfl))⟩
theorem ou {l : List Value} : ∀ {ts : List Addr},l.map av = ts.map AV.ref->l = ts.map Value.ref:=by
 induction l with
 | nil=>
  intro ts h
  cases ts with
  | nil=>rfl
  | cons=>exact nomatch h
 | cons x l ih=>
  intro ts h
  cases ts with
  | nil=>exact nomatch h
  | cons a ts=>exact congr (congrArg List.cons (aB (List.cons.inj h).1)) (ih (List.cons.inj h).2)
inductive u8 (ts : List Addr) (ab : List (Int × Int)) (vs : List Value) (i : Nat) : Prop
 | mk (t : Addr) (p : Int × Int) (e1 : ts[i]? = some t) (e2 : ab[i]? = some p) (e3 : vs.getD i Value.none = .ref t) (e4 : (ab.map fun p=>p.1 * 64 + p.2).getD i 0 = p.1 * 64 + p.2)
inductive xv (h : Heap) (ab : List (Int × Int)) (vs : List Value) (i : Nat) : Prop
 | mk (t : Addr) (p : Int × Int) (u v : Tok) (r : List Value) (n : Nat) (e2 : ab[i]? = some p) (e3 : vs.getD i Value.none = .ref t) (e4 : (ab.map fun p=>p.1 * 64 + p.2).getD i 0 = p.1 * 64 + p.2) (l1 : 0<=p.2) (l2 : p.2 < 64)
  (g : h.get? t = some { cls:=.type "tuple",dict:=none,data:=.seq (List.toArray (.int p.1 u :: .int p.2 v :: r)) n,slots:=#[] })
theorem gh {l : Addr} {ts : List Addr} {ab : List (Int × Int)} (ha : H l = some (.list (ts.map .ref))) (hl : ts.length = ab.length) (h6 : ab.length<=6)
  (ht : ∀ (i : Nat) (t : Addr) (p : Int × Int),ts[i]? = some t->ab[i]? = some p->ux H t p.1 p.2/\0<=p.2/\p.2 < 64) (hn : (ab.map fun p=>p.1 * 64 + p.2).Nodup)
  (q : ∀ (d : Addr) (p : List Nat),H d = none->p.Perm (List.range ab.length)->(p.map fun i=>(ab.map fun p=>p.1 * 64 + p.2).getD i 0).Pairwise (· < ·)->Q (.ref d) (an H d (.list (p.map fun i=>(ts.map AV.ref).getD i .none)))) : bF c k (.builtin "sorted") [.ref l] H Q:=by
 intro vals hv A g s hA hR
 refine bc fun GG=>?_
 obtain ⟨u,rfl,h1⟩:=eE hv
 have:=aB h1; clear h1 hv; subst this
 obtain ⟨i1,n1,g1,m1⟩:=hR.isList ha
 refine GG ?_
 have hm : i1.toList = ts.map Value.ref:=ou m1
 have hlen : i1.toList.length = ab.length:=by exact aa (hm ..) (aa (List.length_map ..) (aa (hl ..) rfl))
 have hgd : ∀ i,i < ab.length->u8 ts ab i1.toList i:=fun i hi=>by
  refine ⟨ts[i]'(by exact aU hi hl),ab[i],List.getElem?_eq_getElem _,List.getElem?_eq_getElem _,?_,?_⟩
  ·refine aa (hm ..) (aa (List.getD_eq_getElem?_getD) (aa (List.getElem?_map) (aa (List.getElem?_eq_getElem (by exact aU hi hl)) ?_))); rfl
  ·refine aa (List.getD_eq_getElem?_getD) (aa (List.getElem?_map) (aa (List.getElem?_eq_getElem hi) ?_)); rfl
 refine kn (P:=fun vs=>vs = i1.toList) (R:=fun out=>∃ p : List Nat,p.Perm (List.range ab.length)/\(p.map fun i=>(ab.map fun p=>p.1 * 64 + p.2).getD i 0).Pairwise (· < ·)/\out = p.map fun i=>i1.toList.getD i Value.none)
  (fun Q' hq=>collect_list (vs:=i1.toList) (by refine aa (Array.toArray_toList ..) ?_; exact g1.isList) ?_ ?_) (fun vs e=>by refine aa (e ..) ?_; exact qz hlen h6) (fun h1 tk vs a n Pf e hk ho hnn hfin=>?_) fun h2 tk out d e hd hk g2 ⟨p,hp1,hp2,hp3⟩=>?_
 ·refine hq _ _ _ (fun b o e=>?_) rfl
  refine aa (Heap.get?_update_ne _ _ _ _ (Nat.ne_of_lt (Heap.lt_size e))) ?_
  exact Heap.get?_push_of_some _ e
 ·refine aa (sizeLine_eq ..) ?_; exact zv hlen h6
 ·subst e
  refine jV (s:={ s with heap:=h1,toks:=tk }) (cs:=ab.map fun p=>p.1 * 64 + p.2) ho (by refine aa (List.length_map ..) ?_; exact hlen) hn (by refine aa (List.length_map ..) ?_; exact h6) (fun s1 hk1 Q2 hq2 h2=>?_)
   fun h2 out e' hk2 g2 hp=>hfin h2 out e' hk2 g2 (by rw [List.length_map] at hp; exact hp)
  have hall : ∀ i,i < ab.length->xv s1.heap ab i1.toList i:=fun i hi=>by
   refine bc fun GG=>?_
   obtain ⟨t,p,e1,e2,e3,e4⟩:=hgd i hi
   obtain ⟨T,l1,l2⟩:=ht i t p e1 e2
   obtain ⟨u,v,r,n,g2⟩:=hR.tup2 T
   refine GG ?_
   refine ⟨t,p,u,v,r,n,e2,e3,e4,l1,l2,hk1 _ _ (fun q=>?_) (hk _ _ g2)⟩
   clear hfin ho hk1; subst q
   rw [hnn] at g2; exact ns g2
  have hfs : ∃ fs,KatTups s1.heap i1.toList fs/\fs.length = i1.toList.length/\∀ v∈fs,∃ n t,v = Value.int n t:=by
   have : ∀ (l : List Value),(∀ x∈l,∃ t a u o xs n,x = Value.ref t/\s1.heap.get? t = some o/\o.cls = .type "tuple"/\o.data = .seq xs n/\xs[0]? = some (Value.int a u))->∃ fs,KatTups s1.heap l fs/\fs.length = l.length/\∀ v∈fs,∃ n t,v = Value.int n t:=by
    intro l
    induction l with
    | nil=>intro _; exact ⟨[],trivial,rfl,fun v hv=>by exact nomatch hv⟩
    | cons x l ih=>
     intro hx
     refine bc fun GG=>?_
     obtain ⟨fs,t1,t2,t3⟩:=ih fun y hy=>hx y (.tail _ hy)
     obtain ⟨t,a,u,o,xs,n,rfl,e1,e2,e3,e4⟩:=hx x (.head _)
     refine GG ?_
     refine ⟨.int a u :: fs,.cons e1 e2 e3 e4 t1,by simp [t2],fun v hv=>?_⟩
     rcases List.mem_cons.mp hv with rfl | hv
     ·exact ⟨a,u,rfl⟩
     ·exact t3 v hv
   refine this _ fun x hx=>?_
   refine bc fun GG=>?_
   obtain ⟨i,hi,e⟩:=List.getElem_of_mem hx
   obtain ⟨t,p,u,v,r,n,_,e3,_,_,_,g2⟩:=hall i (by exact bM hi hlen)
   refine GG ?_
   refine ⟨t,p.1,u,_,_,n,?_,g2,rfl,rfl,by rfl⟩
   refine aa (Eq.symm (e3 ..)) (aa (List.getD_eq_getElem?_getD) (aa (List.getElem?_eq_getElem hi) (aa (Eq.symm (e ..)) ?_))); rfl
  refine bc fun GG=>?_
  obtain ⟨fs,tt,hfl,hfi⟩:=hfs
  refine GG ?_
  refine kat_kind (T:=.type "int") tt (by exact Cb h2 hfl) (fun v hv=>?_) (by decide) (hq2 _ fun i j hi hj hij C hC=>?_)
  ·refine bc fun GG=>?_
   obtain ⟨n,t,rfl⟩:=hfi v hv
   refine GG ?_
   exact Looks.of_pure rfl
  ·rw [List.length_map] at hi hj
   refine bc fun GG=>?_
   obtain ⟨t,p,u,v,r,n,e2,e3,e4,l1,l2,gi⟩:=hall i hi
   obtain ⟨t',p',u',v',r',n',e2',e3',e4',l1',l2',gj⟩:=hall j hj
   refine GG ?_
   unfold kas_ask
   refine aa (e3 ..) (aa (e3' ..) ?_)
   rw [e4,e4'] at hC
   refine kat_lt gi rfl gj rfl ?_
   have hne : p.1 * 64 + p.2≠p'.1 * 64 + p'.2:=fun e=>by
    have h3 : (ab.map fun p=>p.1 * 64 + p.2)[i]'(by refine aa (List.length_map ..) ?_; exact hi) = (ab.map fun p=>p.1 * 64 + p.2)[j]'(by refine aa (List.length_map ..) ?_; exact hj):=by
     have a1 : ab[i] = p:=Option.some.inj ((List.getElem?_eq_getElem hi).symm.trans e2)
     have a2 : ab[j] = p':=Option.some.inj ((List.getElem?_eq_getElem hj).symm.trans e2')
     simp only [List.getElem_map,a1,a2]
     exact e
    rcases Nat.lt_or_gt_of_ne hij with q | q
    ·exact List.pairwise_iff_getElem.mp hn i j _ _ q h3
    ·exact List.pairwise_iff_getElem.mp hn j i _ _ q h3.symm
   refine kat_cons (wpAny_eqBool_int ?_)
   by_cases h4 : p.1 = p'.1
   ·have : (p.1 == p'.1) = true:=by simpa using h4
    refine aa (this ..) ?_
    refine kat_yes (kat_cons (wpAny_eqBool_int ?_))
    have h5 : (p.2 == p'.2) = false:=by
     refine aa (propext (beq_eq_false_iff_ne ..)) ?_
     intro h5; rw [h4,h5] at hne; exact hne rfl
    refine aa (h5 ..) ?_
    refine kat_no ?_
    show wpAny _ _ (oneLt' (true && (1 == 0)) _ _) _ _ _
    refine kat_one _ _ (P.lt_int ?_)
    show C (decide (p.2 < p'.2)) s1
    have : decide (p.1 * 64 + p.2 < p'.1 * 64 + p'.2) = decide (p.2 < p'.2):=decide_eq_decide.mpr (by refine aa (h4 ..) ?_; exact AA)
    refine aa (Eq.symm (this ..)) ?_; exact hC
   ·have : (p.1 == p'.1) = false:=by simpa using h4
    refine aa (this ..) ?_
    refine kat_no (oneLt_int ?_)
    have : decide (p.1 * 64 + p.2 < p'.1 * 64 + p'.2) = decide (p.1 < p'.1):=decide_eq_decide.mpr (by exact Br l1 l2 l1' l2' h4)
    refine aa (Eq.symm (this ..)) ?_; exact hC
 ·refine ⟨_,hR.alloc (o':=.list (p.map fun i=>(ts.map AV.ref).getD i .none)) hd hk ⟨out,e,g2,?_⟩,q d p (hR.none_of_get hd) hp1 hp2⟩
  refine aa (hp3 ..) (aa (List.map_map ..) ?_)
  refine List.map_congr_left fun i hi=>?_
  have hi':=List.mem_range.mp (hp1.mem_iff.mp hi)
  refine bc fun GG=>?_
  obtain ⟨t,p',e1,e2,e3,e4⟩:=hgd i hi'
  refine GG ?_
  show av (i1.toList.getD i Value.none) = _
  refine aa (e3 ..) (aa (List.getD_eq_getElem?_getD) (aa (List.getElem?_map) (aa (e1 ..) ?_)))
  rfl
end
end
section
section
variable {prog : Program} {w : World} {A : Around} {E : Value->Shared->Prop} {s : Shared}
theorem pv (A : Around) : A.in1.units<=A.units + 5:=by show A.units + _<=_; exact zB
theorem mn {R : Result->Shared->Prop} {h0 : Heap} {I S l : Addr} {vs : Array Value} {cs : List Int} (hlen : vs.size = cs.length) (hh : A.handled = none) (hI0 : h0.get? I = none) (hS0 : h0.get? S = none) (hSI : S≠I) (hl : h0.IsList l vs)
  (hcmp : ∀ (A' : Around) (E' : Value->Shared->Prop) (st : Shared) (Q : Value->Shared->Prop) i j,A'.units<=A.units + 5->iI h0 st.heap->i < cs.length->j < cs.length->Q (.bool (decide (cs.getD i 0 > cs.getD j 0))) st->wpAny (model prog w) A' (richCompare .Gt (vs.getD i .none) (vs.getD j .none)) Q E' st) :
  ∀ (k j b : Nat) (s : Shared) (c : Nat),cs.length - (j + 1) = k->j + 1<=cs.length->iI h0 s.heap->s.heap.IsListIter I l (j + 1)->b < cs.length->(∀ i,i<=j->cs.getD i 0<=cs.getD b 0)->
  s.heap.get? S = some { cls:=.type "list",dict:=none,data:=.seq #[vs.getD b .none,vs.getD b .none] c,slots:=#[] }->
  (∀ b h' tk,b < cs.length->(∀ i,i < cs.length->cs.getD i 0<=cs.getD b 0)->iI h0 h'->R (.ok (.ret (vs.getD b .none))) { s with heap:=h',toks:=tk })->codeAny (model prog w) A (.builtin "max.loop" ⟨[.ref I,.none,.ref S],[]⟩) R s:=by
 have hname : (toString "max" ++ toString ".loop" : String) = "max.loop":=by decide
 have hne : ∀ b o,h0.get? b = some o->b≠I/\b≠S:=fun b o e=>⟨(fun q=>by rw [q,hI0] at e; exact ns e),(fun q=>by rw [q,hS0] at e; exact ns e)⟩
 intro k
 induction k with
 | zero=>
  intro j b s c hk hj hkeep hit hb hmax hS hR
  have hin : j + 1 = cs.length:=by exact xK hj hk
  have hl1 : s.heap.IsList l vs:=let ⟨o,ho,r⟩:=hl; ⟨o,hkeep _ _ ho,r⟩
  refine codeAny_builtin F.entry_max_loop ?_
  refine aa (Around.under_plainId F.plain_max_loop _) ?_
  show wpAny _ A.in1 (seqItems? (.ref S) >>=_) _ _ s
  refine wpAny_bind (wpAny_seqItems hS rfl ?_)
  show wpAny _ A.in1 (tryCatch (pyNext (.ref I)) _ >>=_) _ _ s
  refine wpAny_bind (wpAny_tryCatch (wpAny_pyNext_list_end (by simpa using hh) hit hl1 (by simp; exact B1 hin hlen) fun h' he'=>?_))
  have hS':=he' S _ hSI hS
  show wpAny _ A.in1 (updateSeq S (fun _=>#[]) >>=_) _ _ _
  refine wpAny_bind ?_
  refine wpAny_updateSeq hS' rfl (wpAny_bind (wpAny_letGo (wpAny_pure ?_)))
  refine hR b _ s.toks hb (fun i hi=>hmax i (by exact CP hin hi)) fun b' o e=>?_
  refine aa (Heap.get?_update_other _ _ (Ne.symm (hne b' o e).2)) ?_
  exact he' b' o (hne b' o e).1 (hkeep b' o e)
 | succ k ih=>
  intro j b s c hk hj hkeep hit hb hmax hS hR
  have hlt : j + 1 < cs.length:=by exact yA hk
  have hl1 : s.heap.IsList l vs:=let ⟨o,ho,r⟩:=hl; ⟨o,hkeep _ _ ho,r⟩
  refine codeAny_builtin F.entry_max_loop ?_
  refine aa (Around.under_plainId F.plain_max_loop _) ?_
  show wpAny _ A.in1 (seqItems? (.ref S) >>=_) _ _ s
  refine wpAny_bind (wpAny_seqItems hS rfl ?_)
  show wpAny _ A.in1 (tryCatch (pyNext (.ref I)) _ >>=_) _ _ s
  refine wpAny_bind (wpAny_tryCatch (wpAny_pyNext_list_item hit hl1 (x:=vs.getD (j + 1) .none) (by simp [Array.getD,hlen,hlt]) fun h1 hit1 hs1=>?_))
  have hS':=hs1.extBut S _ hSI hS
  have hk1 : iI h0 h1:=fun b' o e=>hs1.extBut b' o (hne b' o e).1 (hkeep b' o e)
  show wpAny _ A.in1 (tryCatch (holding [vs.getD (j + 1) .none,vs.getD (j + 1) .none] (richCompare .Gt (vs.getD (j + 1) .none) (vs.getD b .none) >>=_)) _ >>=_) _ _ _
  refine wpAny_bind (wpAny_tryCatch (wpAny_holding (wpAny_bind (hcmp _ _ { s with heap:=h1 } _ (j + 1) b (pv A) hk1 hlt hb ?_))))
  refine wpAny_bind (wpAny_holding (wpAny_truthy_bool ?_))
  refine wpAny_bind (wpAny_letGo (wpAny_pure ?_))
  cases hbt : decide (cs.getD (j + 1) 0 > cs.getD b 0) with
  | true=>
   have hgt:=of_decide_eq_true hbt
   refine wpAny_bind ?_
   refine wpAny_updateSeq hS' rfl (wpAny_bind (wpAny_letGo ?_))
   refine aa (hname ..) ?_
   refine wpAny_pure ⟨plainId_quiet F.plain_max_loop _,ih (j + 1) (j + 1) _ _ (by exact sW hk) hlt (fun b' o e=>?_) ?_ hlt (fun i hi=>?_) (Heap.get?_update_self _ hS' rfl) fun b' h' tk q1 q2 q3=>hR b' h' tk q1 q2 q3⟩
   ·rw [Heap.get?_update_other _ _ (Ne.symm (hne b' o e).2)]; exact hk1 b' o e
   ·obtain ⟨o,g,r⟩:=hit1
    exact ⟨o,(Heap.get?_update_other _ _ hSI).trans g,r⟩
   ·rcases Nat.lt_or_ge i (j + 1) with q | q
    ·exact Int.le_trans (hmax i (by exact sF q)) (Int.le_of_lt hgt)
    ·have : i = j + 1:=by exact sr hi q
     clear hi q; subst this; exact Int.le_refl _
  | false=>
   have hgt:=of_decide_eq_false hbt
   refine wpAny_bind (wpAny_letGo ?_)
   refine aa (hname ..) ?_
   refine wpAny_pure ⟨plainId_quiet F.plain_max_loop _,ih (j + 1) b _ c (by exact sW hk) hlt hk1 hit1 hb (fun i hi=>?_) hS' fun b' h' tk q1 q2 q3=>hR b' h' tk q1 q2 q3⟩
   rcases Nat.lt_or_ge i (j + 1) with q | q
   ·exact hmax i (by exact sF q)
   ·have : i = j + 1:=by exact sr hi q
    clear hi q; subst this; exact w7 hgt
theorem xW {l : Addr} {vs : Array Value} {cs : List Int} {Q : Value->Shared->Prop} (hlen : vs.size = cs.length) (hh : A.handled = none) (hl : s.heap.IsList l vs) (hpos : 0 < cs.length)
  (hcmp : ∀ (A' : Around) (E' : Value->Shared->Prop) (st : Shared) (Q : Value->Shared->Prop) i j,A'.units<=A.units + 5->iI s.heap st.heap->i < cs.length->j < cs.length->Q (.bool (decide (cs.getD i 0 > cs.getD j 0))) st->wpAny (model prog w) A' (richCompare .Gt (vs.getD i .none) (vs.getD j .none)) Q E' st)
  (hQ : ∀ b h' tk,b < cs.length->(∀ i,i < cs.length->cs.getD i 0<=cs.getD b 0)->iI s.heap h'->Q (vs.getD b .none) { s with heap:=h',toks:=tk }) :
  wpAny (model prog w) A (call (.builtin "max") [.ref l]) Q E s:=by
 have hname : (toString "max" ++ toString ".loop" : String) = "max.loop":=by decide
 refine call_function_tree F.kind_max F.plain_max F.entry_max (F.args_max1 _) ?_
 show wpAny _ A.in1 (Builtin.Builtins.bindParams "max" ["key","default"] 0 ⟨[],[]⟩ >>=_) _ _ s
 refine wpAny_bind (wpAny_of_eq (show Builtin.Builtins.bindParams "max" ["key","default"] 0 ⟨[],[]⟩ = pure [none,none] from rfl) ?_)
 refine wpAny_bind (wpAny_pure ?_)
 refine wpAny_bind (wpAny_pyIter_list hl ?_)
 refine wpAny_bind (wpAny_newObj_type ?_)
 refine aa (hname ..) ?_
 have hsz : (s.heap.push { cls:=.type "list_iterator",data:=.fields #[.ref l,.int 0 0] }).objs.size = s.heap.objs.size + 1:=Heap.size_push ..
 have hI0 : s.heap.get? s.heap.objs.size = none:=Heap.get?_none_of_le (Nat.le_refl _)
 have hS0 : s.heap.get? (s.heap.push { cls:=.type "list_iterator",data:=.fields #[.ref l,.int 0 0] }).objs.size = none:=by refine aa (hsz ..) ?_; exact Heap.get?_none_of_le (Nat.le_succ _)
 have hSI : (s.heap.push { cls:=.type "list_iterator",data:=.fields #[.ref l,.int 0 0] }).objs.size≠s.heap.objs.size:=by refine aa (hsz ..) ?_; exact xP
 refine wpAny_pure ⟨plainId_quiet F.plain_max_loop _,codeAny_builtin F.entry_max_loop ?_⟩
 refine aa (Around.under_plainId F.plain_max_loop _) ?_
 have hSg : ((s.heap.push { cls:=.type "list_iterator",data:=.fields #[.ref l,.int 0 0] }).push { cls:=.type "list",data:=.seq ([] : List Value).toArray }).get? (s.heap.push { cls:=.type "list_iterator",data:=.fields #[.ref l,.int 0 0] }).objs.size = some { cls:=.type "list",data:=.seq ([] : List Value).toArray }:=Heap.get?_push_size _ rfl
 show wpAny _ A.in1 (seqItems? (.ref _) >>=_) _ _ _
 refine wpAny_bind (wpAny_seqItems hSg rfl ?_)
 show wpAny _ A.in1 (tryCatch (pyNext (.ref s.heap.objs.size)) _ >>=_) _ _ _
 refine wpAny_bind (wpAny_tryCatch (wpAny_pyNext_list_item (l:=l) (i:=0) (items:=vs) ⟨_,Heap.get?_push_of_some _ (Heap.get?_push_size _ rfl),rfl,rfl⟩ ((hl.push _).push _) (x:=vs.getD 0 .none) (by simp [Array.getD,hlen,hpos]) fun h1 hit1 hs1=>?_))
 have hS':=hs1.extBut _ _ hSI hSg
 show wpAny _ A.in1 (updateSeq _ (fun _=>#[vs.getD 0 .none,vs.getD 0 .none]) >>=_) _ _ _
 refine wpAny_bind ?_
 refine wpAny_updateSeq hS' rfl ?_
 refine aa (hname ..) ?_
 have hk1 : iI s.heap h1:=fun b o e=>hs1.extBut b o (fun q=>by rw [q,hI0] at e; exact ns e) (Heap.get?_push_of_some _ (Heap.get?_push_of_some _ e))
 refine wpAny_pure ⟨plainId_quiet F.plain_max_loop _,mn (h0:=s.heap) (cs:=cs) hlen hh hI0 hS0 hSI hl hcmp (cs.length - 1) 0 0 _ _ rfl hpos (fun b o e=>?_) ?_ hpos (fun i hi=>?_) (Heap.get?_update_self _ hS' rfl) fun b h' tk q1 q2 q3=>hQ b h' tk q1 q2 q3⟩
 ·rw [Heap.get?_update_other _ _ (fun q=>by rw [<-q,hS0] at e; exact ns e)]; exact hk1 b o e
 ·refine bc fun GG=>?_
  obtain ⟨o,g,r⟩:=hit1
  refine GG ?_
  exact ⟨o,(Heap.get?_update_other _ _ hSI).trans g,r⟩
 ·have : i = 0:=by exact zO hi
  clear hi; subst this; exact Int.le_refl _
end
end
section
section
variable {prog : Program} {w : World} {A : Around} {E : Value->Shared->Prop} {s : Shared}
theorem uY {x y : Addr} {a b a' b' : Int} {u v u' v' : Tok} {n n' : Nat} {Q : Value->Shared->Prop} (hu : A.units + 30 < cLine)
  (hx : s.heap.get? x = some { cls:=.type "tuple",dict:=none,data:=.seq #[.int a u,.int b v] n,slots:=#[] })
  (hy : s.heap.get? y = some { cls:=.type "tuple",dict:=none,data:=.seq #[.int a' u',.int b' v'] n',slots:=#[] })
  (h : Q (.bool (if a == a' then (if b == b' then false else decide (b > b')) else decide (a > a'))) s) : wpAny (model prog w) A (richCompare .Gt (.ref x) (.ref y)) Q E s:=by
 have hX : s.TypeIs (.ref x) "tuple":=⟨_,hx,rfl⟩
 have hY : s.TypeIs (.ref y) "tuple":=⟨_,hy,rfl⟩
 refine wpAny_richCompare_same_room (op:=.Gt) hX hY PySem.F.slot_tuple_gt (wpAny_call_entry PySem.F.slot_tuple_gt hX PySem.F.entry_tuple_gt ?_ (PySem.F.args_tuple_gt_2 _ _)) (by exact xS hu)
 unfold Builtin.«tuple.__gt__»
 wp_delta
 refine wpAny_bind (m:=slotArgs _ _ _) (wpAny_of_eq (a:=(.ref x,[.ref y])) rfl ?_)
 dsimp only
 have hsub : isSubtype (.type "tuple") (.type "tuple") = pure true:=by rw [isSubtype_type]; kernel_rfl
 refine wpAny_bind (wpAny_isInstance hY hsub ?_)
 refine wpAny_bind (wpAny_tupleItemsOf hx rfl ?_)
 refine wpAny_bind (wpAny_tupleItemsOf hy rfl ?_)
 show wpAny _ _ (forIn [(Value.int a u,Value.int a' u'),(Value.int b v,Value.int b' v')] _ _ >>=_) _ _ _
 refine aa (List.forIn_cons ..) ?_
 refine wpAny_bind (wpAny_bind (wpAny_bind (wpAny_eqBool_int ?_)))
 cases h1 : a == a' with
 | false=>
  rw [h1] at h
  simp only [Bool.false_eq_true,if_false] at h
  refine wpAny_bind (wpAny_rule ?_)
  refine wpAny_bind (P.gt_int ?_)
  exact wpAny_bind (wpAny_pure (wpAny_pure (wpAny_pure (wpAny_pure ⟨_,rfl,by exact not_eq_of_beq_eq_false rfl,h⟩))))
 | true=>
  rw [h1] at h
  simp only [if_true] at h
  refine wpAny_pure ?_
  dsimp only
  refine eF (List.forIn_cons ..) ?_
  refine wpAny_bind (wpAny_bind (wpAny_eqBool_int ?_))
  cases h2 : b == b' with
  | false=>
   rw [h2] at h
   simp only [Bool.false_eq_true,if_false] at h
   refine wpAny_bind (wpAny_rule ?_)
   refine wpAny_bind (P.gt_int ?_)
   exact wpAny_bind (wpAny_pure (wpAny_pure (wpAny_pure (wpAny_pure ⟨_,rfl,by exact not_eq_of_beq_eq_false rfl,h⟩))))
  | true=>
   rw [h2] at h
   simp only [if_true] at h
   refine wpAny_pure ?_
   dsimp only
   refine eF List.forIn_nil ?_
   exact wpAny_pure (wpAny_pure ⟨_,rfl,by exact not_eq_of_beq_eq_false rfl,h⟩)
end
section
variable {c : Cx} {k : Nat} {sc : Scope} {m : aS} {H : ag} {Q : AV->ag->Prop} {QB : Bool->ag->Prop} {QS : Fl->aS->ag->Prop}
theorem jc {l : Addr} {ts : List Addr} {ab : List (Int × Int)} (ha : H l = some (.list (ts.map .ref))) (hl : ts.length = ab.length) (hpos : 0 < ab.length)
  (ht : ∀ (i : Nat) (t : Addr) (p : Int × Int),ts[i]? = some t->ab[i]? = some p->H t = some (.tuple [.int p.1,.int p.2])/\0<=p.2/\p.2 < 64)
  (q : ∀ (b : Nat) (t : Addr) (p : Int × Int),ts[b]? = some t->ab[b]? = some p->(∀ (i : Nat) (p' : Int × Int),ab[i]? = some p'->p'.1 * 64 + p'.2<=p.1 * 64 + p.2)->Q (.ref t) H) : bF c k (.builtin "max") [.ref l] H Q:=by
 intro vals hv A g s hA hR
 refine bc fun GG=>?_
 obtain ⟨u,rfl,h1⟩:=eE hv
 have:=aB h1; clear h1 hv; subst this
 obtain ⟨i1,n1,g1,m1⟩:=hR.isList ha
 refine GG ?_
 have hm:=ou m1
 have hlen : i1.size = ab.length:=by exact aa (Eq.symm (Array.length_toList ..)) (aa (hm ..) (aa (List.length_map ..) (aa (hl ..) rfl)))
 have hcs : ∀ i (hi : i < ab.length),(ab.map fun p=>p.1 * 64 + p.2).getD i 0 = ab[i].1 * 64 + ab[i].2:=fun i hi=>by
  refine aa (List.getD_eq_getElem?_getD) (aa (List.getElem?_map) (aa (List.getElem?_eq_getElem hi) ?_)); rfl
 have hvs : ∀ i (hi : i < ab.length),i1.getD i .none = .ref (ts[i]'(by exact aU hi hl)):=fun i hi=>by
  refine aa (Array.getD_eq_getD_getElem?) (aa (Eq.symm (Array.getElem?_toList)) (aa (hm ..) (aa (List.getElem?_map) (aa (List.getElem?_eq_getElem (by exact aU hi hl)) ?_)))); rfl
 have hcl : (ab.map fun p=>p.1 * 64 + p.2).length = ab.length:=List.length_map _
 refine xW (cs:=ab.map fun p=>p.1 * 64 + p.2) (by refine aa (hcl ..) ?_; exact hlen) hA.hd g1.isList (by refine aa (hcl ..) ?_; exact hpos) (fun A' E' st Q' i j hu hk hi hj hq=>?_) fun b h' tk hb hmax hk=>?_
 ·rw [hcl] at hi hj
  refine aa (hvs i hi) (aa (hvs j hj) ?_)
  rw [hcs i hi,hcs j hj] at hq
  refine bc fun GG=>?_
  obtain ⟨Ti,l1,l2⟩:=ht i _ _ (List.getElem?_eq_getElem (by exact aU hi hl)) (List.getElem?_eq_getElem hi)
  obtain ⟨Tj,l1',l2'⟩:=ht j _ _ (List.getElem?_eq_getElem (by exact aU hj hl)) (List.getElem?_eq_getElem hj)
  have fin : ∀ {t : Addr} {x y : Int},H t = some (.tuple [.int x,.int y])->∃ u v n,st.heap.get? t = some { cls:=.type "tuple",dict:=none,data:=.seq #[.int x u,.int y v] n,slots:=#[] }:=fun {t x y} hT=>by
   obtain ⟨items,n,g1,m1⟩:=hR.rep _ _ hT
   obtain ⟨p,q,e,h1,h2⟩:=gz m1
   obtain ⟨u,rfl⟩:=aF h1
   obtain ⟨v,rfl⟩:=aF h2
   exact ⟨u,v,n,hk _ _ (by exact aa (g1 ..) (aa (Eq.symm (Array.toArray_toList (xs:=items))) (aa (e ..) rfl)))⟩
  obtain ⟨u,v,n,gi⟩:=fin Ti
  obtain ⟨u',v',n',gj⟩:=fin Tj
  refine GG ?_
  refine uY (by have:=hA.un; exact Bx this hu) gi gj ?_
  have : (if (ab[i].1 == ab[j].1) = true then (if (ab[i].2 == ab[j].2) = true then false else decide (ab[i].2 > ab[j].2)) else decide (ab[i].1 > ab[j].1)) = decide (ab[i].1 * 64 + ab[i].2 > ab[j].1 * 64 + ab[j].2):=by
   by_cases e1 : ab[i].1 = ab[j].1
   ·by_cases e2 : ab[i].2 = ab[j].2
    ·simp [e1,e2]
    ·refine aa (if_pos (by simpa using e1)) (aa (if_neg (by simpa using e2)) ?_)
     exact decide_eq_decide.mpr (by exact A1 e1)
   ·refine aa (if_neg (by simpa using e1)) ?_
    exact decide_eq_decide.mpr (by exact wZ l1 l2 l1' l2' e1)
  refine aa (this ..) ?_; exact hq
 ·rw [hcl] at hb
  refine aa (hvs b hb) ?_
  refine ⟨H,hR.grow hk,q b _ _ (List.getElem?_eq_getElem (by exact aU hb hl)) (List.getElem?_eq_getElem hb) fun i p' hp=>?_⟩
  have hi : i < ab.length:=by
   refine Classical.byContradiction fun hn=>?_
   rw [List.getElem?_eq_none (by exact iB hn)] at hp; exact ns hp
  have:=hmax i (by refine aa (hcl ..) ?_; exact hi)
  rw [hcs i hi,hcs b hb] at this
  rw [List.getElem?_eq_getElem hi] at hp
  cases hp
  exact this
end
end
section
section
variable {c : Cx} {k : Nat} {sc : Scope} {m : aS} {H : ag} {Q : Fl->aS->ag->Prop}
theorem aT.drop {g : aZ} {s : Shared} {a : Addr} {o : AO} (R : aT c g (an H a o) s) (ha : H a = none) : aT c g H s:=
 ⟨R.base,R.keep,fun b ob e=>R.rep b ob (by refine aa (aj (fun q=>by rw [q,ha] at e; exact ns e)) ?_; exact e),fun b ob e=>R.apart b ob (by refine aa (aj (fun q=>by rw [q,ha] at e; exact ns e)) ?_; exact e),R.gens,R.os⟩
theorem cM.drop {env : Env} {g : aZ} {s : Shared} {a : Addr} {o : AO} (F : cM c env sc m g (an H a o) s) (ha : H a = none) : cM c env sc m g H s:=by
 have key : ∀ b,an H a o b = none->H b = none:=fun b e=>by
  by_cases q : b = a
  ·refine aa (q ..) ?_; exact ha
  ·rwa [aj q] at e
 exact ⟨F.fr,F.gL,key _ F.HL,fun n b hn=>let ⟨h1,h2,r⟩:=F.cl n b hn; ⟨h1,key _ h2,r⟩,F.ap⟩
def kE (c : Cx) (k : Nat) (sc : Scope) (x y : Str) (body : List Stmt) (stay : ag->Prop) : Nat->List AV->aS->ag->(Fl->aS->ag->Prop)->Prop
 | _,[],m,H,Q=>Q .next m H
 | i,v :: vs,m,H,Q=>WS c k sc (execs body) (put (put m x (.int i)) y v) H fun f m2 H2=>match f with
   | .next | .cont=>stay H2/\kE c k sc x y body stay (i + 1) vs m2 H2 Q
   | .brk=>Q .next m2 H2
   | .ret v=>Q (.ret v) m2 H2
structure mi (H₀ : ag) (l e it : Addr) (h : Heap) (i : Nat) (xs : List AV) : Prop where
 en : ∃ old,IsEnum h e it (i : Int) old
 itr : h.IsListIter it l i
 li : ∃ full,H₀ l = some (.list full)/\xs = full.drop i
 ne : e≠it
theorem mi.at {H₀ : ag} {l e it : Addr} {h h' : Heap} {i : Nat} {xs : List AV} (x : mi H₀ l e it h i xs) (he : ∀ o,h.get? e = some o->h'.get? e = some o) (hi : ∀ o,h.get? it = some o->h'.get? it = some o) : mi H₀ l e it h' i xs:=
 ⟨x.en.imp fun _ y=>he _ y,x.itr.imp fun _ y=>⟨hi _ y.1,y.2⟩,x.li,x.ne⟩
inductive tv (c : Cx) (k : Nat) (sc : Scope) (env : Env) (g : aZ) (x y : Str) (body : List Stmt) (l e it : Addr) (H₀ : ag) (Q : Fl->aS->ag->Prop) (n : Nat) (s : Shared) : Prop
 | mk (i : Nat) (xs : List AV) (m : aS) (H : ag) (hn : n = xs.length) (F : cM c env sc m g H s) (R : aT c g H s) (I : mi H₀ l e it s.heap i xs) (st : H l = H₀ l) (oe : H e = none) (oi : H it = none) (h : kE c k sc x y body (fun H'=>H' l = H₀ l) i xs m H Q)
theorem o0 {A : Around} {env : Env} {g : aZ} {s : Shared} {l e it : Addr} {i : Nat} {v : AV} {xs : List AV} {H₀ : ag} {P : Option Value->Shared->Prop} {PU : Addr->Unit->Shared->Prop} {elts : List Expr} {pt : Pos} {tn : Nat} (We : cq env g H e) (Wi : cq env g H it) (F : cM c env sc m g H s) (R : aT c g H s)
  (hI : mi H₀ l e it s.heap i (v :: xs)) (hst : H l = H₀ l) (hP : ∀ a s1,wpAny (model c.prog c.w) A (letOwnedTupleGo (.Tuple elts tn pt) (.ref e) (.ref a)) (PU a) F0 s1->P (some (.ref a)) s1)
  (h : ∀ a s1,H a = none->cM c env sc m g (an H a (.tuple [.int i,v])) s1->aT c g (an H a (.tuple [.int i,v])) s1->mi H₀ l e it s1.heap (i + 1) xs->e≠a->it≠a->PU a () s1) : wpAny (model c.prog c.w) A (pyNext (.ref e)) P F0 s:=by
 obtain ⟨⟨old,hen⟩,hit,⟨full,hfull,hxs⟩,hne⟩:=hI
 obtain ⟨items,nn,hil,hm⟩:=R.isList (hst.trans hfull)
 have hv : full[i]? = some v:=by refine aa (Eq.symm (Nat.add_zero i)) (aa (Eq.symm (List.getElem?_drop)) (aa (Eq.symm (hxs ..)) ?_)); rfl
 obtain ⟨u,hu,hv⟩:=Option.map_eq_some_iff.mp ((by rw [<-hm,List.getElem?_map] at hv; exact hv) : (items.toList[i]?).map av = some v)
 refine wpAny_pyNext_enum_item hen hit hil.isList ((Array.getElem?_toList ..).symm.trans hu) hne fun h1 heo hit1 htup _ hk1=>hP _ _ (wpAny_letOwnedTupleGo_enum (s:={ s with heap:=h1,toks:=_ }) heo fun h2 hen2 hs2=>?_)
 have old : ∀ b o,s.heap.get? b = some o->b≠s.heap.objs.size:=fun b o z=>Nat.ne_of_lt (Heap.lt_size z)
 have X:=cq.step (D:=fun b=>b = e\/b = it) (tk:=s.toks + 1) (fun b d=>d.elim (fun q=>q▸We) fun q=>q▸Wi) F R (h':=h2) fun b o q z=>(hs2.2 b fun w=>q (.inl w)).trans (hk1 b o (fun w=>q (.inl w)) (fun w=>q (.inr w)) z)
 have Wa:=cq.new F R (Heap.get?_none_of_le (Nat.le_refl _))
 exact h _ _ Wa.N (X.1.updH Wa.L Wa.C) (X.2.adopt Wa.G ⟨_,_,(hs2.2 _ (Ne.symm (old _ _ hen))).trans htup,hv▸rfl⟩) ⟨⟨_,hen2⟩,hit1.imp fun o z=>⟨(hs2.2 it (Ne.symm hne)).trans z.1,z.2⟩,⟨full,hfull,(congrArg List.tail hxs).trans (List.tail_drop ..)⟩,hne⟩ (old _ _ hen) (hit.elim fun o z=>old _ _ z.1)
theorem pU {x y : Str} {px py pt : Pos} {tn : Nat} {body : List Stmt} {l e it : Addr} {H₀ : ag} {A : Around} {env : Env} {g : aZ} {s : Shared} {i : Nat} {xs : List AV} {R' : Result->Shared->Prop} (hx : a0 sc x = true) (hy : a0 sc y = true)
  (hA : Rm k A) (hsc : env.scope = sc) (hF : cM c env sc m g H s) (hR : aT c g H s)
  (hI : mi H₀ l e it s.heap i xs) (hst : H l = H₀ l) (We : cq env g H e) (Wi : cq env g H it)
  (h : kE c k sc x y body (fun H'=>H' l = H₀ l) i xs m H Q) (hR' : ∀ f s',rA c env sc g Q f s'->R' (.ok f) s') :
  codeAny (model c.prog c.w) A (.forLoop (.Tuple [.Name x px,.Name y py] tn pt) (.ref e) body [] env) R' s:=by
 refine codeAny_forLoop_any (tv c k sc env g x y body l e it H₀ Q) (fun n s J=>?_) xs.length ⟨i,xs,m,H,rfl,hF,hR,hI,hst,We.N,Wi.N,h⟩
 obtain ⟨i,xs,m,H,rfl,hF,hR,hI,hst,oe,oi,h⟩:=J
 have We : cq env g H e:=⟨We.L,We.C,We.G,oe⟩
 have Wi : cq env g H it:=⟨Wi.L,Wi.C,Wi.G,oi⟩
 cases xs with
 | nil=>
  obtain ⟨⟨old,hen⟩,hit,⟨full,hfull,hxs⟩,hne⟩:=hI
  obtain ⟨items,nn,hil,hm⟩:=hR.isList (hst.trans hfull)
  have hl : items.size<=i:=by rw [<-Array.length_toList,<-List.length_map,hm]; exact List.drop_eq_nil_iff.mp hxs.symm
  refine f0 (wpAny_pyNext_enum_end hA.hd hen hit hil.isList (Array.getElem?_eq_none hl) fun h' he=>?_)
  have X:=Wi.step1 (tk:=s.toks) hF hR he
  exact wpAny_execs_nil (hR' .next _ ⟨m,H,X.1,X.2,h⟩)
 | cons v vs=>
  refine f0 (o0 We Wi hF hR hI hst (fun a s1 z=>f0 z) fun a s1 ha F R hI' ea ia=>f0 (aY (?_ : wpAny (model c.prog c.w) A (assign (.Tuple [.Name x px,.Name y py] tn pt) env (.ref a)) (ug c env sc (dN env sc (an H a (.tuple [.int i,v])) s1) fun m1 H1=>m1 = put (put m x (.int i)) y v/\H1 = an H a (.tuple [.int i,v])) F0 s1) fun _ s2 J=>?_))
  ·exact mO (fun _=>rfl) rfl (ad _ _ _) (by exact ek hx (by exact ek hy ⟨rfl,rfl⟩)) (.ref a) rfl A env _ s1 hA F.restFr (F.restRel R)
  obtain ⟨m1,H1,F1,R1,rfl,rfl⟩:=J
  have mg:=F.le_restF R
  have We' : cq env g (an H a (.tuple [.int i,v])) e:=⟨We.L,We.C,We.G,(aj ea).trans oe⟩
  have Wi' : cq env g (an H a (.tuple [.int i,v])) it:=⟨Wi.L,Wi.C,Wi.G,(aj ia).trans oi⟩
  refine f0 (aY (h A env _ s2 hA hsc (F1.drop ha) (R1.drop ha)) fun f s3 J=>?_)
  obtain ⟨m2,H2,F2,R2,q2⟩:=J
  have F3:=F2.mono_g mg
  have R3:=R2.mono hR.base mg
  have go : (H2 l = H₀ l/\kE c k sc x y body (fun H'=>H' l = H₀ l) (i + 1) vs m2 H2 Q)->∃ n',n' < vs.length + 1/\tv c k sc env g x y body l e it H₀ Q n' s3:=
   fun q=>⟨vs.length,Nat.lt_succ_self _,i + 1,vs,m2,H2,rfl,F3,R3,hI'.at (fun o z=>R2.keep _ _ (We'.kept z)) (fun o z=>R2.keep _ _ (Wi'.kept z)),q.1,hI'.en.elim fun _ z=>R2.none_of_g (We'.kept z),hI'.itr.elim fun _ z=>R2.none_of_g (Wi'.kept z.1),q.2⟩
  cases f with
  | next=>exact go q2
  | cont=>exact go q2
  | brk=>exact hR' .next _ ⟨m2,H2,F3,R3,q2⟩
  | ret v=>exact hR' (.ret v) _ ⟨m2,H2,F3,R3,q2⟩
theorem kx {f x y : Str} {fp px py pt pos cp : Pos} {tn : Nat} {e1 : Expr} {body : List Stmt} {l : Addr} {xs : List AV} (hx : a0 sc x = true) (hy : a0 sc y = true)
  (hf : sc.names.lookup f = some .globalImplicit) (hd : (f == ("__debug__" : Str)) = false) (hn : f≠"__name__") (hk : nsIn c.K mainGlobals f = some none) (hb : bootBuiltins f = some (.type "enumerate")) (hst : cH [e1])
  (he : WE c k sc e1 m H fun v H1=>v = .ref l/\H1 l = some (.list xs)/\kE c k sc x y body (fun H'=>H' l = H1 l) 0 xs m H1 Q)
  (hs : ∀ env x,foldedSetIterable (.Call (.Name f fp) [e1] [] cp) env x = pure x) : WS c k sc (exec (.For (.Tuple [.Name x px,.Name y py] tn pt) (.Call (.Name f fp) [e1] [] cp) body [] pos)) m H Q:=by
 intro A env g s hA hsc hF hR
 refine wpAny_For ?_ (hs env)
 refine eF (cD ..) ?_
 refine wpAny_bind (oE hF.toRest hR.toRest hf hd hn hk hb ?_)
 have hWE : f9 c k sc [e1] m H fun vs H1=>vs = [.ref l]/\H1 l = some (.list xs)/\kE c k sc x y body (fun H'=>H' l = H1 l) 0 xs m H1 Q:=
  he.mono fun v H1 ⟨h1,h2⟩=>⟨by exact aa (h1 ..) rfl,h2⟩
 refine fL rfl (fV hst) (cx hA hF.toRest [e1] hst hR.toRest hWE fun vs s1 H1 R1 q1=>?_)
 refine bc fun GG=>?_
 obtain ⟨q1,q2,q3⟩:=q1
 obtain ⟨u,rfl,h1⟩:=eE q1
 have:=aB h1; clear h1 q1; subst this
 obtain ⟨items,nn,hil,hm⟩:=R1.isList q2
 refine GG ?_
 have F1:=hF.behind R1
 have R1:=hR.back R1
 refine call_enumerate_list hil.isList fun h' hen hit hsz hkp=>?_
 refine wpAny_pyIter_enum hen ?_
 exact pU (H₀:=H1) hx hy hA hsc (F1.other (tk:=s1.toks) (fun o z=>hkp _ _ z) fun n a _ o z=>hkp _ _ z) (R1.grow (tk:=s1.toks) hkp) ⟨⟨_,hen⟩,hit,⟨xs,q2,rfl⟩,Nat.ne_of_gt (Nat.lt_succ_self _)⟩ rfl (cq.new F1 R1 (Heap.get?_none_of_le AS)) (cq.new F1 R1 (Heap.get?_none_of_le (Nat.le_refl _))) q3 fun f s' q=>q
end
end
section
section
variable {c : Cx} {k : Nat} {sc : Scope} {m : aS} {H : ag} {QS : Fl->aS->ag->Prop} {Q : AV->ag->Prop}
theorem qL (m : aS) {x y : Str} (u v : AV) (h : x≠y) : put (put m y v) x u = put (put m x u) y v:=by
 funext z
 unfold put
 by_cases h1 : z = x
 ·subst h1; exact aa (if_pos rfl) (aa (if_neg h) (aa (if_pos rfl) rfl))
 ·refine aa (if_neg h1) ?_
  by_cases h2 : z = y
  ·clear h; subst h2; exact aa (if_pos rfl) (aa (if_pos rfl) rfl)
  ·exact aa (if_neg h2) (aa (if_neg h2) (aa (if_neg h1) rfl))
theorem o9 {elts : List Expr} {n : Nat} {tpos pos : Pos} {value : Expr} {x y : Str} (hx : a0 sc x = true) (hy : a0 sc y = true) (hxy : x≠y)
  (hsw : ∀ env,env.scope = sc->swapsWithSole [.Tuple elts n tpos] value pos.line env = pure false) (hss : ∀ env,env.scope = sc->swappedStores [.Tuple elts n tpos] value env = pure (some [x,y]))
  (h : WE c k sc value m H fun v H1=>∃ a u w,v = .ref a/\H1 a = some (.tuple [u,w])/\QS .next (put (put m x u) y w) H1) : WS c k sc (exec (.Assign [.Tuple elts n tpos] value pos)) m H QS:=by
 intro A env g s hA hsc hF hR
 refine Assign_Tuple_swapped (dQ h hA hF hR fun v s1 H1 F1 R1 q1=>?_) (hsw env hsc) (hss env hsc)
 refine bc fun GG=>?_
 obtain ⟨a,u,w,hv,ha,q⟩:=q1
 have:=aB hv; clear hv; subst this
 obtain ⟨items,en,hi,hm⟩:=R1.isTup ha
 obtain ⟨p,r,e,h1,h2⟩:=gz hm
 refine GG ?_
 have hsz : items.size = 2:=by refine aa (Eq.symm (Array.length_toList ..)) (aa (e ..) ?_); rfl
 have e2 : ([x,y] : List Str).length = items.size:=by refine aa (hsz ..) ?_; rfl
 refine aa (e2 ..) ?_
 refine PyProof.Rows.unpackItems_tuple hA.hd ⟨_,hi,rfl,en,rfl⟩ fun h' he=>?_
 have hk : ∀ b o,s1.heap.get? b = some o->h'.get? b = some o:=fun b o e=>he b o (Nat.ne_of_lt (Heap.lt_size e)) e
 refine aa (e ..) ?_
 show wpAny _ _ (do holding [p] (bindName env y r); assignInOrder [fun v=>bindName env x v] [p]) _ _ _
 refine wpAny_bind (wpAny_holding (bindName_ (dY (F1.other (tk:=s1.toks) (fun o z=>hk _ _ z) fun n a _ o z=>hk _ _ z) (R1.grow (tk:=s1.toks) hk) hy fun s2 F2 R2=>?_)))
 show wpAny _ _ (do holding [] (bindName env x p); assignInOrder [] []) _ _ _
 refine wpAny_bind (wpAny_holding (bindName_ (dY F2 R2 hx fun s3 F3 R3=>?_)))
 refine wpAny_pure ⟨_,_,F3,R3,?_⟩
 refine aa (qL m _ _ hxy) (aa (h1 ..) (aa (h2 ..) ?_))
 exact q
theorem j9 {value : Expr} {lower upper step : Option Expr} {p pos : Pos} (hok : ∀ o i,∃ ops,subscripted (.Slice lower upper step p) false o i = operate ops (getItem o i))
  (h : WE c k sc value m H fun o H1=>ee c k sc lower m H1 fun lo H2=>ee c k sc upper m H2 fun hi H3=>ee c k sc step m H3 fun st H4=>
   o = .ref c.ro/\c.roItems.length < 1000000/\st≠some 0/\∀ d,H4 d = none->Q (.ref d) (an H4 d (.list (cC (c.roItems.map av) lo hi st)))) :
  WE c k sc (.Subscript value (.Slice lower upper step p) pos) m H Q:=by
 intro A env g s hA hF hR
 refine PyProof.Rows.Subscript_ (aY (h A env g s hA hF hR) ?_)
 intro o s1 hzz
 refine bc fun GG=>?_
 obtain ⟨H1,R1,q1⟩:=hzz
 refine GG ?_
 refine wpAny_Slice (fm hA hF R1 q1 fun vl lo s2 H2 pl R2 q2=>fm hA hF R2 q2 fun vu hi s3 H3 pu R3 q3=>fm hA hF R3 q3 fun vs st s4 H4 ps R4 q4=>?_)
 refine bc fun GG=>?_
 obtain ⟨ho,hl,h0,q⟩:=q4
 have:=aB ho; clear q1 q2 q3 ho; subst this
 obtain ⟨ob,g1,hcl,n1,hdt⟩:=c.roIs
 have g1:=R4.old _ _ g1
 have R5:=R4.push { cls:=.type "slice",data:=.fields #[vl,vu,vs] }
 have g5 : (s4.heap.push { cls:=.type "slice",data:=.fields #[vl,vu,vs] }).IsList c.ro c.roItems.toArray:=⟨ob,Heap.get?_push_of_some _ g1,hcl,n1,hdt⟩
 obtain ⟨ops,hops⟩:=hok (.ref c.ro) (.ref s4.heap.objs.size)
 refine GG ?_
 refine PyProof.Rows.tail_any (T:="list") ⟨_,Heap.get?_push_of_some _ g1,hcl⟩ slot_list_getitem.lookup (wpAny_getItem_list_slice g5 (Heap.IsSliceOf.new ..) pl pu ps h0 ?_ (by refine aa (sizeLine_eq ..) ?_; simp; exact yd hl)) hops
 have N:=dU (tk:=s4.toks) (vs:=slicePick c.roItems.toArray lo hi st) (xs:=cC (c.roItems.map av) lo hi st) R5 (Heap.get?_none_of_le (Nat.le_refl _)) (fun b o e=>Heap.get?_push_of_some _ e) (IsL.new (s4.heap.push { cls:=.type "slice",data:=.fields #[vl,vu,vs] }) (slicePick c.roItems.toArray lo hi st)) (by
  unfold slicePick cC
  refine aa (List.map_filterMap ..) ?_
  simp only [List.size_toArray,List.length_map]
  congr 1
  funext j
  simp [List.getElem?_map])
 exact ⟨_,N.1,q _ N.2⟩
theorem gG (xs : List AV) (lo hi : Option Int) : cC xs lo hi none = (xs.drop (lo.elim 0 (clipAt xs.length))).take (hi.elim xs.length (clipAt xs.length) - lo.elim 0 (clipAt xs.length)):=by
 unfold cC
 refine aa (sliceBounds_plain ..) ?_
 simp only [sliceRange_one]
 have:=pick_run xs.toArray (lo.elim 0 (clipAt xs.length)) (hi.elim xs.length (clipAt xs.length) - lo.elim 0 (clipAt xs.length))
 simpa using this
theorem jw (n a : Nat) : clipAt n (a : Int) = min a n:=by
 unfold clipAt
 refine aa (if_neg (by exact Aq)) ?_
 exact zE
theorem eb (xs : List AV) (n : Nat) : cC xs none (some (n : Int)) none = xs.take n:=by
 refine aa (gG ..) ?_
 simp only [Option.elim]
 refine aa (jw ..) (aa (List.drop_zero ..) (aa (Nat.sub_zero ..) (aa (propext (List.take_eq_take_iff ..)) ?_)))
 exact wN
theorem ix (xs : List AV) (n : Nat) : cC xs (some (n : Int)) none none = xs.drop n:=by
 refine aa (gG ..) ?_
 simp only [Option.elim]
 refine aa (jw ..) ?_
 rcases Nat.le_total n xs.length with h | h
 ·exact aa (Nat.min_eq_left h) (aa (List.take_of_length_le (by simp)) rfl)
 ·exact aa (Nat.min_eq_right h) (aa (List.drop_length ..) (aa (List.take_nil ..) (aa (List.drop_eq_nil_of_le h) rfl)))
theorem gm (xs : List AV) : cC xs none none (some (-1)) = xs.reverse:=by
 unfold cC
 refine aa (krv_bounds ..) ?_
 show (sliceRange ((xs.length : Int) - 1) (-1) (-1)).filterMap (xs[·]?) = _
 refine aa (krv_sliceRange ..) (aa (krv_range ..) (aa (List.filterMap_reverse ..) ?_))
 have:=krv_all xs.toArray
 simp only [List.size_toArray] at this
 congr 1
 simpa using this
end
end
section
noncomputable def tV : Stmt->Option (List Stmt × Scope)
 | .FunctionDef _ _ b _ _ _ sc _ _ _=>some (b,sc)
 | _=>none
noncomputable def uO : Stmt->List Stmt
 | .ClassDef _ _ _ b _ _ _ _ _ _ _=>b
 | _=>[]
noncomputable def am (i : Nat) : Option (List Stmt × Scope):=PySem.Challenge.pw_nm0016_01.main.body[i]?.bind tV
noncomputable def bh (i j : Nat) : Option (List Stmt × Scope):=PySem.Challenge.pw_nm0016_01.main.body[i]?.bind fun s=>(uO s)[j]?.bind tV
theorem qD {vs : List Value} {n : Nat} (h : vs.length = n + 1) : ∃ a r,vs = a :: r/\r.length = n:=by
 cases vs with
 | nil=>exact nomatch h
 | cons a r=>exact ⟨a,r,rfl,Nat.succ.inj h⟩
theorem xV {vs : List Value} (h : vs.length = 0) : vs = []:=List.eq_nil_of_length_eq_zero h
theorem fq {vs : List Value} (h : vs.length = 1) : ∃ a,vs = [a]:=(qD h).imp fun a h=>h.elim fun r h=>h.1.trans (congrArg (a :: ·) (xV h.2))
theorem gT {vs : List Value} (h : vs.length = 2) : ∃ a b,vs = [a,b]:=(qD h).imp fun a h=>h.elim fun r h=>(fq h.2).imp fun _ e=>h.1.trans (congrArg (a :: ·) e)
theorem pn {vs : List Value} (h : vs.length = 3) : ∃ a b c,vs = [a,b,c]:=(qD h).imp fun a h=>h.elim fun r h=>(gT h.2).imp fun _ e=>e.imp fun _ e=>h.1.trans (congrArg (a :: ·) e)
theorem rL {vs : List Value} (h : vs.length = 4) : ∃ a b c d,vs = [a,b,c,d]:=(qD h).imp fun a h=>h.elim fun r h=>(pn h.2).imp fun _ e=>e.imp fun _ e=>e.imp fun _ e=>h.1.trans (congrArg (a :: ·) e)
theorem zQ {vs : List Value} (h : vs.length = 5) : ∃ a b c d e,vs = [a,b,c,d,e]:=(qD h).imp fun a h=>h.elim fun r h=>(rL h.2).imp fun _ e=>e.imp fun _ e=>e.imp fun _ e=>e.imp fun _ e=>h.1.trans (congrArg (a :: ·) e)
noncomputable def rt (K : Frag) (a : Addr) : Option FuncData:=match K.lookup a with
 | some ⟨_,_,.func fd,_⟩=>some fd
 | _=>none
theorem kC {K : Frag} {a : Addr} {fd : FuncData} (h : rt K a = some fd) : ∃ oc od osl,K.lookup a = some ⟨oc,od,.func fd,osl⟩:=by
 unfold rt at h
 cases e : K.lookup a with
 | none=>rw [e] at h; exact ns h
 | some o=>
  obtain ⟨oc,od,data,osl⟩:=o
  rw [e] at h
  cases data<;>first | exact ns h | exact ⟨oc,od,osl,congrArg (fun f=>some (⟨oc,od,.func f,osl⟩ : Obj)) (Option.some.inj h)⟩
structure aP (K : Frag) (a : Addr) (names : List Str) (sc : Scope) (body : List Stmt) : Prop where
 b1 : (rt K a).map (·.body) = some (.stmts body)
 b2 : (rt K a).map (·.closure) = some []
 b3 : (rt K a).map (·.globals) = some mainGlobals
 b4 : (rt K a).map (·.builtins) = some builtinsNs
 b5 : (rt K a).map (fun fd=>codeIn K fd.code fd.qualname) = some true
 b6 : (rt K a).map (·.scope) = some sc
 b7 : ∀ vs : List Value,vs.length = names.length->(rt K a).map (fun fd=>bindArgs fd ⟨vs,[]⟩) = some (pure (names.zip vs))
 b8 : (names.all fun n=>sc.names.lookup n == some .local || sc.names.lookup n == some .cell) = true
 b9 : (sc.names.all fun x=>x.2 != .free) = true
 b10 : sc.isCoroutine = false
 b11 : sc.isGenerator = false
 b12 : sc.kind = .function
structure cw (K : Frag) (f : Str) (fa : Addr) : Prop where
 nd : (f == ("__debug__" : Str)) = false
 ns : nsIn K mainGlobals f = some (some (.ref fa))
 fn : (rt K fa).isSome = true
structure ph (K : Frag) (f : Str) (C fI : Addr) : Prop where
 nd : (f == ("__debug__" : Str)) = false
 ns : nsIn K mainGlobals f = some (some (.ref C))
 keep : keepIn K (.ref C) = true
 make : makesIn K C = true
 init : findIn K (.ref C) "__init__" = some (some (.ref fI))
 ty : typeIn K (.ref fI) = some (.type "function")
structure iV (K : Frag) (f : Str) (v : Value) : Prop where
 nd : (f == ("__debug__" : Str)) = false
 nn : f≠"__name__"
 ns : nsIn K mainGlobals f = some none
 bo : bootBuiltins f = some v
 nr : keeperOf v = pure .machine
def ii {α : Type} (p : α->Prop) : List α->Prop
 | []=>True
 | x :: xs=>p x/\ii p xs
theorem ii.get {α : Type} {p : α->Prop} {x : α} : ∀ {l : List α} {i : Nat},ii p l->l[i]? = some x->p x:=by
 intro l
 induction l with
 | nil=>intro i _ h; exact nomatch h
 | cons y l ih=>
  intro i a h
  cases i with
  | zero=>exact Option.some.inj h▸a.1
  | succ i=>exact ih a.2 h
theorem ii.cons {α : Type} {p : α->Prop} {x : α} {l : List α} (h : p x) (t : ii p l) : ii p (x :: l):=⟨h,t⟩
noncomputable def y6 : { s : Scope // (bh 1 0).map (·.2) = some s }:=⟨_,rfl⟩
noncomputable def qN : { s : Stmt // (bh 1 0).bind (fun b=>b.1[0]?) = some s }:=⟨_,rfl⟩
noncomputable def q8 : { s : Stmt // (bh 1 0).bind (fun b=>b.1[1]?) = some s }:=⟨_,rfl⟩
noncomputable def qe : { s : Stmt // (bh 1 0).bind (fun b=>b.1[2]?) = some s }:=⟨_,rfl⟩
noncomputable def rD : { s : Stmt // (bh 1 0).bind (fun b=>b.1[3]?) = some s }:=⟨_,rfl⟩
noncomputable def qS : { s : Stmt // (bh 1 0).bind (fun b=>b.1[4]?) = some s }:=⟨_,rfl⟩
noncomputable def rk : { s : Stmt // (bh 1 0).bind (fun b=>b.1[5]?) = some s }:=⟨_,rfl⟩
noncomputable def w3 : { s : Scope // (bh 2 0).map (·.2) = some s }:=⟨_,rfl⟩
noncomputable def pL : { s : Stmt // (bh 2 0).bind (fun b=>b.1[0]?) = some s }:=⟨_,rfl⟩
noncomputable def qX : { s : Stmt // (bh 2 0).bind (fun b=>b.1[1]?) = some s }:=⟨_,rfl⟩
noncomputable def qY : { s : Stmt // (bh 2 0).bind (fun b=>b.1[2]?) = some s }:=⟨_,rfl⟩
noncomputable def Al : { s : Scope // (bh 3 0).map (·.2) = some s }:=⟨_,rfl⟩
noncomputable def qJ : { s : Stmt // (bh 3 0).bind (fun b=>b.1[0]?) = some s }:=⟨_,rfl⟩
noncomputable def qj : { s : Stmt // (bh 3 0).bind (fun b=>b.1[1]?) = some s }:=⟨_,rfl⟩
noncomputable def p6 : { s : Stmt // (bh 3 0).bind (fun b=>b.1[2]?) = some s }:=⟨_,rfl⟩
noncomputable def qW : { s : Stmt // (bh 3 0).bind (fun b=>b.1[3]?) = some s }:=⟨_,rfl⟩
noncomputable def rq : { s : Stmt // (bh 3 0).bind (fun b=>b.1[4]?) = some s }:=⟨_,rfl⟩
noncomputable def p4 : { s : Stmt // (bh 3 0).bind (fun b=>b.1[5]?) = some s }:=⟨_,rfl⟩
noncomputable def qg : { s : Stmt // (bh 3 0).bind (fun b=>b.1[6]?) = some s }:=⟨_,rfl⟩
noncomputable def v9 : { s : Scope // (am 4).map (·.2) = some s }:=⟨_,rfl⟩
noncomputable def qP : { s : Stmt // (am 4).bind (fun b=>b.1[0]?) = some s }:=⟨_,rfl⟩
noncomputable def qx : { s : Stmt // (am 4).bind (fun b=>b.1[1]?) = some s }:=⟨_,rfl⟩
noncomputable def rm : { s : Stmt // (am 4).bind (fun b=>b.1[2]?) = some s }:=⟨_,rfl⟩
noncomputable def qT : { s : Stmt // (am 4).bind (fun b=>b.1[3]?) = some s }:=⟨_,rfl⟩
noncomputable def pT : { s : Stmt // (am 4).bind (fun b=>b.1[4]?) = some s }:=⟨_,rfl⟩
noncomputable def xu : { s : Scope // (bh 6 0).map (·.2) = some s }:=⟨_,rfl⟩
noncomputable def pK : { s : Stmt // (bh 6 0).bind (fun b=>b.1[0]?) = some s }:=⟨_,rfl⟩
noncomputable def rc : { s : Stmt // (bh 6 0).bind (fun b=>b.1[1]?) = some s }:=⟨_,rfl⟩
noncomputable def pZ : { s : Stmt // (bh 6 0).bind (fun b=>b.1[2]?) = some s }:=⟨_,rfl⟩
noncomputable def uk : { s : Scope // (am 7).map (·.2) = some s }:=⟨_,rfl⟩
noncomputable def nl : { s : Stmt // (am 7).bind (fun b=>b.1[0]?) = some s }:=⟨_,rfl⟩
noncomputable def sJ : { s : Scope // (am 8).map (·.2) = some s }:=⟨_,rfl⟩
noncomputable def ld : { s : Stmt // (am 8).bind (fun b=>b.1[0]?) = some s }:=⟨_,rfl⟩
noncomputable def nj : { s : Stmt // (am 8).bind (fun b=>b.1[1]?) = some s }:=⟨_,rfl⟩
noncomputable def mS : { s : Stmt // (am 8).bind (fun b=>b.1[2]?) = some s }:=⟨_,rfl⟩
noncomputable def tH : { s : Scope // (am 9).map (·.2) = some s }:=⟨_,rfl⟩
noncomputable def lL : { s : Stmt // (am 9).bind (fun b=>b.1[0]?) = some s }:=⟨_,rfl⟩
noncomputable def mX : { s : Stmt // (am 9).bind (fun b=>b.1[1]?) = some s }:=⟨_,rfl⟩
noncomputable def my : { s : Stmt // (am 9).bind (fun b=>b.1[2]?) = some s }:=⟨_,rfl⟩
noncomputable def lI : { s : Stmt // (am 9).bind (fun b=>b.1[3]?) = some s }:=⟨_,rfl⟩
noncomputable def nz : { s : Stmt // (am 9).bind (fun b=>b.1[4]?) = some s }:=⟨_,rfl⟩
noncomputable def sI : { s : Scope // (am 10).map (·.2) = some s }:=⟨_,rfl⟩
noncomputable def lN : { s : Stmt // (am 10).bind (fun b=>b.1[0]?) = some s }:=⟨_,rfl⟩
noncomputable def tD : { s : Scope // (am 11).map (·.2) = some s }:=⟨_,rfl⟩
noncomputable def l6 : { s : Stmt // (am 11).bind (fun b=>b.1[0]?) = some s }:=⟨_,rfl⟩
noncomputable def mV : { s : Stmt // (am 11).bind (fun b=>b.1[1]?) = some s }:=⟨_,rfl⟩
noncomputable def uh : { s : Scope // (am 12).map (·.2) = some s }:=⟨_,rfl⟩
noncomputable def mw : { s : Stmt // (am 12).bind (fun b=>b.1[0]?) = some s }:=⟨_,rfl⟩
noncomputable def m9 : { s : Stmt // (am 12).bind (fun b=>b.1[1]?) = some s }:=⟨_,rfl⟩
noncomputable def mA : { s : Stmt // (am 12).bind (fun b=>b.1[2]?) = some s }:=⟨_,rfl⟩
noncomputable def nX : { s : Stmt // (am 12).bind (fun b=>b.1[3]?) = some s }:=⟨_,rfl⟩
noncomputable def mx : { s : Stmt // (am 12).bind (fun b=>b.1[4]?) = some s }:=⟨_,rfl⟩
noncomputable def oj : { s : Stmt // (am 12).bind (fun b=>b.1[5]?) = some s }:=⟨_,rfl⟩
noncomputable def lb : { s : Stmt // (am 12).bind (fun b=>b.1[6]?) = some s }:=⟨_,rfl⟩
noncomputable def lz : { s : Stmt // (am 12).bind (fun b=>b.1[7]?) = some s }:=⟨_,rfl⟩
noncomputable def lH : { s : Stmt // (am 12).bind (fun b=>b.1[8]?) = some s }:=⟨_,rfl⟩
noncomputable def tA : { s : Scope // (am 13).map (·.2) = some s }:=⟨_,rfl⟩
noncomputable def nK : { s : Stmt // (am 13).bind (fun b=>b.1[0]?) = some s }:=⟨_,rfl⟩
noncomputable def l3 : { s : Stmt // (am 13).bind (fun b=>b.1[1]?) = some s }:=⟨_,rfl⟩
noncomputable def sN : { s : Scope // (am 14).map (·.2) = some s }:=⟨_,rfl⟩
noncomputable def mG : { s : Stmt // (am 14).bind (fun b=>b.1[0]?) = some s }:=⟨_,rfl⟩
noncomputable def lj : { s : Stmt // (am 14).bind (fun b=>b.1[1]?) = some s }:=⟨_,rfl⟩
noncomputable def mE : { s : Stmt // (am 14).bind (fun b=>b.1[2]?) = some s }:=⟨_,rfl⟩
noncomputable def nQ : { s : Stmt // (am 14).bind (fun b=>b.1[3]?) = some s }:=⟨_,rfl⟩
noncomputable def m4 : { s : Stmt // (am 14).bind (fun b=>b.1[4]?) = some s }:=⟨_,rfl⟩
noncomputable def tI : { s : Scope // (am 15).map (·.2) = some s }:=⟨_,rfl⟩
noncomputable def lc : { s : Stmt // (am 15).bind (fun b=>b.1[0]?) = some s }:=⟨_,rfl⟩
noncomputable def mL : { s : Stmt // (am 15).bind (fun b=>b.1[1]?) = some s }:=⟨_,rfl⟩
noncomputable def n7 : { s : Stmt // (am 15).bind (fun b=>b.1[2]?) = some s }:=⟨_,rfl⟩
noncomputable def mR : { s : Stmt // (am 15).bind (fun b=>b.1[3]?) = some s }:=⟨_,rfl⟩
noncomputable def nv : { s : Stmt // (am 15).bind (fun b=>b.1[4]?) = some s }:=⟨_,rfl⟩
noncomputable def mZ : { s : Stmt // (am 15).bind (fun b=>b.1[5]?) = some s }:=⟨_,rfl⟩
noncomputable def ll : { s : Stmt // (am 15).bind (fun b=>b.1[6]?) = some s }:=⟨_,rfl⟩
noncomputable def mu : { s : Stmt // (am 15).bind (fun b=>b.1[7]?) = some s }:=⟨_,rfl⟩
noncomputable def nL : { s : Stmt // (am 15).bind (fun b=>b.1[8]?) = some s }:=⟨_,rfl⟩
noncomputable def lP : { s : Stmt // (am 15).bind (fun b=>b.1[9]?) = some s }:=⟨_,rfl⟩
noncomputable def sw : { s : Scope // (am 16).map (·.2) = some s }:=⟨_,rfl⟩
noncomputable def mC : { s : Stmt // (am 16).bind (fun b=>b.1[0]?) = some s }:=⟨_,rfl⟩
noncomputable def nq : { s : Stmt // (am 16).bind (fun b=>b.1[1]?) = some s }:=⟨_,rfl⟩
noncomputable def lD : { s : Stmt // (am 16).bind (fun b=>b.1[2]?) = some s }:=⟨_,rfl⟩
noncomputable def mh : { s : Stmt // (am 16).bind (fun b=>b.1[3]?) = some s }:=⟨_,rfl⟩
noncomputable def mN : { s : Stmt // (am 16).bind (fun b=>b.1[4]?) = some s }:=⟨_,rfl⟩
noncomputable def sT : { s : Scope // (am 17).map (·.2) = some s }:=⟨_,rfl⟩
noncomputable def lu : { s : Stmt // (am 17).bind (fun b=>b.1[0]?) = some s }:=⟨_,rfl⟩
noncomputable def ly : { s : Stmt // (am 17).bind (fun b=>b.1[1]?) = some s }:=⟨_,rfl⟩
noncomputable def n0 : { s : Stmt // (am 17).bind (fun b=>b.1[2]?) = some s }:=⟨_,rfl⟩
noncomputable def nN : { s : Stmt // (am 17).bind (fun b=>b.1[3]?) = some s }:=⟨_,rfl⟩
noncomputable def sS : { s : Scope // (am 18).map (·.2) = some s }:=⟨_,rfl⟩
noncomputable def mI : { s : Stmt // (am 18).bind (fun b=>b.1[0]?) = some s }:=⟨_,rfl⟩
noncomputable def me : { s : Stmt // (am 18).bind (fun b=>b.1[1]?) = some s }:=⟨_,rfl⟩
noncomputable def lR : { s : Stmt // (am 18).bind (fun b=>b.1[2]?) = some s }:=⟨_,rfl⟩
noncomputable def on : { s : Stmt // (am 18).bind (fun b=>b.1[3]?) = some s }:=⟨_,rfl⟩
noncomputable def lg : { s : Stmt // (am 18).bind (fun b=>b.1[4]?) = some s }:=⟨_,rfl⟩
noncomputable def mr : { s : Stmt // (am 18).bind (fun b=>b.1[5]?) = some s }:=⟨_,rfl⟩
noncomputable def nD : { s : Stmt // (am 18).bind (fun b=>b.1[6]?) = some s }:=⟨_,rfl⟩
noncomputable def lZ : { s : Stmt // (am 18).bind (fun b=>b.1[7]?) = some s }:=⟨_,rfl⟩
noncomputable def tJ : { s : Scope // (am 19).map (·.2) = some s }:=⟨_,rfl⟩
noncomputable def nB : { s : Stmt // (am 19).bind (fun b=>b.1[0]?) = some s }:=⟨_,rfl⟩
noncomputable def nS : { s : Stmt // (am 19).bind (fun b=>b.1[1]?) = some s }:=⟨_,rfl⟩
noncomputable def nh : { s : Stmt // (am 19).bind (fun b=>b.1[2]?) = some s }:=⟨_,rfl⟩
noncomputable def tq : { s : Scope // (am 21).map (·.2) = some s }:=⟨_,rfl⟩
noncomputable def lS : { s : Stmt // (am 21).bind (fun b=>b.1[0]?) = some s }:=⟨_,rfl⟩
noncomputable def qK : { s : Scope // (am 22).map (·.2) = some s }:=⟨_,rfl⟩
noncomputable def mQ : { s : Stmt // (am 22).bind (fun b=>b.1[0]?) = some s }:=⟨_,rfl⟩
noncomputable def mt : { s : Stmt // (am 22).bind (fun b=>b.1[1]?) = some s }:=⟨_,rfl⟩
noncomputable def iP : { s : Stmt // (am 22).bind (fun b=>b.1[2]?) = some s }:=⟨_,rfl⟩
noncomputable def iS : { s : Stmt // (am 22).bind (fun b=>b.1[3]?) = some s }:=⟨_,rfl⟩
noncomputable def iR : { s : Stmt // (am 22).bind (fun b=>b.1[4]?) = some s }:=⟨_,rfl⟩
noncomputable def uq : { s : Scope // (am 23).map (·.2) = some s }:=⟨_,rfl⟩
noncomputable def ol : { s : Stmt // (am 23).bind (fun b=>b.1[0]?) = some s }:=⟨_,rfl⟩
noncomputable def lm : { s : Stmt // (am 23).bind (fun b=>b.1[1]?) = some s }:=⟨_,rfl⟩
noncomputable def mJ : { s : Stmt // (am 23).bind (fun b=>b.1[2]?) = some s }:=⟨_,rfl⟩
noncomputable def mM : { s : Stmt // (am 23).bind (fun b=>b.1[3]?) = some s }:=⟨_,rfl⟩
noncomputable def nC : { s : Stmt // (am 23).bind (fun b=>b.1[4]?) = some s }:=⟨_,rfl⟩
noncomputable def sE : { s : Scope // (am 24).map (·.2) = some s }:=⟨_,rfl⟩
noncomputable def nZ : { s : Stmt // (am 24).bind (fun b=>b.1[0]?) = some s }:=⟨_,rfl⟩
noncomputable def mT : { s : Stmt // (am 24).bind (fun b=>b.1[1]?) = some s }:=⟨_,rfl⟩
noncomputable def tS : { s : Scope // (am 25).map (·.2) = some s }:=⟨_,rfl⟩
noncomputable def l7 : { s : Stmt // (am 25).bind (fun b=>b.1[0]?) = some s }:=⟨_,rfl⟩
noncomputable def ma : { s : Stmt // (am 25).bind (fun b=>b.1[1]?) = some s }:=⟨_,rfl⟩
noncomputable def om : { s : Stmt // (am 25).bind (fun b=>b.1[2]?) = some s }:=⟨_,rfl⟩
noncomputable def ml : { s : Stmt // (am 25).bind (fun b=>b.1[3]?) = some s }:=⟨_,rfl⟩
noncomputable def mD : { s : Stmt // (am 25).bind (fun b=>b.1[4]?) = some s }:=⟨_,rfl⟩
noncomputable def sR : { s : Scope // (am 26).map (·.2) = some s }:=⟨_,rfl⟩
noncomputable def mU : { s : Stmt // (am 26).bind (fun b=>b.1[0]?) = some s }:=⟨_,rfl⟩
noncomputable def lX : { s : Stmt // (am 26).bind (fun b=>b.1[1]?) = some s }:=⟨_,rfl⟩
noncomputable def lA : { s : Stmt // (am 26).bind (fun b=>b.1[2]?) = some s }:=⟨_,rfl⟩
noncomputable def qa : { s : Scope // (am 27).map (·.2) = some s }:=⟨_,rfl⟩
noncomputable def oq : { s : Stmt // (am 27).bind (fun b=>b.1[0]?) = some s }:=⟨_,rfl⟩
noncomputable def iJ : { s : Stmt // (am 27).bind (fun b=>b.1[1]?) = some s }:=⟨_,rfl⟩
noncomputable def hJ : { s : Stmt // (am 27).bind (fun b=>b.1[2]?) = some s }:=⟨_,rfl⟩
noncomputable def g8 : { s : Stmt // (am 27).bind (fun b=>b.1[3]?) = some s }:=⟨_,rfl⟩
noncomputable def um : { s : Scope // (am 28).map (·.2) = some s }:=⟨_,rfl⟩
noncomputable def lE : { s : Stmt // (am 28).bind (fun b=>b.1[0]?) = some s }:=⟨_,rfl⟩
noncomputable def nU : { s : Stmt // (am 28).bind (fun b=>b.1[1]?) = some s }:=⟨_,rfl⟩
noncomputable def tP : { s : Scope // (am 29).map (·.2) = some s }:=⟨_,rfl⟩
noncomputable def nW : { s : Stmt // (am 29).bind (fun b=>b.1[0]?) = some s }:=⟨_,rfl⟩
noncomputable def mz : { s : Stmt // (am 29).bind (fun b=>b.1[1]?) = some s }:=⟨_,rfl⟩
noncomputable def nO : { s : Stmt // (am 29).bind (fun b=>b.1[2]?) = some s }:=⟨_,rfl⟩
noncomputable def th : { s : Scope // (am 30).map (·.2) = some s }:=⟨_,rfl⟩
noncomputable def mW : { s : Stmt // (am 30).bind (fun b=>b.1[0]?) = some s }:=⟨_,rfl⟩
noncomputable def lF : { s : Stmt // (am 30).bind (fun b=>b.1[1]?) = some s }:=⟨_,rfl⟩
noncomputable def ni : { s : Stmt // (am 30).bind (fun b=>b.1[2]?) = some s }:=⟨_,rfl⟩
noncomputable def su : { s : Scope // (am 31).map (·.2) = some s }:=⟨_,rfl⟩
noncomputable def lU : { s : Stmt // (am 31).bind (fun b=>b.1[0]?) = some s }:=⟨_,rfl⟩
noncomputable def kZ : { s : Stmt // (am 31).bind (fun b=>b.1[1]?) = some s }:=⟨_,rfl⟩
noncomputable def l9 : { s : Stmt // (am 31).bind (fun b=>b.1[2]?) = some s }:=⟨_,rfl⟩
noncomputable def lB : { s : Stmt // (am 31).bind (fun b=>b.1[3]?) = some s }:=⟨_,rfl⟩
noncomputable def tx : { s : Scope // (am 32).map (·.2) = some s }:=⟨_,rfl⟩
noncomputable def nF : { s : Stmt // (am 32).bind (fun b=>b.1[0]?) = some s }:=⟨_,rfl⟩
noncomputable def mP : { s : Stmt // (am 32).bind (fun b=>b.1[1]?) = some s }:=⟨_,rfl⟩
noncomputable def sG : { s : Scope // (am 33).map (·.2) = some s }:=⟨_,rfl⟩
noncomputable def lW : { s : Stmt // (am 33).bind (fun b=>b.1[0]?) = some s }:=⟨_,rfl⟩
noncomputable def lQ : { s : Stmt // (am 33).bind (fun b=>b.1[1]?) = some s }:=⟨_,rfl⟩
noncomputable def lY : { s : Stmt // (am 33).bind (fun b=>b.1[2]?) = some s }:=⟨_,rfl⟩
noncomputable def te : { s : Scope // (am 34).map (·.2) = some s }:=⟨_,rfl⟩
noncomputable def l4 : { s : Stmt // (am 34).bind (fun b=>b.1[0]?) = some s }:=⟨_,rfl⟩
noncomputable def mB : { s : Stmt // (am 34).bind (fun b=>b.1[1]?) = some s }:=⟨_,rfl⟩
noncomputable def mq : { s : Stmt // (am 34).bind (fun b=>b.1[2]?) = some s }:=⟨_,rfl⟩
noncomputable def m8 : { s : Stmt // (am 34).bind (fun b=>b.1[3]?) = some s }:=⟨_,rfl⟩
noncomputable def tF : { s : Scope // (am 35).map (·.2) = some s }:=⟨_,rfl⟩
noncomputable def lC : { s : Stmt // (am 35).bind (fun b=>b.1[0]?) = some s }:=⟨_,rfl⟩
noncomputable def mF : { s : Stmt // (am 35).bind (fun b=>b.1[1]?) = some s }:=⟨_,rfl⟩
noncomputable def m5 : { s : Stmt // (am 35).bind (fun b=>b.1[2]?) = some s }:=⟨_,rfl⟩
noncomputable def mH : { s : Stmt // (am 35).bind (fun b=>b.1[3]?) = some s }:=⟨_,rfl⟩
noncomputable def lq : { s : Stmt // (am 35).bind (fun b=>b.1[4]?) = some s }:=⟨_,rfl⟩
noncomputable def og : { s : Stmt // (am 35).bind (fun b=>b.1[5]?) = some s }:=⟨_,rfl⟩
noncomputable def mj : { s : Stmt // (am 35).bind (fun b=>b.1[6]?) = some s }:=⟨_,rfl⟩
noncomputable def nE : { s : Stmt // (am 35).bind (fun b=>b.1[7]?) = some s }:=⟨_,rfl⟩
noncomputable def nG : { s : Stmt // (am 35).bind (fun b=>b.1[8]?) = some s }:=⟨_,rfl⟩
noncomputable def lT : { s : Stmt // (am 35).bind (fun b=>b.1[9]?) = some s }:=⟨_,rfl⟩
noncomputable def jM : { s : Stmt // (am 35).bind (fun b=>b.1[10]?) = some s }:=⟨_,rfl⟩
noncomputable abbrev rJ : List (Addr × List Str × Scope × List Stmt):=[((28 : Addr),([("self" : Str),("op" : Str),("dst" : Str),("args" : Str),("more" : Str)] : List Str),y6.1,([qN.1,q8.1,qe.1,rD.1,qS.1,rk.1] : List Stmt)),((49 : Addr),([("self" : Str),("number" : Str)] : List Str),w3.1,([pL.1,qX.1,qY.1] : List Stmt)),((70 : Addr),([("self" : Str),("name" : Str)] : List Str),Al.1,([qJ.1,qj.1,p6.1,qW.1,rq.1,p4.1,qg.1] : List Stmt)),((84 : Addr),([("block" : Str)] : List Str),v9.1,([qP.1,qx.1,rm.1,qT.1,pT.1] : List Stmt)),((98 : Addr),([("self" : Str),("header" : Str),("blocks" : Str),("tails" : Str)] : List Str),xu.1,([pK.1,rc.1,pZ.1] : List Stmt)),((110 : Addr),([("step" : Str)] : List Str),uk.1,([nl.1] : List Stmt)),((115 : Addr),([("func" : Str)] : List Str),sJ.1,([ld.1,nj.1,mS.1] : List Stmt)),((122 : Addr),([("func" : Str)] : List Str),tH.1,([lL.1,mX.1,my.1,lI.1,nz.1] : List Stmt)),((129 : Addr),([("func" : Str)] : List Str),sI.1,([lN.1] : List Stmt)),((136 : Addr),([("parents" : Str),("places" : Str),("one" : Str),("other" : Str)] : List Str),tD.1,([l6.1,mV.1] : List Stmt)),((143 : Addr),([("func" : Str)] : List Str),uh.1,([mw.1,m9.1,mA.1,nX.1,mx.1,oj.1,lb.1,lz.1,lH.1] : List Stmt)),((150 : Addr),([("parents" : Str),("over" : Str),("under" : Str)] : List Str),tA.1,([nK.1,l3.1] : List Stmt)),((157 : Addr),([("block" : Str)] : List Str),sN.1,([mG.1,lj.1,mE.1,nQ.1,m4.1] : List Stmt)),((162 : Addr),([("func" : Str)] : List Str),tI.1,([lc.1,mL.1,n7.1,mR.1,nv.1,mZ.1,ll.1,mu.1,nL.1,lP.1] : List Stmt)),((169 : Addr),([("block" : Str),("live_out" : Str)] : List Str),sw.1,([mC.1,nq.1,lD.1,mh.1,mN.1] : List Stmt)),((176 : Addr),([("before" : Str),("header" : Str),("tails" : Str)] : List Str),sT.1,([lu.1,ly.1,n0.1,nN.1] : List Stmt)),((181 : Addr),([("func" : Str)] : List Str),sS.1,([mI.1,me.1,lR.1,on.1,lg.1,mr.1,nD.1,lZ.1] : List Stmt)),((186 : Addr),([("func" : Str),("parents" : Str)] : List Str),tJ.1,([nB.1,nS.1,nh.1] : List Stmt)),((193 : Addr),([] : List Str),tq.1,([lS.1] : List Stmt)),((200 : Addr),([("well" : Str),("size" : Str)] : List Str),qK.1,([mQ.1,mt.1,iP.1,iS.1,iR.1] : List Stmt)),((205 : Addr),([("well" : Str),("many" : Str)] : List Str),uq.1,([ol.1,lm.1,mJ.1,mM.1,nC.1] : List Stmt)),((210 : Addr),([("well" : Str)] : List Str),sE.1,([nZ.1,mT.1] : List Stmt)),((215 : Addr),([("well" : Str)] : List Str),tS.1,([l7.1,ma.1,om.1,ml.1,mD.1] : List Stmt)),((222 : Addr),([("box" : Str)] : List Str),sR.1,([mU.1,lX.1,lA.1] : List Stmt)),((229 : Addr),([("goals" : Str),("first" : Str),("barred" : Str)] : List Str),qa.1,([oq.1,iJ.1,hJ.1,g8.1] : List Stmt)),((236 : Addr),([("act" : Str),("cell" : Str)] : List Str),um.1,([lE.1,nU.1] : List Stmt)),((241 : Addr),([("func" : Str),("goals" : Str),("at" : Str),("spot" : Str),("cell" : Str)] : List Str),tP.1,([nW.1,mz.1,nO.1] : List Stmt)),((246 : Addr),([("func" : Str),("goals" : Str),("come" : Str)] : List Str),th.1,([mW.1,lF.1,ni.1] : List Stmt)),((253 : Addr),([("goals" : Str),("come" : Str)] : List Str),su.1,([lU.1,kZ.1,l9.1,lB.1] : List Stmt)),((258 : Addr),([("over" : Str),("at" : Str)] : List Str),tx.1,([nF.1,mP.1] : List Stmt)),((263 : Addr),([("goals" : Str),("come" : Str),("over" : Str)] : List Str),sG.1,([lW.1,lQ.1,lY.1] : List Stmt)),((268 : Addr),([("func" : Str),("goals" : Str),("come" : Str),("over" : Str)] : List Str),te.1,([l4.1,mB.1,mq.1,m8.1] : List Stmt)),((273 : Addr),([("script" : Str)] : List Str),tF.1,([lC.1,mF.1,m5.1,mH.1,lq.1,og.1,mj.1,nE.1,nG.1,lT.1,jM.1] : List Stmt))]
noncomputable abbrev xF : List (Str × Addr):=[("followers",84),("used",110),("preds",115),("postorder",122),("order",129),("nearest_over",136),("dominators",143),("dominates",150),("needs_of",157),("live",162),("live_behind",169),("body_of",176),("loops_of",181),("reached_preds",186),("_law_registers",193),("_law_draw",200),("_law_end",205),("_law_act",210),("_law_func",215),("_law_goals",222),("_law_reached",229),("_law_use",236),("_law_is_live",241),("_law_live_right",246),("_law_over",253),("_law_nearest",258),("_law_loops",263),("_law_order_right",268)]
noncomputable abbrev zn : List (Str × Value):=[("list",.type "list"),("set",.type "set"),("int",.type "int"),("range",.type "range"),("enumerate",.type "enumerate"),("len",.builtin "len"),("sorted",.builtin "sorted"),("max",.builtin "max")]
noncomputable abbrev Av : List (Str × Addr × Addr):=[("Step",31,28),("Block",52,49),("Func",73,70),("Loop",101,98)]
noncomputable abbrev wr : List (Addr × Str):=[(52,"number"),(52,"steps"),(52,"end"),(31,"op"),(31,"dst"),(31,"args"),(31,"more"),(31,"is_volatile"),(31,"line"),(73,"name"),(73,"params"),(73,"is_static"),(73,"slots"),(73,"blocks"),(73,"registers"),(73,"has_value"),(101,"header"),(101,"blocks"),(101,"tails")]
structure KF (K : Frag) : Prop where
 body : ii (fun t : Addr × List Str × Scope × List Stmt=>aP K t.1 t.2.1 t.2.2.1 t.2.2.2) rJ
 fn : ii (fun t : Str × Addr=>cw K t.1 t.2) xF
 bi : ii (fun t : Str × Value=>iV K t.1 t.2) zn
 cl : ii (fun t : Str × Addr × Addr=>ph K t.1 t.2.1 t.2.2) Av
 at' : ii (fun t : Addr × Str=>bz K t.1 t.2 = true) wr
theorem EG {K : Frag} (h : KF K) : aP K 28 [("self" : Str),("op" : Str),("dst" : Str),("args" : Str),("more" : Str)] y6.1 [qN.1,q8.1,qe.1,rD.1,qS.1,rk.1]:=by have t:=h.body.get (i:=0) rfl; exact t
theorem EQ {K : Frag} (h : KF K) : aP K 49 [("self" : Str),("number" : Str)] w3.1 [pL.1,qX.1,qY.1]:=by have t:=h.body.get (i:=1) rfl; exact t
theorem EP {K : Frag} (h : KF K) : aP K 70 [("self" : Str),("name" : Str)] Al.1 [qJ.1,qj.1,p6.1,qW.1,rq.1,p4.1,qg.1]:=by have t:=h.body.get (i:=2) rfl; exact t
theorem Ex {K : Frag} (h : KF K) : aP K 84 [("block" : Str)] v9.1 [qP.1,qx.1,rm.1,qT.1,pT.1]:=by have t:=h.body.get (i:=3) rfl; exact t
theorem ED {K : Frag} (h : KF K) : aP K 98 [("self" : Str),("header" : Str),("blocks" : Str),("tails" : Str)] xu.1 [pK.1,rc.1,pZ.1]:=by have t:=h.body.get (i:=4) rfl; exact t
theorem B3 {K : Frag} (h : KF K) : aP K 110 [("step" : Str)] uk.1 [nl.1]:=by have t:=h.body.get (i:=5) rfl; exact t
theorem BZ {K : Frag} (h : KF K) : aP K 115 [("func" : Str)] sJ.1 [ld.1,nj.1,mS.1]:=by have t:=h.body.get (i:=6) rfl; exact t
theorem Dg {K : Frag} (h : KF K) : aP K 122 [("func" : Str)] tH.1 [lL.1,mX.1,my.1,lI.1,nz.1]:=by have t:=h.body.get (i:=7) rfl; exact t
theorem CS {K : Frag} (h : KF K) : aP K 129 [("func" : Str)] sI.1 [lN.1]:=by have t:=h.body.get (i:=8) rfl; exact t
theorem CN {K : Frag} (h : KF K) : aP K 136 [("parents" : Str),("places" : Str),("one" : Str),("other" : Str)] tD.1 [l6.1,mV.1]:=by have t:=h.body.get (i:=9) rfl; exact t
theorem Cv {K : Frag} (h : KF K) : aP K 143 [("func" : Str)] uh.1 [mw.1,m9.1,mA.1,nX.1,mx.1,oj.1,lb.1,lz.1,lH.1]:=by have t:=h.body.get (i:=10) rfl; exact t
theorem BR {K : Frag} (h : KF K) : aP K 150 [("parents" : Str),("over" : Str),("under" : Str)] tA.1 [nK.1,l3.1]:=by have t:=h.body.get (i:=11) rfl; exact t
theorem Cc {K : Frag} (h : KF K) : aP K 157 [("block" : Str)] sN.1 [mG.1,lj.1,mE.1,nQ.1,m4.1]:=by have t:=h.body.get (i:=12) rfl; exact t
theorem Ci {K : Frag} (h : KF K) : aP K 162 [("func" : Str)] tI.1 [lc.1,mL.1,n7.1,mR.1,nv.1,mZ.1,ll.1,mu.1,nL.1,lP.1]:=by have t:=h.body.get (i:=13) rfl; exact t
theorem Dk {K : Frag} (h : KF K) : aP K 169 [("block" : Str),("live_out" : Str)] sw.1 [mC.1,nq.1,lD.1,mh.1,mN.1]:=by have t:=h.body.get (i:=14) rfl; exact t
theorem Bq {K : Frag} (h : KF K) : aP K 176 [("before" : Str),("header" : Str),("tails" : Str)] sT.1 [lu.1,ly.1,n0.1,nN.1]:=by have t:=h.body.get (i:=15) rfl; exact t
theorem CI {K : Frag} (h : KF K) : aP K 181 [("func" : Str)] sS.1 [mI.1,me.1,lR.1,on.1,lg.1,mr.1,nD.1,lZ.1]:=by have t:=h.body.get (i:=16) rfl; exact t
theorem Cj {K : Frag} (h : KF K) : aP K 186 [("func" : Str),("parents" : Str)] tJ.1 [nB.1,nS.1,nh.1]:=by have t:=h.body.get (i:=17) rfl; exact t
theorem Bz {K : Frag} (h : KF K) : aP K 193 [] tq.1 [lS.1]:=by have t:=h.body.get (i:=18) rfl; exact t
theorem Bt {K : Frag} (h : KF K) : aP K 200 [("well" : Str),("size" : Str)] qK.1 [mQ.1,mt.1,iP.1,iS.1,iR.1]:=by have t:=h.body.get (i:=19) rfl; exact t
theorem Dy {K : Frag} (h : KF K) : aP K 205 [("well" : Str),("many" : Str)] uq.1 [ol.1,lm.1,mJ.1,mM.1,nC.1]:=by have t:=h.body.get (i:=20) rfl; exact t
theorem Bl {K : Frag} (h : KF K) : aP K 210 [("well" : Str)] sE.1 [nZ.1,mT.1]:=by have t:=h.body.get (i:=21) rfl; exact t
theorem Bp {K : Frag} (h : KF K) : aP K 215 [("well" : Str)] tS.1 [l7.1,ma.1,om.1,ml.1,mD.1]:=by have t:=h.body.get (i:=22) rfl; exact t
theorem CW {K : Frag} (h : KF K) : aP K 222 [("box" : Str)] sR.1 [mU.1,lX.1,lA.1]:=by have t:=h.body.get (i:=23) rfl; exact t
theorem CB {K : Frag} (h : KF K) : aP K 229 [("goals" : Str),("first" : Str),("barred" : Str)] qa.1 [oq.1,iJ.1,hJ.1,g8.1]:=by have t:=h.body.get (i:=24) rfl; exact t
theorem Dh {K : Frag} (h : KF K) : aP K 236 [("act" : Str),("cell" : Str)] um.1 [lE.1,nU.1]:=by have t:=h.body.get (i:=25) rfl; exact t
theorem Dx {K : Frag} (h : KF K) : aP K 241 [("func" : Str),("goals" : Str),("at" : Str),("spot" : Str),("cell" : Str)] tP.1 [nW.1,mz.1,nO.1]:=by have t:=h.body.get (i:=26) rfl; exact t
theorem BL {K : Frag} (h : KF K) : aP K 246 [("func" : Str),("goals" : Str),("come" : Str)] th.1 [mW.1,lF.1,ni.1]:=by have t:=h.body.get (i:=27) rfl; exact t
theorem BC {K : Frag} (h : KF K) : aP K 253 [("goals" : Str),("come" : Str)] su.1 [lU.1,kZ.1,l9.1,lB.1]:=by have t:=h.body.get (i:=28) rfl; exact t
theorem Dz {K : Frag} (h : KF K) : aP K 258 [("over" : Str),("at" : Str)] tx.1 [nF.1,mP.1]:=by have t:=h.body.get (i:=29) rfl; exact t
theorem Da {K : Frag} (h : KF K) : aP K 263 [("goals" : Str),("come" : Str),("over" : Str)] sG.1 [lW.1,lQ.1,lY.1]:=by have t:=h.body.get (i:=30) rfl; exact t
theorem BM {K : Frag} (h : KF K) : aP K 268 [("func" : Str),("goals" : Str),("come" : Str),("over" : Str)] te.1 [l4.1,mB.1,mq.1,m8.1]:=by have t:=h.body.get (i:=31) rfl; exact t
theorem CC {K : Frag} (h : KF K) : aP K 273 [("script" : Str)] tF.1 [lC.1,mF.1,m5.1,mH.1,lq.1,og.1,mj.1,nE.1,nG.1,lT.1,jM.1]:=by have t:=h.body.get (i:=32) rfl; exact t
theorem EL {K : Frag} (h : KF K) : cw K "followers" 84:=by have t:=h.fn.get (i:=0) rfl; exact t
theorem Eb {K : Frag} (h : KF K) : cw K "used" 110:=by have t:=h.fn.get (i:=1) rfl; exact t
theorem D2 {K : Frag} (h : KF K) : cw K "preds" 115:=by have t:=h.fn.get (i:=2) rfl; exact t
theorem DN {K : Frag} (h : KF K) : cw K "postorder" 122:=by have t:=h.fn.get (i:=3) rfl; exact t
theorem DL {K : Frag} (h : KF K) : cw K "order" 129:=by have t:=h.fn.get (i:=4) rfl; exact t
theorem DF {K : Frag} (h : KF K) : cw K "nearest_over" 136:=by have t:=h.fn.get (i:=5) rfl; exact t
theorem DD {K : Frag} (h : KF K) : cw K "dominators" 143:=by have t:=h.fn.get (i:=6) rfl; exact t
theorem Ec {K : Frag} (h : KF K) : cw K "dominates" 150:=by have t:=h.fn.get (i:=7) rfl; exact t
theorem DE {K : Frag} (h : KF K) : cw K "needs_of" 157:=by have t:=h.fn.get (i:=8) rfl; exact t
theorem DV {K : Frag} (h : KF K) : cw K "live" 162:=by have t:=h.fn.get (i:=9) rfl; exact t
theorem Ei {K : Frag} (h : KF K) : cw K "live_behind" 169:=by have t:=h.fn.get (i:=10) rfl; exact t
theorem DO {K : Frag} (h : KF K) : cw K "body_of" 176:=by have t:=h.fn.get (i:=11) rfl; exact t
theorem DZ {K : Frag} (h : KF K) : cw K "loops_of" 181:=by have t:=h.fn.get (i:=12) rfl; exact t
theorem DX {K : Frag} (h : KF K) : cw K "reached_preds" 186:=by have t:=h.fn.get (i:=13) rfl; exact t
theorem El {K : Frag} (h : KF K) : cw K "_law_registers" 193:=by have t:=h.fn.get (i:=14) rfl; exact t
theorem DM {K : Frag} (h : KF K) : cw K "_law_draw" 200:=by have t:=h.fn.get (i:=15) rfl; exact t
theorem Ed {K : Frag} (h : KF K) : cw K "_law_end" 205:=by have t:=h.fn.get (i:=16) rfl; exact t
theorem Ee {K : Frag} (h : KF K) : cw K "_law_act" 210:=by have t:=h.fn.get (i:=17) rfl; exact t
theorem DA {K : Frag} (h : KF K) : cw K "_law_func" 215:=by have t:=h.fn.get (i:=18) rfl; exact t
theorem Eh {K : Frag} (h : KF K) : cw K "_law_goals" 222:=by have t:=h.fn.get (i:=19) rfl; exact t
theorem DH {K : Frag} (h : KF K) : cw K "_law_reached" 229:=by have t:=h.fn.get (i:=20) rfl; exact t
theorem DK {K : Frag} (h : KF K) : cw K "_law_use" 236:=by have t:=h.fn.get (i:=21) rfl; exact t
theorem Ef {K : Frag} (h : KF K) : cw K "_law_is_live" 241:=by have t:=h.fn.get (i:=22) rfl; exact t
theorem Ea {K : Frag} (h : KF K) : cw K "_law_live_right" 246:=by have t:=h.fn.get (i:=23) rfl; exact t
theorem DU {K : Frag} (h : KF K) : cw K "_law_over" 253:=by have t:=h.fn.get (i:=24) rfl; exact t
theorem DP {K : Frag} (h : KF K) : cw K "_law_nearest" 258:=by have t:=h.fn.get (i:=25) rfl; exact t
theorem Ej {K : Frag} (h : KF K) : cw K "_law_loops" 263:=by have t:=h.fn.get (i:=26) rfl; exact t
theorem D4 {K : Frag} (h : KF K) : cw K "_law_order_right" 268:=by have t:=h.fn.get (i:=27) rfl; exact t
theorem A3 {K : Frag} (h : KF K) : iV K "list" (.type "list"):=by have t:=h.bi.get (i:=0) rfl; exact t
theorem Dw {K : Frag} (h : KF K) : iV K "set" (.type "set"):=by have t:=h.bi.get (i:=1) rfl; exact t
theorem BW {K : Frag} (h : KF K) : iV K "int" (.type "int"):=by have t:=h.bi.get (i:=2) rfl; exact t
theorem xY {K : Frag} (h : KF K) : iV K "range" (.type "range"):=by have t:=h.bi.get (i:=3) rfl; exact t
theorem j5 {K : Frag} (h : KF K) : iV K "enumerate" (.type "enumerate"):=by have t:=h.bi.get (i:=4) rfl; exact t
theorem Dr {K : Frag} (h : KF K) : iV K "len" (.builtin "len"):=by have t:=h.bi.get (i:=5) rfl; exact t
theorem vM {K : Frag} (h : KF K) : iV K "sorted" (.builtin "sorted"):=by have t:=h.bi.get (i:=6) rfl; exact t
theorem Dt {K : Frag} (h : KF K) : iV K "max" (.builtin "max"):=by have t:=h.bi.get (i:=7) rfl; exact t
theorem ES {K : Frag} (h : KF K) : ph K "Step" 31 28:=by have t:=h.cl.get (i:=0) rfl; exact t
theorem Es {K : Frag} (h : KF K) : ph K "Block" 52 49:=by have t:=h.cl.get (i:=1) rfl; exact t
theorem Ev {K : Frag} (h : KF K) : ph K "Func" 73 70:=by have t:=h.cl.get (i:=2) rfl; exact t
theorem D6 {K : Frag} (h : KF K) : ph K "Loop" 101 98:=by have t:=h.cl.get (i:=3) rfl; exact t
theorem u9 {K : Frag} (h : KF K) : bz K 52 "number" = true:=by have t:=h.at'.get (i:=0) rfl; exact t
theorem vN {K : Frag} (h : KF K) : bz K 52 "steps" = true:=by have t:=h.at'.get (i:=1) rfl; exact t
theorem Bd {K : Frag} (h : KF K) : bz K 52 "end" = true:=by have t:=h.at'.get (i:=2) rfl; exact t
theorem Cm {K : Frag} (h : KF K) : bz K 31 "op" = true:=by have t:=h.at'.get (i:=3) rfl; exact t
theorem Bf {K : Frag} (h : KF K) : bz K 31 "dst" = true:=by have t:=h.at'.get (i:=4) rfl; exact t
theorem wG {K : Frag} (h : KF K) : bz K 31 "args" = true:=by have t:=h.at'.get (i:=5) rfl; exact t
theorem xL {K : Frag} (h : KF K) : bz K 31 "more" = true:=by have t:=h.at'.get (i:=6) rfl; exact t
theorem Bh {K : Frag} (h : KF K) : bz K 31 "is_volatile" = true:=by have t:=h.at'.get (i:=7) rfl; exact t
theorem zZ {K : Frag} (h : KF K) : bz K 31 "line" = true:=by have t:=h.at'.get (i:=8) rfl; exact t
theorem AP {K : Frag} (h : KF K) : bz K 73 "name" = true:=by have t:=h.at'.get (i:=9) rfl; exact t
theorem uB {K : Frag} (h : KF K) : bz K 73 "params" = true:=by have t:=h.at'.get (i:=10) rfl; exact t
theorem uU {K : Frag} (h : KF K) : bz K 73 "is_static" = true:=by have t:=h.at'.get (i:=11) rfl; exact t
theorem vL {K : Frag} (h : KF K) : bz K 73 "slots" = true:=by have t:=h.at'.get (i:=12) rfl; exact t
theorem u5 {K : Frag} (h : KF K) : bz K 73 "blocks" = true:=by have t:=h.at'.get (i:=13) rfl; exact t
theorem rH {K : Frag} (h : KF K) : bz K 73 "registers" = true:=by have t:=h.at'.get (i:=14) rfl; exact t
theorem vO {K : Frag} (h : KF K) : bz K 73 "has_value" = true:=by have t:=h.at'.get (i:=15) rfl; exact t
theorem vg {K : Frag} (h : KF K) : bz K 101 "header" = true:=by have t:=h.at'.get (i:=16) rfl; exact t
theorem vj {K : Frag} (h : KF K) : bz K 101 "blocks" = true:=by have t:=h.at'.get (i:=17) rfl; exact t
theorem vz {K : Frag} (h : KF K) : bz K 101 "tails" = true:=by have t:=h.at'.get (i:=18) rfl; exact t
end
section
inductive bQ (H : ag) (a C : Addr) (es : List (Str × AV)) : Prop | mk (dx : Addr) (h1 : H a = some (.inst C dx)) (h2 : H dx = some (.attrs es))
abbrev Sub (H H' : ag) : Prop:=∀ a o,H a = some o->H' a = some o
theorem Sub.rfl {H : ag} : Sub H H:=fun _ _ h=>h
theorem Sub.trans {H H' H'' : ag} (h : Sub H H') (h' : Sub H' H'') : Sub H H'':=fun a o q=>h' a o (h a o q)
theorem aM {H : ag} {a b : Addr} {o : AO} (h : an H a o b = none) : b≠a/\H b = none:=by
 by_cases q : b = a
 ·subst q; rw [ad] at h; contradiction
 ·exact ⟨q,by rwa [aj q] at h⟩
theorem ai {H : ag} {a b : Addr} {o : AO} (h : H b = none) (h' : H a = some o) : b≠a:=fun e=>by rw [e,h'] at h; exact ns h.symm
theorem Sub.upd {H : ag} {a : Addr} {o : AO} (h : H a = none) : Sub H (an H a o):=fun b ob q=>by
 refine aa (aj (fun e=>by rw [e,h] at q; exact ns q)) ?_; exact q
theorem Sub.then {H H' : ag} {a : Addr} {o : AO} (h : Sub H H') (ha : H' a = none) : Sub H (Mine.an H' a o):=h.trans (Sub.upd ha)
theorem Eu {H : ag} {x a : Addr} {v : AO} {o : Option AO} (h : x≠a) (q : H x = o) : an H a v x = o:=(aj h).trans q
theorem EJ {H : ag} {x a : Addr} {v : AO} {o : Option AO} (h : a≠x) (q : H x = o) : an H a v x = o:=(aj h.symm).trans q
theorem Sub.none {H H' : ag} (h : Sub H H') {a : Addr} (ha : H' a = none) : H a = none:=by
 cases q : H a with
 | none=>rfl
 | some o=>rw [h a o q] at ha; exact ns ha.symm
section
variable {c : Cx} {k : Nat} {sc : Scope} {m : aS} {H : ag} {Q : AV->ag->Prop} {QS : Fl->aS->ag->Prop} {QB : Bool->ag->Prop}
theorem aI {fa : Addr} {names : List Str} {body : List Stmt} {args : List AV} (B : aP c.K fa names sc body) (hl : names.length = args.length)
  (h : WS c k sc (execs body) (dE names args fun _=>none) H fun fl m' H'=>match fl with | .ret v=>Q v H' | _=>Q .none H') : AC c (k + 1) fa args H Q:=by
 obtain ⟨fd,e,h2⟩:=Option.map_eq_some_iff.mp B.b1
 have b {α : Type} {f : FuncData->α} {x : α} (h : (rt c.K fa).map f = some x) : f fd = x:=by rw [e] at h; exact Option.some.inj h
 obtain ⟨oc,od,osl,h1⟩:=kC e
 obtain rfl:=b B.b6
 exact qq h1 h2 (b B.b2) (b B.b3) (b B.b4) (b B.b5) (fun vals hv=>b (B.b7 vals (by exact aa (hl ..) (aa (Eq.symm (hv ..)) (aa (List.length_map ..) rfl))))) hl B.b8 B.b9 h B.b10 B.b11 B.b12
theorem A9 {QL : List AV->ag->Prop} (h : QL [] H) : f9 c k sc [] m H QL:=h
theorem A0 {e : Expr} {es : List Expr} {QL : List AV->ag->Prop} (h : WE c k sc e m H fun v H1=>f9 c k sc es m H1 fun vs H2=>QL (v :: vs) H2) : f9 c k sc (e :: es) m H QL:=h
theorem qk {a C dx : Addr} {name : Str} {es : List (Str × AV)} {v : AV} (h1 : H a = some (.inst C dx)) (h2 : H dx = some (.attrs es)) (hl : es.lookup name = some v) (hc : bz c.K C name = true) (hv : v≠.other) (q : Q v H) : kD c k (.ref a) name H Q:=
 ⟨a,C,dx,es,v,rfl,h1,h2,hl,hc,hv,q⟩
theorem pO {a C dx : Addr} {name : Str} {es : List (Str × AV)} {v : AV} {QH : ag->Prop} (h1 : H a = some (.inst C dx)) (h2 : H dx = some (.attrs es)) (hl : es.length < 50) (hc : bz c.K C name = true) (q : QH (an H dx (.attrs (f7 es name v)))) : jy c k (.ref a) name v H QH:=
 ⟨a,C,dx,es,rfl,h1,h2,hl,hc,q⟩
theorem bn {a : Addr} {n : Int} {xs : List AV} {j : Nat} {v : AV} (h : H a = some (.list xs)) (hl : xs.length < 2 ^ 40) (hj : kX xs.length n = some j) (hv : xs[j]? = some v) (q : Q v H) : dO c k (.ref a) (.int n) H Q:=
 ⟨a,n,rfl,rfl,.inl ⟨xs,j,v,h,hl,hj,hv,q⟩⟩
theorem Eo {a : Addr} {n : Int} {xs : List AV} {j : Nat} {v : AV} (h : H a = some (.tuple xs)) (hl : xs.length < 2 ^ 40) (hj : kX xs.length n = some j) (hv : xs[j]? = some v) (q : Q v H) : dO c k (.ref a) (.int n) H Q:=
 ⟨a,n,rfl,rfl,.inr (.inl ⟨xs,j,v,h,hl,hj,hv,q⟩)⟩
theorem eC {a : Addr} {n : Int} {es : List (Int × AV)} {v : AV} (h : H a = some (.dict es)) (hv : es.lookup n = some v) (q : Q v H) : dO c k (.ref a) (.int n) H Q:=
 ⟨a,n,rfl,rfl,.inr (.inr ⟨es,v,h,hv,q⟩)⟩
theorem aJ {n i : Nat} (h : i < n) : kX n (i : Int) = some i:=by
 unfold kX
 refine aa (if_pos ⟨by exact dm,by exact tM h⟩) ?_
 rfl
end
section
variable {c : Cx} {k : Nat} {sc : Scope} {m : aS} {H : ag} {Q : AV->ag->Prop} {QS : Fl->aS->ag->Prop} {QB : Bool->ag->Prop}
theorem ij {x : Str} {pos' pos : Pos} {value : Expr} (h : a0 sc x = true/\(∀ env,env.scope = sc->swapsWith value (some (.Name x pos')) pos.line env = pure false)/\WE c k sc value m H fun v H1=>QS .next (put m x v) H1) :
  WS c k sc (exec (.Assign [.Name x pos'] value pos)) m H QS:=jf h.1 h.2.2 h.2.1
theorem pN {o : Expr} {name : Str} {pos : Pos} (h1 : ∀ env,eval (.Attribute o name pos) env = (do let v <-eval o env; standAt pos.atName; let r <-holding [v] (getAttr v name true); letTemporaryGo o v r; pure r))
  (h : WE c k sc o m H fun v H1=>kD c k v name H1 Q) : WE c k sc (.Attribute o name pos) m H Q:=by
 intro A env g s hA hF hR
 refine aa (h1 ..) ?_
 refine wpAny_bind (aY (h A env g s hA hF hR) fun u s1 J=>?_)
 obtain ⟨H1,R1,q⟩:=J
 refine wpAny_bind (wpAny_standAt (wpAny_bind (wpAny_holding (nV R1 q fun v tk H' R' q'=>?_))))
 exact wpAny_bind (wpAny_letTemporaryGo (wpAny_pure ⟨H',R',q'⟩))
theorem qE {a : Addr} {n : Int} (h : ∃ xs j v,H a = some (.list xs)/\xs.length < 2 ^ 40/\kX xs.length n = some j/\xs[j]? = some v/\Q v H) : dO c k (.ref a) (.int n) H Q:=let ⟨_,_,_,h1,h2,h3,h4,q⟩:=h; bn h1 h2 h3 h4 q
theorem vk {a : Addr} {n : Int} (h : ∃ es v,H a = some (.dict es)/\es.lookup n = some v/\Q v H) : dO c k (.ref a) (.int n) H Q:=let ⟨_,_,h1,h2,q⟩:=h; eC h1 h2 q
end
theorem eU {b : Bool} {A B : Prop} (h : b = true) (a : A) : if b = true then A else B:=by refine aa (if_pos h) ?_; exact a
theorem fD {b : Bool} {A B : Prop} (h : b = false) (a : B) : if b = true then A else B:=by refine aa (if_neg (by rw [h]; exact Bool.false_ne_true)) ?_; exact a
section
variable {c : Cx} {k : Nat} {sc : Scope} {m : aS} {H : ag} {Q : AV->ag->Prop} {QS : Fl->aS->ag->Prop} {QB : Bool->ag->Prop}
structure i8 (T : String) (name : Str) (id : String) : Prop where
 pa : PlainAttrs T
 slot : Slot T name id
 ty : typeOf (.builtin id) = pure (.type "method_descriptor")
theorem vQ : i8 "list" "append" "list.append":=⟨PySem.F.plainAttrs_list,PySem.F.slot_list_append,PySem.F.type_list_append⟩
theorem Ce : i8 "list" "pop" "list.pop":=⟨PySem.F.plainAttrs_list,PySem.F.slot_list_pop,PySem.F.type_list_pop⟩
theorem vE : i8 "list" "extend" "list.extend":=⟨PySem.F.plainAttrs_list,PySem.F.slot_list_extend,PySem.F.type_list_extend⟩
theorem xm : i8 "list" "index" "list.index":=⟨PySem.F.plainAttrs_list,PySem.F.slot_list_index,PySem.F.type_list_index⟩
theorem Dv : i8 "set" "add" "set.add":=⟨PySem.F.plainAttrs_set,PySem.F.slot_set_add,PySem.F.type_set_add⟩
theorem vo : i8 "set" "discard" "set.discard":=⟨PySem.F.plainAttrs_set,PySem.F.slot_set_discard,PySem.F.type_set_discard⟩
theorem vy : i8 "set" "update" "set.update":=⟨PySem.F.plainAttrs_set,PySem.F.slot_set_update,PySem.F.type_set_update⟩
theorem rG : i8 "dict" "setdefault" "dict.setdefault":=⟨PySem.F.plainAttrs_dict,PySem.F.slot_dict_setdefault,PySem.F.type_dict_setdefault⟩
end
inductive bX {α β : Type} (R : α->β->Prop) : List α->List β->Prop
 | nil : bX R [] []
 | cons {a : α} {b : β} {as : List α} {bs : List β} (h : R a b) (t : bX R as bs) : bX R (a :: as) (b :: bs)
theorem bX.len {α β : Type} {R : α->β->Prop} {as : List α} {bs : List β} (h : bX R as bs) : as.length = bs.length:=by
 induction h with
 | nil=>rfl
 | cons _ _ ih=>simp [ih]
theorem bX.mono {α β : Type} {R R' : α->β->Prop} {as : List α} {bs : List β} (h : bX R as bs) (hr : ∀ a b,R a b->R' a b) : bX R' as bs:=by
 induction h with
 | nil=>exact .nil
 | cons h _ ih=>exact .cons (hr _ _ h) ih
theorem bX.at {α β : Type} {R : α->β->Prop} {as : List α} {bs : List β} (h : bX R as bs) {i : Nat} {a : α} {b : β} (ha : as[i]? = some a) (hb : bs[i]? = some b) : R a b:=by
 induction h generalizing i with
 | nil=>exact ns ha
 | cons h _ ih=>
  cases i with
  | zero=>exact Option.some.inj ha▸Option.some.inj hb▸h
  | succ i=>exact ih ha hb
theorem bX.append {α β : Type} {R : α->β->Prop} {as as' : List α} {bs bs' : List β} (h : bX R as bs) (h' : bX R as' bs') : bX R (as ++ as') (bs ++ bs'):=by
 induction h with
 | nil=>exact h'
 | cons h _ ih=>exact .cons h ih
theorem bX.of_at {α β : Type} {R : α->β->Prop} {as : List α} : ∀ {bs : List β},as.length = bs.length->(∀ (i : Nat) a b,as[i]? = some a->bs[i]? = some b->R a b)->bX R as bs:=by
 induction as with
 | nil=>
  intro bs h _
  cases bs with
  | nil=>exact .nil
  | cons=>exact nomatch h
 | cons a as ih=>
  intro bs h hr
  cases bs with
  | nil=>exact nomatch h
  | cons b bs=>exact .cons (hr 0 a b rfl rfl) (ih (Nat.succ.inj h) fun i=>hr (i + 1))
theorem oR (m : aS) (x : Str) (u : AV) (v : AV) : put (put m x u) x v = put m x v:=by
 funext y; unfold put; split<;>rfl
section
variable {c : Cx} {k : Nat} {sc : Scope} {m : aS} {H : ag} {QS : Fl->aS->ag->Prop}
theorem WT.mono {e : Expr} {QB QB' : Bool->ag->Prop} (h : WT c k sc e m H QB) (hp : ∀ b H',QB b H'->QB' b H') : WT c k sc e m H QB':=
 fun A env g s hA hF hR=>aY (h A env g s hA hF hR) fun _ _ ⟨H',r,q⟩=>⟨H',r,hp _ _ q⟩
theorem oh {QB QB' : Bool->ag->Prop} {ifs : List Expr} {m : aS} (hq : ∀ b H,QB b H->QB' b H) : ∀ {H : ag},cN c k sc ifs m H QB->cN c k sc ifs m H QB':=by
 induction ifs with
 | nil=>intro H h; exact hq _ _ h
 | cons e es ih=>
  intro H h
  refine WT.mono h fun b H1 hb=>?_
  cases b with
  | true=>exact ih hb
  | false=>exact hq _ _ hb
theorem vw {QB : Bool->ag->Prop} (h : QB true H) : cN c k sc [] m H QB:=h
theorem uN {e : Expr} {es : List Expr} {QB : Bool->ag->Prop} (h : WT c k sc e m H fun b H1=>if b = true then cN c k sc es m H1 QB else QB false H1) : cN c k sc (e :: es) m H QB:=h
theorem ar {a : Addr} {xs : List AV} (h : H a = some (.list xs)) : dy H (.ref a) xs:=⟨a,rfl,.inl h⟩
theorem bU {a : Addr} {n : Int} (h : H a = some (.range n)) (h0 : 0<=n) (h1 : n < 2 ^ 40) : dy H (.ref a) ((List.range n.toNat).map fun (i : Nat)=>AV.int (i : Int)):=⟨a,rfl,.inr ⟨n,h,h0,h1,rfl⟩⟩
theorem l5 {elts : List Expr} {n : Nat} {tpos pos : Pos} {value : Expr} {x y : Str} (h : (a0 sc x = true/\a0 sc y = true/\x≠y)/\(∀ env,env.scope = sc->swapsWithSole [.Tuple elts n tpos] value pos.line env = pure false)/\(∀ env,env.scope = sc->swappedStores [.Tuple elts n tpos] value env = pure (some [x,y]))/\
  WE c k sc value m H fun v H1=>∃ a u w,v = .ref a/\H1 a = some (.tuple [u,w])/\QS .next (put (put m x u) y w) H1) : WS c k sc (exec (.Assign [.Tuple elts n tpos] value pos)) m H QS:=o9 h.1.1 h.1.2.1 h.1.2.2 h.2.1 h.2.2.1 h.2.2.2
theorem Bb {QU : aS->ag->Prop} (h : QU m H) : va c k sc [] [] m H QU:=h
theorem xj {e : Expr} {es : List Expr} {v : AV} {vs : List AV} {QU : aS->ag->Prop} (h : WA c k sc e v m H fun m1 H1=>va c k sc es vs m1 H1 QU) : va c k sc (e :: es) (v :: vs) m H QU:=h
end
end
section
section
variable {c : Cx} {k : Nat} {sc : Scope} {m : aS} {H : ag} {Q : AV->ag->Prop}
theorem vJ {QO : Option Int->ag->Prop} (h : QO none H) : ee c k sc none m H QO:=h
theorem pk {e : Expr} {QO : Option Int->ag->Prop} (h : WE c k sc e m H fun v H1=>∃ i,v = .int i/\QO (some i) H1) : ee c k sc (some e) m H QO:=h
end
end
section
abbrev u7 (R Q : AV->ag->Prop) : Prop:=∀ v H,Q v H->R v H
abbrev x8 (R Q : ag->Prop) : Prop:=∀ H,Q H->R H
inductive NC : Fl->Prop | next : NC .next | cont : NC .cont
inductive NN : Fl->Prop | cont : NN .cont | brk : NN .brk | ret (v : AV) : NN (.ret v)
abbrev pq (R : Fl->aS->ag->Prop) (P : aS->ag->Prop) : Prop:=∀ m H,P m H->R .next m H
abbrev Cq (R Q : Fl->aS->ag->Prop) : Prop:=∀ f m H,NN f->Q f m H->R f m H
abbrev gK (R : Fl->aS->ag->Prop) (P : aS->ag->Prop) : Prop:=∀ f m H,NC f->P m H->R f m H
abbrev fE (R Q : Fl->aS->ag->Prop) : Prop:=∀ v m H,Q (.ret v) m H->R (.ret v) m H
abbrev xz (R : Bool->ag->Prop) (P : ag->Prop) : Prop:=∀ H,P H->R true H
abbrev ub (R : Bool->ag->Prop) (P : ag->Prop) : Prop:=∀ H,P H->R false H
theorem D0 {R : Bool->ag->Prop} {P : ag->Prop} {b : Bool} {H : ag} (h : xz R P) (hb : b = true) (q : P H) : R b H:=by refine aa (hb ..) ?_; exact h _ q
theorem DQ {R : Bool->ag->Prop} {P : ag->Prop} {b : Bool} {H : ag} (h : ub R P) (hb : b = false) (q : P H) : R b H:=by refine aa (hb ..) ?_; exact h _ q
def Di (Q : Fl->aS->ag->Prop) (Pn : aS->ag->Prop) (P : (Fl->aS->ag->Prop)->Prop) : Prop:=∀ R,pq R Pn->Cq R Q->P R
def Dn (A B : ag->Prop) (P : (Bool->ag->Prop)->Prop) : Prop:=∀ R,xz R A->ub R B->P R
def jZ (Q : AV->ag->Prop) (P : (AV->ag->Prop)->Prop) : Prop:=∀ R,u7 R Q->P R
theorem Nat.lt_of_ble {a b : Nat} (h : Nat.ble (a + 1) b = true) : a < b:=Nat.le_of_ble_eq_true h
inductive yB (v : AV) (QB : Bool->ag->Prop) (H : ag) : Prop | mk (b : Bool) (h : v = .bool b) (q : QB b H)
inductive EI (v : AV) (QO : Option Int->ag->Prop) (H : ag) : Prop | mk (i : Int) (h : v = .int i) (q : QO (some i) H)
inductive uQ (H1 : ag) (v : AV) (F : List AV->Addr->Prop) : Prop | mk (xs : List AV) (h : dy H1 v xs) (q : ∀ l,v = .ref l->F xs l)
inductive kB (H1 : ag) (v : AV) (F : List AV->Addr->Prop) : Prop | mk (xs : List AV) (h : dy H1 v xs) (hl : xs.length<=1000000) (q : ∀ l,v = .ref l->F xs l)
theorem cP {H1 : ag} {a : Addr} {F : List AV->Addr->Prop} {xs : List AV} (h : dy H1 (.ref a) xs) (q : F xs a) : uQ H1 (.ref a) F:=⟨xs,h,fun l hl=>by cases hl; exact q⟩
theorem bA {H1 : ag} {a : Addr} {F : List AV->Addr->Prop} {xs : List AV} (h : dy H1 (.ref a) xs) (hl : xs.length<=1000000) (q : F xs a) : kB H1 (.ref a) F:=⟨xs,h,hl,fun l hl=>by cases hl; exact q⟩
inductive wE (H1 : ag) (ov : AV) (T : String) (F : Prop) : Prop | mk (a : Addr) (ao : AO) (h1 : ov = .ref a) (h2 : H1 a = some ao) (h3 : ao.ty = some T) (q : F)
inductive C7 (H4 : ag) (o : AV) (st : Option Int) (F : List AV->Addr->Prop) : Prop | mk (a : Addr) (xs : List AV) (h1 : o = .ref a) (h2 : H4 a = some (.list xs)) (h3 : xs.length < 1000000) (h4 : st≠some 0) (q : ∀ d,H4 d = none->F xs d)
inductive Er (n : Nat) (F : Nat->Prop) : Prop | mk (n' : Nat) (h : n' < n) (q : F n')
section
variable {c : Cx} {k : Nat} {sc : Scope} {m : aS} {H : ag} {Q QS : Fl->aS->ag->Prop} {QE : AV->ag->Prop}
theorem vR {st : Stmt} {sts : List Stmt} (h : Di Q (fun m' H'=>WS c k sc (execs sts) m' H' Q) fun R=>WS c k sc (exec st) m H R) : WS c k sc (execs (st :: sts)) m H Q:=
 kA (h _ (fun _ _ q=>q) fun f _ _ n q=>by cases n<;>exact q)
theorem CK {t : Expr} {a b : List Stmt} {pos : Pos} (h : Dn (fun H1=>WS c k sc (execs a) m H1 Q) (fun H1=>WS c k sc (execs b) m H1 Q) fun R=>WT c k sc t m H R) : WS c k sc (exec (.If t a b pos)) m H Q:=
 wU (h (fun x H1=>if x = true then WS c k sc (execs a) m H1 Q else WS c k sc (execs b) m H1 Q) (fun _ q=>(if_pos rfl).mpr q) fun _ q=>(if_neg Bool.false_ne_true).mpr q)
theorem rW {target iter : Expr} {body : List Stmt} {pos : Pos} (h1 : ∀ env x,foldedSetIterable iter env x = pure x) (h : jZ (fun v H1=>uQ H1 v fun xs l=>i7 c k sc target body (fun H'=>H' l = H1 l) xs m H1 QS) fun R=>WE c k sc iter m H R) :
  WS c k sc (exec (.For target iter body [] pos)) m H QS:=uC (h _ fun _ _ ⟨xs,h,q⟩=>⟨xs,h,q⟩) h1
theorem qi {x : Str} {pos' pos spos : Pos} {elt target iter : Expr} {ifs : List Expr} {scope : Scope}
  (h1 : a0 sc x = true) (h2 : dL sc scope = true) (h3 : ∀ env x,foldedSetIterable iter env x = pure x) (h4 : ∀ env,env.scope = sc->swapsWith (.ListComp elt [⟨target,iter,ifs,0⟩] scope pos) (some (.Name x pos')) spos.line env = pure true)
   (h : jZ (fun v H1=>kB H1 v fun xs l=>dB c k scope target ifs elt (fun H'=>H' l = H1 l) xs [] (dp scope m) H1 fun ys H2=>∀ a,H2 a = none->QS .next (put m x (.ref a)) (an H2 a (.list ys))) fun R=>WE c k sc iter m H R) :
  WS c k sc (exec (.Assign [.Name x pos'] (.ListComp elt [⟨target,iter,ifs,0⟩] scope pos) spos)) m H QS:=r8 h1 h2 h3 h4 (h _ fun _ _ ⟨xs,h,hl,q⟩=>⟨xs,h,hl,q⟩)
theorem pV {elt target iter : Expr} {ifs : List Expr} {scope : Scope} {pos : Pos}
  (h1 : dL sc scope = true) (h2 : ∀ env x,foldedSetIterable iter env x = pure x) (h : jZ (fun v H1=>kB H1 v fun xs l=>dB c k scope target ifs elt (fun H'=>H' l = H1 l) xs [] (dp scope m) H1 fun ys H2=>∀ a,H2 a = none->QE (.ref a) (an H2 a (.list ys))) fun R=>WE c k sc iter m H R) :
  WE c k sc (.ListComp elt [⟨target,iter,ifs,0⟩] scope pos) m H QE:=si h1 h2 (h _ fun _ _ ⟨xs,h,hl,q⟩=>⟨xs,h,hl,q⟩)
theorem bK {test : Expr} {body : List Stmt} {pos : Pos} (I : Nat->aS->ag->Prop)
  (turn : ∀ n R,gK R (fun m' H'=>Er n fun n'=>I n' m' H')->fE R Q->∀ m H,I n m H->WT c k sc test m H fun b H1=>if b = true then WS c k sc (execs body) m H1 R else Q .next m H1) (n : Nat) (h : I n m H) : WS c k sc (exec (.While test body [] pos)) m H Q:=
 qF I (fun n m H hi=>turn n (fun f m' H'=>match f with
    | .next | .cont=>∃ n',n' < n/\I n' m' H'
    | .brk=>Q .next m' H'
    | .ret v=>Q (.ret v) m' H') (fun f m' H' nc q=>by obtain ⟨a,b,d⟩:=q; cases nc<;>exact ⟨a,b,d⟩) (fun _ _ _ q=>q) m H hi) n h
theorem vm {x : Str} {pos' pos : Pos} {value : Expr} (hx : a0 sc x = true) (hs : ∀ env,env.scope = sc->swapsWith value (some (.Name x pos')) pos.line env = pure false) (h : WE c k sc value m H fun v H1=>QS .next (put m x v) H1) :
  WS c k sc (exec (.Assign [.Name x pos'] value pos)) m H QS:=jf hx h hs
theorem Bj {x : Str} {pos' pos : Pos} {op : Operator} {value : Expr} {v0 : AV} (hx : a0 sc x = true) (hn : bb sc x = true) (hv : m x = some v0) (h : WE c k sc value m H fun v H1=>dM c k (inplaceOp op) v0 v H1 fun r H2=>QS .next (put m x r) H2) :
  WS c k sc (exec (.AugAssign (.Name x pos') op value pos)) m H QS:=uF hx hn hv h
theorem yX {e : Expr} {pos : Pos} (hi : ∀ env,env.scope = sc->interactive env = false) (hs : ∀ env,env.scope = sc->swapsWith e none pos.line env = pure false) (h : WE c k sc e m H fun _ H1=>QS .next m H1) : WS c k sc (exec (.Expr e pos)) m H QS:=rU h hi hs
theorem sD {o value : Expr} {name : Str} {pos' pos : Pos} (hs : ∀ env,env.scope = sc->swapsWith value (some (.Attribute o name pos')) pos.line env = pure false)
  (h : WE c k sc value m H fun v H1=>WE c k sc o m H1 fun ov H2=>jy c k ov name v H2 fun H3=>QS .next m H3) : WS c k sc (exec (.Assign [.Attribute o name pos'] value pos)) m H QS:=nY hs h
theorem u6 {o i value : Expr} {pos' pos : Pos} (hs : ∀ env,env.scope = sc->swapsWith value (some (.Subscript o i pos')) pos.line env = pure false)
  (h : WE c k sc value m H fun v H1=>WE c k sc o m H1 fun ov H2=>WE c k sc i m H2 fun iv H3=>rf c k ov iv v H3 fun H4=>QS .next m H4) : WS c k sc (exec (.Assign [.Subscript o i pos'] value pos)) m H QS:=pA hs h
theorem uX {elts : List Expr} {n : Nat} {tpos pos : Pos} {value : Expr} (h1 : ∀ env,env.scope = sc->swapsWithSole [.Tuple elts n tpos] value pos.line env = pure false) (h2 : ∀ env,env.scope = sc->swappedStores [.Tuple elts n tpos] value env = pure none)
  (h : WE c k sc value m H fun v H1=>WA c k sc (.Tuple elts n tpos) v m H1 fun m' H'=>QS .next m' H') : WS c k sc (exec (.Assign [.Tuple elts n tpos] value pos)) m H QS:=qp h1 h2 h
theorem A6 {value slice : Expr} {pos : Pos} (h1 : ku slice) (h : WE c k sc value m H fun o H1=>WE c k sc slice m H1 fun i H2=>dO c k o i H2 QE) : WE c k sc (.Subscript value slice pos) m H QE:=jC h1 h
theorem Ba {l r : Expr} {op : CmpOp} {pos : Pos} (hm : behindInMarks op r = false) (h : WE c k sc l m H fun a H1=>WE c k sc r m H1 fun b H2=>dM c k (compareOp op) a b H2 QE) : WE c k sc (.Compare l [op] [r] pos) m H QE:=uD h hm
theorem gV {l r : Expr} {op : CmpOp} {pos : Pos} {QB : Bool->ag->Prop} (hm : behindInMarks op r = false) (h : WE c k sc l m H fun a H1=>WE c k sc r m H1 fun b H2=>dM c k (compareOp op) a b H2 fun v H3=>yB v QB H3) : WT c k sc (.Compare l [op] [r] pos) m H QB:=
 vq (WE.mono h fun a H1 h=>WE.mono h fun b H2 h u v hu hv=>Wp.mono (h u v hu hv) fun _ _ ⟨b,h,q⟩=>⟨b,h,q⟩) hm
theorem wJ {elts : List Expr} {pos : Pos} (h1 : cH elts) (h : f9 c k sc elts m H fun vs H1=>vs.length<=1000000/\∀ a,H1 a = none->QE (.ref a) (an H1 a (.list vs))) : WE c k sc (.List elts pos) m H QE:=r0 h1 h
theorem vC {elts : List Expr} {n : Nat} {pos : Pos} (h1 : cH elts) (h : f9 c k sc elts m H fun vs H1=>vs.length<=1000000/\∀ a,H1 a = none->QE (.ref a) (an H1 a (.tuple vs))) : WE c k sc (.Tuple elts n pos) m H QE:=qt h1 h
theorem yj {f : Str} {fp pos : Pos} {args : List Expr} {fa : Addr} (hf : sc.names.lookup f = some .globalImplicit) (F : cw c.K f fa) (hs : cH args) (h : f9 c k sc args m H fun vs H1=>AC c k fa vs H1 QE) : WE c k sc (.Call (.Name f fp) args [] pos) m H QE:=(Option.isSome_iff_exists.mp F.fn).elim fun _ o=>(kC o).elim fun _ o=>o.elim fun _ o=>o.elim fun _ o=>rY hf F.nd F.ns o hs h
theorem Cw {f : Str} {fp pos : Pos} {args : List Expr} {v : Value} (hf : sc.names.lookup f = some .globalImplicit) (F : iV c.K f v) (hs : cH args) (h : f9 c k sc args m H fun vs H1=>bF c k v vs H1 QE) : WE c k sc (.Call (.Name f fp) args [] pos) m H QE:=w5 hf F.nd F.nn F.ns F.bo F.nr hs h
theorem A5 {f : Str} {fp pos : Pos} {args : List Expr} {C fI : Addr} (hf : sc.names.lookup f = some .globalImplicit) (F : ph c.K f C fI) (hs : cH args)
  (h : f9 c (k + 1) sc args m H fun vs H1=>∀ a dx,H1 a = none->H1 dx = none->a≠dx->AC c k fI (.ref a :: vs) (an (an H1 dx (.attrs [])) a (.inst C dx)) fun v H2=>v = .none/\QE (.ref a) H2) : WE c (k + 1) sc (.Call (.Name f fp) args [] pos) m H QE:=uR hf F.nd F.ns hs F.keep F.make F.init F.ty h
theorem qC {o : Expr} {name : Str} {apos pos : Pos} {args : List Expr} {T id : String} (M : i8 T name id) (h1 : ∀ env,attributeBase o name env (eval o env) = eval o env) (h2 : cH args) (h3 : args.length < 30) (h4 : (apos.endLine == pos.line) = true)
  (h : WE c k sc o m H fun ov H1=>wE H1 ov T (f9 c k sc args m H1 fun vs H2=>bF c k (.builtin id) (ov :: vs) H2 QE)) : WE c k sc (.Call (.Attribute o name apos) args [] pos) m H QE:=
 sm h1 h2 h3 h4 M.pa M.slot M.ty (WE.mono h fun _ _ ⟨a,ao,x,y,z,q⟩=>⟨a,ao,x,y,z,q⟩)
def r9 : AV->Bool | .other=>true | _=>false
theorem BT {a C dx : Addr} {name : Str} {es : List (Str × AV)} {v : AV} (h1 : H a = some (.inst C dx)) (h2 : H dx = some (.attrs es)) (h3 : es.lookup name = some v) (h4 : bz c.K C name = true) (h5 : r9 v = false) (q : QE v H) : kD c k (.ref a) name H QE:=qk h1 h2 h3 h4 (fun e=>by subst e; contradiction) q
theorem Bn {a C dx : Addr} {name : Str} {es : List (Str × AV)} {v : AV} {QH : ag->Prop} (h1 : H a = some (.inst C dx)) (h2 : H dx = some (.attrs es)) (h3 : es.length < 50) (h4 : bz c.K C name = true) (q : QH (an H dx (.attrs (f7 es name v)))) : jy c k (.ref a) name v H QH:=pO h1 h2 h3 h4 q
theorem j3 {elts : List Expr} {n : Nat} {pos : Pos} {a : Addr} {vs : List AV} {QU : aS->ag->Prop} (h1 : pX elts) (h2 : H a = some (.tuple vs)) (h3 : elts.length = vs.length) (q : va c k sc elts vs m H QU) : WA c k sc (.Tuple elts n pos) (.ref a) m H QU:=mO h1 h3 h2 q
theorem xQ {x : Str} {pos : Pos} {v : AV} {QU : aS->ag->Prop} (h1 : a0 sc x = true) (q : QU (put m x v) H) : WA c k sc (.Name x pos) v m H QU:=ek h1 q
theorem ee.mono : ∀ {o : Option Expr} {m : aS} {H : ag} {QO QO' : Option Int->ag->Prop},ee c k sc o m H QO->(∀ i H,QO i H->QO' i H)->ee c k sc o m H QO'
 | none,_,_,_,_,h,hp=>hp _ _ h
 | some e,m,H,_,_,h,hp=>WE.mono (e:=e) h fun _ _ ⟨i,h,q⟩=>⟨i,h,hp _ _ q⟩
theorem vI {value : Expr} {lower upper step : Option Expr} {p pos : Pos} (h1 : ∀ o i,∃ ops,subscripted (.Slice lower upper step p) false o i = operate ops (getItem o i))
  (h : WE c k sc value m H fun o H1=>ee c k sc lower m H1 fun lo H2=>ee c k sc upper m H2 fun hi H3=>ee c k sc step m H3 fun st H4=>C7 H4 o st fun xs d=>QE (.ref d) (an H4 d (.list (cC xs lo hi st)))) :
  WE c k sc (.Subscript value (.Slice lower upper step p) pos) m H QE:=
 pM h1 (WE.mono h fun _ _ h=>ee.mono h fun _ _ h=>ee.mono h fun _ _ h=>ee.mono h fun _ _ ⟨a,xs,h1,h2,h3,h4,q⟩=>⟨a,xs,h1,h2,h3,h4,q⟩)
theorem uL {e : Expr} {QO : Option Int->ag->Prop} (h : WE c k sc e m H fun v H1=>EI v QO H1) : ee c k sc (some e) m H QO:=pk (WE.mono h fun _ _ ⟨i,h,q⟩=>⟨i,h,q⟩)
end
section
variable {c : Cx} {k : Nat} {sc : Scope} {QS : Fl->aS->ag->Prop}
theorem p7 {S : Nat->AV->Prop} {v : AV} {xs : List AV} {i : Nat} (hs : ∀ j w,(v :: xs)[j]? = some w->S (i + j) w) : ∀ j w,xs[j]? = some w->S (i + 1 + j) w:=
 fun j w h=>(oD : i + (j + 1) = i + 1 + j)▸hs (j + 1) w h
def iH (I : Nat->aS->ag->Prop) (stay : ag->Prop) (QS : Fl->aS->ag->Prop) (n : Nat) : Fl->aS->ag->Prop:=fun f m H=>match f with
 | .next | .cont=>stay H/\I (n + 1) m H
 | .brk=>QS .next m H
 | .ret v=>QS (.ret v) m H
theorem iH.nc {I : Nat->aS->ag->Prop} {stay : ag->Prop} {n : Nat} : gK (iH I stay QS n) fun m H=>stay H/\I (n + 1) m H:=fun f m' H' nc q=>by cases nc<;>exact q
theorem jr {target : Expr} {body : List Stmt} {stay : ag->Prop} (I : Nat->aS->ag->Prop) {S : Nat->AV->Prop}
  (step : ∀ n v m H,S n v->I n m H->WA c k sc target v m H fun m1 H1=>WS c k sc (execs body) m1 H1 (iH I stay QS n)) (xs : List AV) :
  ∀ i m H,I i m H->(∀ j v,xs[j]? = some v->S (i + j) v)->(∀ m H,I (i + xs.length) m H->QS .next m H)->i7 c k sc target body stay xs m H QS:=by
 induction xs with
 | nil=>intro i m H hi hs hq; exact hq m H hi
 | cons v xs ih=>
  intro i m H hi hs hq
  refine (step i v m H (hs 0 v rfl) hi).mono fun m1 H1 h=>h.mono fun f m2 H2 hf=>?_
  have ce:=fun m' H' hi'=>ih (i + 1) m' H' hi' (p7 hs) fun m h hh=>hq m h ((oD : i + (xs.length + 1) = i + 1 + xs.length)▸hh)
  cases f with
  | next=>exact ⟨hf.1,ce _ _ hf.2⟩
  | cont=>exact ⟨hf.1,ce _ _ hf.2⟩
  | brk=>exact hf
  | ret v=>exact hf
theorem aD {x : Str} {p : Pos} {body : List Stmt} {stay : ag->Prop} (I : Nat->aS->ag->Prop) (hx : a0 sc x = true) (xs : List AV) (i : Nat) (m : aS) (H : ag) (hi : I i m H)
  (hs : ∀ j R,gK R (fun m2 H2=>stay H2/\I (i + j + 1) m2 H2)->fE R QS->∀ v m H,xs[j]? = some v->I (i + j) m H->WS c k sc (execs body) (put m x v) H R)
  (hq : ∀ m H,I (i + xs.length) m H->QS .next m H) : i7 c k sc (.Name x p) body stay xs m H QS:=
 jr I (S:=fun n v=>∀ R,gK R (fun m2 H2=>stay H2/\I (n + 1) m2 H2)->fE R QS->∀ m H,I n m H->WS c k sc (execs body) (put m x v) H R)
  (fun n v m H s hi=>ek hx (s _ iH.nc (fun _ _ _ q=>q) m H hi)) xs i m H hi (fun j v hv R a b m H h=>hs j R a b v m H hv h) hq
theorem iF {x y : Str} {p1 p2 p : Pos} {n : Nat} {body : List Stmt} {stay : ag->Prop} (I : Nat->aS->ag->Prop) (hx : a0 sc x = true) (hy : a0 sc y = true) (xs : List AV) (i : Nat) (m : aS) (H : ag) (hi : I i m H)
  (hs : ∀ j R,gK R (fun m2 H2=>stay H2/\I (i + j + 1) m2 H2)->fE R QS->∀ v m H,xs[j]? = some v->I (i + j) m H->∃ t u w,v = .ref t/\H t = some (.tuple [u,w])/\WS c k sc (execs body) (put (put m x u) y w) H R)
  (hq : ∀ m H,I (i + xs.length) m H->QS .next m H) : i7 c k sc (.Tuple [.Name x p1,.Name y p2] n p) body stay xs m H QS:=
 jr I (S:=fun n v=>∀ R,gK R (fun m2 H2=>stay H2/\I (n + 1) m2 H2)->fE R QS->∀ m H,I n m H->∃ t u w,v = .ref t/\H t = some (.tuple [u,w])/\WS c k sc (execs body) (put (put m x u) y w) H R)
  (fun n v m H s hi=>by
   obtain ⟨t,u,w,rfl,ht,h0⟩:=s _ iH.nc (fun _ _ _ q=>q) m H hi
   exact mO (fun _=>rfl) rfl ht (by exact ek hx (by exact ek hy h0))) xs i m H hi (fun j v hv R a b m H h=>hs j R a b v m H hv h) hq
theorem p5 {x y : Str} {body : List Stmt} {stay : ag->Prop} (I : Nat->aS->ag->Prop) (xs : List AV) (i : Nat) (m : aS) (H : ag) (hi : I i m H)
  (hs : ∀ j R,gK R (fun m2 H2=>stay H2/\I (i + j + 1) m2 H2)->fE R QS->∀ v m H,xs[j]? = some v->I (i + j) m H->WS c k sc (execs body) (put (put m x (.int ((i + j : Nat) : Int))) y v) H R)
  (hq : ∀ m H,I (i + xs.length) m H->QS .next m H) : kE c k sc x y body stay i xs m H QS:=by
 have core : ∀ {S : Nat->AV->Prop},(∀ n v m H,S n v->I n m H->WS c k sc (execs body) (put (put m x (.int (n : Int))) y v) H (iH I stay QS n))->∀ (xs : List AV) i m H,I i m H->(∀ j v,xs[j]? = some v->S (i + j) v)->(∀ m H,I (i + xs.length) m H->QS .next m H)->kE c k sc x y body stay i xs m H QS:=by
  intro S step xs
  induction xs with
  | nil=>intro i m H hi hs hq; exact hq m H hi
  | cons v xs ih=>
   intro i m H hi hs hq
   refine (step i v m H (hs 0 v rfl) hi).mono fun f m2 H2 hf=>?_
   have ce:=fun m' H' hi'=>ih (i + 1) m' H' hi' (p7 hs) fun m h hh=>hq m h ((oD : i + (xs.length + 1) = i + 1 + xs.length)▸hh)
   cases f with
   | next=>exact ⟨hf.1,ce _ _ hf.2⟩
   | cont=>exact ⟨hf.1,ce _ _ hf.2⟩
   | brk=>exact hf
   | ret v=>exact hf
 exact core (S:=fun n v=>∀ R,gK R (fun m2 H2=>stay H2/\I (n + 1) m2 H2)->fE R QS->∀ m H,I n m H->WS c k sc (execs body) (put (put m x (.int (n : Int))) y v) H R)
  (fun n v m H s hi=>s _ iH.nc (fun _ _ _ q=>q) m H hi) xs i m H hi (fun j v hv R a b m H h=>hs j R a b v m H hv h) hq
theorem iu {target : Expr} {ifs : List Expr} {elt : Expr} {stay : ag->Prop} {QL : List AV->ag->Prop} (I : Nat->List AV->aS->ag->Prop) {S : Nat->AV->Prop}
  (step : ∀ n v acc m H,S n v->I n acc m H->WA c k sc target v m H fun m1 H1=>cN c k sc ifs m1 H1 fun b H2=>if b = true then WE c k sc elt m1 H2 fun v' H3=>stay H3/\I (n + 1) (acc ++ [v']) m1 H3 else stay H2/\I (n + 1) acc m1 H2) (xs : List AV) :
  ∀ i acc m H,I i acc m H->(∀ j v,xs[j]? = some v->S (i + j) v)->(∀ acc m H,I (i + xs.length) acc m H->QL acc H)->dB c k sc target ifs elt stay xs acc m H QL:=by
 induction xs with
 | nil=>intro i acc m H hi hs hq; exact hq acc m H hi
 | cons v xs ih=>
  intro i acc m H hi hs hq
  have ce:=fun acc' m' H' hi'=>ih (i + 1) acc' m' H' hi' (p7 hs) fun a m h hh=>hq a m h ((oD : i + (xs.length + 1) = i + 1 + xs.length)▸hh)
  refine (step i v acc m H (hs 0 v rfl) hi).mono fun m1 H1 h1=>oh (fun b H2 hb=>?_) h1
  cases b with
  | true=>exact WE.mono hb fun v' H3 h=>⟨h.1,ce _ _ _ h.2⟩
  | false=>exact ⟨hb.1,ce _ _ _ hb.2⟩
theorem jm {target : Expr} {ifs : List Expr} {elt : Expr} {stay : ag->Prop} {QL : List AV->ag->Prop} (I : Nat->List AV->aS->ag->Prop) (xs : List AV) (i : Nat) (acc : List AV) (m : aS) (H : ag) (hi : I i acc m H)
  (hs : ∀ j v acc,xs[j]? = some v->∀ m H,I (i + j) acc m H->WA c k sc target v m H fun m1 H1=>cN c k sc ifs m1 H1 fun b H2=>if b = true then WE c k sc elt m1 H2 fun v' H3=>stay H3/\I (i + j + 1) (acc ++ [v']) m1 H3 else stay H2/\I (i + j + 1) acc m1 H2)
  (hq : ∀ acc m H,I (i + xs.length) acc m H->QL acc H) : dB c k sc target ifs elt stay xs acc m H QL:=
 iu I (S:=fun n v=>∀ acc m H,I n acc m H->WA c k sc target v m H fun m1 H1=>cN c k sc ifs m1 H1 fun b H2=>if b = true then WE c k sc elt m1 H2 fun v' H3=>stay H3/\I (n + 1) (acc ++ [v']) m1 H3 else stay H2/\I (n + 1) acc m1 H2)
  (fun n v acc m H s hi=>s acc m H hi) xs i acc m H hi (fun j v hv acc m H h=>hs j v acc hv m H h) hq
theorem ax {x : Str} {p : Pos} {ifs : List Expr} {elt : Expr} {stay : ag->Prop} {QL : List AV->ag->Prop} (I : Nat->List AV->ag->Prop) (hx : a0 sc x = true) (xs : List AV) (i : Nat) (acc : List AV) (m : aS) (H : ag) (hi : I i acc H)
  (hs : ∀ j v acc,xs[j]? = some v->∀ Ry,u7 Ry (fun v' H3=>stay H3/\I (i + j + 1) (acc ++ [v']) H3)->∀ Rn,x8 Rn (fun H2=>stay H2/\I (i + j + 1) acc H2)->∀ H,I (i + j) acc H->cN c k sc ifs (put m x v) H fun b H2=>if b = true then WE c k sc elt (put m x v) H2 Ry else Rn H2)
  (hq : ∀ acc H,I (i + xs.length) acc H->QL acc H) : dB c k sc (.Name x p) ifs elt stay xs acc m H QL:=
 iu (fun n acc m' H=>(∀ v,put m' x v = put m x v)/\I n acc H) (S:=fun n v=>∀ acc Ry,u7 Ry (fun v' H3=>stay H3/\I (n + 1) (acc ++ [v']) H3)->∀ Rn,x8 Rn (fun H2=>stay H2/\I (n + 1) acc H2)->∀ H,I n acc H->cN c k sc ifs (put m x v) H fun b H2=>if b = true then WE c k sc elt (put m x v) H2 Ry else Rn H2)
  (fun n v acc m' H s hi=>ek hx ((hi.1 v).symm▸s acc _ (fun v' H3 h=>⟨h.1,oR m x v,h.2⟩) _ (fun H2 h=>⟨h.1,oR m x v,h.2⟩) H hi.2)) xs i acc m H ⟨fun _=>rfl,hi⟩ (fun j v hv acc Ry a Rn b H h=>hs j v acc hv Ry a Rn b H h) fun acc _ H h=>hq acc H h.2
end
section
variable {c : Cx} {k : Nat} {sc : Scope} {m : aS} {H : ag} {QE : AV->ag->Prop} {QB : Bool->ag->Prop} {QS : Fl->aS->ag->Prop} {x y : Str} {p p' pos : Pos} {u v : AV} {i : Int} {n : Nat}
theorem vt {name : Str} (hx : bb sc x = true) (hv : m x = some v) (h1 : ∀ env,eval (.Attribute (.Name x p) name pos) env = (do let v <-eval (.Name x p) env; standAt pos.atName; let r <-holding [v] (getAttr v name true); letTemporaryGo (.Name x p) v r; pure r))
  (q : kD c k v name H QE) : WE c k sc (.Attribute (.Name x p) name pos) m H QE:=pN h1 (be hx hv q)
theorem vr (hx : bb sc x = true) (hv : m x = some v) (hy : bb sc y = true) (hu : m y = some u) (h1 : ku (.Name y p')) (q : dO c k v u H QE) : WE c k sc (.Subscript (.Name x p) (.Name y p') pos) m H QE:=jC h1 (be hx hv (be hy hu q))
theorem vF (hx : bb sc x = true) (hv : m x = some v) (h1 : ku (.Constant (.int i) n p')) (q : dO c k v (.int i) H QE) : WE c k sc (.Subscript (.Name x p) (.Constant (.int i) n p') pos) m H QE:=jC h1 (be hx hv (iL q))
theorem wp {slice : Expr} (hx : bb sc x = true) (hv : m x = some v) (h1 : ku slice) (q : WE c k sc slice m H fun i H2=>dO c k v i H2 QE) : WE c k sc (.Subscript (.Name x p) slice pos) m H QE:=jC h1 (be hx hv q)
theorem CO {QL : List AV->ag->Prop} (hx : bb sc x = true) (hv : m x = some v) (q : QL [v] H) : f9 c k sc [.Name x p] m H QL:=be hx hv q
theorem Ek {es : List Expr} {QL : List AV->ag->Prop} (hx : bb sc x = true) (hv : m x = some v) (q : f9 c k sc es m H fun vs H2=>QL (v :: vs) H2) : f9 c k sc (.Name x p :: es) m H QL:=be hx hv q
theorem DJ {es : List Expr} {QL : List AV->ag->Prop} (q : f9 c k sc es m H fun vs H2=>QL (.int i :: vs) H2) : f9 c k sc (.Constant (.int i) n p :: es) m H QL:=iL q
theorem D8 {e : Expr} {QL : List AV->ag->Prop} (q : WE c k sc e m H fun v H2=>QL [v] H2) : f9 c k sc [e] m H QL:=q
theorem vB {op : CmpOp} (hm : behindInMarks op (.Name y p') = false) (hx : bb sc x = true) (hv : m x = some v) (hy : bb sc y = true) (hu : m y = some u) (q : dM c k (compareOp op) v u H fun v H3=>yB v QB H3) : WT c k sc (.Compare (.Name x p) [op] [.Name y p'] pos) m H QB:=gV hm (be hx hv (be hy hu q))
theorem vH {op : CmpOp} (hm : behindInMarks op (.Constant (.int i) n p') = false) (hx : bb sc x = true) (hv : m x = some v) (q : dM c k (compareOp op) v (.int i) H fun v H3=>yB v QB H3) : WT c k sc (.Compare (.Name x p) [op] [.Constant (.int i) n p'] pos) m H QB:=gV hm (be hx hv (iL q))
theorem zu {op : CmpOp} {r : Expr} (hm : behindInMarks op r = false) (hx : bb sc x = true) (hv : m x = some v) (q : WE c k sc r m H fun b H2=>dM c k (compareOp op) v b H2 fun v H3=>yB v QB H3) : WT c k sc (.Compare (.Name x p) [op] [r] pos) m H QB:=gV hm (be hx hv q)
theorem yZ {l : Expr} {op : CmpOp} (hm : behindInMarks op (.Constant (.int i) n p') = false) (q : WE c k sc l m H fun a H1=>dM c k (compareOp op) a (.int i) H1 fun v H3=>yB v QB H3) : WT c k sc (.Compare l [op] [.Constant (.int i) n p'] pos) m H QB:=gV hm (WE.mono q fun _ _ q=>iL q)
theorem vx {op : Operator} (hx : bb sc x = true) (hv : m x = some v) (hy : bb sc y = true) (hu : m y = some u) (q : dM c k (binaryOp op) v u H QE) : WE c k sc (.BinOp (.Name x p) op (.Name y p') pos) m H QE:=rF (be hx hv (be hy hu q))
theorem vP {op : Operator} (hx : bb sc x = true) (hv : m x = some v) (q : dM c k (binaryOp op) v (.int i) H QE) : WE c k sc (.BinOp (.Name x p) op (.Constant (.int i) n p') pos) m H QE:=rF (be hx hv (iL q))
theorem vK {name : Str} {apos : Pos} {args : List Expr} {T id : String} (M : i8 T name id) (h1 : ∀ env,attributeBase (.Name x p) name env (eval (.Name x p) env) = eval (.Name x p) env) (h2 : cH args) (h3 : args.length < 30) (h4 : (apos.endLine == pos.line) = true)
  (hx : bb sc x = true) (hv : m x = some v) (q : wE H v T (f9 c k sc args m H fun vs H2=>bF c k (.builtin id) (v :: vs) H2 QE)) : WE c k sc (.Call (.Attribute (.Name x p) name apos) args [] pos) m H QE:=qC M h1 h2 h3 h4 (be hx hv q)
theorem wI {target : Expr} {body : List Stmt} (hx : bb sc x = true) (hv : m x = some v) (h1 : ∀ env z,foldedSetIterable (.Name x p) env z = pure z) (q : uQ H v fun xs l=>i7 c k sc target body (fun H'=>H' l = H l) xs m H QS) :
  WS c k sc (exec (.For target (.Name x p) body [] pos)) m H QS:=rW h1 fun R hR=>be hx hv (hR _ _ q)
theorem vD {z : Str} {pz spos : Pos} {elt target : Expr} {ifs : List Expr} {scope : Scope} (hz : a0 sc z = true) (hc : dL sc scope = true) (h1 : ∀ env w,foldedSetIterable (.Name x p) env w = pure w) (h2 : ∀ env,env.scope = sc->swapsWith (.ListComp elt [⟨target,.Name x p,ifs,0⟩] scope pos) (some (.Name z pz)) spos.line env = pure true)
  (hx : bb sc x = true) (hv : m x = some v) (q : kB H v fun xs l=>dB c k scope target ifs elt (fun H'=>H' l = H l) xs [] (dp scope m) H fun ys H2=>∀ a,H2 a = none->QS .next (put m z (.ref a)) (an H2 a (.list ys))) :
  WS c k sc (exec (.Assign [.Name z pz] (.ListComp elt [⟨target,.Name x p,ifs,0⟩] scope pos) spos)) m H QS:=qi hz hc h1 h2 fun R hR=>be hx hv (hR _ _ q)
theorem vG {elt target : Expr} {ifs : List Expr} {scope : Scope} (hc : dL sc scope = true) (h1 : ∀ env w,foldedSetIterable (.Name x p) env w = pure w) (hx : bb sc x = true) (hv : m x = some v)
  (q : kB H v fun xs l=>dB c k scope target ifs elt (fun H'=>H' l = H l) xs [] (dp scope m) H fun ys H2=>∀ a,H2 a = none->QE (.ref a) (an H2 a (.list ys))) : WE c k sc (.ListComp elt [⟨target,.Name x p,ifs,0⟩] scope pos) m H QE:=pV hc h1 fun R hR=>be hx hv (hR _ _ q)
theorem sX (hx : bb sc x = true) (hv : m x = some v) (q : QS (.ret v) m H) : WS c k sc (exec (.Return (some (.Name x p)) pos)) m H QS:=o3 (be hx hv q)
end
inductive bC (a b c : Prop) : Prop | mk (h1 : a) (h2 : b) (h3 : c)
inductive c0 (a b c d : Prop) : Prop | mk (h1 : a) (h2 : b) (h3 : c) (h4 : d)
inductive fJ (a b c d e : Prop) : Prop | mk (h1 : a) (h2 : b) (h3 : c) (h4 : d) (h5 : e)
inductive pf (a b c d e f : Prop) : Prop | mk (h1 : a) (h2 : b) (h3 : c) (h4 : d) (h5 : e) (h6 : f)
inductive nk (a b c d e f g : Prop) : Prop | mk (h1 : a) (h2 : b) (h3 : c) (h4 : d) (h5 : e) (h6 : f) (h7 : g)
inductive uE (a b c d e f g h : Prop) : Prop | mk (h1 : a) (h2 : b) (h3 : c) (h4 : d) (h5 : e) (h6 : f) (h7 : g) (h8 : h)
inductive zm (a b c d e f g h i : Prop) : Prop | mk (h1 : a) (h2 : b) (h3 : c) (h4 : d) (h5 : e) (h6 : f) (h7 : g) (h8 : h) (h9 : i)
inductive sM (a b c d e f g h i j : Prop) : Prop | mk (h1 : a) (h2 : b) (h3 : c) (h4 : d) (h5 : e) (h6 : f) (h7 : g) (h8 : h) (h9 : i) (h10 : j)
inductive ze (a b c d e f g h i j k l m : Prop) : Prop | mk (h1 : a) (h2 : b) (h3 : c) (h4 : d) (h5 : e) (h6 : f) (h7 : g) (h8 : h) (h9 : i) (h10 : j) (h11 : k) (h12 : l) (h13 : m)
inductive A4 {α β : Type} (p : α->β->Prop) : Prop | mk (a : α) (b : β) (h : p a b)
inductive Dc {α β γ : Type} (p : α->β->γ->Prop) : Prop | mk (a : α) (b : β) (c : γ) (h : p a b c)
inductive Bi {α β γ δ : Type} (p : α->β->γ->δ->Prop) : Prop | mk (a : α) (b : β) (c : γ) (d : δ) (h : p a b c d)
inductive A8 {α β γ δ ε : Type} (p : α->β->γ->δ->ε->Prop) : Prop | mk (a : α) (b : β) (c : γ) (d : δ) (e : ε) (h : p a b c d e)
end
set_option compiler.extract_closed false
local macro_rules
 | `(tactic| walk_at $key)=>
  let N:=fun (k : Lean.Name) (l : List Lean.Syntax)=>Lean.Syntax.node .none k l.toArray
  let A:=fun (s : String)=>Lean.Syntax.atom .none s
  let P:=fun (s : String)=>`Lean.Parser.Tactic ++ .mkSimple s
  let E:=fun (s : String)=>`Lean.Parser.Term ++ .mkSimple s
  let I:=fun (s : String)=>(Lean.mkIdent s.toName).raw
  let U:=N `null
  let S:=fun (l : List Lean.Syntax)=>N (P "tacticSeq") [N (P "tacticSeq1Indented") [U (l.intersperse (A ";"))]]
  let W:=fun (s : String)=>if s = "_" then N (E "hole") [A s] else if s = "?_" then N (E "syntheticHole") [A "?",A "_"] else I s
  let G:=fun (f : Lean.Syntax) (l : List Lean.Syntax)=>if l.isEmpty then f else N (E "app") [f,U l]
  let X:=fun (s : String)=>match s.splitOn " " with
   | w :: f :: l=>N (P w) (if w = "dsimp" then [A w,N (P "optConfig") [U []],U [],U [A f],U [],U []] else if w = "intro" then [A w,U [W f]] else if w = "cases" then [A w,U [N (P "elimTarget") [U [],I f]],U [],U []] else if w = "subst" then [A w,U [I f]] else [A w,G (W f) (l.map W)])
   | _=>N (P s) [A s]
  let F:=fun (l : List Lean.Syntax)=>N (P "first") [A "first",U (l.map fun t=>N `group [A "|",S [t]])]
  let Q:=fun (l : List Lean.Syntax)=>N (P "paren") [A "(",S l,A ")"]
  let R:=fun (t : Lean.Syntax)=>N (P "withReducible") [A "with_reducible",S [t]]
  let Z:=fun (s : String)=>(s.splitOn ";").map X
  let T:=fun (c : Char)=>match c with
   | 'r'=>Z "exact rfl"
   | 'a'=>[F (Z "exact rfl;assumption")]
   | 'A' | 'h'=>Z "assumption"
   | 'f'=>Z "intro _;exact rfl"
   | 'F'=>Z "intro _;intro _;exact rfl"
   | 'b'=>Z "exact Nat.lt_of_ble rfl"
   | 'B'=>Z "exact Nat.le_of_ble_eq_true rfl"
   | 's'=>[F [Q (Z "intro _;intro _;exact rfl"),Q (Z "intro e;intro h;cases e;subst h;exact rfl")]]
   | 'S'=>Z "intro _;intro _;exact Exists.intro _ rfl"
   | 'I'=>Z "intro _"
   | 'C'=>Z "constructor"
   | 'E'=>[R (N (P "refine") [A "refine",N (E "anonymousCtor") [A "⟨",U [W "_",A ",",I "rfl",A ",",W "?_"],A "⟩"]])]
   | 'D'=>Z "dsimp only"
   | _=>[N `PyProof.Rows.tacticWalk_at_ [A "walk_at ",Lean.Syntax.mkStrLit c.toString]]
  let row:=fun (s : String)=>
   match s.splitOn "/" with
   | [n,cs,af]=>
    let h:=fun (i : Nat)=>I ("h" ++ toString i)
    let k:=cs.toList
    let t:=G (if cs.front = 'h' then N (E "typeAscription") [N (E "hygienicLParen") [A "(",N `hygieneInfo [I ""]],N (E "syntheticHole") [A "?",h 0],A ":",U [G (I n) [W "_",W "_"]],A ")"] else I n)
     (((k.zipIdx).filterMap fun (c,i)=>if c = 'h' then none else if c = '_' then some (W "_") else some (N (E "syntheticHole") [A "?",h i])) ++ if af = "." then [] else [W "?_"])
    Q (R (N (P "refine'") [A "refine'",t]) :: ((k.zipIdx).filterMap fun (c,i)=>if c = '_' then none else some (N (P "case") [A "case",U [N (P "caseArg") [N `Lean.binderIdent [h i],U []]],A "=>",S (T c)])) ++ (if af = "." then [] else (af.toList.map T).flatten))
   | _=>Q (T s.front)
  let rows:=match key.getString with
   | "look" | "l"=>"A ad/___/. Sub.upd/A__/l Eu/A/l EJ/A/l Sub/h__/l"
   | "cls" | "c"=>"u9/A/. vN/A/. Bd/A/. Cm/A/. Bf/A/. wG/A/. xL/A/. Bh/A/. zZ/A/. u5/A/. rH/A/. vO/A/. AP/A/. uB/A/. uU/A/. vL/A/. vg/A/. vj/A/. vz/A/."
   | "n"=>"EL/A/. Eb/A/. D2/A/. DN/A/. DL/A/. DF/A/. DD/A/. Ec/A/. DE/A/. DV/A/. Ei/A/. DO/A/. DZ/A/. DX/A/. El/A/. DM/A/. Ed/A/. Ee/A/. DA/A/. Eh/A/. DH/A/. DK/A/. Ef/A/. Ea/A/. DU/A/. DP/A/. Ej/A/. D4/A/."
   | "i"=>"A3/A/. Dw/A/. BW/A/. xY/A/. Dr/A/. vM/A/. Dt/A/."
   | "k"=>"ES/A/. Es/A/. Ev/A/. D6/A/."
   | "m"=>"vQ//. Ce//. vE//. xm//. Dv//. vo//. vy//. rG//."
   | "step"=>"vR//III Bk// sX/ra/ o3// CK//III vD/rrFsra/ wI/raF/ qi/rrFs/II rW/F/II vm/rs/ Bj/rra/ yX/ss/ sD/F/ Bn/llBc/ u6/F/ uX/Fs/ j3/flr/ xj// Bb// Bc// xQ/r/ tL// be/ra/ vG/rFra/ pV/rF/II iL// C1// Be// A7// vt/raf/ pN/f/ vI/S/ vJ// uL// nH/r/ vr/raraF/ vF/raF/ A6/F/ vx/rara/ vP/ra/ rF// Ba/r/ vB/rrara/ vH/rra/ yZ/r/ zu/rra/ gV/r/ Db// C4// uu// Eg// vA// BD// DG// A9// vw// uN// CO/ra/ Ek/ra/ D8// DJ// A0// wJ/f/ vC/f/ BT/llrcr/ Eo/lbrr/ bn/lbrr/ vK/mffbrra/ qC/mffbr/ Cw/rif/ yj/rnf/ A5/rkf/ uW// CF// CG// Bg// C5// BV// BJ// Df// Ds// yB.mk/_r/ EI.mk/_r/ E eU/r/ fD/r/ pq/h__/ gK/h___C/ Cq/h___C/ fE/h___/ u7/h__/ xz/h_/ ub/h_/ x8/h_/ D0/Ar/ DQ/Ar/ D"
   | _=>""
  if rows = "" then Lean.Macro.throwUnsupported else pure (F ((rows.splitOn " ").map row))
section
def dg (op : Str) (dst : Int) (args more : AV) : List (Str × AV):=[("op",.str op),("dst",.int dst),("args",args),("more",more),("is_volatile",.bool false),("line",.int 0)]
def bG (n : Int) (steps end_ : AV) : List (Str × AV):=[("number",.int n),("steps",steps),("end",end_)]
abbrev ak (n : Nat) : AV:=.int (n : Int)
inductive cY where
 | jump (g : Nat) | branch (g h : Nat) | table (gs : List Nat) (d : Nat) | give
def cY.op : cY->Str
 | .jump _=>"jump" | .branch _ _=>"branch" | .table _ _=>"table" | .give=>"give"
def cY.goals : cY->List Nat
 | .jump g=>[g] | .branch g h=>[g,h] | .table gs d=>gs ++ [d] | .give=>[]
def jQ (H : ag) : cY->AV->Prop
 | .jump g,v=>v = ak g
 | .branch g h,v=>∃ a,v = .ref a/\H a = some (.tuple [ak g,ak h])
 | .table gs d,v=>∃ a b,v = .ref a/\H a = some (.tuple [.int 0,.ref b,ak d])/\H b = some (.list (gs.map ak))/\gs.length < 100
 | .give,v=>v = .int 0
inductive jk (H : ag) (e : Addr) (K : cY) (args : AV) : Prop | mk (more : AV) (h1 : bQ H e 31 (dg K.op (-1) args more)) (h2 : jQ H K more)
section
variable {c : Cx} {k : Nat} {H : ag} {Q : AV->ag->Prop}
theorem fZ (hK : KF c.K) {b e : Addr} {n : Int} {st al : AV} {K : cY} (hb : bQ H b 52 (bG n st (.ref e))) (he : jk H e K al)
  (q : ∀ H' d,Sub H H'->H d = none->H' d = some (.list (K.goals.map ak))->Q (.ref d) H') : AC c (k + 1) 84 [.ref b] H Q:=by
 refine aI (Ex hK) rfl ?_
 dsimp only [qP,qx,rm,qT,pT]
 obtain ⟨dx,hb1,hb2⟩:=hb
 obtain ⟨mo,⟨de,he1,he2⟩,hm⟩:=he
 try walk_at "step"
 repeat walk_at "step"
 cases K with
 | jump g=>
  cases hm
  repeat walk_at "step"
  refine ⟨by simp,fun d hd=>?_⟩
  repeat walk_at "step"
  exact q _ _ (Sub.upd hd) hd (ad _ _ _)
 | branch g h=>
  obtain ⟨t,rfl,ht⟩:=hm
  repeat walk_at "step"
  refine ⟨by simp,fun d hd=>?_⟩
  repeat walk_at "step"
  exact q _ _ (Sub.upd hd) hd (ad _ _ _)
 | table gs d=>
  obtain ⟨t,u,rfl,ht,hu,hl⟩:=hm
  repeat walk_at "step"
  refine dW (.inl hu) (by simp; exact ru hl) fun d1 h1=>?_
  repeat walk_at "step"
  refine ⟨by simp,fun d2 h2=>?_⟩
  refine cK (by walk_at "look") (by walk_at "look") (by simp; exact tu hl) fun d3 h3=>?_
  repeat walk_at "step"
  refine q _ _ (((Sub.upd h1).then h2).then h3) ((((Sub.upd h1).then h2).none) h3) ?_
  refine aa (ad ..) ?_
  simp [cY.goals]
 | give=>
  cases hm
  repeat walk_at "step"
  refine ⟨by simp,fun d hd=>?_⟩
  repeat walk_at "step"
  exact q _ _ (Sub.upd hd) hd (ad _ _ _)
theorem j6 (hK : KF c.K) {b e : Addr} {n : Int} {st al : AV} {K : cY} (hb : bQ H b 52 (bG n st (.ref e))) (he : jk H e K al)
  (q : ∀ H' d,Sub H H'->H d = none->H' d = some (.list (K.goals.map ak))->Q (.ref d) H') : AC c (k + 1) 222 [.ref b] H Q:=by
 refine aI (CW hK) rfl ?_
 dsimp only [mU,lX,lA]
 obtain ⟨dx,hb1,hb2⟩:=hb
 obtain ⟨mo,⟨de,he1,he2⟩,hm⟩:=he
 repeat walk_at "step"
 cases K with
 | jump g=>
  cases hm
  repeat walk_at "step"
  refine ⟨by simp,fun d hd=>?_⟩
  repeat walk_at "step"
  exact q _ _ (Sub.upd hd) hd (ad _ _ _)
 | branch g h=>
  obtain ⟨t,rfl,ht⟩:=hm
  repeat walk_at "step"
  refine dW (.inr ht) (by simp) fun d hd=>?_
  repeat walk_at "step"
  exact q _ _ (Sub.upd hd) hd (ad _ _ _)
 | table gs d=>
  obtain ⟨t,u,rfl,ht,hu,hl⟩:=hm
  repeat walk_at "step"
  refine dW (.inl hu) (by simp; exact ru hl) fun d1 h1=>?_
  repeat walk_at "step"
  refine ⟨by simp,fun d2 h2=>?_⟩
  refine cK (by walk_at "look") (by walk_at "look") (by simp; exact tu hl) fun d3 h3=>?_
  repeat walk_at "step"
  refine q _ _ (((Sub.upd h1).then h2).then h3) ((((Sub.upd h1).then h2).none) h3) ?_
  refine aa (ad ..) ?_
  simp [cY.goals]
 | give=>
  cases hm
  repeat walk_at "step"
  refine ⟨by simp,fun d hd=>?_⟩
  repeat walk_at "step"
  exact q _ _ (Sub.upd hd) hd (ad _ _ _)
inductive gA (H : ag) (v : AV) (rs : List Int) : Prop | mk (a : Addr) (ts : List Addr) (e : v = .ref a) (h1 : H a = some (.list (ts.map AV.ref))) (h2 : bX (fun t r=>H t = some (.tuple [.str "r",.int r])) ts rs) (h3 : rs.length < 1000)
theorem gA.sub {H H' : ag} {v : AV} {rs : List Int} (h : gA H v rs) (s : Sub H H') : gA H' v rs:=
 let ⟨a,ts,e,h1,h2,h3⟩:=h; ⟨a,ts,e,s _ _ h1,h2.mono fun _ _ q=>s _ _ q,h3⟩
theorem oz (hK : KF c.K) {e : Addr} {op : Str} {dst : Int} {args more : AV} {rs : List Int} (he : bQ H e 31 (dg op dst args more)) (ha : gA H args rs)
  (q : ∀ H' d,Sub H H'->H d = none->H' d = some (.list (rs.map .int))->Q (.ref d) H') : AC c (k + 1) 110 [.ref e] H Q:=by
 refine aI (B3 hK) rfl ?_
 dsimp only [nl]
 obtain ⟨dx,he1,he2⟩:=he
 obtain ⟨a,ts,rfl,ha1,ha2,ha3⟩:=ha
 repeat walk_at "step"
 have hlen:=ha2.len
 refine bA (ar ha1) (by simp; exact wW ha3 hlen) ?_
 refine ax (I:=fun i acc H1=>H1 = H/\acc = (rs.take i).map .int) rfl _ 0 _ _ _ ⟨rfl,rfl⟩ (fun j v acc hv Ry_ hy_ Rn_ hn_ H1 hI=>?_) fun acc H1 hI=>?_
 ·clear q he1 ha1 he2 hn_; obtain ⟨rfl,rfl⟩:=hI
  rw [List.getElem?_map] at hv
  obtain ⟨t,ht,rfl⟩:=Option.map_eq_some_iff.mp hv
  have hj : j < rs.length:=by
   refine aa (Eq.symm (hlen ..)) ?_
   exact (List.getElem?_eq_some_iff.mp ht).1
  have hr : rs[j]? = some rs[j]:=List.getElem?_eq_getElem hj
  have hT:=ha2.at ht hr
  repeat walk_at "step"
  refine ⟨rfl,rfl,?_⟩
  refine aa (Nat.zero_add ..) (aa (List.take_succ_eq_append_getElem hj) (aa (List.map_append ..) ?_))
  rfl
 ·clear he1 ha1 ha2 he2; obtain ⟨rfl,rfl⟩:=hI
  intro d hd
  repeat walk_at "step"
  refine q _ _ (Sub.upd hd) hd ?_
  exact aa (ad ..) (aa (List.length_map ..) (aa (hlen ..) (aa (Nat.zero_add ..) (aa (List.take_length ..) rfl))))
end
end
section
section
variable {c : Cx} {k : Nat} {H : ag} {Q : AV->ag->Prop}
theorem cz (hK : KF c.K) {a dx : Addr} {op : Str} {dst : Int} {args more : AV} (h1 : H a = some (.inst 31 dx)) (h2 : H dx = some (.attrs [])) (hne : a≠dx)
  (q : ∀ H',(∀ b,b≠dx->H' b = H b)->H' dx = some (.attrs (dg op dst args more))->Q .none H') : AC c (k + 1) 28 [.ref a,.str op,.int dst,args,more] H Q:=by
 refine aI (EG hK) rfl ?_
 dsimp only [qN,q8,qe,rD,qS,rk]
 repeat walk_at "step"
 exact q _ (fun b hb=>by simp only [aj hb]) (ad _ _ _)
theorem i0 (hK : KF c.K) {a dx : Addr} {n : Int} (h1 : H a = some (.inst 52 dx)) (h2 : H dx = some (.attrs [])) (hne : a≠dx)
  (q : ∀ H' st,(∀ b,b≠dx->b≠st->H' b = H b)->H st = none->H' st = some (.list [])->H' dx = some (.attrs (bG n (.ref st) .none))->Q .none H') : AC c (k + 1) 49 [.ref a,.int n] H Q:=by
 refine aI (EQ hK) rfl ?_
 dsimp only [pL,qX,qY]
 repeat walk_at "step"
 refine ⟨by simp,fun st hst=>?_⟩
 obtain ⟨g1,g2⟩:=aM hst
 repeat walk_at "step"
 refine q _ st (fun b hb hb2=>?_) g2 ?_ (ad _ _ _)
 ·exact aa (aj hb) (aa (aj hb) (aa (aj hb2) (aa (aj hb) rfl)))
 ·exact aa (aj g1) (aa (aj g1) (aa (ad ..) rfl))
def dh (bl regs hv p s : AV) : List (Str × AV):=[("name",.str "f"),("params",p),("is_static",.bool false),("slots",s),("blocks",bl),("registers",regs),("has_value",hv)]
theorem jT (hK : KF c.K) {a dx : Addr} (h1 : H a = some (.inst 73 dx)) (h2 : H dx = some (.attrs [])) (hne : a≠dx)
  (q : ∀ H' bl p s,(∀ b o,b≠dx->H b = some o->H' b = some o)->H bl = none->bl≠dx->H' bl = some (.list [])->H' dx = some (.attrs (dh (.ref bl) (.int 0) (.bool false) p s))->Q .none H') : AC c (k + 1) 70 [.ref a,.str "f"] H Q:=by
 refine aI (EP hK) rfl ?_
 dsimp only [qJ,qj,p6,qW,rq,p4,qg]
 repeat walk_at "step"
 refine ⟨by simp,fun d1 k1=>?_⟩
 refine bc fun GG=>?_
 obtain ⟨g1,g2⟩:=aM k1
 refine GG ?_
 repeat walk_at "step"
 refine ⟨by simp,fun d2 k2=>?_⟩
 refine bc fun GG=>?_
 obtain ⟨e1,k2⟩:=aM k2
 obtain ⟨_,k2⟩:=aM k2
 obtain ⟨e2,k2⟩:=aM k2
 obtain ⟨_,e3⟩:=aM k2
 refine GG ?_
 repeat walk_at "step"
 refine ⟨by simp,fun d3 k3=>?_⟩
 refine bc fun GG=>?_
 obtain ⟨f1,k3⟩:=aM k3
 obtain ⟨f2,k3⟩:=aM k3
 obtain ⟨_,k3⟩:=aM k3
 obtain ⟨_,k3⟩:=aM k3
 obtain ⟨f3,k3⟩:=aM k3
 obtain ⟨_,f4⟩:=aM k3
 refine GG ?_
 repeat walk_at "step"
 refine q _ d3 (.ref d1) (.ref d2) (fun b o hb hH=>?_) f4 f1 ?_ (ad _ _ _)
 ·have n1 : b≠d1:=fun e=>by rw [e,g2] at hH; exact ns hH
  have n2 : b≠d2:=fun e=>by rw [e,e3] at hH; exact ns hH
  have n3 : b≠d3:=fun e=>by rw [e,f4] at hH; exact ns hH
  simp only [aj hb,aj n1,aj n2,aj n3]
  exact hH
 ·simp only [aj f1,ad]
def gk (h b t : AV) : List (Str × AV):=[("header",h),("blocks",b),("tails",t)]
theorem jG (hK : KF c.K) {a dx : Addr} {h b t : AV} (h1 : H a = some (.inst 101 dx)) (h2 : H dx = some (.attrs [])) (hne : a≠dx)
  (q : ∀ H',(∀ b,b≠dx->H' b = H b)->H' dx = some (.attrs (gk h b t))->Q .none H') : AC c (k + 1) 98 [.ref a,h,b,t] H Q:=by
 refine aI (ED hK) rfl ?_
 dsimp only [pK,rc,pZ]
 repeat walk_at "step"
 exact q _ (fun b hb=>by simp only [aj hb]) (ad _ _ _)
theorem d9 (hK : KF c.K) (q : ∀ d,H d = none->Q (.ref d) (an H d (.list ([0,1,2,3].map ak)))) : AC c (k + 1) 193 [] H Q:=by
 refine aI (Bz hK) rfl ?_
 dsimp only [lS]
 repeat walk_at "step"
 refine ⟨by simp,fun d hd=>?_⟩
 repeat walk_at "step"
 exact q d hd
end
end
section
def bD (H : ag) (w cl : Addr) (cs : List Int) (n : Nat) (z : Int) : Prop:=H w = some (.list [.ref cl,.int n,.int z])/\H cl = some (.list (cs.map .int))/\cs.length < 1000/\0<=z/\z < 2147483647
theorem bD.ne {H : ag} {w cl : Addr} {cs : List Int} {n : Nat} {z : Int} (h : bD H w cl cs n z) : cl≠w:=by
 intro e
 obtain ⟨h1,h2,_⟩:=h
 rw [e,h1] at h2
 cases cs with
 | nil=>exact nomatch h2
 | cons=>exact nomatch h2
section
variable {c : Cx} {k : Nat} {H : ag} {Q : AV->ag->Prop}
abbrev aV (w : Addr) (H H' : ag) : Prop:=∀ a o,a≠w->H a = some o->H' a = some o
theorem bH (hK : KF c.K) {w cl : Addr} {cs : List Int} {n : Nat} {z : Int} {size : Nat} (hW : bD H w cl cs n z) (hs : 0 < size)
  (q : ∀ (H' : ag) (r : Nat) (z' : Int),r < size->aV w H H'->bD H' w cl cs (n + 1) z'->Q (ak r) H') : AC c (k + 1) 200 [.ref w,ak size] H Q:=by
 refine aI (Bt hK) rfl ?_
 dsimp only [mQ,mt,iP,iS,iR]
 have hne:=hW.ne
 refine bc fun GG=>?_
 obtain ⟨h1,h2,h3,h4,h5⟩:=hW
 refine GG ?_
 try walk_at "step"
 refine l5 (x:="cells") (y:="spot") ⟨⟨rfl,rfl,by decide⟩,fun _ _=>rfl,fun env h=>by (cases env; dsimp only at h; subst h; rfl),?_⟩
 repeat walk_at "step"
 refine ⟨by simp,fun d hd=>?_⟩
 refine ⟨d,_,_,rfl,ad _ _ _,?_⟩
 have nc:=ai hd h2
 repeat walk_at "step"
 suffices key : ∀ cell : Int,WS c k qK.1 (execs [iP.1,iS.1,iR.1]) (put (put (put (dE ["well","size"] [AV.ref w,ak size] fun x=>none) "cells" (.ref cl)) "spot" (.int n)) "cell" (.int cell)) (an H d (.tuple [.ref cl,.int n])) fun fl m' H'=>match fl with | .ret v=>Q v H' | _=>Q .none H' by
  refine cF (.inl ⟨_,by walk_at "look",rfl⟩) (by simp; exact zp h3) ?_
  repeat walk_at "step"
  refine aa (List.length_map ..) ?_
  cases hlt : decide ((n : Int) < (cs.length : Int)) with
  | true=>
   have hlt:=of_decide_eq_true hlt
   have hn : n < cs.length:=by exact uJ hlt
   repeat walk_at "step"
   refine bn (j:=n) (by walk_at "look") (by simp; exact ur h3) (aJ (by simp; exact hn)) (by refine aa (List.getElem?_map) (aa (List.getElem?_eq_getElem hn) ?_); rfl) ?_
   exact (by assumption : pq _ _) _ _ (key _)
  | false=>
   repeat walk_at "step"
   refine u3 (by decide) (by decide) ?_
   exact hU ((by assumption : pq _ _) _ _ (key _))
 intro cell
 dsimp only [iP,iS,iR]
 repeat walk_at "step"
 refine dv (by walk_at "look") (by simp) (by decide) (by simp) ?_
 repeat walk_at "step"
 refine u4 (by decide) ?_
 repeat walk_at "step"
 refine jP (by decide) ?_
 repeat walk_at "step"
 refine hU ?_
 repeat walk_at "step"
 refine jP (by decide) ?_
 repeat walk_at "step"
 refine dv (by walk_at "look") (by simp) (by decide) (by simp) ?_
 repeat walk_at "step"
 refine jP (by exact C2 hs) ?_
 repeat walk_at "step"
 have hr0 : 0<=cell.fmod size:=Int.fmod_nonneg_of_pos _ (by exact x6 hs)
 have hr1 : cell.fmod size < size:=Int.fmod_lt_of_pos _ (by exact x6 hs)
 refine bc fun GG=>?_
 obtain ⟨r,hr⟩:=Int.eq_ofNat_of_zero_le hr0
 refine GG ?_
 have hr2 : AV.int (cell.fmod size) = ak r:=by exact aa (hr ..) rfl
 refine aa (hr2 ..) ?_
 refine q _ r (((z * 48271 + cell.fmod 65521 + 11 : Int)).fmod 2147483647) (by exact vT hr1 hr) (fun b o hb hH=>?_) ⟨?_,?_,h3,Int.fmod_nonneg_of_pos _ (by decide),Int.fmod_lt_of_pos _ (by decide)⟩
 ·refine aa (aj hb) (aa (aj hb) (aa (aj (fun e=>by rw [e,hd] at hH; exact ns hH)) ?_))
  exact hH
 ·refine aa (ad ..) ?_; rfl
 ·refine aa (aj hne) (aa (aj hne) (aa (aj (Ne.symm nc)) ?_))
  exact h2
end
end
section
theorem d6 {H1 H' : ag} {a dx C : Addr} {es : List (Str × AV)} (ha : H1 a = none) (hdx : H1 dx = none) (hne : a≠dx) (hk : ∀ b,b≠dx->H' b = an (an H1 dx (.attrs [])) a (.inst C dx) b) (hd : H' dx = some (.attrs es)) :
  Sub H1 H'/\bQ H' a C es:=by
 refine ⟨fun b o hb=>?_,dx,?_,hd⟩
 ·have n1 : b≠dx:=fun e=>by rw [e,hdx] at hb; exact ns hb
  have n2 : b≠a:=fun e=>by rw [e,ha] at hb; exact ns hb
  refine aa (hk b n1) (aa (aj n2) (aa (aj n1) ?_)); exact hb
 ·exact aa (hk a hne) (aa (ad ..) rfl)
theorem aV.trans {w : Addr} {H H' H'' : ag} (h : aV w H H') (h' : aV w H' H'') : aV w H H'':=fun a o q e=>h' a o q (h a o q e)
theorem Sub.but {w : Addr} {H H' : ag} (h : Sub H H') : aV w H H':=fun a o _ e=>h a o e
theorem bD.sub {H H' : ag} {w cl : Addr} {cs : List Int} {n : Nat} {z : Int} (h : bD H w cl cs n z) (s : Sub H H') : bD H' w cl cs n z:=⟨s _ _ h.1,s _ _ h.2.1,h.2.2⟩
theorem jX {H : ag} {w cl : Addr} {cs : List Int} {n : Nat} {z : Int} {a : Addr} {o : AO} (h : bD H w cl cs n z) (ha : H a = some o) (ho : ∀ x y v,o≠.list [.ref x,.int y,v]) : a≠w:=fun e=>by
 rw [e,h.1] at ha
 cases ha
 exact ho _ _ _ rfl
def new (H H' : ag) : ag:=fun a=>match H a with | none=>H' a | some _=>none
theorem cB {H H' : ag} {a : Addr} {o : AO} (h0 : H a = none) (h1 : H' a = some o) : new H H' a = some o:=by unfold new; refine aa (h0 ..) ?_; exact h1
theorem rO {H H' : ag} : Sub (new H H') H':=fun a o h=>by
 unfold new at h
 split at h
 ·exact h
 ·exact ns h
theorem aV.none {w : Addr} {H H' : ag} (s : aV w H H') {o : AO} (hw : H' w = some o) {a : Addr} (h : H' a = none) : H a = none:=by
 cases hh : H a with
 | none=>rfl
 | some ob=>
  by_cases e : a = w
  ·rw [e,hw] at h; contradiction
  ·rw [s a ob e hh] at h; exact ns h.symm
theorem dZ {H H1 H' : ag} {a dx C : Addr} {es : List (Str × AV)} (h0 : ∀ b,H1 b = none->H b = none) (ha : H1 a = none) (hdx : H1 dx = none) (hne : a≠dx) (hk : ∀ b,b≠dx->H' b = an (an H1 dx (.attrs [])) a (.inst C dx) b) (hd : H' dx = some (.attrs es)) :
  bQ (new H H') a C es:=⟨dx,cB (h0 _ ha) (by exact aa (hk a hne) (aa (ad ..) rfl)),cB (h0 _ hdx) hd⟩
structure gp (H : ag) (s : Addr) (x : Int × List Nat) : Prop where
 is : ∃ al,bQ H s 31 (dg "call" x.1 al (.str "g"))/\gA H al (x.2.map fun (r : Nat)=>(r : Int))
def kQ (x : Int × List Nat) : Prop:=-1<=x.1/\x.1<=3/\(∀ r∈x.2,r < 4)/\x.2.length<=2
section
variable {c : Cx} {k : Nat} {H : ag} {Q : AV->ag->Prop}
theorem uK (hK : KF c.K) {w cl : Addr} {cs : List Int} {n : Nat} {z : Int} (hW : bD H w cl cs n z)
  (q : ∀ (H' : ag) (s : Addr) (x : Int × List Nat) (n' : Nat) (z' : Int),aV w H H'->H s = none->bD H' w cl cs n' z'->gp (new H H') s x->kQ x->Q (.ref s) H') : AC c (k + 3) 210 [.ref w] H Q:=by
 refine aI (Bl hK) rfl ?_
 dsimp only [nZ,mT]
 repeat walk_at "step"
 refine bH (size:=5) hK hW (by exact sO) fun H1 r z1 hr s1 W1=>?_
 repeat walk_at "step"
 refine bH (size:=3) hK W1 (by exact tz) fun H2 r2 z2 hr2 s2 W2=>?_
 refine bS fun d hd=>?_
 repeat walk_at "step"
 refine bA (bU (ad _ _ _) (by exact dm) (by omega)) (by simp; exact tU hr2) ?_
 have dw : d≠w:=ai hd W2.1
 have W3:=W2.sub (Sub.upd (o:=.range r2) hd)
 refine ax (I:=fun i acc H3=>Bi fun (ts : List Addr) (rs : List Nat) (n' : Nat) (z' : Int)=>pf (acc = ts.map AV.ref) (bX (fun t (q : Int)=>H3 t = some (.tuple [.str "r",.int q])/\H t = none) ts (rs.map fun (r : Nat)=>(r : Int))) (aV w (an H2 d (.range r2)) H3) (bD H3 w cl cs n' z') (∀ r∈rs,r < 4) (rs.length = i)) rfl _ 0 _ _ _
  ⟨[],[],_,_,rfl,.nil,fun _ _ _ e=>e,W3,by simp,rfl⟩ (fun j v acc hv Ry_ hy_ Rn_ hn_ H3 hI=>?_) fun acc H3 hI=>?_
 ·refine bc fun GG=>?_
  clear hn_; obtain ⟨ts,rs,n3,z3,rfl,hts,s3,W3',hrs,hlen⟩:=hI
  refine GG ?_
  repeat walk_at "step"
  refine bH (size:=4) hK W3' (by exact oH) fun H4 r4 z4 hr4 s4 W4=>?_
  refine ⟨by simp,fun t ht=>?_⟩
  repeat walk_at "step"
  refine ⟨?_,?_⟩
  ·have e1 : an H2 d (.range r2) d = some (.range r2):=ad _ _ _
   refine aa (e1 ..) ?_
   exact Sub.upd ht _ _ (s4 _ _ dw (s3 _ _ dw e1))
  ·refine ⟨ts ++ [t],rs ++ [r4],_,_,by simp,?_,(s3.trans s4).trans (Sub.upd ht).but,W4.sub (Sub.upd ht),?_,by simp [hlen]⟩
   ·refine aa (List.map_append ..) ?_
    refine bX.append (hts.mono fun t' q ⟨ht',hn'⟩=>⟨?_,hn'⟩) (.cons ⟨ad _ _ _,?_⟩ .nil)
    ·exact Sub.upd ht _ _ (s4 _ _ (jX W3' ht' (by intro _ _ _ h; contradiction)) ht')
    ·exact (((s1.trans s2).trans (Sub.upd hd).but).trans (s3.trans s4)).none W4.1 ht
   ·intro y hy
    rcases List.mem_append.mp hy with h | h
    ·exact hrs y h
    ·refine aa (List.mem_singleton.mp h) ?_; exact hr4
 ·refine bc fun GG=>?_
  obtain ⟨ts,rs,n3,z3,rfl,hts,s3,W3',hrs,hlen⟩:=hI
  refine GG ?_
  intro al hal
  repeat walk_at "step"
  intro a dx ha hdx hne
  refine cz hK (ad _ _ _) (by exact aa (aj (Ne.symm hne)) (aa (ad ..) rfl)) hne fun H5 hk5 hd5=>⟨rfl,?_⟩
  refine bc fun GG=>?_
  obtain ⟨s5,I5⟩:=d6 ha hdx hne hk5 hd5
  refine GG ?_
  have s0 : aV w H (an H3 al (.list (ts.map AV.ref))):=(((s1.trans s2).trans (Sub.upd hd).but).trans s3).trans (Sub.upd hal).but
  have W4:=W3'.sub (Sub.upd (o:=.list (ts.map AV.ref)) hal)
  have fr : ∀ b,an H3 al (.list (ts.map AV.ref)) b = none->H b = none:=fun b hb=>s0.none W4.1 hb
  have fal : H al = none:=(((s1.trans s2).trans (Sub.upd hd).but).trans s3).none W3'.1 hal
  have hlen2 : rs.length<=2:=by simp at hlen; exact sQ hr2 hlen
  repeat walk_at "step"
  refine q H5 a (r - 1,rs) _ _ (s0.trans s5.but) (fr _ ha) (W4.sub s5) ⟨⟨.ref al,dZ fr ha hdx hne hk5 hd5,al,ts,rfl,cB fal (s5 _ _ (ad _ _ _)),?_,by simp; exact w9 hlen2⟩⟩ ⟨by show (-1 : Int)<=r - 1; exact yJ,by show (r - 1 : Int)<=3; exact w2 hr,hrs,hlen2⟩
  exact hts.mono fun t q ht=>cB ht.2 (s5 _ _ (Sub.upd hal _ _ ht.1))
end
end
section
inductive lV (H : ag) (e : Addr) (K : cY) (rs : List Nat) : Prop | mk (al : AV) (h1 : jk H e K al) (h2 : gA H al (rs.map fun (r : Nat)=>(r : Int)))
structure AW (many : Nat) (K : cY) (rs : List Nat) : Prop where
 goals : ∀ g∈K.goals,g < many
 len : K.goals.length<=3
 regs : ∀ r∈rs,r < 4
 rlen : rs.length<=1
section
variable {c : Cx} {k : Nat} {H : ag} {Q : AV->ag->Prop}
theorem uA (hK : KF c.K) {w cl : Addr} {cs : List Int} {n : Nat} {z : Int} {many : Nat} (hm : 0 < many) (hW : bD H w cl cs n z)
  (q : ∀ (H' : ag) (e : Addr) (K : cY) (rs : List Nat) (n' : Nat) (z' : Int),aV w H H'->H e = none->bD H' w cl cs n' z'->lV (new H H') e K rs->AW many K rs->Q (.ref e) H') : AC c (k + 3) 205 [.ref w,ak many] H Q:=by
 refine aI (Dy hK) rfl ?_
 dsimp only [ol,lm,mJ,mM,nC]
 repeat walk_at "step"
 refine bH (size:=5) hK hW (by exact sO) fun H1 kind z1 hkind s1 W1=>?_
 repeat walk_at "step"
 cases h1 : decide ((kind : Int) < 2) with
 | true=>
  repeat walk_at "step"
  refine bH hK W1 hm fun H2 g1 z2 hg1 s2 W2=>?_
  repeat walk_at "step"
  refine bH hK W2 hm fun H3 g2 z3 hg2 s3 W3=>?_
  refine ⟨by simp,fun tg htg=>?_⟩
  have W3':=W3.sub (Sub.upd (o:=.tuple [ak g1,ak g2]) htg)
  repeat walk_at "step"
  refine bH (size:=4) hK W3' (by exact oH) fun H4 r z4 hr s4 W4=>?_
  refine ⟨by simp,fun t ht=>?_⟩
  refine ⟨by simp,fun al hal=>?_⟩
  repeat walk_at "step"
  have c3 : aV w H H3:=(s1.trans s2).trans s3
  have c4 : aV w H H4:=(c3.trans (Sub.upd htg).but).trans s4
  have W5:=W4.sub (Sub.upd (o:=.tuple [.str "r",ak r]) ht)
  have c5:=c4.trans (Sub.upd (o:=.tuple [.str "r",ak r]) ht).but
  have W6:=W5.sub (Sub.upd (o:=.list [.ref t]) hal)
  have c6:=c5.trans (Sub.upd (o:=.list [.ref t]) hal).but
  intro a dx ha hdx hne
  refine cz hK (ad _ _ _) (by exact aa (aj (Ne.symm hne)) (aa (ad ..) rfl)) hne fun H5 hk5 hd5=>?_
  refine ⟨rfl,?_⟩
  refine bc fun GG=>?_
  obtain ⟨s5,I5⟩:=d6 ha hdx hne hk5 hd5
  refine GG ?_
  have s45 : Sub H4 H5:=((Sub.upd ht).trans (Sub.upd hal)).trans s5
  have ntg : tg≠w:=ai htg W3.1
  repeat walk_at "step"
  refine q H5 a (.branch g1 g2) [r] _ _ (c6.trans s5.but) (c6.none W6.1 ha) (W6.sub s5) ⟨.ref al,⟨.ref tg,dZ (fun b hb=>c6.none W6.1 hb) ha hdx hne hk5 hd5,tg,rfl,cB (c3.none W3.1 htg) (s45 _ _ (s4 _ _ ntg (ad _ _ _)))⟩,
   al,[t],rfl,cB (c5.none W5.1 hal) (s5 _ _ (ad _ _ _)),.cons (cB (c4.none W4.1 ht) (s5 _ _ (Sub.upd hal _ _ (ad _ _ _)))) .nil,by simp⟩ ⟨by simp [cY.goals,hg1,hg2],by simp [cY.goals],by simp [hr],by simp⟩
 | false=>
  repeat walk_at "step"
  cases h2 : ((kind : Int) == 2) with
  | true=>
   repeat walk_at "step"
   refine ⟨by simp,fun al hal=>?_⟩
   have W1':=W1.sub (Sub.upd (o:=.list []) hal)
   repeat walk_at "step"
   refine bH hK W1' hm fun H2 g z2 hg s2 W2=>?_
   intro a dx ha hdx hne
   refine cz hK (ad _ _ _) (by exact aa (aj (Ne.symm hne)) (aa (ad ..) rfl)) hne fun H5 hk5 hd5=>?_
   refine ⟨rfl,?_⟩
   refine bc fun GG=>?_
   obtain ⟨s5,I5⟩:=d6 ha hdx hne hk5 hd5
   refine GG ?_
   have c2 : aV w H H2:=(s1.trans (Sub.upd hal).but).trans s2
   have nal : al≠w:=ai hal W1.1
   repeat walk_at "step"
   refine q H5 a (.jump g) [] _ _ (c2.trans s5.but) (c2.none W2.1 ha) (W2.sub s5) ⟨.ref al,⟨ak g,dZ (fun b hb=>c2.none W2.1 hb) ha hdx hne hk5 hd5,rfl⟩,al,[],rfl,cB (s1.none W1.1 hal) (s5 _ _ (s2 _ _ nal (ad _ _ _))),.nil,by simp⟩ ⟨by simp [cY.goals,hg],by simp [cY.goals],by simp,by simp⟩
  | false=>
   repeat walk_at "step"
   cases h3 : ((kind : Int) == 3) with
   | true=>
    repeat walk_at "step"
    refine bH (size:=2) hK W1 (by exact wx) fun H2 cnt z2 hcnt s2 W2=>?_
    repeat walk_at "step"
    refine bS fun d hd=>?_
    repeat walk_at "step"
    refine bA (bU (ad _ _ _) (by exact zL) (by omega)) (by simp; exact xO hcnt) ?_
    have dw : d≠w:=ai hd W2.1
    have W3:=W2.sub (Sub.upd (o:=.range (1 + (cnt : Int))) hd)
    refine ax (I:=fun i acc H3=>Dc fun (gs : List Nat) (n' : Nat) (z' : Int)=>fJ (acc = gs.map ak) (aV w (an H2 d (.range (1 + (cnt : Int)))) H3) (bD H3 w cl cs n' z') (∀ g∈gs,g < many) (gs.length = i)) rfl _ 0 _ _ _
     ⟨[],_,_,rfl,fun _ _ _ e=>e,W3,by simp,rfl⟩ (fun j v acc hv Ry_ hy_ Rn_ hn_ H3 hI=>?_) fun acc H3 hI=>?_
    ·refine bc fun GG=>?_
     obtain ⟨gs,n3,z3,rfl,s3,W3',hgs,hlen⟩:=hI
     refine GG ?_
     repeat walk_at "step"
     refine bH hK W3' hm fun H4 g z4 hg s4 W4=>?_
     have e1 : an H2 d (.range (1 + (cnt : Int))) d = some (.range (1 + (cnt : Int))):=ad _ _ _
     repeat walk_at "step"
     refine ⟨?_,gs ++ [g],_,_,by simp,s3.trans s4,W4,?_,by simp [hlen]⟩
     ·refine aa (e1 ..) ?_
      exact s4 _ _ dw (s3 _ _ dw e1)
     ·intro y hy
      rcases List.mem_append.mp hy with h | h
      ·exact hgs y h
      ·refine aa (List.mem_singleton.mp h) ?_; exact hg
    ·refine bc fun GG=>?_
     obtain ⟨gs,n3,z3,rfl,s3,W3',hgs,hlen⟩:=hI
     refine GG ?_
     have hl2 : gs.length<=2:=by simp at hlen; exact xD hcnt hlen
     intro gl hgl
     have W4:=W3'.sub (Sub.upd (o:=.list (gs.map ak)) hgl)
     have ngl : gl≠w:=ai hgl W3'.1
     repeat walk_at "step"
     refine bH (size:=4) hK W4 (by exact oH) fun H5 r z5 hr s5 W5=>?_
     refine ⟨by simp,fun t ht=>?_⟩
     refine ⟨by simp,fun al hal=>?_⟩
     have W6:=(W5.sub (Sub.upd (o:=.tuple [.str "r",ak r]) ht)).sub (Sub.upd (o:=.list [.ref t]) hal)
     have nt : t≠w:=ai ht W5.1
     have nal : al≠w:=ai hal (W5.sub (Sub.upd (o:=.tuple [.str "r",ak r]) ht)).1
     repeat walk_at "step"
     refine bH hK W6 hm fun H7 g7 z7 hg7 s7 W7=>?_
     refine ⟨by simp,fun tg htg=>?_⟩
     have c3 : aV w H H3:=(s1.trans s2).trans ((Sub.upd hd).but.trans s3)
     have c4:=c3.trans (Sub.upd (o:=.list (gs.map ak)) hgl).but
     have c5 : aV w H H5:=c4.trans s5
     have c5t:=c5.trans (Sub.upd (o:=.tuple [.str "r",ak r]) ht).but
     have c6:=c5t.trans (Sub.upd (o:=.list [.ref t]) hal).but
     have c7 : aV w H H7:=c6.trans s7
     have c8:=c7.trans (Sub.upd (o:=.tuple [.int 0,.ref gl,ak g7]) htg).but
     have W8:=W7.sub (Sub.upd (o:=.tuple [.int 0,.ref gl,ak g7]) htg)
     intro a dx ha hdx hne
     refine cz hK (ad _ _ _) (by exact aa (aj (Ne.symm hne)) (aa (ad ..) rfl)) hne fun H8 hk8 hd8=>?_
     refine ⟨rfl,?_⟩
     refine bc fun GG=>?_
     obtain ⟨s8,I8⟩:=d6 ha hdx hne hk8 hd8
     refine GG ?_
     have s78 : Sub H7 H8:=(Sub.upd htg).trans s8
     have eal : an (an H5 t (.tuple [.str "r",ak r])) al (.list [.ref t]) t = some (.tuple [.str "r",ak r]):=Sub.upd hal _ _ (ad _ _ _)
     repeat walk_at "step"
     refine q H8 a (.table gs g7) [r] _ _ (c8.trans s8.but) (c8.none W8.1 ha) (W8.sub s8)
      ⟨.ref al,⟨.ref tg,dZ (fun b hb=>c8.none W8.1 hb) ha hdx hne hk8 hd8,tg,gl,rfl,cB (c7.none W7.1 htg) (s8 _ _ (ad _ _ _)),cB (c3.none W3'.1 hgl) (s78 _ _ (s7 _ _ ngl (((Sub.upd ht).trans (Sub.upd hal)) _ _ (s5 _ _ ngl (ad _ _ _))))),by exact xG hl2⟩,
       al,[t],rfl,cB (c5t.none (W5.sub (Sub.upd ht)).1 hal) (s78 _ _ (s7 _ _ nal (ad _ _ _))),.cons (cB (c5.none W5.1 ht) (s78 _ _ (s7 _ _ nt eal))) .nil,by simp⟩
      ⟨?_,by simp [cY.goals]; exact wg hl2,by simp [hr],by simp⟩
     intro y hy
     rcases List.mem_append.mp hy with h | h
     ·exact hgs y h
     ·refine aa (List.mem_singleton.mp h) ?_; exact hg7
   | false=>
    repeat walk_at "step"
    refine bH (size:=4) hK W1 (by exact oH) fun H4 r z4 hr s4 W4=>?_
    refine ⟨by simp,fun t ht=>?_⟩
    refine ⟨by simp,fun al hal=>?_⟩
    repeat walk_at "step"
    have c4 : aV w H H4:=s1.trans s4
    have W5:=W4.sub (Sub.upd (o:=.tuple [.str "r",ak r]) ht)
    have c5:=c4.trans (Sub.upd (o:=.tuple [.str "r",ak r]) ht).but
    have W6:=W5.sub (Sub.upd (o:=.list [.ref t]) hal)
    have c6:=c5.trans (Sub.upd (o:=.list [.ref t]) hal).but
    intro a dx ha hdx hne
    refine cz hK (ad _ _ _) (by exact aa (aj (Ne.symm hne)) (aa (ad ..) rfl)) hne fun H5 hk5 hd5=>?_
    refine ⟨rfl,?_⟩
    refine bc fun GG=>?_
    obtain ⟨s5,I5⟩:=d6 ha hdx hne hk5 hd5
    refine GG ?_
    repeat walk_at "step"
    refine q H5 a .give [r] _ _ (c6.trans s5.but) (c6.none W6.1 ha) (W6.sub s5) ⟨.ref al,⟨.int 0,dZ (fun b hb=>c6.none W6.1 hb) ha hdx hne hk5 hd5,rfl⟩,al,[t],rfl,cB (c5.none W5.1 hal) (s5 _ _ (ad _ _ _)),.cons (cB (c4.none W4.1 ht) (s5 _ _ (Sub.upd hal _ _ (ad _ _ _)))) .nil,by simp⟩ ⟨by simp [cY.goals],by simp [cY.goals],by simp [hr],by simp⟩
end
end
section
def fK (ds : List Addr) (H : ag) : ag:=fun a=>if ds.contains a then none else H a
theorem ry {ds : List Addr} {H : ag} : Sub (fK ds H) H:=fun a o h=>by
 unfold fK at h
 split at h
 ·exact ns h
 ·exact h
theorem fh {ds : List Addr} {H : ag} {a : Addr} {o : AO} (h : H a = some o) (hn : a∉ds) : fK ds H a = some o:=by
 unfold fK
 refine aa (if_neg (by rw [List.contains_iff_mem]; exact hn)) ?_; exact h
theorem kq {ds : List Addr} {H : ag} {a : Addr} {o : AO} (h : fK ds H a = some o) : H a = some o/\a∉ds:=by
 unfold fK at h
 split at h
 ·exact ns h
 ·rename_i q; exact ⟨h,fun e=>q (by refine aa (propext (List.contains_iff_mem ..)) ?_; exact e)⟩
theorem fe {ds : List Addr} {H H' : ag} (h : ∀ a o,a∉ds->H a = some o->H' a = some o) : Sub (fK ds H) (fK ds H'):=fun a o q=>by
 obtain ⟨q1,q2⟩:=kq q
 exact fh (h a o q2 q1) q2
theorem ky {ds : List Addr} {H H' : ag} (h : ∀ d∈ds,H d≠none) : Sub (new H H') (fK ds H'):=fun a o q=>by
 refine fh (rO a o q) fun hm=>?_
 unfold new at q
 cases hh : H a with
 | none=>exact h a hm hh
 | some ob=>rw [hh] at q; exact ns q
theorem bQ.sub {H H' : ag} {a C : Addr} {es : List (Str × AV)} (h : bQ H a C es) (s : Sub H H') : bQ H' a C es:=let ⟨dx,h1,h2⟩:=h; ⟨dx,s _ _ h1,s _ _ h2⟩
theorem gp.sub {H H' : ag} {a : Addr} {x : Int × List Nat} (h : gp H a x) (s : Sub H H') : gp H' a x:=let ⟨al,h1,h2⟩:=h.is; ⟨al,h1.sub s,h2.sub s⟩
theorem jQ.sub {H H' : ag} {K : cY} {v : AV} (h : jQ H K v) (s : Sub H H') : jQ H' K v:=by
 cases K with
 | jump g=>exact h
 | branch g h'=>obtain ⟨a,e,q⟩:=h; exact ⟨a,e,s _ _ q⟩
 | table gs d=>obtain ⟨a,b,e,q1,q2,q3⟩:=h; exact ⟨a,b,e,s _ _ q1,s _ _ q2,q3⟩
 | give=>exact h
theorem jk.sub {H H' : ag} {e : Addr} {K : cY} {al : AV} (h : jk H e K al) (s : Sub H H') : jk H' e K al:=let ⟨mo,h1,h2⟩:=h; ⟨mo,h1.sub s,h2.sub s⟩
theorem lV.sub {H H' : ag} {e : Addr} {K : cY} {rs : List Nat} (h : lV H e K rs) (s : Sub H H') : lV H' e K rs:=let ⟨al,h1,h2⟩:=h; ⟨al,h1.sub s,h2.sub s⟩
structure cI where
 steps : List (Int × List Nat)
 kind : cY
 regs : List Nat
inductive dF (H : ag) (b : Addr) (i : Nat) (B : cI) : Prop | mk (st : Addr) (sl : List Addr) (e : Addr) (h1 : bQ H b 52 (bG i (.ref st) (.ref e))) (h2 : H st = some (.list (sl.map AV.ref))) (h3 : bX (gp H) sl B.steps) (h4 : lV H e B.kind B.regs)
theorem dF.sub {H H' : ag} {b : Addr} {i : Nat} {B : cI} (h : dF H b i B) (s : Sub H H') : dF H' b i B:=
 let ⟨st,sl,e,h1,h2,h3,h4⟩:=h; ⟨st,sl,e,h1.sub s,s _ _ h2,h3.mono fun _ _ q=>q.sub s,h4.sub s⟩
structure sk (many : Nat) (B : cI) : Prop where
 steps : ∀ x∈B.steps,kQ x
 slen : B.steps.length<=2
 fin : AW many B.kind B.regs
inductive uT (H : ag) (f : Addr) (G : List cI) : Prop | mk (bl : Addr) (bs : List Addr) (p s : AV) (h1 : bQ H f 73 (dh (.ref bl) (.int 4) (.bool true) p s)) (h2 : H bl = some (.list (bs.map AV.ref))) (h3 : bs.length = G.length) (h4 : ∀ (i : Nat) (b : Addr) (B : cI),bs[i]? = some b->G[i]? = some B->dF H b i B)
structure cA (H : ag) (f : Addr) (G : List cI) : Prop where
 is : uT H f G
theorem cA.sub {H H' : ag} {f : Addr} {G : List cI} (h : cA H f G) (s : Sub H H') : cA H' f G:=
 let ⟨bl,bs,p,sl,h1,h2,h3,h4⟩:=h.is; ⟨bl,bs,p,sl,h1.sub s,s _ _ h2,h3,fun i b B hb hB=>(h4 i b B hb hB).sub s⟩
structure cm (G : List cI) : Prop where
 pos : 0 < G.length
 six : G.length<=6
 blk : ∀ B∈G,sk G.length B
section
variable {c : Cx} {k : Nat} {H : ag} {Q : AV->ag->Prop}
theorem rT (hK : KF c.K) {w cl : Addr} {cs : List Int} {n : Nat} {z : Int} (hW : bD H w cl cs n z)
  (q : ∀ (H' : ag) (f : Addr) (G : List cI),cA H' f G->cm G->Q (.ref f) H') : AC c (k + 5) 215 [.ref w] H Q:=by
 refine aI (Bp hK) rfl ?_
 dsimp only [l7,ma,om,ml,mD]
 repeat walk_at "step"
 intro f dx hf hdx hne
 refine jT hK (ad _ _ _) (by exact aa (aj (Ne.symm hne)) (aa (ad ..) rfl)) hne fun H1 bl p s hk1 hbl hbd h1bl h1d=>?_
 refine ⟨rfl,?_⟩
 repeat walk_at "step"
 have n1 : w≠dx:=fun e=>by have:=hW.1; rw [e,hdx] at this; exact ns this
 have n2 : w≠f:=fun e=>by have:=hW.1; rw [e,hf] at this; exact ns this
 have m1 : cl≠dx:=fun e=>by have:=hW.2.1; rw [e,hdx] at this; exact ns this
 have m2 : cl≠f:=fun e=>by have:=hW.2.1; rw [e,hf] at this; exact ns this
 have W1 : bD H1 w cl cs n z:=⟨hk1 w _ n1 (by refine aa (aj n2) (aa (aj n1) ?_); exact hW.1),hk1 cl _ m1 (by refine aa (aj m2) (aa (aj m1) ?_); exact hW.2.1),hW.2.2⟩
 have h1f : H1 f = some (.inst 73 dx):=hk1 f _ hne (ad _ _ _)
 have hblw : bl≠w:=fun e=>by
  have:=aM hbl
  rw [e,aj n1,hW.1] at this
  exact ns this.2.symm
 have clbl : cl≠bl:=fun e=>by
  have:=aM hbl
  rw [<-e,aj m1,hW.2.1] at this
  exact nomatch this.2
 refine ⟨by simp,fun tp htp=>?_⟩
 have t1:=ai htp h1f
 have t2:=ai htp h1d
 repeat walk_at "step"
 have tw:=ai htp W1.1
 have tc:=ai htp W1.2.1
 have tb:=ai htp h1bl
 generalize hHH : an (an (an H1 tp (AO.tuple [AV.int 4,AV.bool true])) dx (AO.attrs (f7 (dh (AV.ref bl) (AV.int 0) (AV.bool false) p s) "registers" (AV.int 4)))) dx (AO.attrs (f7 (f7 (dh (AV.ref bl) (AV.int 0) (AV.bool false) p s) "registers" (AV.int 4)) "has_value" (AV.bool true))) = H2
 have body : bD H2 w cl cs n z/\H2 f = some (.inst 73 dx)/\H2 dx = some (.attrs (dh (.ref bl) (.int 4) (.bool true) p s))/\H2 bl = some (.list []):=by
  subst hHH
  refine ⟨⟨?_,?_,hW.2.2⟩,?_,ad _ _ _,?_⟩
  ·refine aa (aj n1) (aa (aj n1) (aa (aj (Ne.symm tw)) ?_)); exact W1.1
  ·refine aa (aj m1) (aa (aj m1) (aa (aj (Ne.symm tc)) ?_)); exact W1.2.1
  ·refine aa (aj hne) (aa (aj hne) (aa (aj (Ne.symm t1)) ?_)); exact h1f
  ·refine aa (aj hbd) (aa (aj hbd) (aa (aj (Ne.symm tb)) ?_)); exact h1bl
 clear hHH hk1 h1f h1d h1bl W1 htp t1 t2 tw tc tb hbl hf hdx hW n1 n2 m1 m2
 obtain ⟨W2,h2f,h2d,h2b⟩:=body
 refine bH (size:=6) hK W2 (by exact wR) fun H3 r z3 hr s3 W3=>?_
 have fw : f≠w:=jX W2 h2f (by intro _ _ _ h; contradiction)
 have dw : dx≠w:=jX W2 h2d (by intro _ _ _ h; contradiction)
 have h3f:=s3 _ _ fw h2f
 have h3d:=s3 _ _ dw h2d
 have h3b:=s3 _ _ hblw h2b
 refine uW ?_
 have em : AV.int (1 + (r : Int)) = ak (r + 1):=congrArg AV.int (by exact wL)
 refine aa (em ..) ?_
 generalize hmany : r + 1 = many
 have hm0 : 0 < many:=by exact CM hmany
 repeat walk_at "step"
 refine bS fun d hd=>?_
 repeat walk_at "step"
 refine cP (bU (ad _ _ _) (by exact dm) (by omega)) ?_
 have dnw : d≠w:=ai hd W3.1
 have dnb : d≠bl:=ai hd h3b
 refine aD (I:=fun i m H4=>fJ (bC (m "func" = some (.ref f)) (m "well" = some (.ref w)) (m "many" = some (ak many))) (H4 d = some (.range many)) (H4 f = some (.inst 73 dx)) (H4 dx = some (.attrs (dh (.ref bl) (.int 4) (.bool true) p s))) (Bi fun (bs : List Addr) (G : List cI) (n' : Nat) (z' : Int)=>pf (bD H4 w cl cs n' z') (H4 bl = some (.list (bs.map AV.ref))) (bs.length = i) (G.length = i) (∀ (j : Nat) (b : Addr) (B : cI),bs[j]? = some b->G[j]? = some B->dF (fK [w,bl] H4) b j B) (∀ B∈G,sk many B))) rfl _ 0 _ _
  ⟨⟨rfl,rfl,rfl⟩,ad _ _ _,Sub.upd hd _ _ h3f,Sub.upd hd _ _ h3d,[],[],_,_,W3.sub (Sub.upd hd),Sub.upd hd _ _ h3b,rfl,rfl,by exact nofun,by exact nofun⟩ (fun j R_ hR_ hr_ v m H4 hv hI=>?_) fun m H4 hI=>?_
 ·obtain ⟨⟨e1,e2,e3⟩,h4r,h4f,h4d,bs,G,n4,z4,W4,h4b,lbs,lG,hblk,hw⟩:=hI
  rw [Nat.zero_add] at *
  have hj : j < many:=by
   have:=(List.getElem?_eq_some_iff.mp hv).1
   simpa using this
  have hvj : v = ak j:=by
   rw [List.getElem?_map,List.getElem?_range (by simpa using hj)] at hv
   simpa using hv.symm
  subst hvj
  clear hv
  repeat walk_at "step"
  intro b dxb hb hdxb hnb
  refine i0 hK (ad _ _ _) (by exact aa (aj (Ne.symm hnb)) (aa (ad ..) rfl)) hnb fun H5 st0 hk5 hst0 h5s h5d=>?_
  refine ⟨rfl,?_⟩
  have fresh5 : ∀ a o,H4 a = some o->H5 a = some o:=fun a o ha=>by
   have q1 : a≠dxb:=fun e=>by rw [e,hdxb] at ha; exact ns ha
   have q2 : a≠b:=fun e=>by rw [e,hb] at ha; exact ns ha
   have q3 : a≠st0:=fun e=>by
    have:=aM hst0
    rw [e,(aM this.2).2] at ha; exact ns ha
   refine aa (hk5 a q1 q3) (aa (aj q2) (aa (aj q1) ?_)); exact ha
  have h5b : H5 b = some (.inst 52 dxb):=by
   exact aa (hk5 b hnb (fun e=>by have:=(aM hst0).1; exact this e.symm)) (aa (ad ..) rfl)
  have W5:=W4.sub fresh5
  repeat walk_at "step"
  have xw : dxb≠w:=ai hdxb W4.1
  have bw : b≠w:=ai hb W4.1
  have xbl : dxb≠bl:=ai hdxb h4b
  have xc : dxb≠cl:=ai hdxb W4.2.1
  have xf : dxb≠f:=ai hdxb h4f
  have xdx : dxb≠dx:=ai hdxb h4d
  have xd : dxb≠d:=ai hdxb h4r
  refine uA hK hm0 W5 fun H6 e K rs n6 z6 s6 he W6 hE hEW=>?_
  have h6b:=s6 _ _ bw h5b
  have h6d:=s6 _ _ xw h5d
  have hE6 : lV (fK [w,bl,dxb] H6) e K rs:=hE.sub (ky (by
   intro y hy
   simp only [List.mem_cons,List.not_mem_nil,or_false] at hy
   clear hbd hblw clbl W2 h2d h2b s3 W3 fw dw h3d h3b dnw dnb hR_ h4d e2 W4 hblk hdxb hnb hk5 hst0 h5b xw bw xbl xc xf xdx xd s6 W6 h6b h6d; rcases hy with rfl | rfl | rfl
   ·refine aa (W5.1 ..) ?_; simp
   ·refine aa (fresh5 _ _ h4b) ?_; simp
   ·refine aa (h5d ..) ?_; simp))
  repeat walk_at "step"
  have W7 : bD (an H6 dxb (.attrs (f7 (bG (j : Int) (.ref st0) .none) "end" (.ref e)))) w cl cs n6 z6:=⟨by refine aa (aj (Ne.symm xw)) ?_; exact W6.1,by refine aa (aj (Ne.symm xc)) ?_; exact W6.2.1,W6.2.2⟩
  refine bH (size:=3) hK W7 (by exact tz) fun H8 cnt z8 hcnt s8 W8=>?_
  have k8 : ∀ a o,a≠w->a≠dxb->H4 a = some o->H8 a = some o:=fun a o q1 q2 ha=>s8 _ _ q1 (by refine aa (aj q2) ?_; exact s6 _ _ q1 (fresh5 _ _ ha))
  have h8b : H8 b = some (.inst 52 dxb):=s8 _ _ bw (by refine aa (aj hnb) ?_; exact h6b)
  have h8d : H8 dxb = some (.attrs (bG (j : Int) (.ref st0) (.ref e))):=s8 _ _ xw (ad _ _ _)
  have hE8 : lV (fK [w,bl,dxb] H8) e K rs:=hE6.sub (fe (by
   intro a o hn ha
   simp only [List.mem_cons,List.not_mem_nil,or_false,not_or] at hn
   exact s8 _ _ hn.1 (by refine aa (aj hn.2.2) ?_; exact ha)))
  have h8bl:=k8 _ _ hblw (Ne.symm xbl) h4b
  refine bS fun d2 hd2=>?_
  repeat walk_at "step"
  refine bA (bU (ad _ _ _) (by exact dm) (by omega)) (by simp; exact tU hcnt) ?_
  have d2w : d2≠w:=ai hd2 W8.1
  have W9:=W8.sub (Sub.upd (o:=.range cnt) hd2)
  have sb8 : Sub H8 (an H8 d2 (.range cnt)):=Sub.upd hd2
  refine ax (I:=fun i acc H9=>Bi fun (sl : List Addr) (xs : List (Int × List Nat)) (n9 : Nat) (z9 : Int)=>pf (acc = sl.map AV.ref) (bX (gp (fK [w,bl,dxb] H9)) sl xs) (aV w (an H8 d2 (.range cnt)) H9) (bD H9 w cl cs n9 z9) (∀ x∈xs,kQ x) (xs.length = i)) rfl _ 0 _ _ _
   ⟨[],[],_,_,rfl,.nil,fun _ _ _ e=>e,W9,by simp,rfl⟩ (fun j2 v acc hv Ry_ hy_ Rn_ hn_ H9 hI2=>?_) fun acc H9 hI2=>?_
  ·obtain ⟨sl,xs,n9,z9,rfl,hsl,s9,W9',hxs,hlen⟩:=hI2
   repeat walk_at "step"
   have h9b : H9 b = some (.inst 52 dxb):=s9 _ _ bw (sb8 _ _ h8b)
   have h9d:=s9 _ _ xw (sb8 _ _ h8d)
   have h9bl:=s9 _ _ hblw (sb8 _ _ h8bl)
   refine uK hK W9' fun H10 s x n10 z10 s10 hs W10 hS hSW=>?_
   have er : an H8 d2 (.range cnt) d2 = some (.range cnt):=ad _ _ _
   repeat walk_at "step"
   refine ⟨?_,sl ++ [s],xs ++ [x],n10,z10,by simp,?_,s9.trans s10,W10,?_,by simp [hlen]⟩
   ·refine aa (er ..) ?_
    exact s10 _ _ d2w (s9 _ _ d2w er)
   ·refine bX.append (hsl.mono fun a y h=>h.sub (fe fun a o hn ha=>?_)) (.cons (hS.sub (ky ?_)) .nil)
    ·simp only [List.mem_cons,List.not_mem_nil,or_false,not_or] at hn
     exact s10 _ _ hn.1 ha
    ·intro y hy
     simp only [List.mem_cons,List.not_mem_nil,or_false] at hy
     clear hbd hblw clbl W2 h2d h2b s3 W3 fw dw h3d h3b dnw dnb hR_ h4d e2 W4 h4b hblk hdxb hnb hk5 hst0 h5d h5b W5 xw bw xbl xc xf xdx xd s6 W6 h6b h6d hE6 W7 s8 W8 k8 h8b h8d hE8 h8bl d2w W9 hsl s9 hy_ hn_ h9b s10 W10; rcases hy with rfl | rfl | rfl
     ·refine aa (W9'.1 ..) ?_; simp
     ·refine aa (h9bl ..) ?_; simp
     ·refine aa (h9d ..) ?_; simp
   ·intro y hy
    rcases List.mem_append.mp hy with h | h
    ·exact hxs y h
    ·refine aa (List.mem_singleton.mp h) ?_; exact hSW
  ·obtain ⟨sl,xs,n9,z9,rfl,hsl,s9,W9',hxs,hlen⟩:=hI2
   have h9b : H9 b = some (.inst 52 dxb):=s9 _ _ bw (sb8 _ _ h8b)
   have h9d:=s9 _ _ xw (sb8 _ _ h8d)
   have h9bl:=s9 _ _ hblw (sb8 _ _ h8bl)
   have k9 : ∀ a o,a≠w->a≠dxb->H4 a = some o->H9 a = some o:=fun a o q1 q2 ha=>s9 _ _ q1 (sb8 _ _ (k8 a o q1 q2 ha))
   have h9f:=k9 _ _ fw (Ne.symm xf) h4f
   have h9dx:=k9 _ _ dw (Ne.symm xdx) h4d
   intro st hst
   have hxl : xs.length<=2:=by simp at hlen; exact sQ hcnt hlen
   have q2:=ai hst h9d
   have q3:=ai hst h9bl
   have q6:=ai hst W9'.1
   repeat walk_at "step"
   refine ⟨bl,_,rfl,by walk_at "look",rfl,?_⟩
   repeat walk_at "step"
   have hbs : bs.length < 100:=by exact Cs hmany hr hj lbs
   refine aO (xs:=bs.map AV.ref) (by walk_at "look") (by simp; exact ru hbs) ?_
   repeat walk_at "step"
   have bbl : b≠bl:=ai hb h4b
   have kf : ∀ a o,a≠bl->a≠dxb->H9 a = some o->an (an (an H9 st (.list (sl.map AV.ref))) dxb (.attrs (f7 (bG (j : Int) (.ref st0) (.ref e)) "steps" (.ref st)))) bl (.list (bs.map AV.ref ++ [.ref b])) a = some o:=fun a o p1 p2 ha=>by
    refine aa (aj p1) (aa (aj p2) (aa (aj (fun z=>by rw [z,hst] at ha; exact ns ha)) ?_)); exact ha
   have k4f : ∀ a o,a≠w->a≠bl->H4 a = some o->an (an (an H9 st (.list (sl.map AV.ref))) dxb (.attrs (f7 (bG (j : Int) (.ref st0) (.ref e)) "steps" (.ref st)))) bl (.list (bs.map AV.ref ++ [.ref b])) a = some o:=fun a o p1 p2 ha=>by
    have p3 : a≠dxb:=fun z=>by rw [z,hdxb] at ha; exact ns ha
    exact kf a o p2 p3 (k9 a o p1 p3 ha)
   have fbl : f≠bl:=fun z=>by rw [z,h4b] at h4f; exact nomatch h4f
   have dxbl : dx≠bl:=fun z=>by rw [z,h4b] at h4d; exact nomatch h4d
   refine ⟨?_,⟨e1,e2,e3⟩,k4f _ _ dnw dnb h4r,k4f _ _ fw fbl h4f,k4f _ _ dw dxbl h4d,bs ++ [b],G ++ [⟨xs,K,rs⟩],n9,z9,⟨kf _ _ (Ne.symm hblw) (Ne.symm xw) W9'.1,kf _ _ clbl (Ne.symm xc) W9'.2.1,W9'.2.2⟩,?_,by simp [lbs],by simp [lG],fun j' b' B' hb' hB'=>?_,?_⟩
   ·refine aa (ad ..) ?_
    exact k4f _ _ dnw dnb h4r
   ·refine aa (ad ..) ?_; simp
   ·rcases Nat.lt_or_ge j' j with hlt | hge
    ·rw [List.getElem?_append_left (by omega)] at hb' hB'
     refine (hblk j' b' B' hb' hB').sub (fe fun a o hn ha=>?_)
     simp only [List.mem_cons,List.not_mem_nil,or_false,not_or] at hn
     exact k4f _ _ hn.1 hn.2 ha
    ·rw [List.getElem?_append_right (by omega)] at hb' hB'
     have : j' = j:=by
      have:=(List.getElem?_eq_some_iff.mp hb').1
      simp at this
      exact AN this hge lbs
     clear hR_ hj h5d h6d W7 s8 h8d h9d k4f hge; subst this
     rw [lbs,Nat.sub_self] at hb'
     rw [lG,Nat.sub_self] at hB'
     cases hb'
     cases hB'
     have sd : Sub (fK [w,bl,dxb] H9) (fK [w,bl] (an (an (an H9 st (.list (sl.map AV.ref))) dxb (.attrs (f7 (bG (j' : Int) (.ref st0) (.ref e)) "steps" (.ref st)))) bl (.list (bs.map AV.ref ++ [.ref b])))):=fun a o ha=>by
      obtain ⟨g1,g2⟩:=kq ha
      simp only [List.mem_cons,List.not_mem_nil,or_false,not_or] at g2
      exact fh (kf _ _ g2.2.1 g2.2.2 g1) (by simp [g2.1,g2.2.1])
     refine ⟨st,sl,e,⟨dxb,fh (kf _ _ bbl hnb h9b) (by simp [bw,bbl]),fh (by refine aa (aj xbl) (aa (ad ..) ?_); rfl) (by simp [xw,xbl])⟩,fh (by exact aa (aj q3) (aa (aj q2) (aa (ad ..) rfl))) (by simp [q6,q3]),hsl.mono fun a y h=>h.sub sd,?_⟩
     refine hE8.sub (Sub.trans (fe fun a o hn ha=>?_) sd)
     simp only [List.mem_cons,List.not_mem_nil,or_false,not_or] at hn
     exact s9 _ _ hn.1 (sb8 _ _ ha)
   ·intro B hB
    rcases List.mem_append.mp hB with h | h
    ·exact hw B h
    ·refine aa (List.mem_singleton.mp h) ?_
     exact ⟨hxs,hxl,hEW⟩
 ·obtain ⟨⟨e1,e2,e3⟩,h4r,h4f,h4d,bs,G,n4,z4,W4,h4b,lbs,lG,hblk,hw⟩:=hI
  have hlen : 0 + (List.map (fun (i : Nat)=>AV.int (i : Int)) (List.range ((many : Int)).toNat)).length = many:=by simp
  rw [hlen] at lbs lG
  repeat walk_at "step"
  refine q H4 f G ⟨bl,bs,p,s,⟨dx,h4f,h4d⟩,h4b,by exact xb lbs lG,fun i b B hb hB=>(hblk i b B hb hB).sub ry⟩ ⟨by exact CA hmany lG,by exact CV hmany hr lG,fun B hB=>by refine aa (lG ..) ?_; exact hw B hB⟩
end
end
section
section
variable {c : Cx} {k : Nat} {H : ag} {Q : AV->ag->Prop}
def n8 (x : Nat) (y : AV) : Bool:=match y with | .int j=>j == (x : Int) | _=>false
theorem iz (x : Nat) : ∀ xs : List Nat,(xs.map ak).any (n8 x) = xs.contains x
 | []=>rfl
 | y :: xs=>by
  rw [List.map_cons,List.any_cons,iz x xs,List.contains_cons]
  congr 1
  show ((y : Int) == (x : Int)) = (x == y)
  by_cases h : x = y
  ·subst h
   exact (beq_self_eq_true _).trans (beq_self_eq_true _).symm
  ·have : ¬ (y : Int) = (x : Int):=by exact yu h
   exact aa (beq_eq_false_iff_ne.mpr this) (aa (beq_eq_false_iff_ne.mpr h) rfl)
theorem bB {x : Nat} {l : Addr} {xs : List Nat} (hl : H l = some (.list (xs.map ak))) (q : Q (.bool (!xs.contains x)) H) : dM c k (compareOp .NotIn) (ak x) (.ref l) H Q:=by
 refine io (n8 x) hl (fun y hy=>?_) (by refine aa (iz ..) ?_; exact q)
 obtain ⟨j,_,rfl⟩:=List.mem_map.mp hy
 exact eH.int _ _ _
theorem bY {x : Nat} {l : Addr} {xs : List Nat} (hl : H l = some (.list (xs.map ak))) (q : Q (.bool (xs.contains x)) H) : dM c k (compareOp .In) (ak x) (.ref l) H Q:=by
 refine gI (n8 x) hl (fun y hy=>?_) (by refine aa (iz ..) ?_; exact q)
 obtain ⟨j,_,rfl⟩:=List.mem_map.mp hy
 exact eH.int _ _ _
def ah (G : List cI) (i : Nat) : List Nat:=match G[i]? with | some B=>B.kind.goals | none=>[]
def ay (G : List cI) (i t : Nat) : List Nat:=(List.range i).filter fun b=>(ah G b).contains t
structure Rows (H : ag) (a : Addr) (ls : List Addr) (r : Nat->List Nat) : Prop where
 top : H a = some (.list (ls.map AV.ref))
 nd : ls.Nodup
 na : a∉ls
 row : ∀ (t : Nat) (l : Addr),ls[t]? = some l->H l = some (.list ((r t).map ak))
theorem Rows.sub {H H' : ag} {a : Addr} {ls : List Addr} {r : Nat->List Nat} (R : Rows H a ls r) (s : Sub H H') : Rows H' a ls r:=⟨s _ _ R.top,R.nd,R.na,fun t l h=>s _ _ (R.row t l h)⟩
theorem Rows.congr {H : ag} {a : Addr} {ls : List Addr} {r r' : Nat->List Nat} (R : Rows H a ls r) (h : ∀ t,t < ls.length->r t = r' t) : Rows H a ls r':=
 ⟨R.top,R.nd,R.na,fun t l hl=>by refine aa (Eq.symm (h t (List.getElem?_eq_some_iff.mp hl).1)) ?_; exact R.row t l hl⟩
theorem Rows.set {H : ag} {a : Addr} {ls : List Addr} {r : Nat->List Nat} {t : Nat} {l : Addr} {xs : List Nat} (R : Rows H a ls r) (hl : ls[t]? = some l) :
  Rows (an H l (.list (xs.map ak))) a ls (fun s=>if s = t then xs else r s):=by
 refine ⟨?_,R.nd,R.na,fun s l' hs=>?_⟩
 ·refine aa (aj (fun e=>R.na (by rw [e]; exact List.mem_of_getElem? hl))) ?_; exact R.top
 ·by_cases e : s = t
  ·subst e
   rw [hl] at hs; cases hs
   exact aa (ad ..) (aa (if_pos rfl) rfl)
  ·refine aa (if_neg e) ?_
   have hne : l'≠l:=fun q=>by
    subst q
    obtain ⟨h1,h2⟩:=List.getElem?_eq_some_iff.mp hl
    obtain ⟨h3,h4⟩:=List.getElem?_eq_some_iff.mp hs
    rcases Nat.lt_or_gt_of_ne e with q | q
    ·exact List.pairwise_iff_getElem.mp R.nd s t h3 h1 q (by exact aa (h2 ..) (aa (h4 ..) rfl))
    ·exact List.pairwise_iff_getElem.mp R.nd t s h1 h3 q (by exact aa (h2 ..) (aa (h4 ..) rfl))
   refine aa (aj hne) ?_; exact R.row s l' hs
theorem f6 (hK : KF c.K) {f : Addr} {G : List cI} (hF : cA H f G) (hG : cm G)
  (q : ∀ (H' : ag) (a : Addr) (ls : List Addr),Sub H H'->H a = none->(∀ l∈ls,H l = none)->ls.length = G.length->Rows H' a ls (ay G G.length)->Q (.ref a) H') : AC c (k + 2) 115 [.ref f] H Q:=by
 refine aI (BZ hK) rfl ?_
 dsimp only [ld,nj,mS]
 refine bc fun GG=>?_
 obtain ⟨bl,bs,p,s,⟨dx,hf1,hf2⟩,hbl,hlen,hblk⟩:=hF.is
 refine GG ?_
 have hsix:=hG.six
 repeat walk_at "step"
 refine bA (ar hbl) (by simp; exact im hlen hsix) ?_
 refine ax (I:=fun i acc H1=>∃ ls : List Addr,fJ (acc = ls.map AV.ref) (ls.Nodup) (∀ l∈ls,H l = none/\H1 l = some (.list [])) (ls.length = i) (Sub H H1)) rfl _ 0 _ _ _
  ⟨[],rfl,List.nodup_nil,by exact nofun,rfl,Sub.rfl⟩ (fun j v acc hv Ry_ hy_ Rn_ hn_ H1 hI=>?_) fun acc H1 hI=>?_
 ·refine bc fun GG=>?_
  clear hn_; obtain ⟨ls,rfl,hnd,hls,hl2,s1⟩:=hI
  refine GG ?_
  repeat walk_at "step"
  refine ⟨by simp,fun d hd=>?_⟩
  repeat walk_at "step"
  refine ⟨?_,ls ++ [d],by simp,?_,?_,by simp [hl2],s1.then hd⟩
  ·refine aa (hbl ..) ?_; exact (s1.then hd) _ _ hbl
  ·refine aa (propext (List.nodup_append ..)) ?_
   exact ⟨hnd,by simp,fun a ha b hb e=>by
    rw [List.mem_singleton] at hb; subst hb; subst e
    rw [(hls a ha).2] at hd; exact ns hd.symm⟩
  ·intro l hl
   rcases List.mem_append.mp hl with h | h
   ·repeat walk_at "step"
    exact ⟨(hls l h).1,Sub.upd hd _ _ (hls l h).2⟩
   ·refine aa (List.mem_singleton.mp h) ?_; exact ⟨s1.none hd,ad _ _ _⟩
 ·refine bc fun GG=>?_
  obtain ⟨ls,rfl,hnd,hls,hl2,s1⟩:=hI
  refine GG ?_
  have hl3 : ls.length = G.length:=by refine aa (hl2 ..) ?_; simp [hlen]
  intro a ha
  have R0 : Rows (an H1 a (.list (ls.map AV.ref))) a ls (ay G 0):=⟨ad _ _ _,hnd,(fun hm=>by rw [(hls a hm).2] at ha; exact ns ha.symm),fun t l hl=>Sub.upd ha _ _ (hls l (List.mem_of_getElem? hl)).2⟩
  have s2:=s1.then (o:=.list (ls.map AV.ref)) ha
  have ha0:=s1.none ha
  have hls0 : ∀ l∈ls,H l = none:=fun l hl=>(hls l hl).1
  generalize an H1 a (.list (ls.map AV.ref)) = H2 at R0 s2
  repeat walk_at "step"
  have hbl2:=s2 _ _ hbl
  refine cP (ar hbl2) ?_
  refine aD (I:=fun i m H3=>bC (m "found" = some (.ref a)/\m "func" = some (.ref f)) (Sub H H3) (Rows H3 a ls (ay G i))) rfl _ 0 _ _ ⟨⟨rfl,rfl⟩,s2,R0⟩ (fun i R_ hR_ hr_ v m H3 hv hI=>?_) fun m H3 hI=>?_
  ·refine bc fun GG=>?_
   obtain ⟨⟨e1,e2⟩,s3,R3⟩:=hI
   refine GG ?_
   rw [Nat.zero_add] at *
   rw [List.getElem?_map] at hv
   refine bc fun GG=>?_
   obtain ⟨b,hb,rfl⟩:=Option.map_eq_some_iff.mp hv
   have hi : i < G.length:=by refine aa (Eq.symm (hlen ..)) ?_; exact (List.getElem?_eq_some_iff.mp hb).1
   obtain ⟨st,sl,e,⟨dxb,hb1,hb2⟩,_,_,al,hend,_⟩:=hblk i b G[i] hb (List.getElem?_eq_getElem hi)
   refine GG ?_
   have hgoals : ah G i = G[i].kind.goals:=by unfold ah; exact aa (List.getElem?_eq_getElem hi) rfl
   have hGW:=(hG.blk _ (List.getElem_mem hi)).fin
   repeat walk_at "step"
   refine fZ hK ⟨dxb,s3 _ _ hb1,s3 _ _ hb2⟩ (hend.sub s3) fun H4 d s4 hd hd4=>?_
   repeat walk_at "step"
   refine cP (ar hd4) ?_
   have hdl : ∀ l∈ls,d≠l:=fun l hl e=>by
    refine bc fun GG=>?_
    obtain ⟨t,ht⟩:=List.getElem?_of_mem hl
    refine GG ?_
    rw [e,R3.row t l ht] at hd; contradiction
   refine aD (I:=fun j m H5=>c0 (bC (m "found" = some (.ref a)) (m "func" = some (.ref f)) (m "block" = some (.ref b))) (Sub H H5) (H5 d = some (.list ((ah G i).map ak))) (Rows H5 a ls (fun t=>ay G i t ++ if ((ah G i).take j).contains t then [i] else []))) rfl _ 0 _ _
    ⟨⟨e1,e2,rfl⟩,s3.trans s4,by refine aa (hgoals ..) ?_; exact hd4,(R3.sub s4).congr fun t _=>by simp⟩ (fun j R_ hR_ hr_ v m H5 hv hI=>?_) fun m H5 hI=>?_
   ·refine bc fun GG=>?_
    obtain ⟨⟨e1,e2,e3⟩,s5,h5d,R5⟩:=hI
    refine GG ?_
    rw [Nat.zero_add] at *
    rw [<-hgoals,List.getElem?_map] at hv
    refine bc fun GG=>?_
    obtain ⟨g,hg,rfl⟩:=Option.map_eq_some_iff.mp hv
    refine GG ?_
    have hgn : g < G.length:=hGW.goals g (by refine aa (Eq.symm (hgoals ..)) ?_; exact List.mem_of_getElem? hg)
    have hgl : g < ls.length:=by exact aU hgn hl3
    have hrow:=R5.row g ls[g] (List.getElem?_eq_getElem hgl)
    have htop:=R5.top
    have hget : ∀ {QQ : AV->ag->Prop},QQ (.ref ls[g]) H5->dO c (k + 1) (.ref a) (ak g) H5 QQ:=fun hq=>
     qE ⟨_,g,_,htop,by simp; exact bE hl3 hsix,aJ (by simp; exact dr hgl),by refine aa (List.getElem?_map) (aa (List.getElem?_eq_getElem hgl) ?_); rfl,hq⟩
    have hlk : ls[g]? = some ls[g]:=List.getElem?_eq_getElem hgl
    have hle : (ah G i).take (j + 1) = (ah G i).take j ++ [g]:=by
     refine bc fun GG=>?_
     obtain ⟨h1,h2⟩:=List.getElem?_eq_some_iff.mp hg
     refine GG ?_
     exact aa (List.take_succ_eq_append_getElem h1) (aa (h2 ..) rfl)
    have hmem : i∈ay G i g↔False:=by
     unfold ay
     simp
    have hstay : H4 d = some (.list ((ah G i).map ak)):=by refine aa (hgoals ..) ?_; exact hd4
    repeat walk_at "step"
    refine hget ?_
    refine bB (x:=i) hrow ?_
    repeat walk_at "step"
    cases hc : (ay G i g ++ if ((ah G i).take j).contains g = true then [i] else []).contains i with
    | true=>
     have hin : ((ah G i).take j).contains g = true:=by
      rw [List.contains_iff_mem,List.mem_append,hmem,false_or] at hc
      split at hc
      ·assumption
      ·exact nomatch hc
     repeat walk_at "step"
     refine ⟨by exact aa (h5d ..) (aa (hstay ..) rfl),⟨e1,e2,e3⟩,s5,h5d,R5.congr fun t _=>?_⟩
     congr 1
     refine aa (hle ..) ?_
     by_cases ht : t = g
     ·clear hg hv GG hgn hgl hrow hget hlk hle hmem hc; subst ht
      exact aa (if_pos hin) (aa (if_pos (by simp)) rfl)
     ·have : ((ah G i).take j ++ [g]).contains t = ((ah G i).take j).contains t:=by
       refine aa (propext (Bool.eq_iff_iff ..)) (aa (propext (List.contains_iff_mem ..)) (aa (propext (List.contains_iff_mem ..)) (aa (propext (List.mem_append ..)) (aa (propext (List.mem_singleton ..)) ?_))))
       exact ⟨fun h=>h.elim id fun h=>absurd h ht,.inl⟩
      exact aa (this ..) rfl
    | false=>
     have hin : ((ah G i).take j).contains g = false:=by
      cases hh : ((ah G i).take j).contains g with
      | false=>rfl
      | true=>
       rw [hh,if_pos rfl] at hc
       have : i∈ay G i g ++ [i]:=by exact List.mem_concat_self
       rw [<-List.contains_iff_mem,hc] at this
       exact nomatch this
     repeat walk_at "step"
     refine hget ?_
     refine ⟨ls[g],_,rfl,hrow,rfl,?_⟩
     repeat walk_at "step"
     rw [hin] at hrow
     have hfl : (ay G i g).length<=i:=by
      have:=List.length_filter_le (fun b=>(ah G b).contains g) (List.range i)
      rw [List.length_range] at this
      exact this
     refine aO hrow (by refine aa (List.length_map ..) (aa (List.length_append ..) ?_); simp only [Bool.false_eq_true,if_false,List.length_nil]; exact xe hi hsix hfl) ?_
     repeat walk_at "step"
     have ngd : d≠ls[g]:=hdl _ (List.getElem_mem hgl)
     have hl0:=hls0 ls[g] (List.getElem_mem hgl)
     have R6:=R5.set (xs:=ay G i g ++ [i]) hlk
     have e6 : (ay G i g ++ if false = true then [i] else []).map ak ++ [AV.int (i : Int)] = (ay G i g ++ [i]).map ak:=by simp
     refine aa (e6 ..) ?_
     refine ⟨by exact aa (aj ngd) (aa (h5d ..) (aa (hstay ..) rfl)),⟨e1,e2,e3⟩,fun x o hx=>?_,by refine aa (aj ngd) ?_; exact h5d,R6.congr fun t _=>?_⟩
     ·refine aa (aj (fun e=>by rw [e,hl0] at hx; exact ns hx)) ?_; exact s5 _ _ hx
     ·refine aa (hle ..) ?_
      by_cases ht : t = g
      ·clear hg hv GG hgn hgl hrow hget hlk hle hmem hc hin hfl ngd hl0 R6 e6; subst ht
       exact aa (if_pos rfl) (aa (if_pos (by simp)) rfl)
      ·refine aa (if_neg ht) ?_
       congr 1
       have : ((ah G i).take j ++ [g]).contains t = ((ah G i).take j).contains t:=by
        refine aa (propext (Bool.eq_iff_iff ..)) (aa (propext (List.contains_iff_mem ..)) (aa (propext (List.contains_iff_mem ..)) (aa (propext (List.mem_append ..)) (aa (propext (List.mem_singleton ..)) ?_))))
        exact ⟨fun h=>h.elim id fun h=>absurd h ht,.inl⟩
       exact aa (this ..) rfl
   ·refine bc fun GG=>?_
    obtain ⟨⟨e1,e2,e3⟩,s5,h5d,R5⟩:=hI
    refine GG ?_
    repeat walk_at "step"
    have hbl0 : H2 bl = some (.list (bs.map AV.ref)):=hbl2
    refine ⟨by refine aa (hbl0 ..) ?_; exact s5 _ _ hbl,⟨e1,e2⟩,s5,R5.congr fun t _=>?_⟩
    have hl : 0 + (List.map ak G[i].kind.goals).length = (ah G i).length:=by refine aa (hgoals ..) ?_; simp
    refine aa (hl ..) (aa (List.take_length ..) ?_)
    unfold ay
    refine aa (List.range_succ ..) (aa (List.filter_append ..) ?_)
    congr 1
    exact aa (List.filter_cons ..) (aa (List.filter_nil ..) rfl)
  ·refine bc fun GG=>?_
   obtain ⟨⟨e1,e2⟩,s3,R3⟩:=hI
   refine GG ?_
   have hl : 0 + (List.map AV.ref bs).length = G.length:=by simp [hlen]
   rw [hl] at R3
   repeat walk_at "step"
   exact q H3 a ls s3 ha0 hls0 hl3 R3
end
end
section
section
variable {c : Cx} {k : Nat} {H : ag} {Q : AV->ag->Prop}
theorem gu (hK : KF c.K) {f pa : Addr} {G : List cI} {ps : List Int} (hF : cA H f G) (hG : cm G) (hp : H pa = some (.list (ps.map .int))) (hpl : ps.length = G.length)
  (q : ∀ (H' : ag) (a : Addr) (ls : List Addr),Sub H H'->H a = none->(∀ l∈ls,H l = none)->ls.length = G.length->Rows H' a ls (fun t=>(ay G G.length t).filter fun b=>decide (ps.getD b 0>=0))->Q (.ref a) H') : AC c (k + 3) 186 [.ref f,.ref pa] H Q:=by
 refine aI (Cj hK) rfl ?_
 dsimp only [nB,nS,nh]
 have hsix:=hG.six
 repeat walk_at "step"
 refine ⟨by simp,fun a2 ha2=>?_⟩
 repeat walk_at "step"
 refine f6 hK (hF.sub (Sub.upd ha2)) hG fun H1 a1 ls s1 ha1 hls hll R1=>?_
 have e21:=s1 _ _ (ad H a2 (.list []))
 have n12 : a1≠a2:=(aM ha1).1
 have hls' : ∀ l∈ls,l≠a2/\H l = none:=fun l hl=>aM (hls l hl)
 have sH : Sub H H1:=(Sub.upd ha2).trans s1
 repeat walk_at "step"
 refine cP (ar R1.top) ?_
 refine aD (I:=fun i m H5=>bC (m "found" = some (.ref a2)/\m "parents" = some (.ref pa)) (aV a2 H1 H5) (∃ l2 : List Addr,c0 (H5 a2 = some (.list (l2.map AV.ref))) (l2.length = i) (l2.Nodup) (∀ (t : Nat) (l : Addr),l2[t]? = some l->l≠a2/\H l = none/\H5 l = some (.list (((ay G G.length t).filter fun b=>decide (ps.getD b 0>=0)).map ak))))) rfl _ 0 _ _
  ⟨⟨rfl,rfl⟩,fun _ _ _ h=>h,[],e21,rfl,List.nodup_nil,by exact nofun⟩ (fun i R_ hR_ hr_ v m H5 hv hI=>?_) fun m H5 hI=>?_
 ·obtain ⟨⟨e1,e2⟩,s5,l2,h5a,hl2,hnd,hrows⟩:=hI
  rw [Nat.zero_add] at *
  rw [List.getElem?_map] at hv
  obtain ⟨l,hl,rfl⟩:=Option.map_eq_some_iff.mp hv
  have hi : i < G.length:=by refine aa (Eq.symm (hll ..)) ?_; exact (List.getElem?_eq_some_iff.mp hl).1
  have hlm:=hls' l (List.mem_of_getElem? hl)
  have hrow:=s5 _ _ hlm.1 (R1.row i l hl)
  have pna : pa≠a2:=fun e=>by rw [e,ha2] at hp; exact ns hp
  have h5p:=s5 _ _ pna (sH _ _ hp)
  have hpr : ∀ b∈ay G G.length i,b < G.length:=fun b hb=>List.mem_range.mp (List.mem_filter.mp hb).1
  have hpl2 : (ay G G.length i).length<=6:=by
   have:=List.length_filter_le (fun b=>(ah G b).contains i) (List.range G.length)
   rw [List.length_range] at this
   unfold ay; exact oX hsix this
  repeat walk_at "step"
  refine ⟨a2,_,rfl,h5a,rfl,?_⟩
  repeat walk_at "step"
  refine ⟨_,ar hrow,by simp; exact gE hpl2,fun l' hl'=>?_⟩
  cases hl'
  refine ax (I:=fun j acc H6=>H6 = H5/\acc = (((ay G G.length i).take j).filter fun b=>decide (ps.getD b 0>=0)).map ak) rfl _ 0 _ _ _ ⟨rfl,by rfl⟩ (fun j v acc hv Ry_ hy_ Rn_ hn_ H6 hI2=>?_) fun acc H6 hI2=>?_
  ·clear s5 h5a hrows hrow; obtain ⟨rfl,rfl⟩:=hI2
   rw [Nat.zero_add] at *
   rw [List.getElem?_map] at hv
   obtain ⟨b,hb,rfl⟩:=Option.map_eq_some_iff.mp hv
   have hbn:=hpr b (List.mem_of_getElem? hb)
   have hb2 : b < ps.length:=by exact aU hbn hpl
   have htk : (ay G G.length i).take (j + 1) = (ay G G.length i).take j ++ [b]:=by
    obtain ⟨h1,h2⟩:=List.getElem?_eq_some_iff.mp hb
    exact aa (List.take_succ_eq_append_getElem h1) (aa (h2 ..) rfl)
   have hpv : ps.getD b 0 = ps[b]:=by refine aa (List.getD_eq_getElem?_getD) (aa (List.getElem?_eq_getElem hb2) ?_); rfl
   repeat walk_at "step"
   refine bn (j:=b) h5p (by simp; exact bE hpl hsix) (aJ (by simp; exact dr hb2)) (by refine aa (List.getElem?_map) (aa (List.getElem?_eq_getElem hb2) ?_); rfl) ?_
   repeat walk_at "step"
   (try rw [htk,List.filter_append,List.filter_cons,List.filter_nil,hpv] at hy_)
   (try rw [htk,List.filter_append,List.filter_cons,List.filter_nil,hpv] at hn_)
   cases hge : decide (ps[b]>=0) with
   | true=>
    (try rw [hge] at hy_)
    (try rw [hge] at hn_)
    repeat walk_at "step"
    exact ⟨rfl,rfl,by simp⟩
   | false=>
    (try rw [hge] at hy_)
    (try rw [hge] at hn_)
    repeat walk_at "step"
    exact ⟨rfl,rfl,by simp⟩
  ·clear h5p; obtain ⟨rfl,rfl⟩:=hI2
   intro d hd
   have nd2 : d≠a2:=ai hd h5a
   have hH1d : H d = none:=by
    cases hh : H d with
    | none=>rfl
    | some o=>rw [s5 d o nd2 (sH _ _ hh)] at hd; exact ns hd.symm
   refine aO (xs:=l2.map AV.ref) (by walk_at "look") (by simp; exact xB hi hsix hl2) ?_
   repeat walk_at "step"
   have kk : ∀ x o,x≠a2->H6 x = some o->an (an H6 d (.list ((((ay G G.length i).take (0 + (List.map ak (ay G G.length i)).length)).filter fun b=>decide (ps.getD b 0>=0)).map ak))) a2 (.list (l2.map AV.ref ++ [.ref d])) x = some o:=fun x o h1 h2=>by
    refine aa (aj h1) (aa (aj (fun e=>by rw [e,hd] at h2; exact ns h2)) ?_); exact h2
   refine ⟨?_,⟨e1,e2⟩,fun x o h1 h2=>kk x o h1 (s5 x o h1 h2),l2 ++ [d],?_,by simp [hl2],?_,fun t l ht=>?_⟩
   ·refine aa (R1.top ..) ?_
    exact kk _ _ n12 (s5 _ _ n12 R1.top)
   ·refine aa (ad ..) ?_; simp
   ·refine aa (propext (List.nodup_append ..)) ?_
    refine ⟨hnd,by simp,fun x hx y hy e=>?_⟩
    rw [List.mem_singleton] at hy; subst hy; clear nd2 hH1d kk; subst e
    obtain ⟨t,ht⟩:=List.getElem?_of_mem hx
    rw [(hrows t x ht).2.2] at hd; contradiction
   ·rcases Nat.lt_or_ge t l2.length with hlt | hge
    ·rw [List.getElem?_append_left hlt] at ht
     obtain ⟨g1,g2,g3⟩:=hrows t l ht
     exact ⟨g1,g2,kk _ _ g1 g3⟩
    ·rw [List.getElem?_append_right hge] at ht
     have : t = i:=by
      have:=(List.getElem?_eq_some_iff.mp ht).1
      simp at this
      exact v5 this hge hl2
     clear hR_ hl hv hi hpr hpl2 hrow kk; subst this
     rw [hl2,Nat.sub_self] at ht
     cases ht
     refine ⟨nd2,hH1d,?_⟩
     exact aa (aj nd2) (aa (ad ..) (aa (Nat.zero_add ..) (aa (List.length_map ..) (aa (List.take_length ..) rfl))))
 ·obtain ⟨⟨e1,e2⟩,s5,l2,h5a,hl2,hnd,hrows⟩:=hI
  have hl3 : l2.length = G.length:=by refine aa (hl2 ..) ?_; simp [hll]
  repeat walk_at "step"
  refine q H5 a2 l2 (fun x o hx=>s5 x o (fun e=>by rw [e,ha2] at hx; exact ns hx) (sH _ _ hx)) ha2 (fun l hl=>?_) hl3 ⟨h5a,hnd,fun hm=>?_,fun t l ht=>(hrows t l ht).2.2⟩
  ·obtain ⟨t,ht⟩:=List.getElem?_of_mem hl
   exact (hrows t l ht).2.1
  ·obtain ⟨t,ht⟩:=List.getElem?_of_mem hm
   exact (hrows t a2 ht).1 rfl
end
end
section
structure j4 (V : Nat->Prop) (par pl : Nat->Nat) : Prop where
 zero : V 0
 up : ∀ v,V v->v≠0->V (par v)/\pl (par v) < pl v
 inj : ∀ u v,V u->V v->pl u = pl v->u = v
inductive Ch (par : Nat->Nat) : Nat->Nat->Prop
 | refl (v : Nat) : Ch par v v
 | up {v y : Nat} (h : v≠0) (t : Ch par (par v) y) : Ch par v y
theorem Ch.le {V : Nat->Prop} {par pl : Nat->Nat} (T : j4 V par pl) {v y : Nat} (h : Ch par v y) : V v->V y/\pl y<=pl v:=by
 induction h with
 | refl v=>exact fun hv=>⟨hv,Nat.le_refl _⟩
 | up h t ih=>exact fun hv=>let ⟨a,b⟩:=T.up _ hv h; let ⟨c,d⟩:=ih a; ⟨c,by exact qV b d⟩
theorem j4.zero_le {V : Nat->Prop} {par pl : Nat->Nat} (T : j4 V par pl) : ∀ n v,pl v<=n->V v->pl 0<=pl v
 | 0,v,hn,hv=>by
  by_cases h : v = 0
  ·clear hn hv; subst h; exact Nat.le_refl _
  ·have:=(T.up v hv h).2; exact uf this hn
 | n + 1,v,hn,hv=>by
  by_cases h : v = 0
  ·clear hn hv; subst h; exact Nat.le_refl _
  ·have ⟨a,b⟩:=T.up v hv h
   have:=T.zero_le n (par v) (by exact ue b hn) a
   exact qV b this
theorem Ch.step {V : Nat->Prop} {par pl : Nat->Nat} (T : j4 V par pl) {u v : Nat} (hu : V u) (hv : V v) (hlt : pl v < pl u) (y : Nat) : (Ch par u y/\Ch par v y)↔(Ch par (par u) y/\Ch par v y):=by
 have h0 : u≠0:=fun e=>by clear hu; subst e; have:=T.zero_le _ v (Nat.le_refl _) hv; exact p8 hlt this
 constructor
 ·rintro ⟨h1,h2⟩
  cases h1 with
  | refl=>have:=(h2.le T hv).2; exact wh hlt this
  | up _ t=>exact ⟨t,h2⟩
 ·rintro ⟨h1,h2⟩
  exact ⟨.up h0 h1,h2⟩
structure rr (H : ag) (pa : Addr) (V : Nat->Prop) (par : Nat->Nat) : Prop where
 is : ∃ ps : List Int,H pa = some (.list (ps.map .int))/\ps.length < 1000/\∀ v,V v->ps[v]? = some (par v : Int)
structure zM (H : ag) (pp : Addr) (V : Nat->Prop) (pl : Nat->Nat) : Prop where
 is : ∃ es : List (Int × AV),H pp = some (.dict es)/\∀ v,V v->es.lookup (v : Int) = some (ak (pl v))
section
variable {c : Cx} {k : Nat} {H : ag} {Q : AV->ag->Prop}
theorem jN {pa : Addr} {V : Nat->Prop} {par : Nat->Nat} {v : Nat} (h : rr H pa V par) (hv : V v) (q : Q (ak (par v)) H) : dO c k (.ref pa) (ak v) H Q:=by
 refine bc fun GG=>?_
 obtain ⟨ps,h1,h2,h3⟩:=h.is
 refine GG ?_
 have h4:=h3 v hv
 have h5:=(List.getElem?_eq_some_iff.mp h4).1
 exact qE ⟨_,v,_,h1,by simp; exact ur h2,aJ (by simp; exact h5),by refine aa (List.getElem?_map) (aa (h4 ..) ?_); rfl,q⟩
theorem jY {pp : Addr} {V : Nat->Prop} {pl : Nat->Nat} {v : Nat} (h : zM H pp V pl) (hv : V v) (q : Q (ak (pl v)) H) : dO c k (.ref pp) (ak v) H Q:=by
 refine bc fun GG=>?_
 obtain ⟨es,h1,h2⟩:=h.is
 refine GG ?_
 exact vk ⟨es,_,h1,h2 v hv,q⟩
theorem kz {pl : Nat->Nat} {a u1 u : Nat} (h : a < pl u1) (h' : u1 = u\/pl u1 < pl u) : a < pl u:=by
 rcases h' with e | e
 ·refine aa (Eq.symm (e ..)) ?_; exact h
 ·exact sV h e
theorem lh (hK : KF c.K) {pa pp : Addr} {V : Nat->Prop} {par pl : Nat->Nat} (T : j4 V par pl) (hp : rr H pa V par) (hpl : zM H pp V pl) {one other : Nat} (h1 : V one) (h2 : V other)
  {S : Nat->Nat->Prop} (S1 : ∀ d x,V x->x≠0->S d x->d≠x->S d (par x)) (S2 : ∀ d x,V x->S d x->pl d<=pl x)
  (q : ∀ r,V r->(∀ y,Ch par r y↔Ch par one y/\Ch par other y)->(∀ d,S d one->S d other->S d r)->Q (ak r) H) : AC c (k + 1) 136 [.ref pa,.ref pp,ak one,ak other] H Q:=by
 refine aI (CN hK) rfl ?_
 dsimp only [l6,mV]
 try walk_at "step"
 refine bK (fun n m H'=>c0 (H' = H) (m "parents" = some (.ref pa)) (m "places" = some (.ref pp)) (A4 fun (u v : Nat)=>nk (m "one" = some (ak u)) (m "other" = some (ak v)) (V u) (V v) (n = pl u + pl v) (∀ y,(Ch par u y/\Ch par v y)↔(Ch par one y/\Ch par other y)) (∀ d,S d one->S d other->S d u/\S d v))) ?_ (pl one + pl other) ⟨rfl,rfl,rfl,one,other,rfl,rfl,h1,h2,rfl,fun _=>.rfl,fun _ a b=>⟨a,b⟩⟩
 rintro n R_ hR_ hr_ m H' ⟨rfl,e1,e2,u,v,e3,e4,hu,hv,rfl,hch,hS⟩
 repeat walk_at "step"
 cases hne : ((u : Int) != (v : Int)) with
 | false=>
  have huv : u = v:=by
   have : (u : Int) = (v : Int):=by simpa using hne
   exact fS this
  clear e4 hv hR_ hne; subst huv
  refine fD rfl ?_
  repeat walk_at "step"
  exact q u hu (fun y=>by rw [<-hch y]; exact ⟨fun h=>⟨h,h⟩,fun h=>h.1⟩) fun d a b=>(hS d a b).1
 | true=>
  have huv : u≠v:=fun e=>by subst e; simp at hne
  refine eU rfl ?_
  try walk_at "step"
  refine bK (fun n m H1=>c0 (H1 = H') (m "parents" = some (.ref pa)) (m "places" = some (.ref pp)) (∃ u1 : Nat,nk (m "one" = some (ak u1)) (m "other" = some (ak v)) (V u1) (n = pl u1) (u1 = u\/pl u1 < pl u) (∀ y,(Ch par u1 y/\Ch par v y)↔(Ch par one y/\Ch par other y)) (∀ d,S d one->S d other->S d u1/\S d v))) ?_ (pl u) ⟨rfl,e1,e2,u,e3,e4,hu,rfl,.inl rfl,hch,hS⟩
  rintro n R_ hR_ hr_ m H1 ⟨rfl,e1,e2,u1,e3,e4,hu1,rfl,hle,hch,hS⟩
  repeat walk_at "step"
  refine jY hpl hu1 ?_
  repeat walk_at "step"
  refine jY hpl hv ?_
  repeat walk_at "step"
  cases hgt : decide ((pl u1 : Int) > (pl v : Int)) with
  | true=>
   have hgt:=of_decide_eq_true hgt
   have hlt : pl v < pl u1:=by exact yF hgt
   have h0 : u1≠0:=fun e=>by clear e3 hu1 hle hch hS hR_ hlt; subst e; have:=T.zero_le _ v (Nat.le_refl _) hv; exact sj hgt this
   have hup:=T.up u1 hu1 h0
   refine eU rfl ?_
   repeat walk_at "step"
   refine jN hp hu1 ?_
   repeat walk_at "step"
   refine ⟨pl (par u1),hup.2,rfl,e1,e2,par u1,rfl,e4,hup.1,rfl,.inr (kz hup.2 hle),fun y=>?_,fun d a b=>?_⟩
   ·rw [<-Ch.step T hu1 hv hlt y]; exact hch y
   ·obtain ⟨g1,g2⟩:=hS d a b
    refine ⟨S1 d u1 hu1 h0 g1 fun e=>?_,g2⟩
    clear e3 hu1 hle hch hS hR_ hlt h0 hup g1; subst e
    have:=S2 d v hv g2
    exact sj hgt this
  | false=>
   have hgt:=of_decide_eq_false hgt
   refine fD rfl ?_
   repeat walk_at "step"
   refine bK (fun n m H2=>c0 (H2 = H1) (m "parents" = some (.ref pa)) (m "places" = some (.ref pp)) (∃ v1 : Nat,nk (m "one" = some (ak u1)) (m "other" = some (ak v1)) (V v1) (n = pl v1) (v1 = v\/pl v1 < pl v) (∀ y,(Ch par u1 y/\Ch par v1 y)↔(Ch par one y/\Ch par other y)) (∀ d,S d one->S d other->S d u1/\S d v1))) ?_ (pl v) ⟨rfl,e1,e2,v,e3,e4,hv,rfl,.inl rfl,hch,hS⟩
   rintro n R_ hR_ hr_ m H2 ⟨rfl,e1,e2,v1,e3,e4,hv1,rfl,hle2,hch,hS⟩
   repeat walk_at "step"
   refine jY hpl hv1 ?_
   repeat walk_at "step"
   refine jY hpl hu1 ?_
   repeat walk_at "step"
   cases hgt2 : decide ((pl v1 : Int) > (pl u1 : Int)) with
   | true=>
    have hgt2:=of_decide_eq_true hgt2
    have hlt : pl u1 < pl v1:=by exact yF hgt2
    have h0 : v1≠0:=fun e=>by clear e4 hv1 hle2 hch hS hR_ hlt; subst e; have:=T.zero_le _ u1 (Nat.le_refl _) hu1; exact sj hgt2 this
    have hup:=T.up v1 hv1 h0
    refine eU rfl ?_
    repeat walk_at "step"
    refine jN hp hv1 ?_
    repeat walk_at "step"
    refine ⟨pl (par v1),hup.2,rfl,e1,e2,par v1,e3,rfl,hup.1,rfl,.inr (kz hup.2 hle2),fun y=>?_,fun d a b=>?_⟩
    ·have:=Ch.step T hv1 hu1 hlt y
     rw [<-hch y,and_comm,<-this,and_comm]
    ·obtain ⟨g1,g2⟩:=hS d a b
     refine ⟨g1,S1 d v1 hv1 h0 g2 fun e=>?_⟩
     clear e4 hv1 hle2 hch hS hR_ hlt h0 hup g2; subst e
     have:=S2 d u1 hu1 g1
     exact sj hgt2 this
   | false=>
    have hgt2:=of_decide_eq_false hgt2
    have hle3 : pl v1<=pl u1:=by exact yh hgt2
    refine fD rfl ?_
    repeat walk_at "step"
    refine ⟨pl u1 + pl v1,?_,rfl,e1,e2,u1,v1,e3,e4,hu1,hv1,rfl,hch,hS⟩
    rcases hle with e | e
    ·rcases hle2 with e' | e'
     ·exfalso
      apply huv
      refine aa (Eq.symm (e ..)) (aa (Eq.symm (e' ..)) ?_)
      rw [e'] at hle3
      exact T.inj u1 v1 hu1 hv1 (by refine aa (e' ..) ?_; exact xl hle3 hgt)
     ·refine aa (e ..) ?_; exact Ar e'
    ·rcases hle2 with e' | e'
     ·refine aa (e' ..) ?_; exact zS e
     ·exact wA e e'
end
end
section
section
variable {c : Cx} {k : Nat} {H : ag} {Q : AV->ag->Prop}
theorem jB (hK : KF c.K) {pa : Addr} {V : Nat->Prop} {par pl : Nat->Nat} (T : j4 V par pl) (hp : rr H pa V par) {over under : Nat} (h2 : V under)
  (q : ∀ b : Bool,(b = true↔Ch par under over)->Q (.bool b) H) : AC c (k + 1) 150 [.ref pa,ak over,ak under] H Q:=by
 refine aI (BR hK) rfl ?_
 dsimp only [nK,l3]
 try walk_at "step"
 refine bK (fun n m H'=>c0 (H' = H) (m "parents" = some (.ref pa)) (m "over" = some (ak over)) (∃ u : Nat,c0 (m "under" = some (ak u)) (V u) (n = pl u) (Ch par u over↔Ch par under over))) ?_ (pl under) ⟨rfl,rfl,rfl,under,rfl,h2,rfl,.rfl⟩
 intro n R_ hR_ hr_ m H' hzz
 refine bc fun GG=>?_
 obtain ⟨rfl,e1,e2,u,e3,hu,rfl,hch⟩:=hzz
 refine GG ?_
 have fin : ∀ b : Bool,(b = true↔u = over)->(u = over\/u = 0)->Q (.bool b) H':=fun b hb ho=>by
  refine q b (hb.trans ⟨fun e=>?_,fun e=>?_⟩)
  ·rw [<-hch,e]; exact .refl _
  ·rw [<-hch] at e
   rcases ho with h | h
   ·exact h
   ·subst h
    cases e with
    | refl=>rfl
    | up h _=>exact absurd rfl h
 repeat walk_at "step"
 cases hne : ((u : Int) != (over : Int)) with
 | false=>
  have huv : u = over:=by
   have : (u : Int) = (over : Int):=by simpa using hne
   exact fS this
  repeat walk_at "step"
  refine fin _ ?_ (.inl huv)
  refine aa (propext (beq_iff_eq ..)) ?_
  exact pP
 | true=>
  have huv : u≠over:=fun e=>by subst e; simp at hne
  repeat walk_at "step"
  cases h0 : ((u : Int) != 0) with
  | false=>
   have hu0 : u = 0:=by
    have : (u : Int) = 0:=by simpa using h0
    exact BA this
   repeat walk_at "step"
   refine fin _ ?_ (.inr hu0)
   refine aa (propext (beq_iff_eq ..)) ?_
   exact pP
  | true=>
   have hu0 : u≠0:=fun e=>by clear e3 hu hch hR_ fin hne huv; subst e; simp at h0
   have hup:=T.up u hu hu0
   repeat walk_at "step"
   refine jN hp hu ?_
   repeat walk_at "step"
   refine ⟨pl (par u),hup.2,rfl,e1,e2,par u,rfl,hup.1,rfl,?_⟩
   rw [<-hch]
   constructor
   ·exact fun h=>.up hu0 h
   ·intro h
    cases h with
    | refl=>exact absurd rfl huv
    | up _ t=>exact t
end
end
section
def vb (H : ag) (cell : Int) (y : AV) : Bool:=match y with
 | .ref t=>(match H t with
  | some (.tuple [_,.int r])=>r == cell
  | _=>false)
 | _=>false
section
variable {c : Cx} {k : Nat} {H : ag} {Q : AV->ag->Prop}
theorem oN {H : ag} {cell : Int} : ∀ {ts : List Addr} {rs : List Int},bX (fun t r=>H t = some (.tuple [.str "r",.int r])) ts rs->(ts.map AV.ref).any (vb H cell) = rs.contains cell
 | _,_,.nil=>rfl
 | t :: ts,r :: rs,.cons h hs=>by
  rw [List.map_cons,List.any_cons,oN hs,List.contains_cons]
  congr 1
  show (match H t with | some (.tuple [_,.int r])=>r == cell | _=>false) = _
  refine aa (h ..) ?_
  by_cases e : cell = r
  ·subst e; rfl
  ·show (r == cell) = (cell == r)
   exact aa (beq_eq_false_iff_ne.mpr e) (aa (beq_eq_false_iff_ne.mpr (Ne.symm e)) rfl)
theorem r6 {t d : Addr} {r cell : Int} {n : Nat} (h1 : H t = some (.tuple [.str "r",.int r])) (h2 : H d = some (.tuple [.str "r",.int cell])) : eH H (n + 1) (.ref t) (.ref d) (r == cell):=by
 have:=eH.tuple n (fun j=>if j = 0 then true else r == cell) h1 h2 rfl (fun j x y hx hy=>by
  match j with
  | 0=>
   cases hx; cases hy
   have:=eH.str (H:=H) n "r" "r"
   rw [beq_self_eq_true] at this
   exact this
  | 1=>cases hx; cases hy; exact eH.int _ _ _
  | j + 2=>cases hx)
 have e : ((List.range [AV.str "r",AV.int r].length).all fun j=>if j = 0 then true else r == cell) = (r == cell):=by
  show ((List.range 2).all _) = _
  simp [List.range_succ]
 rw [e] at this
 exact this
theorem uI (hK : KF c.K) {s : Addr} {op : Str} {dst cell : Int} {al more : AV} {rs : List Int} (hs : bQ H s 31 (dg op dst al more)) (ha : gA H al rs)
  (q : ∀ H',Sub H H'->Q (.int (if rs.contains cell = true then 1 else if (dst == cell) = true then 2 else 0)) H') : AC c (k + 1) 236 [.ref s,.int cell] H Q:=by
 refine aI (Dh hK) rfl ?_
 dsimp only [lE,nU]
 refine bc fun GG=>?_
 obtain ⟨dx,h1,h2⟩:=hs
 obtain ⟨a,ts,rfl,ha1,ha2,ha3⟩:=ha
 refine GG ?_
 repeat walk_at "step"
 refine ⟨by simp,fun d hd=>?_⟩
 have sd : Sub H (an H d (.tuple [.str "r",.int cell])):=Sub.upd hd
 have ha2' : bX (fun t r=>an H d (.tuple [.str "r",.int cell]) t = some (.tuple [.str "r",.int r])) ts rs:=ha2.mono fun t r h=>sd _ _ h
 repeat walk_at "step"
 refine gI (vb (an H d (.tuple [.str "r",.int cell])) cell) (by walk_at "look") (fun y hy=>?_) ?_
 ·refine bc fun GG=>?_
  obtain ⟨t,ht,rfl⟩:=List.mem_map.mp hy
  obtain ⟨i,hi⟩:=List.getElem?_of_mem ht
  refine GG ?_
  have hil : i < rs.length:=by refine aa (Eq.symm (ha2.len ..)) ?_; exact (List.getElem?_eq_some_iff.mp hi).1
  have hT:=ha2'.at hi (List.getElem?_eq_getElem hil)
  have:=r6 (n:=9) hT (ad H d (.tuple [.str "r",.int cell]))
  have e : vb (an H d (.tuple [.str "r",.int cell])) cell (.ref t) = (rs[i] == cell):=by
   show (match an H d (.tuple [.str "r",.int cell]) t with | some (.tuple [_,.int r])=>r == cell | _=>false) = _
   exact aa (hT ..) rfl
  refine aa (e ..) ?_
  exact this
 refine aa (oN ha2') ?_
 repeat walk_at "step"
 have q':=q _ sd
 cases hc : rs.contains cell with
 | true=>
  rw [hc] at q'
  repeat walk_at "step"
  exact q'
 | false=>
  rw [hc] at q'
  repeat walk_at "step"
  cases hq : dst == cell with
  | true=>
   rw [hq] at q'
   repeat walk_at "step"
   exact q'
  | false=>
   rw [hq] at q'
   repeat walk_at "step"
   exact q'
end
end
section
def bp (gv : List Int) : List Int->List Int->List Int
 | nd,[]=>nd
 | nd,r :: rs=>bp gv (if gv.contains r then nd else aK fun i=>nd.contains i || i == r) rs
def aH : List Int × List Int->List (Int × List Nat)->List Int × List Int
 | s,[]=>s
 | (nd,gv),x :: xs=>aH (bp gv nd (x.2.map fun (r : Nat)=>(r : Int)),aK fun i=>gv.contains i || i == x.1) xs
def cZ (B : cI) : List Int × List Int:=
 let s:=aH ([],[]) B.steps
 (bp s.2 s.1 (B.regs.map fun (r : Nat)=>(r : Int)),s.2)
theorem ei (gv : List Int) : ∀ (rs : List Int) (nd : List Int) (r : Int),bp gv nd (rs ++ [r]) = if gv.contains r then bp gv nd rs else aK fun i=>(bp gv nd rs).contains i || i == r
 | [],nd,r=>by simp [bp]
 | a :: rs,nd,r=>by refine aa (List.cons_append ..) ?_; unfold bp; exact ei gv rs _ r
theorem eY : ∀ (xs : List (Int × List Nat)) (s : List Int × List Int) (x : Int × List Nat),aH s (xs ++ [x]) = (bp (aH s xs).2 (aH s xs).1 (x.2.map fun (r : Nat)=>(r : Int)),aK fun i=>(aH s xs).2.contains i || i == x.1)
 | [],(nd,gv),x=>rfl
 | a :: xs,(nd,gv),x=>by refine aa (List.cons_append ..) ?_; unfold aH; exact eY xs _ x
theorem hZ {r : Nat} (h : r < 4) : (r : Int)∈aA:=by
 match r,h with
 | 0,_=>decide
 | 1,_=>decide
 | 2,_=>decide
 | 3,_=>decide
theorem dn {x : Int} (h1 : -1<=x) (h2 : x<=5) : x∈aA:=by
 have : x = -1\/x = 0\/x = 1\/x = 2\/x = 3\/x = 4\/x = 5:=by exact CR h1 h2
 rcases this with e | e | e | e | e | e | e<;>subst e<;>decide
section
variable {c : Cx} {k : Nat} {H : ag} {Q : AV->ag->Prop}
theorem qG (hK : KF c.K) {b : Addr} {i n : Nat} {B : cI} (hb : dF H b i B) (hB : sk n B)
  (q : ∀ (H' : ag) (t nd gv : Addr),Sub H H'->H t = none->H nd = none->H gv = none->nd≠gv->H' t = some (.tuple [.ref nd,.ref gv])->H' nd = some (.set (cZ B).1)->H' gv = some (.set (cZ B).2)->Q (.ref t) H') : AC c (k + 1) 157 [.ref b] H Q:=by
 refine aI (Cc hK) rfl ?_
 dsimp only [mG,lj,mE,nQ,m4]
 refine bc fun GG=>?_
 obtain ⟨st,sl,e,⟨dxb,hb1,hb2⟩,hst,hsl,al,⟨mo,⟨de,he1,he2⟩,hm⟩,hops⟩:=hb
 refine GG ?_
 repeat walk_at "step"
 refine dR fun nd hnd=>?_
 repeat walk_at "step"
 refine dR fun gv hgv=>?_
 have ngv : gv≠nd:=ai hgv (ad _ _ _)
 have hgv0:=(Sub.upd hnd).none hgv
 have s1 : Sub H (an (an H nd (.set [])) gv (.set [])):=(Sub.upd hnd).trans (Sub.upd hgv)
 have h1n : an (an H nd (.set [])) gv (.set []) nd = some (.set []):=Sub.upd hgv _ _ (ad _ _ _)
 have h1g : an (an H nd (.set [])) gv (.set []) gv = some (.set []):=ad _ _ _
 generalize an (an H nd (.set [])) gv (.set []) = H1 at s1 h1n h1g
 repeat walk_at "step"
 refine cP (ar (s1 _ _ hst)) ?_
 refine aD (I:=fun j0 m H5=>c0 (bC (m "needed" = some (.ref nd)) (m "given" = some (.ref gv)) (m "block" = some (.ref b))) (Sub H H5) (H5 nd = some (.set (aH ([],[]) (B.steps.take j0)).1)) (H5 gv = some (.set (aH ([],[]) (B.steps.take j0)).2))) rfl _ 0 _ _
  ⟨⟨rfl,rfl,rfl⟩,s1,by assumption,by assumption⟩ (fun j0 R_ hR_ hr_ v m H5 hv hI=>?_) fun m H5 hI=>?_
 ·refine bc fun GG=>?_
  obtain ⟨⟨e1,e2,e3⟩,s5,h5n,h5g⟩:=hI
  refine GG ?_
  rw [Nat.zero_add] at *
  rw [List.getElem?_map] at hv
  refine bc fun GG=>?_
  obtain ⟨sa,hsa,rfl⟩:=Option.map_eq_some_iff.mp hv
  have hj0 : j0 < B.steps.length:=by refine aa (Eq.symm (hsl.len ..)) ?_; exact (List.getElem?_eq_some_iff.mp hsa).1
  obtain ⟨al1,⟨dxs,hs1,hs2⟩,al2,ts2,rfl,hlist,hops2,hlen2⟩:=(hsl.at hsa (List.getElem?_eq_getElem hj0)).is
  refine GG ?_
  have hsw:=hB.steps _ (List.getElem_mem hj0)
  have hstk : B.steps.take (j0 + 1) = B.steps.take j0 ++ [B.steps[j0]]:=List.take_succ_eq_append_getElem hj0
  have hs0 : H1 st = H5 st:=by exact aa (s1 _ _ hst) (aa (s5 _ _ hst) rfl)
  repeat walk_at "step"
  refine cP (ar (s5 _ _ hlist)) ?_
  refine iF (I:=fun j m H6=>c0 (c0 (m "needed" = some (.ref nd)) (m "given" = some (.ref gv)) (m "block" = some (.ref b)) (m "step" = some (.ref sa))) (Sub H H6) (H6 nd = some (.set (bp (aH ([],[]) (B.steps.take j0)).2 (aH ([],[]) (B.steps.take j0)).1 ((B.steps[j0].2.map fun (r : Nat)=>(r : Int)).take j)))) (H6 gv = some (.set (aH ([],[]) (B.steps.take j0)).2))) rfl rfl _ 0 _ _ ⟨⟨e1,e2,e3,rfl⟩,s5,by assumption,h5g⟩ (fun j R_ hR_ hr_ v m H6 hv hI2=>?_) fun m H6 hI2=>?_
  ·refine bc fun GG=>?_
   obtain ⟨⟨e1,e2,e3,e4⟩,s6,h6n,h6g⟩:=hI2
   refine GG ?_
   rw [Nat.zero_add] at *
   rw [List.getElem?_map] at hv
   refine bc fun GG=>?_
   obtain ⟨t,ht,rfl⟩:=Option.map_eq_some_iff.mp hv
   refine GG ?_
   have hlt : j < (B.steps[j0].2.map fun (r : Nat)=>(r : Int)).length:=by refine aa (Eq.symm (hops2.len ..)) ?_; exact (List.getElem?_eq_some_iff.mp ht).1
   have hT:=hops2.at ht (List.getElem?_eq_getElem hlt)
   have hhome : (B.steps[j0].2.map fun (r : Nat)=>(r : Int))[j]∈aA:=by
    refine bc fun GG=>?_
    obtain ⟨r,hr,e⟩:=List.mem_map.mp (List.getElem_mem hlt)
    refine GG ?_
    refine aa (Eq.symm (e ..)) ?_; exact hZ (hsw.2.2.1 r hr)
   have htk : (B.steps[j0].2.map fun (r : Nat)=>(r : Int)).take (j + 1) = (B.steps[j0].2.map fun (r : Nat)=>(r : Int)).take j ++ [(B.steps[j0].2.map fun (r : Nat)=>(r : Int))[j]]:=List.take_succ_eq_append_getElem hlt
   refine ⟨t,_,_,rfl,s6 _ _ hT,?_⟩
   repeat walk_at "step"
   refine cQ h6g ?_
   repeat walk_at "step"
   have hstay : H6 al2 = H5 al2:=by exact aa (s6 _ _ hlist) (aa (s5 _ _ hlist) rfl)
   (try rw [htk,ei] at hR_)
   cases hc : ((aH ([],[]) (B.steps.take j0)).2).contains (B.steps[j0].2.map fun (r : Nat)=>(r : Int))[j] with
   | true=>
    (try rw [hc] at hR_)
    repeat walk_at "step"
    exact ⟨hstay,⟨e1,e2,e3,e4⟩,s6,h6n,h6g⟩
   | false=>
    (try rw [hc] at hR_)
    repeat walk_at "step"
    refine ⟨nd,_,rfl,h6n,rfl,?_⟩
    repeat walk_at "step"
    refine eW h6n hhome ?_
    repeat walk_at "step"
    have nll : al2≠nd:=fun e=>by rw [e,hnd] at hlist; exact ns hlist
    exact ⟨by refine aa (aj nll) ?_; exact hstay,⟨e1,e2,e3,e4⟩,fun x o hx=>by refine aa (aj (fun e=>by rw [e,hnd] at hx; exact ns hx)) ?_; exact s6 _ _ hx,ad _ _ _,by refine aa (aj ngv) ?_; exact h6g⟩
  ·refine bc fun GG=>?_
   obtain ⟨⟨e1,e2,e3,e4⟩,s6,h6n,h6g⟩:=hI2
   refine GG ?_
   have hll : 0 + (ts2.map AV.ref).length = (B.steps[j0].2.map fun (r : Nat)=>(r : Int)).length:=by refine aa (List.length_map ..) (aa (hops2.len ..) ?_); simp
   rw [hll,List.take_length] at h6n
   repeat walk_at "step"
   refine ⟨gv,_,rfl,h6g,rfl,?_⟩
   repeat walk_at "step"
   refine eW h6g (dn hsw.1 (by have:=hsw.2.1; exact zk this)) ?_
   repeat walk_at "step"
   refine aa (hstk ..) (aa (eY ..) ?_)
   have hgv' : ∀ x o,H x = some o->x≠gv:=fun x o hx e=>by rw [e,hgv0] at hx; exact ns hx
   repeat walk_at "step"
   exact ⟨by exact aa (hs0 ..) (aa (aj (hgv' _ _ hst)) (aa (s6 _ _ hst) (aa (s5 _ _ hst) rfl))),⟨e1,e2,e3⟩,fun x o hx=>by refine aa (aj (hgv' _ _ hx)) ?_; exact s6 _ _ hx,by refine aa (aj (Ne.symm ngv)) ?_; exact h6n,ad _ _ _⟩
 ·refine bc fun GG=>?_
  obtain ⟨⟨e1,e2,e3⟩,s5,h5n,h5g⟩:=hI
  refine GG ?_
  have hll : 0 + (sl.map AV.ref).length = B.steps.length:=by simp [hsl.len]
  rw [hll,List.take_length] at h5n h5g
  refine bc fun GG=>?_
  obtain ⟨al2,ts2,rfl,hlist,hops2,hlen2⟩:=hops
  refine GG ?_
  repeat walk_at "step"
  refine cP (ar (s5 _ _ hlist)) ?_
  refine iF (I:=fun j m H6=>c0 (m "needed" = some (.ref nd)/\m "given" = some (.ref gv)) (Sub H H6) (H6 nd = some (.set (bp (aH ([],[]) B.steps).2 (aH ([],[]) B.steps).1 ((B.regs.map fun (r : Nat)=>(r : Int)).take j)))) (H6 gv = some (.set (aH ([],[]) B.steps).2))) rfl rfl _ 0 _ _ ⟨⟨e1,e2⟩,s5,by assumption,h5g⟩ (fun j R_ hR_ hr_ v m H6 hv hI2=>?_) fun m H6 hI2=>?_
  ·refine bc fun GG=>?_
   obtain ⟨⟨e1,e2⟩,s6,h6n,h6g⟩:=hI2
   refine GG ?_
   rw [Nat.zero_add] at *
   rw [List.getElem?_map] at hv
   refine bc fun GG=>?_
   obtain ⟨t,ht,rfl⟩:=Option.map_eq_some_iff.mp hv
   refine GG ?_
   have hlt : j < (B.regs.map fun (r : Nat)=>(r : Int)).length:=by refine aa (Eq.symm (hops2.len ..)) ?_; exact (List.getElem?_eq_some_iff.mp ht).1
   have hT:=hops2.at ht (List.getElem?_eq_getElem hlt)
   have hhome : (B.regs.map fun (r : Nat)=>(r : Int))[j]∈aA:=by
    refine bc fun GG=>?_
    obtain ⟨r,hr,e⟩:=List.mem_map.mp (List.getElem_mem hlt)
    refine GG ?_
    refine aa (Eq.symm (e ..)) ?_; exact hZ (hB.fin.regs r hr)
   have htk : (B.regs.map fun (r : Nat)=>(r : Int)).take (j + 1) = (B.regs.map fun (r : Nat)=>(r : Int)).take j ++ [(B.regs.map fun (r : Nat)=>(r : Int))[j]]:=List.take_succ_eq_append_getElem hlt
   refine ⟨t,_,_,rfl,s6 _ _ hT,?_⟩
   repeat walk_at "step"
   refine cQ h6g ?_
   repeat walk_at "step"
   have hstay : H6 al2 = H5 al2:=by exact aa (s6 _ _ hlist) (aa (s5 _ _ hlist) rfl)
   (try rw [htk,ei] at hR_)
   cases hc : ((aH ([],[]) B.steps).2).contains (B.regs.map fun (r : Nat)=>(r : Int))[j] with
   | true=>
    (try rw [hc] at hR_)
    repeat walk_at "step"
    exact ⟨hstay,⟨e1,e2⟩,s6,h6n,h6g⟩
   | false=>
    (try rw [hc] at hR_)
    repeat walk_at "step"
    refine ⟨nd,_,rfl,h6n,rfl,?_⟩
    repeat walk_at "step"
    refine eW h6n hhome ?_
    repeat walk_at "step"
    have nll : al2≠nd:=fun e=>by rw [e,hnd] at hlist; exact ns hlist
    exact ⟨by refine aa (aj nll) ?_; exact hstay,⟨e1,e2⟩,fun x o hx=>by refine aa (aj (fun e=>by rw [e,hnd] at hx; exact ns hx)) ?_; exact s6 _ _ hx,ad _ _ _,by refine aa (aj ngv) ?_; exact h6g⟩
  ·refine bc fun GG=>?_
   obtain ⟨⟨e1,e2⟩,s6,h6n,h6g⟩:=hI2
   refine GG ?_
   have hll2 : 0 + (ts2.map AV.ref).length = (B.regs.map fun (r : Nat)=>(r : Int)).length:=by refine aa (List.length_map ..) (aa (hops2.len ..) ?_); simp
   rw [hll2,List.take_length] at h6n
   repeat walk_at "step"
   refine ⟨by simp,fun t ht=>?_⟩
   repeat walk_at "step"
   exact q _ t nd gv (s6.then ht) (s6.none ht) hnd hgv0 (Ne.symm ngv) (ad _ _ _) (Sub.upd ht _ _ h6n) (Sub.upd ht _ _ h6g)
end
end
section
inductive fR (bf : Nat->List Nat) (header : Nat) (tails : List Nat) : Nat->Prop
 | hd : fR bf header tails header
 | tail {t : Nat} (h : t∈tails) : fR bf header tails t
 | step {v u : Nat} (h : fR bf header tails v) (hv : v≠header) (hu : u∈bf v) : fR bf header tails u
theorem dq {α : Type} (l : List α) : l = []\/∃ r x,l = r ++ [x]:=by
 rcases List.eq_nil_or_concat l with h | ⟨r,x,h⟩
 ·exact .inl h
 ·exact .inr ⟨r,x,by exact aa (h ..) (aa (List.concat_eq_append ..) rfl)⟩
theorem dc {p : Int->Bool} {v : Nat} (h : v < 6) : (aK p).contains (v : Int) = p v:=by
 have hh : (v : Int)∈aA:=dn (by exact oL) (by exact wq h)
 refine aa (propext (Bool.eq_iff_iff ..)) (aa (propext (List.contains_iff_mem ..)) (aa (propext (br ..)) ?_))
 exact ⟨fun q=>q.2,fun q=>⟨hh,q⟩⟩
theorem gX (p : Int->Bool) : (aK p).length<=7:=by
 have:=List.length_filter_le p aA
 exact this
theorem rz {xs : List Int} {x : Int} (hs : xs.Pairwise (· < ·)) (hx : ∀ y∈xs,y∈aA) (h : x∈aA) (hn : xs.contains x = false) : (aK fun i=>xs.contains i || i == x).length = xs.length + 1:=by
 have hp : (aK fun i=>xs.contains i || i == x).Perm (x :: xs):=by
  refine aa (propext (List.perm_ext_iff_of_nodup (cv (bv _)) (List.nodup_cons.mpr ⟨(fun hm=>by rw [<-List.contains_iff_mem,hn] at hm; exact nomatch hm),cv hs⟩))) ?_
  intro y
  rw [br,Bool.or_eq_true,beq_iff_eq,List.contains_iff_mem,List.mem_cons]
  exact ⟨fun q=>q.2.elim .inr .inl,fun q=>⟨q.elim (fun e=>e▸h) (hx y),q.elim .inr .inl⟩⟩
 exact aa (hp.length_eq ..) (aa (List.length_cons ..) rfl)
section
variable {c : Cx} {k : Nat} {H : ag} {Q : AV->ag->Prop}
theorem mY (hK : KF c.K) {ba ta : Addr} {ls : List Addr} {n : Nat} {bf : Nat->List Nat} {header : Nat} {tails : List Nat} (hn : n<=6) (hB : Rows H ba ls bf) (hl : ls.length = n) (hbf : ∀ v,v < n->(bf v).length<=6/\∀ u∈bf v,u < n)
  (hh : header < n) (ht : H ta = some (.list (tails.map ak))) (htl : ∀ t∈tails,t < n) (htn : tails.length<=100)
  (q : ∀ (H' : ag) (d : Addr) (p : Int->Bool),Sub H H'->H d = none->H' d = some (.set (aK p))->(∀ v,v < n->(p v = true↔fR bf header tails v))->(∀ i,p i = true->0<=i/\i < n)->Q (.ref d) H') : AC c (k + 1) 176 [.ref ba,ak header,.ref ta] H Q:=by
 refine aI (Bq hK) rfl ?_
 dsimp only [lu,ly,n0,nN]
 have hhome : ∀ v,v < n->(v : Int)∈aA:=fun v hv=>dn (by exact oL) (by exact qr hv hn)
 try walk_at "step"
 refine ij ⟨rfl,fun _ _=>rfl,nH rfl ?_⟩
 repeat walk_at "step"
 refine ⟨hhome header hh,fun fa hfa=>?_⟩
 repeat walk_at "step"
 refine dW (.inl (Sub.upd hfa _ _ ht)) (by simp; exact xn htn) fun wa hwa=>?_
 have nwf : wa≠fa:=ai hwa (ad _ _ _)
 have hwa0:=(Sub.upd hfa).none hwa
 have e0 : [(header : Int)] = aK (fun i=>i == (header : Int)):=by
  refine bP (List.pairwise_singleton _ _) (bv _) fun y=>?_
  refine aa (propext (br ..)) (aa (propext (List.mem_singleton ..)) (aa (propext (beq_iff_eq ..)) ?_))
  exact ⟨fun h=>⟨h▸hhome header hh,h⟩,fun h=>h.2⟩
 have s1 : Sub H (an (an H fa (.set [(header : Int)])) wa (.list (tails.map ak))):=(Sub.upd hfa).trans (Sub.upd hwa)
 repeat walk_at "step"
 refine bK (fun ms m H5=>fJ (m "found" = some (.ref fa)) (m "waiting" = some (.ref wa)) (m "before" = some (.ref ba)) (Sub H H5) (A4 fun (p : Int->Bool) (ws : List Nat)=>sM (H5 fa = some (.set (aK p))) (H5 wa = some (.list (ws.map ak))) (ms = (7 - (aK p).length) * 7 + ws.length) (ws.length<=150 + 7 * (aK p).length) (∀ v∈ws,v < n/\fR bf header tails v) (p header = true) (∀ i,p i = true->0<=i/\i < n) (∀ v,v < n->p v = true->fR bf header tails v) (∀ t∈tails,p t = true\/t∈ws) (∀ v,v < n->p v = true->v≠header->∀ u∈bf v,p u = true\/u∈ws))) ?_ ((7 - (aK fun i=>i == (header : Int)).length) * 7 + tails.length)
  ⟨rfl,rfl,rfl,s1,fun i=>i == (header : Int),tails,by refine aa (Eq.symm (e0 ..)) ?_; exact Sub.upd hwa _ _ (ad _ _ _),ad _ _ _,rfl,by exact yK htn,fun v hv=>⟨htl v hv,.tail hv⟩,by simp,fun i hi=>by rw [beq_iff_eq] at hi; exact yr hh hi,fun v hv hp=>?_,fun t h=>.inr h,fun v hv hp hne=>?_⟩
 ·intro ms R_ hR_ hr_ m H5 hzz
  refine bc fun GG=>?_
  obtain ⟨e1,e2,e3,s5,p,ws,h5f,h5w,rfl,hwl,hws,hph,hpr,hpb,hpt,hpc⟩:=hzz
  refine GG ?_
  refine cf ?_ (fun _ _=>rfl)
  repeat walk_at "step"
  refine oP h5w (by simp; have:=gX p; exact zH hwl this) ?_
  have hsub : ∀ {H6 : ag},(∀ x,x≠fa->x≠wa->H6 x = H5 x)->Sub H H6:=fun hk x o hx=>by
   refine aa (hk x (fun e=>by rw [e,hfa] at hx; exact ns hx) (fun e=>by rw [e,hwa0] at hx; exact ns hx)) ?_
   exact s5 x o hx
  rcases dq ws with rfl | ⟨w',v,rfl⟩
  ·refine fD rfl ?_
   repeat walk_at "step"
   have hall : ∀ v,fR bf header tails v->v < n/\p v = true:=fun v hv=>by
    induction hv with
    | hd=>exact ⟨hh,hph⟩
    | tail ht'=>exact ⟨htl _ ht',(hpt _ ht').elim id fun h=>by exact nomatch h⟩
    | step hv hne hu ih=>
     exact ⟨(hbf _ ih.1).2 _ hu,(hpc _ ih.1 ih.2 hne _ hu).elim id fun h=>by exact nomatch h⟩
   exact q H5 fa p s5 hfa h5f (fun v hv=>⟨hpb v hv,fun h=>(hall v h).2⟩) hpr
  ·have hb : (!((w' ++ [v]).map ak).isEmpty) = true:=by simp
   refine aa (hb ..) ?_
   refine eU rfl ?_
   have hv:=hws v (by simp)
   have hmap : (w' ++ [v]).map ak = w'.map ak ++ [ak v]:=by simp
   rw [hmap] at h5w
   have hlen : (w' ++ [v]).length = w'.length + 1:=by simp
   rw [hlen] at hwl
   (try rw [hlen] at hR_)
   repeat walk_at "step"
   refine ⟨wa,_,rfl,h5w,rfl,?_⟩
   repeat walk_at "step"
   refine fN h5w (by simp; have:=gX p; exact BS hwl this) ?_
   repeat walk_at "step"
   have h6f : an H5 wa (.list (w'.map ak)) fa = some (.set (aK p)):=by refine aa (aj (Ne.symm nwf)) ?_; exact h5f
   have h6w : an H5 wa (.list (w'.map ak)) wa = some (.list (w'.map ak)):=ad _ _ _
   have k6 : ∀ x,x≠fa->x≠wa->an H5 wa (.list (w'.map ak)) x = H5 x:=fun x _ h=>aj h
   have s6:=hsub k6
   generalize an H5 wa (.list (w'.map ak)) = H6 at h6f h6w k6 s6
   refine cQ h6f ?_
   refine aa (dc (by exact ss hv hn)) ?_
   have hhv:=hhome v hv.1
   cases hpv : p v with
   | true=>
    repeat walk_at "step"
    refine ⟨(7 - (aK p).length) * 7 + w'.length,by exact vW,e1,e2,e3,s6,p,w',h6f,h6w,rfl,by exact C3 hwl,fun x hx=>hws x (by simp [hx]),hph,hpr,hpb,fun t ht'=>?_,fun x hx hpx hne u hu=>?_⟩
    ·rcases hpt t ht' with h | h
     ·exact .inl h
     ·rcases List.mem_append.mp h with h | h
      ·exact .inr h
      ·refine aa (List.mem_singleton.mp h) ?_; exact .inl hpv
    ·rcases hpc x hx hpx hne u hu with h | h
     ·exact .inl h
     ·rcases List.mem_append.mp h with h | h
      ·exact .inr h
      ·refine aa (List.mem_singleton.mp h) ?_; exact .inl hpv
   | false=>
    have hgrow:=rz (xs:=aK p) (bv p) (fun y hy=>(br.mp hy).1) hhv (by refine aa (dc (by exact ss hv hn)) ?_; exact hpv)
    have hp' : ∀ i : Int,((aK p).contains i || i == (v : Int)) = true↔(i∈aA/\p i = true)\/i = v:=fun i=>by
     rw [Bool.or_eq_true,beq_iff_eq,List.contains_iff_mem,br]
    have hbv:=hbf v hv.1
    have hl7:=gX (fun i=>(aK p).contains i || i == (v : Int))
    repeat walk_at "step"
    refine ⟨fa,_,rfl,h6f,rfl,?_⟩
    repeat walk_at "step"
    refine eW h6f hhv ?_
    have h7f : an H6 fa (.set (aK fun i=>(aK p).contains i || i == (v : Int))) fa = some (.set (aK fun i=>(aK p).contains i || i == (v : Int))):=ad _ _ _
    have h7w : an H6 fa (.set (aK fun i=>(aK p).contains i || i == (v : Int))) wa = some (.list (w'.map ak)):=by refine aa (aj nwf) ?_; exact h6w
    have k7 : ∀ x,x≠fa->x≠wa->an H6 fa (.set (aK fun i=>(aK p).contains i || i == (v : Int))) x = H5 x:=fun x h1 h2=>by refine aa (aj h1) ?_; exact k6 x h1 h2
    have s7:=hsub k7
    generalize an H6 fa (.set (aK fun i=>(aK p).contains i || i == (v : Int))) = H7 at h7f h7w k7 s7
    repeat walk_at "step"
    refine ⟨wa,_,rfl,h7w,rfl,?_⟩
    repeat walk_at "step"
    have hR:=hB.sub s7
    have hvl : v < ls.length:=by exact fy hv hl
    have hrow:=hR.row v ls[v] (List.getElem?_eq_getElem hvl)
    refine bn (j:=v) hR.top (by simp; exact bE hl hn) (aJ (by simp; exact dr hvl)) (by refine aa (List.getElem?_map) (aa (List.getElem?_eq_getElem hvl) ?_); rfl) ?_
    have hwl2 : wa≠ls[v]:=fun e=>by
     have:=hB.row v ls[v] (List.getElem?_eq_getElem hvl)
     rw [<-e,hwa0] at this; exact ns this
    refine ka h7w hrow (by simp; exact Cd hwl hbv hgrow hl7) hwl2 ?_
    repeat walk_at "step"
    have hap : w'.map ak ++ (bf v).map ak = (w' ++ bf v).map ak:=by simp
    refine aa (hap ..) ?_
    refine ⟨(7 - (aK fun i=>(aK p).contains i || i == (v : Int)).length) * 7 + (w' ++ bf v).length,?_,e1,e2,e3,hsub fun x h1 h2=>by refine aa (aj h2) ?_; exact k7 x h1 h2,fun i=>(aK p).contains i || i == (v : Int),w' ++ bf v,by refine aa (aj (Ne.symm nwf)) ?_; exact h7f,ad _ _ _,rfl,?_,?_,?_,?_,?_,?_,?_⟩
    ·refine aa (hgrow ..) (aa (List.length_append ..) ?_)
     rw [hgrow] at hl7
     exact Dq hl7 hbv
    ·refine aa (hgrow ..) (aa (List.length_append ..) ?_); exact By hwl hbv
    ·intro x hx
     rcases List.mem_append.mp hx with h | h
     ·exact hws x (by simp [h])
     ·repeat walk_at "step"
      refine ⟨hbv.2 x h,?_⟩
      by_cases hvh : v = header
      ·rw [hvh,hph] at hpv; exact nomatch hpv
      ·exact .step hv.2 hvh h
    ·exact (hp' _).mpr (.inl ⟨hhome header hh,hph⟩)
    ·intro i hi
     rcases (hp' i).mp hi with h | h
     ·exact hpr i h.2
     ·refine aa (h ..) ?_; exact zz hv
    ·intro x hx hi
     rcases (hp' x).mp hi with h | h
     ·exact hpb x hx h.2
     ·have : x = v:=by exact fS h
      refine aa (this ..) ?_; exact hv.2
    ·intro t ht'
     rcases hpt t ht' with h | h
     ·exact .inl ((hp' _).mpr (.inl ⟨hhome t (htl t ht'),h⟩))
     ·rcases List.mem_append.mp h with h | h
      ·exact .inr (List.mem_append_left _ h)
      ·refine aa (List.mem_singleton.mp h) ?_; exact .inl ((hp' _).mpr (.inr rfl))
    ·intro x hx hi hne u hu
     rcases (hp' x).mp hi with h | h
     ·rcases hpc x hx h.2 hne u hu with h' | h'
      ·exact .inl ((hp' _).mpr (.inl ⟨hhome u ((hbf x hx).2 u hu),h'⟩))
      ·rcases List.mem_append.mp h' with h' | h'
       ·exact .inr (List.mem_append_left _ h')
       ·refine aa (List.mem_singleton.mp h') ?_; exact .inl ((hp' _).mpr (.inr rfl))
     ·have : x = v:=by exact fS h
      clear h5w hws hpt hpc hb hv hmap hlen hhv hpv hgrow hp' hbv hl7 h7f hvl hrow hwl2 hap hi h; subst this
      exact .inr (List.mem_append_right _ hu)
 ·rw [beq_iff_eq] at hp
  have : v = header:=by exact fS hp
  refine aa (this ..) ?_; exact .hd
 ·rw [beq_iff_eq] at hp
  exact absurd (by exact fS hp) hne
end
end
section
inductive Re (gf : Nat->List Nat) (barred : Int) (first : Nat) : Nat->Prop
 | start (h : (first : Int)≠barred) : Re gf barred first first
 | step {v u : Nat} (h : Re gf barred first v) (hu : u∈gf v) (hb : (u : Int)≠barred) : Re gf barred first u
section
variable {c : Cx} {k : Nat} {H : ag} {Q : AV->ag->Prop}
theorem a9 {l : List Nat} {n : Nat} (h : l.Nodup) (hl : ∀ x∈l,x < n) : l.length<=n:=by
 have : ∀ (l L : List Nat),l.Nodup->(∀ x∈l,x∈L)->l.length<=L.length:=by
  intro l
  induction l with
  | nil=>intro L _ _; exact Nat.zero_le _
  | cons x xs ih=>
   intro L hn h
   rw [List.nodup_cons] at hn
   have hx:=h x (.head _)
   have:=ih (L.erase x) hn.2 fun y hy=>(List.mem_erase_of_ne (fun e : y = x=>hn.1 (by refine aa (Eq.symm (e ..)) ?_; exact hy))).mpr (h y (.tail _ hy))
   rw [List.length_erase_of_mem hx] at this
   have:=List.length_pos_of_mem hx
   simp only [List.length_cons]
   exact rN this ‹_›
 have:=this l (List.range n) h fun x hx=>List.mem_range.mpr (hl x hx)
 rwa [List.length_range] at this
theorem cG (hK : KF c.K) {ga : Addr} {ls : List Addr} {n : Nat} {gf : Nat->List Nat} {first : Nat} {barred : Int} (hn : n<=6) (hB : Rows H ga ls gf) (hl : ls.length = n) (hgf : ∀ v,v < n->(gf v).length<=6/\∀ u∈gf v,u < n)
  (hf : first < n) (q : ∀ (H' : ag) (d : Addr) (rs : List Nat),Sub H H'->H d = none->H' d = some (.list (rs.map ak))->rs.Pairwise (· < ·)->(∀ v,v∈rs↔v < n/\Re gf barred first v)->(∀ v,Re gf barred first v->v < n)->Q (.ref d) H') : AC c (k + 1) 229 [.ref ga,ak first,.int barred] H Q:=by
 refine aI (CB hK) rfl ?_
 dsimp only [oq,iJ,hJ,g8]
 repeat walk_at "step"
 suffices key : ∀ (H1 : ag) (fa : Addr) (fs : List Nat),Sub H H1->H fa = none->H1 fa = some (.list (fs.map ak))->fs = (if (first : Int) == barred then [] else [first])->
   WS c k qa.1 (execs [iJ.1,hJ.1,g8.1]) (put (dE ["goals","first","barred"] [AV.ref ga,ak first,AV.int barred] fun x=>none) "found" (.ref fa)) H1 fun fl m' H'=>match fl with | .ret v=>Q v H' | _=>Q .none H' by
  cases hb : (first : Int) == barred with
  | true=>
   repeat walk_at "step"
   refine ⟨by simp,fun fa hfa=>(by assumption : pq _ _) _ _ <| key _ fa [] (Sub.upd hfa) hfa (ad _ _ _) (by refine aa (hb ..) ?_; rfl)⟩
  | false=>
   repeat walk_at "step"
   refine ⟨by simp,fun fa hfa=>(by assumption : pq _ _) _ _ <| key _ fa [first] (Sub.upd hfa) hfa (ad _ _ _) (by refine aa (hb ..) ?_; rfl)⟩
 intro H1 fa fs s1 hfa0 h1f hfs
 dsimp only [iJ,hJ,g8]
 have hfl : fs.length<=1:=by refine aa (hfs ..) ?_; split<;>simp
 repeat walk_at "step"
 refine dW (.inl h1f) (by simp; exact vY hfl) fun wa hwa=>?_
 have nwf : wa≠fa:=ai hwa h1f
 have hwa0:=s1.none hwa
 repeat walk_at "step"
 refine bK (fun ms m H5=>bC (c0 (m "found" = some (.ref fa)) (m "waiting" = some (.ref wa)) (m "goals" = some (.ref ga)) (m "barred" = some (.int barred))) (Sub H H5) (A4 fun (fs ws : List Nat)=>zm (H5 fa = some (.list (fs.map ak))) (H5 wa = some (.list (ws.map ak))) (ms = (n - fs.length) * 2 + ws.length) (fs.Nodup) (∀ v∈fs,v < n/\Re gf barred first v) (ws.length<=10 + fs.length) (∀ v∈ws,v∈fs) ((first : Int)≠barred->first∈fs) (∀ v∈fs,v∉ws->∀ u∈gf v,(u : Int)≠barred->u∈fs))) ?_ ((n - fs.length) * 2 + fs.length)
  ⟨⟨rfl,rfl,rfl,rfl⟩,s1.then hwa,fs,fs,Sub.upd hwa _ _ h1f,ad _ _ _,rfl,?_,?_,by exact wt,fun _ h=>h,?_,fun v h1 h2=>absurd h1 h2⟩
 ·rintro ms R_ hR_ hr_ m H5 ⟨⟨e1,e2,e3,e4⟩,s5,fs,ws,h5f,h5w,rfl,hnd,hfr,hwl,hwf,hst,hcl⟩
  have hfn : fs.length<=n:=a9 hnd fun x hx=>(hfr x hx).1
  have hsub : ∀ {H6 : ag},(∀ x o,x≠fa->x≠wa->H5 x = some o->H6 x = some o)->Sub H H6:=fun hk x o hx=>
   hk x o (fun e=>by rw [e,hfa0] at hx; exact ns hx) (fun e=>by rw [e,hwa0] at hx; exact ns hx) (s5 x o hx)
  repeat walk_at "step"
  refine ⟨by simp,fun d hd=>?_⟩
  have sd : Sub H5 (an H5 d (.list [])):=Sub.upd hd
  have h6f:=sd _ _ h5f
  have h6w:=sd _ _ h5w
  have h6d : an H5 d (.list []) d = some (.list []):=ad _ _ _
  generalize an H5 d (.list []) = H6 at sd h6f h6w h6d
  have s6 : Sub H H6:=s5.trans sd
  rcases dq ws with rfl | ⟨w',v,rfl⟩
  ·have ha : eH H6 20 (.ref wa) (.ref d) true:=eH.list 19 (fun _=>true) h6w h6d rfl (fun j x y hx hy=>by exact ns hx)
   refine bO ha ⟨_,h6w⟩ ?_
   repeat walk_at "step"
   have em : fs.map ak = (fs.map fun (r : Nat)=>(r : Int)).map AV.int:=by refine aa (List.map_map ..) ?_; rfl
   rw [em] at h6f
   refine b0 h6f (by simp; exact qf hn hfn) fun dd ns hdd hperm hsort=>?_
   obtain ⟨rs,hrs⟩ : ∃ rs : List Nat,ns = rs.map fun (r : Nat)=>(r : Int):=by
    refine ⟨ns.map Int.toNat,?_⟩
    refine aa (List.map_map ..) ?_
    have : ∀ x∈ns,((fun (r : Nat)=>(r : Int)) ∘ Int.toNat) x = x:=fun x hx=>by
     obtain ⟨r,_,e⟩:=List.mem_map.mp (hperm.mem_iff.mp hx)
     show ((x.toNat : Nat) : Int) = x
     exact BB e
    exact aa (List.map_congr_left this) (aa (List.map_id' ..) rfl)
   subst hrs
   have hmem : ∀ x,x∈rs↔x∈fs:=fun x=>by
    have:=hperm.mem_iff (a:=(x : Int))
    rw [List.mem_map,List.mem_map] at this
    constructor
    ·intro hx
     obtain ⟨y,hy,e⟩:=this.mp ⟨x,hx,rfl⟩
     have : y = x:=by exact fS e
     refine aa (Eq.symm (this ..)) ?_; exact hy
    ·intro hx
     obtain ⟨y,hy,e⟩:=this.mpr ⟨x,hx,rfl⟩
     have : y = x:=by exact fS e
     refine aa (Eq.symm (this ..)) ?_; exact hy
   have hrsn : rs.Pairwise (· < ·):=by
    have h1 : (rs.map fun (r : Nat)=>(r : Int)).Nodup:=hperm.nodup_iff.mpr (by
     rw [List.Nodup,List.pairwise_map]
     exact hnd.imp fun h e=>h (by exact fS e))
    rw [List.Nodup,List.pairwise_map] at h1
    rw [List.pairwise_map] at hsort
    exact List.Pairwise.imp₂ (fun a b h1 h2=>by exact Cr h1 h2) h1 hsort
   have hre : ∀ x,Re gf barred first x->x∈fs:=fun x hx=>by
    induction hx with
    | start h=>exact hst h
    | step hv hu hb ih=>exact hcl _ ih (by simp) _ hu hb
   have e2' : (rs.map fun (r : Nat)=>(r : Int)).map AV.int = rs.map ak:=by refine aa (List.map_map ..) ?_; rfl
   refine aa (e2' ..) ?_
   repeat walk_at "step"
   refine q _ dd rs (s6.then hdd) (s6.none hdd) (ad _ _ _) hrsn (fun x=>by refine aa (propext (hmem ..)) ?_; exact ⟨fun h=>hfr x h,fun h=>hre x h.2⟩) fun x hx=>(hfr x (hre x hx)).1
  ·have ha : eH H6 20 (.ref wa) (.ref d) false:=eH.lens 19 h6w h6d (by simp)
   have hv:=hfr v (hwf v (by simp))
   have hmap : (w' ++ [v]).map ak = w'.map ak ++ [ak v]:=by simp
   refine bO ha ⟨_,h6w⟩ ?_
   rw [hmap] at h6w
   have hlen : (w' ++ [v]).length = w'.length + 1:=by simp
   rw [hlen] at hwl
   (try rw [hlen] at hR_)
   repeat walk_at "step"
   refine ⟨wa,_,rfl,h6w,rfl,?_⟩
   repeat walk_at "step"
   refine fN h6w (by simp; exact CD hwl hfn hn) ?_
   have hvl : v < ls.length:=by exact fy hv hl
   have lk : ls[v]? = some ls[v]:=List.getElem?_eq_getElem hvl
   have hrow0:=hB.row v ls[v] lk
   have h7f : an H6 wa (.list (w'.map ak)) fa = some (.list (fs.map ak)):=by refine aa (aj (Ne.symm nwf)) ?_; exact h6f
   have h7w : an H6 wa (.list (w'.map ak)) wa = some (.list (w'.map ak)):=ad _ _ _
   have k7 : ∀ x o,x≠fa->x≠wa->H5 x = some o->an H6 wa (.list (w'.map ak)) x = some o:=fun x o _ h hx=>by refine aa (aj h) ?_; exact sd x o hx
   have s7:=hsub k7
   generalize an H6 wa (.list (w'.map ak)) = H7 at h7f h7w k7 s7
   refine bn (j:=v) (s7 _ _ hB.top) (by simp; exact bE hl hn) (aJ (by simp; exact dr hvl)) (by refine aa (List.getElem?_map) (aa (lk ..) ?_); rfl) ?_
   repeat walk_at "step"
   refine cP (ar (s7 _ _ hrow0)) ?_
   have hgv:=hgf v hv.1
   refine aD (I:=fun j m H8=>bC (c0 (m "found" = some (.ref fa)) (m "waiting" = some (.ref wa)) (m "goals" = some (.ref ga)) (m "barred" = some (.int barred))) (Sub H H8) (∃ nw : List Nat,fJ (H8 fa = some (.list ((fs ++ nw).map ak))) (H8 wa = some (.list ((w' ++ nw).map ak))) ((fs ++ nw).Nodup) (∀ x∈nw,x < n/\Re gf barred first x) (∀ u∈(gf v).take j,(u : Int)≠barred->u∈fs ++ nw))) rfl _ 0 _ _
    ⟨⟨e1,e2,e3,e4⟩,s7,[],by simpa using h7f,by simpa using h7w,by simpa using hnd,by simp,by simp⟩ (fun j R_ hR_ hr_ vv m H8 hvv hI=>?_) fun m H8 hI=>?_
   ·obtain ⟨⟨e1,e2,e3,e4⟩,s8,nw,h8f,h8w,hnd8,hnw,hdone⟩:=hI
    rw [Nat.zero_add] at *
    rw [List.getElem?_map] at hvv
    obtain ⟨u,hu,rfl⟩:=Option.map_eq_some_iff.mp hvv
    have hum:=List.mem_of_getElem? hu
    have hun:=hgv.2 u hum
    have htk : (gf v).take (j + 1) = (gf v).take j ++ [u]:=by
     obtain ⟨h1,h2⟩:=List.getElem?_eq_some_iff.mp hu
     exact aa (List.take_succ_eq_append_getElem h1) (aa (h2 ..) rfl)
    have hstay : H8 ls[v] = H7 ls[v]:=by exact aa (s8 _ _ hrow0) (aa (s7 _ _ hrow0) rfl)
    have hn8 : (fs ++ nw).length<=n:=a9 hnd8 fun x hx=>(List.mem_append.mp hx).elim (fun h=>(hfr x h).1) fun h=>(hnw x h).1
    rw [List.length_append] at hn8
    repeat walk_at "step"
    cases hub : ((u : Int) != barred) with
    | false=>
     have hub' : (u : Int) = barred:=by simpa using hub
     repeat walk_at "step"
     refine ⟨hstay,⟨e1,e2,e3,e4⟩,s8,nw,h8f,h8w,hnd8,hnw,fun x hx hxb=>?_⟩
     rw [htk] at hx
     rcases List.mem_append.mp hx with h | h
     ·exact hdone x h hxb
     ·rw [List.mem_singleton.mp h] at hxb; exact absurd hub' hxb
    | true=>
     have hub' : (u : Int)≠barred:=by simpa using hub
     repeat walk_at "step"
     refine bB h8f ?_
     repeat walk_at "step"
     cases hc : (fs ++ nw).contains u with
     | true=>
      repeat walk_at "step"
      refine ⟨hstay,⟨e1,e2,e3,e4⟩,s8,nw,h8f,h8w,hnd8,hnw,fun x hx hxb=>?_⟩
      rw [htk] at hx
      rcases List.mem_append.mp hx with h | h
      ·exact hdone x h hxb
      ·rw [List.mem_singleton.mp h,<-List.contains_iff_mem]; exact hc
     | false=>
      have hnu : u∉fs ++ nw:=fun h=>by rw [<-List.contains_iff_mem,hc] at h; exact nomatch h
      repeat walk_at "step"
      refine ⟨fa,_,rfl,h8f,rfl,?_⟩
      repeat walk_at "step"
      refine aO h8f (by simp; exact Ag hn8 hn) ?_
      repeat walk_at "step"
      have h9w : an H8 fa (.list ((fs ++ nw).map ak ++ [ak u])) wa = some (.list ((w' ++ nw).map ak)):=by refine aa (aj nwf) ?_; exact h8w
      refine ⟨wa,_,rfl,h9w,rfl,?_⟩
      repeat walk_at "step"
      refine aO h9w (by simp; exact BO hwl hn8 hn) ?_
      repeat walk_at "step"
      have lf : ls[v]≠fa:=fun e=>by rw [e,hfa0] at hrow0; exact ns hrow0
      have lw : ls[v]≠wa:=fun e=>by rw [e,hwa0] at hrow0; exact ns hrow0
      refine ⟨by refine aa (aj lw) (aa (aj lf) ?_); exact hstay,⟨e1,e2,e3,e4⟩,fun x o hx=>?_,nw ++ [u],?_,?_,?_,?_,?_⟩
      ·refine aa (aj (fun e=>by rw [e,hwa0] at hx; exact ns hx)) (aa (aj (fun e=>by rw [e,hfa0] at hx; exact ns hx)) ?_); exact s8 x o hx
      ·refine aa (aj (Ne.symm nwf)) (aa (ad ..) ?_); simp
      ·refine aa (ad ..) ?_; simp
      ·refine aa (Eq.symm (List.append_assoc ..)) (aa (propext (List.nodup_append ..)) ?_)
       exact ⟨hnd8,by simp,fun a ha b hb e=>by rw [List.mem_singleton] at hb; subst hb; subst e; exact hnu ha⟩
      ·intro x hx
       rcases List.mem_append.mp hx with h | h
       ·exact hnw x h
       ·refine aa (List.mem_singleton.mp h) ?_; exact ⟨hun,.step hv.2 hum hub'⟩
      ·intro x hx hxb
       rw [htk] at hx
       refine aa (Eq.symm (List.append_assoc ..)) ?_
       rcases List.mem_append.mp hx with h | h
       ·exact List.mem_append_left _ (hdone x h hxb)
       ·exact List.mem_append_right _ h
   ·obtain ⟨⟨e1,e2,e3,e4⟩,s8,nw,h8f,h8w,hnd8,hnw,hdone⟩:=hI
    have hll : 0 + ((gf v).map ak).length = (gf v).length:=by simp
    rw [hll,List.take_length] at hdone
    have hn8 : (fs ++ nw).length<=n:=a9 hnd8 fun x hx=>(List.mem_append.mp hx).elim (fun h=>(hfr x h).1) fun h=>(hnw x h).1
    rw [List.length_append] at hn8
    repeat walk_at "step"
    refine ⟨(n - (fs ++ nw).length) * 2 + (w' ++ nw).length,?_,⟨e1,e2,e3,e4⟩,s8,fs ++ nw,w' ++ nw,h8f,h8w,rfl,hnd8,?_,?_,?_,?_,?_⟩
    ·refine aa (List.length_append ..) (aa (List.length_append ..) ?_); exact zN hn8
    ·intro x hx
     exact (List.mem_append.mp hx).elim (hfr x) (hnw x)
    ·refine aa (List.length_append ..) (aa (List.length_append ..) ?_); exact Cz hwl
    ·intro x hx
     rcases List.mem_append.mp hx with h | h
     ·exact List.mem_append_left _ (hwf x (by simp [h]))
     ·exact List.mem_append_right _ h
    ·exact fun h=>List.mem_append_left _ (hst h)
    ·intro x hx hxw u hu hub
     rcases List.mem_append.mp hx with h | h
     ·by_cases hxv : x = v
      ·clear h5w hwf hcl h6w hv hmap hlen hvl lk hrow0 hgv hll; subst hxv; exact hdone u hu hub
      ·refine List.mem_append_left _ (hcl x h (fun hm=>?_) u hu hub)
       rcases List.mem_append.mp hm with h' | h'
       ·exact hxw (List.mem_append_left _ h')
       ·exact hxv (List.mem_singleton.mp h')
     ·exact absurd (List.mem_append_right _ h) hxw
 ·refine aa (hfs ..) ?_; split<;>simp
 ·intro v hv
  rw [hfs] at hv
  split at hv
  ·exact nomatch hv
  ·rename_i hne
   refine aa (List.mem_singleton.mp hv) ?_
   exact ⟨hf,.start (by simpa using hne)⟩
 ·intro hne
  refine aa (hfs ..) (aa (if_neg (by simpa using hne)) ?_)
  exact .head _
end
end
section
theorem iD : ∀ {es : List (Int × AV)} {k : Int} {v : AV},es.lookup k = some v->es.any (fun kv=>decide (kv.1 = k)) = true
 | (a,b) :: es,k,v,h=>by
  rw [List.lookup_cons] at h
  refine aa (List.any_cons ..) ?_
  by_cases e : k = a
  ·subst e; simp
  ·rw [beq_eq_false_iff_ne.mpr e] at h
   rw [iD h,Bool.or_true]
theorem iQ : ∀ {es : List (Int × AV)} {k : Int},es.any (fun kv=>decide (kv.1 = k)) = false->es.lookup k = none
 | [],_,_=>rfl
 | (a,b) :: es,k,h=>by
  rw [List.any_cons,Bool.or_eq_false_iff] at h
  have : k≠a:=fun e=>by subst e; simp at h
  refine aa (List.lookup_cons ..) (aa (beq_eq_false_iff_ne.mpr this) ?_)
  exact iQ h.2
theorem lr (es : List (Int × AV)) (k k' : Int) (v : AV) : (es ++ [(k,v)]).lookup k' = (es.lookup k').or (if k' = k then some v else none):=by
 induction es with
 | nil=>
  by_cases e : k' = k
  ·subst e; simp
  ·simp [List.lookup_cons,beq_eq_false_iff_ne.mpr e,e]
 | cons x es ih=>
  obtain ⟨a,b⟩:=x
  refine aa (List.cons_append ..) (aa (List.lookup_cons ..) (aa (List.lookup_cons ..) ?_))
  cases k' == a
  ·exact ih
  ·rfl
theorem ib (v : AV) (k : Int) : ∀ (es : List (Int × AV)) (k' : Int),(es.map fun kv=>if kv.1 = k then (kv.1,v) else kv).lookup k' = if k' = k then (es.lookup k').map fun _=>v else es.lookup k'
 | [],k'=>by simp
 | (a,b) :: es,k'=>by
  rw [List.map_cons,List.lookup_cons (a:=k')]
  have ih:=ib v k es k'
  by_cases e : a = k
  ·subst e
   refine aa (if_pos rfl) (aa (List.lookup_cons ..) ?_)
   by_cases e' : k' = a
   ·subst e'; simp
   ·refine aa (beq_eq_false_iff_ne.mpr e') (aa (if_neg e') ?_)
    rw [if_neg e'] at ih
    exact ih
  ·refine aa (if_neg e) (aa (List.lookup_cons ..) ?_)
   by_cases e' : k' = a
   ·subst e'; simp [e]
   ·refine aa (beq_eq_false_iff_ne.mpr e') ?_; exact ih
theorem cb (es : List (Int × AV)) (k k' : Int) (v : AV) : (cV es k v).lookup k' = if k' = k then some v else es.lookup k':=by
 unfold cV
 cases h : es.any (fun kv=>decide (kv.1 = k)) with
 | true=>
  refine aa (if_pos rfl) (aa (ib ..) ?_)
  by_cases e : k' = k
  ·subst e
   refine aa (if_pos rfl) (aa (if_pos rfl) ?_)
   cases hh : es.lookup k' with
   | some x=>rfl
   | none=>
    exfalso
    have : ∀ l : List (Int × AV),l.lookup k' = none->l.any (fun kv=>decide (kv.1 = k')) = false:=by
     intro l
     induction l with
     | nil=>intro _; rfl
     | cons x l ih=>
      obtain ⟨a,b⟩:=x
      intro hl
      rw [List.lookup_cons] at hl
      by_cases e : k' = a
      ·subst e; simp at hl
      ·rw [beq_eq_false_iff_ne.mpr e] at hl
       refine aa (List.any_cons ..) (aa (ih hl) ?_)
       simp [Ne.symm e]
    rw [this es hh] at h; exact nomatch h
  ·exact aa (if_neg e) (aa (if_neg e) rfl)
 | false=>
  refine aa (if_neg (by simp)) (aa (lr ..) ?_)
  by_cases e : k' = k
  ·subst e; refine aa (iQ h) (aa (if_pos rfl) ?_); rfl
  ·refine aa (if_neg e) (aa (if_neg e) ?_); cases es.lookup k'<;>rfl
theorem eS (es : List (Int × AV)) (k : Int) (v : AV) : (cV es k v).length<=es.length + 1:=by
 unfold cV; split<;>simp
theorem jz {es : List (Int × AV)} {k : Int} {v w : AV} (h : es.lookup k = some w) : (cV es k v).length = es.length:=by
 unfold cV; exact aa (if_pos (iD h)) (aa (List.length_map ..) rfl)
open Classical in
noncomputable def aL (gf : Nat->List Nat) (bs : List Nat) (at_ : Nat) : List Nat:=bs.filter fun (b : Nat)=>decide (¬ Re gf (b : Int) 0 at_)
theorem gP {gf : Nat->List Nat} {bs : List Nat} {b a : Nat} (h : ¬ Re gf (b : Int) 0 a) : aL gf (bs ++ [b]) a = aL gf bs a ++ [b]:=by
 unfold aL; refine aa (List.filter_append ..) ?_; simp [h]
theorem ge {gf : Nat->List Nat} {bs : List Nat} {b a : Nat} (h : Re gf (b : Int) 0 a) : aL gf (bs ++ [b]) a = aL gf bs a:=by
 unfold aL; refine aa (List.filter_append ..) ?_; simp [h]
structure j7 (H : ag) (oa : Addr) (come : List Nat) (r : Nat->List Nat) : Prop where
 is : ∃ es : List (Int × AV),H oa = some (.dict es)/\es.length<=come.length/\∀ a∈come,∃ l,es.lookup (a : Int) = some (.ref l)/\l≠oa/\H l = some (.list ((r a).map ak))
section
variable {c : Cx} {k : Nat} {H : ag} {Q : AV->ag->Prop}
theorem rX (hK : KF c.K) {ga ca : Addr} {ls : List Addr} {n : Nat} {gf : Nat->List Nat} {come : List Nat} (hn : n<=6) (h0 : 0 < n) (hB : Rows H ga ls gf) (hl : ls.length = n) (hgf : ∀ v,v < n->(gf v).length<=6/\∀ u∈gf v,u < n)
  (hc : H ca = some (.list (come.map ak))) (hcs : come.Pairwise (· < ·)) (hcn : ∀ v∈come,v < n)
  (q : ∀ (H' : ag) (oa : Addr),Sub H H'->H oa = none->j7 H' oa come (aL gf come)->Q (.ref oa) H') : AC c (k + 2) 253 [.ref ga,.ref ca] H Q:=by
 refine aI (BC hK) rfl ?_
 dsimp only [lU,kZ,l9,lB]
 have hcl : come.length<=6:=Nat.le_trans (a9 (hcs.imp fun h=>Nat.ne_of_lt h) hcn) hn
 try walk_at "step"
 refine ij ⟨rfl,fun _ _=>rfl,d7 fun oa hoa=>?_⟩
 repeat walk_at "step"
 refine cP (ar (Sub.upd hoa _ _ hc)) ?_
 have cno : ca≠oa:=fun e=>by rw [e,hoa] at hc; exact ns hc
 refine aD (I:=fun i m H5=>bC (bC (m "found" = some (.ref oa)) (m "goals" = some (.ref ga)) (m "come" = some (.ref ca))) (Sub H H5) (∃ es : List (Int × AV),bC (H5 oa = some (.dict es)) (es.length<=i) (∀ a∈come.take i,∃ l,es.lookup (a : Int) = some (.ref l)/\l≠oa/\H5 l = some (.list [])))) rfl _ 0 _ _
  ⟨⟨rfl,rfl,rfl⟩,Sub.upd hoa,[],ad _ _ _,Nat.le_refl _,by exact nofun⟩ (fun i R_ hR_ hr_ v m H5 hv hI=>?_) fun m H5 hI=>?_
 ·refine bc fun GG=>?_
  obtain ⟨⟨e1,e2,e3⟩,s5,es,h5o,hes,hrows⟩:=hI
  refine GG ?_
  rw [Nat.zero_add] at *
  rw [List.getElem?_map] at hv
  refine bc fun GG=>?_
  obtain ⟨a,ha,rfl⟩:=Option.map_eq_some_iff.mp hv
  refine GG ?_
  have htk : come.take (i + 1) = come.take i ++ [a]:=by
   refine bc fun GG=>?_
   obtain ⟨h1,h2⟩:=List.getElem?_eq_some_iff.mp ha
   refine GG ?_
   exact aa (List.take_succ_eq_append_getElem h1) (aa (h2 ..) rfl)
  have hi:=(List.getElem?_eq_some_iff.mp ha).1
  repeat walk_at "step"
  refine ⟨by simp,fun d hd=>?_⟩
  have ndo : d≠oa:=ai hd h5o
  repeat walk_at "step"
  refine cr (by walk_at "look") (by exact vV hi hcl hes) ?_
  repeat walk_at "step"
  have kk : ∀ x o,x≠oa->H5 x = some o->an (an H5 d (.list [])) oa (.dict (cV es (a : Int) (.ref d))) x = some o:=fun x o h1 h2=>by
   refine aa (aj h1) (aa (aj (fun e=>by rw [e,hd] at h2; exact ns h2)) ?_); exact h2
  refine ⟨?_,⟨e1,e2,e3⟩,fun x o hx=>kk x o (fun e=>by rw [e,hoa] at hx; exact ns hx) (s5 x o hx),cV es (a : Int) (.ref d),ad _ _ _,by have:=eS es (a : Int) (.ref d); exact kF this hes,fun x hx=>?_⟩
  ·refine aa (Sub.upd hoa _ _ hc) ?_; exact kk _ _ cno (s5 _ _ hc)
  ·refine aa (cb ..) ?_
   by_cases e : x = a
   ·clear ha hv GG htk kk; subst e
    exact ⟨d,by exact aa (if_pos rfl) rfl,ndo,by exact aa (aj ndo) (aa (ad ..) rfl)⟩
   ·refine aa (if_neg (by exact iO e)) ?_
    rw [htk] at hx
    rcases List.mem_append.mp hx with h | h
    ·refine bc fun GG=>?_
     obtain ⟨l,g1,g2,g3⟩:=hrows x h
     refine GG ?_
     exact ⟨l,g1,g2,kk _ _ g2 g3⟩
    ·exact absurd (List.mem_singleton.mp h) e
 ·refine bc fun GG=>?_
  obtain ⟨⟨e1,e2,e3⟩,s5,es,h5o,hes,hrows⟩:=hI
  refine GG ?_
  have hll : 0 + (come.map ak).length = come.length:=by simp
  rw [hll] at hes hrows
  rw [List.take_length] at hrows
  repeat walk_at "step"
  refine cP (ar (s5 _ _ hc)) ?_
  refine aD (I:=fun j m H6=>bC (bC (m "found" = some (.ref oa)) (m "goals" = some (.ref ga)) (m "come" = some (.ref ca))) (Sub H H6) (j7 H6 oa come (aL gf (come.take j)))) rfl _ 0 _ _
   ⟨⟨e1,e2,e3⟩,s5,es,h5o,hes,fun a ha=>by obtain ⟨l,g1,g2,g3⟩:=hrows a ha; exact ⟨l,g1,g2,by refine aa (g3 ..) ?_; rfl⟩⟩ (fun j R_ hR_ hr_ v m H6 hv hI=>?_) fun m H6 hI=>?_
  ·refine bc fun GG=>?_
   obtain ⟨⟨e1,e2,e3⟩,s6,ov⟩:=hI
   refine GG ?_
   rw [Nat.zero_add] at *
   rw [List.getElem?_map] at hv
   refine bc fun GG=>?_
   obtain ⟨b,hb,rfl⟩:=Option.map_eq_some_iff.mp hv
   refine GG ?_
   have htk : come.take (j + 1) = come.take j ++ [b]:=by
    refine bc fun GG=>?_
    obtain ⟨h1,h2⟩:=List.getElem?_eq_some_iff.mp hb
    refine GG ?_
    exact aa (List.take_succ_eq_append_getElem h1) (aa (h2 ..) rfl)
   repeat walk_at "step"
   refine cG (first:=0) hK hn (hB.sub s6) hl hgf h0 fun H7 fr rs s7 hfr h7r hrs hmem hbd=>?_
   repeat walk_at "step"
   refine cP (ar (s7 _ _ (s6 _ _ hc))) ?_
   have nfo : fr≠oa:=by obtain ⟨es,g1,_⟩:=ov.is; exact ai hfr g1
   refine aD (I:=fun i m H'=>fJ (fJ (m "found" = some (.ref oa)) (m "goals" = some (.ref ga)) (m "come" = some (.ref ca)) (m "barred" = some (ak b)) (m "free" = some (.ref fr))) (Sub H H') (H' ca = H7 ca) (H' fr = some (.list (rs.map ak))) (j7 H' oa come (fun a=>if a∈come.take i then aL gf (come.take (j + 1)) a else aL gf (come.take j) a))) rfl _ 0 _ _
    ⟨⟨e1,e2,e3,rfl,rfl⟩,(s6.trans s7),rfl,h7r,?_⟩ (fun i R_ hR_ hr_ v m H' hv hI=>?_) fun m H' hI=>?_
   ·refine bc fun GG=>?_
    obtain ⟨es,g1,g2,g3⟩:=ov.is
    refine GG ?_
    exact ⟨es,s7 _ _ g1,g2,fun a ha=>by obtain ⟨l,k1,k2,k3⟩:=g3 a ha; exact ⟨l,k1,k2,by refine aa (s7 _ _ k3) ?_; rfl⟩⟩
   ·refine bc fun GG=>?_
    obtain ⟨⟨e1,e2,e3,e4,e5⟩,s',hca,hfr',ov'⟩:=hI
    refine GG ?_
    rw [Nat.zero_add] at *
    rw [List.getElem?_map] at hv
    refine bc fun GG=>?_
    obtain ⟨a,ha,rfl⟩:=Option.map_eq_some_iff.mp hv
    refine GG ?_
    have hta : come.take (i + 1) = come.take i ++ [a]:=by
     refine bc fun GG=>?_
     obtain ⟨h1,h2⟩:=List.getElem?_eq_some_iff.mp ha
     refine GG ?_
     exact aa (List.take_succ_eq_append_getElem h1) (aa (h2 ..) rfl)
    have han : a∉come.take i:=fun h=>by
     have:=List.Pairwise.sublist (List.take_sublist (i + 1) come) hcs
     rw [hta,List.pairwise_append] at this
     exact absurd (this.2.2 a h a (List.mem_singleton.mpr rfl)) (Nat.lt_irrefl _)
    have hac : a∈come:=List.mem_of_getElem? ha
    repeat walk_at "step"
    refine bB hfr' ?_
    repeat walk_at "step"
    cases hh : rs.contains a with
    | true=>
     have hre : Re gf (b : Int) 0 a:=((hmem a).mp (by rw [<-List.contains_iff_mem]; exact hh)).2
     repeat walk_at "step"
     refine bc fun GG=>?_
     obtain ⟨es',g1,g2,g3⟩:=ov'
     refine GG ?_
     refine ⟨hca,⟨e1,e2,e3,e4,e5⟩,s',hca,hfr',es',g1,g2,fun x hx=>?_⟩
     refine bc fun GG=>?_
     obtain ⟨l,k1,k2,k3⟩:=g3 x hx
     refine GG ?_
     refine ⟨l,k1,k2,?_⟩
     refine aa (k3 ..) (aa (hta ..) ?_)
     by_cases e : x = a
     ·clear ha hv hta hac hh; subst e
      exact aa (if_neg han) (aa (if_pos (List.mem_append_right _ (List.mem_singleton.mpr rfl))) (aa (htk ..) (aa (ge hre) rfl)))
     ·by_cases e2 : x∈come.take i
      ·exact aa (if_pos e2) (aa (if_pos (List.mem_append_left _ e2)) rfl)
      ·exact aa (if_neg e2) (aa (if_neg (fun h=>(List.mem_append.mp h).elim e2 fun h=>e (List.mem_singleton.mp h))) rfl)
    | false=>
     have hre : ¬ Re gf (b : Int) 0 a:=fun h=>by
      have : rs.contains a = true:=List.contains_iff_mem.mpr ((hmem a).mpr ⟨hcn a hac,h⟩)
      rw [this] at hh; exact nomatch hh
     repeat walk_at "step"
     refine bc fun GG=>?_
     obtain ⟨es',g1,g2,g3⟩:=ov'
     obtain ⟨l,k1,k2,k3⟩:=g3 a hac
     refine GG ?_
     rw [if_neg han] at k3
     refine eC g1 k1 ?_
     repeat walk_at "step"
     refine ⟨by simp,fun d hd=>?_⟩
     have ndo : d≠oa:=ai hd g1
     have ndl : d≠l:=ai hd k3
     have hrl : (aL gf (come.take j) a).length<=6:=by
      have h1 : (aL gf (come.take j) a).length<=(come.take j).length:=List.length_filter_le _ _
      have h2 : (come.take j).length<=come.length:=List.length_take_le' _ _
      exact jg hcl h2 h1
     refine cK (by refine aa (aj (Ne.symm ndl)) ?_; exact k3) (ad _ _ _) (by simp; exact tO hrl) fun d2 hd2=>?_
     have nd2 : d2≠d:=fun e=>by rw [e,ad] at hd2; contradiction
     rw [aj nd2] at hd2
     have nd2o : d2≠oa:=ai hd2 g1
     repeat walk_at "step"
     refine cr (by refine aa (aj (Ne.symm nd2o)) (aa (aj (Ne.symm ndo)) ?_); exact g1) (by exact kc hcl g2) ?_
     repeat walk_at "step"
     have kk : ∀ x o v1 v2 v3,x≠oa->H' x = some o->an (an (an H' d v1) d2 v2) oa v3 x = some o:=fun x o v1 v2 v3 h1 h2=>by
      refine aa (aj h1) (aa (aj (fun e=>by rw [e,hd2] at h2; exact ns h2)) (aa (aj (fun e=>by rw [e,hd] at h2; exact ns h2)) ?_)); exact h2
     have hcc : H' ca = some (.list (come.map ak)):=by refine aa (hca ..) ?_; exact s7 _ _ (s6 _ _ hc)
     refine ⟨(kk _ _ _ _ _ cno hcc).trans (s7 _ _ (s6 _ _ hc)).symm,⟨e1,e2,e3,e4,e5⟩,fun x o hx=>kk x o _ _ _ (fun e=>by rw [e,hoa] at hx; exact ns hx) (s' x o hx),(kk _ _ _ _ _ cno hcc).trans (s7 _ _ (s6 _ _ hc)).symm,kk _ _ _ _ _ nfo hfr',cV es' (a : Int) (.ref d2),ad _ _ _,by refine aa (jz k1) ?_; exact g2,fun x hx=>?_⟩
     refine aa (cb ..) ?_
     by_cases e : x = a
     ·clear ha hv han hac hh GG k1 k3 hrl; subst e
      refine ⟨d2,by exact aa (if_pos rfl) rfl,nd2o,?_⟩
      refine aa (aj nd2o) (aa (ad ..) (aa (hta ..) (aa (if_pos (List.mem_append_right _ (List.mem_singleton.mpr rfl))) (aa (htk ..) (aa (gP hre) (aa (List.map_append ..) ?_))))))
      rfl
     ·refine bc fun GG=>?_
      obtain ⟨l',k1',k2',k3'⟩:=g3 x hx
      refine GG ?_
      refine aa (if_neg (by exact iO e)) ?_
      refine ⟨l',k1',k2',kk _ _ _ _ _ k2' ?_⟩
      refine aa (k3' ..) (aa (hta ..) ?_)
      by_cases e2 : x∈come.take i
      ·exact aa (if_pos e2) (aa (if_pos (List.mem_append_left _ e2)) rfl)
      ·exact aa (if_neg e2) (aa (if_neg (fun h=>(List.mem_append.mp h).elim e2 fun h=>e (List.mem_singleton.mp h))) rfl)
   ·refine bc fun GG=>?_
    obtain ⟨⟨e1,e2,e3,e4,e5⟩,s',hca,hfr',ov'⟩:=hI
    refine GG ?_
    repeat walk_at "step"
    have h5c : H5 ca = some (.list (come.map ak)):=s5 _ _ hc
    refine ⟨by exact aa (hca ..) (aa (s7 _ _ (s6 _ _ hc)) (aa (h5c ..) rfl)),⟨e1,e2,e3⟩,s',?_⟩
    refine bc fun GG=>?_
    obtain ⟨es',g1,g2,g3⟩:=ov'
    refine GG ?_
    refine ⟨es',g1,g2,fun x hx=>?_⟩
    refine bc fun GG=>?_
    obtain ⟨l,k1,k2,k3⟩:=g3 x hx
    refine GG ?_
    rw [hll,Nat.zero_add,List.take_length,if_pos hx] at k3
    exact ⟨l,k1,k2,k3⟩
  ·refine bc fun GG=>?_
   obtain ⟨⟨e1,e2,e3⟩,s6,ov⟩:=hI
   refine GG ?_
   rw [hll,List.take_length] at ov
   repeat walk_at "step"
   exact q H6 oa s6 hoa ov
end
end
section
section
variable {c : Cx} {k : Nat} {H : ag} {Q : AV->ag->Prop}
def fO (r : Nat->List Nat) (a x : Nat) : Prop:=
 (x = a/\∀ y∈r a,y = a)\/(x∈r a/\x≠a/\∀ y∈r a,y≠a->(r y).length * 64 + y<=(r x).length * 64 + x)
theorem ip (hK : KF c.K) {oa : Addr} {come : List Nat} {r : Nat->List Nat} {a : Nat} (hO : j7 H oa come r) (ha : a∈come) (hr : ∀ y∈r a,y∈come) (hl : ∀ y∈come,(r y).length<=6/\y < 6)
  (q : ∀ (H' : ag) (x : Nat),Sub H H'->fO r a x->Q (ak x) H') : AC c (k + 1) 258 [.ref oa,ak a] H Q:=by
 refine aI (Dz hK) rfl ?_
 dsimp only [nF,mP]
 obtain ⟨es,ho,hes,hrow⟩:=hO.is
 obtain ⟨l0,k1,k2,k3⟩:=hrow a ha
 repeat walk_at "step"
 refine eC ho k1 ?_
 repeat walk_at "step"
 refine bA (ar k3) (by have:=(hl a ha).1; simp; exact gE this) ?_
 refine ax (I:=fun i acc H1=>∃ ts : List Addr,c0 (acc = ts.map AV.ref) (Sub H H1) (ts.length = (((r a).take i).filter fun y=>decide (y≠a)).length) (∀ (j : Nat) (t : Addr) (y : Nat),ts[j]? = some t->(((r a).take i).filter fun y=>decide (y≠a))[j]? = some y->H1 t = some (.tuple [.int ((r y).length : Int),ak y]))) rfl _ 0 _ _ _
  ⟨[],rfl,Sub.rfl,by rfl,by exact nofun⟩ (fun i v acc hv Ry_ hy_ Rn_ hn_ H1 hI=>?_) fun acc H1 hI=>?_
 ·obtain ⟨ts,rfl,s1,hlen,hts⟩:=hI
  rw [Nat.zero_add] at *
  rw [List.getElem?_map] at hv
  obtain ⟨y,hy,rfl⟩:=Option.map_eq_some_iff.mp hv
  have hta : (r a).take (i + 1) = (r a).take i ++ [y]:=by
   obtain ⟨h1,h2⟩:=List.getElem?_eq_some_iff.mp hy
   exact aa (List.take_succ_eq_append_getElem h1) (aa (h2 ..) rfl)
  have hyc : y∈come:=hr y (List.mem_of_getElem? hy)
  obtain ⟨l1,g1,g2,g3⟩:=hrow y hyc
  repeat walk_at "step"
  cases hh : ((y : Int) != (a : Int)) with
  | true=>
   have hya : y≠a:=fun e=>by subst e; simp at hh
   have hfl : ((r a).take (i + 1)).filter (fun y=>decide (y≠a)) = ((r a).take i).filter (fun y=>decide (y≠a)) ++ [y]:=by
    refine aa (hta ..) (aa (List.filter_append ..) ?_); simp [hya]
   repeat walk_at "step"
   refine eC (s1 _ _ ho) g1 ?_
   refine cF (.inl ⟨_,s1 _ _ g3,rfl⟩) (by have:=(hl y hyc).1; simp; exact gF this) ?_
   repeat walk_at "step"
   refine ⟨by simp,fun t ht=>?_⟩
   repeat walk_at "step"
   refine ⟨(by exact aa (s1.then ht _ _ k3) (aa (k3 ..) rfl)),ts ++ [t],by simp,s1.then ht,by refine aa (hfl ..) ?_; simp [hlen],fun j t' y' hj hy'=>?_⟩
   rw [hfl] at hy'
   by_cases hjl : j < ts.length
   ·rw [List.getElem?_append_left hjl] at hj
    rw [List.getElem?_append_left (by exact bM hjl hlen)] at hy'
    exact Sub.upd ht _ _ (hts j t' y' hj hy')
   ·have hj2:=(List.getElem?_eq_some_iff.mp hj).1
    have hje : j = ts.length:=by simp at hj2; exact xX hj2 hjl
    clear hjl hj2; subst hje
    rw [List.getElem?_append_right (Nat.le_refl _),Nat.sub_self] at hj
    rw [hlen,List.getElem?_append_right (Nat.le_refl _),Nat.sub_self] at hy'
    cases hj; cases hy'
    refine aa (ad ..) ?_
    simp
  | false=>
   have hya0 : (y : Int) = a:=by simpa using hh
   have hya : y = a:=by exact fS hya0
   have hfl : ((r a).take (i + 1)).filter (fun y=>decide (y≠a)) = ((r a).take i).filter (fun y=>decide (y≠a)):=by
    refine aa (hta ..) (aa (List.filter_append ..) ?_); simp [hya]
   repeat walk_at "step"
   refine ⟨?_,ts,rfl,s1,by refine aa (hfl ..) ?_; exact hlen,by refine aa (hfl ..) ?_; exact hts⟩
   exact aa (s1 _ _ k3) (aa (k3 ..) rfl)
 ·obtain ⟨ts,rfl,s1,hlen,hts⟩:=hI
  have hll : 0 + (List.map ak (r a)).length = (r a).length:=by simp
  rw [hll,List.take_length] at hlen hts
  intro d hd
  repeat walk_at "step"
  refine ⟨by simp,fun d2 hd2=>?_⟩
  have nd : d2≠d:=fun e=>by rw [e,ad] at hd2; exact ns hd2.symm
  have s2 : Sub H (an (an H1 d (.list (ts.map AV.ref))) d2 (.list [])):=(s1.then hd).trans (Sub.upd hd2)
  have h2d : an (an H1 d (.list (ts.map AV.ref))) d2 (.list []) d = some (.list (ts.map AV.ref)):=by exact aa (aj (Ne.symm nd)) (aa (ad ..) rfl)
  have h2e : an (an H1 d (.list (ts.map AV.ref))) d2 (.list []) d2 = some (.list []):=ad _ _ _
  have h2t : ∀ (j : Nat) (t : Addr) (y : Nat),ts[j]? = some t->((r a).filter fun y=>decide (y≠a))[j]? = some y->an (an H1 d (.list (ts.map AV.ref))) d2 (.list []) t = some (.tuple [.int ((r y).length : Int),ak y]):=fun j t y h1 h2=>(Sub.upd hd2) _ _ (Sub.upd hd _ _ (hts j t y h1 h2))
  generalize an (an H1 d (.list (ts.map AV.ref))) d2 (.list []) = H2 at s2 h2d h2e h2t
  cases ts with
  | nil=>
   have hA : eH H2 20 (.ref d) (.ref d2) true:=eH.list 19 (fun _=>true) h2d h2e rfl (fun j x y hx hy=>by exact ns hx)
   refine bO hA ⟨_,h2d⟩ ?_
   repeat walk_at "step"
   refine q _ a s2 (.inl ⟨rfl,fun y hy=>?_⟩)
   have h0:=List.eq_nil_of_length_eq_zero hlen.symm
   have:=(List.filter_eq_nil_iff.mp h0) y hy
   simpa using this
  | cons t0 ts0=>
   have hA : eH H2 20 (.ref d) (.ref d2) false:=eH.lens 19 h2d h2e (by exact Nat.ne_of_beq_eq_false rfl)
   refine bO hA ⟨_,h2d⟩ ?_
   repeat walk_at "step"
   refine jc (ab:=((r a).filter fun y=>decide (y≠a)).map fun (y : Nat)=>(((r y).length : Int),(y : Int))) h2d (by refine aa (List.length_map ..) ?_; exact hlen) (by refine aa (List.length_map ..) (aa (Eq.symm (hlen ..)) ?_); simp) (fun i t p h1 h2=>?_) fun b t p h1 h2 hmax=>?_
   ·rw [List.getElem?_map] at h2
    obtain ⟨y,hy,rfl⟩:=Option.map_eq_some_iff.mp h2
    have hym : y∈r a:=(List.mem_filter.mp (List.mem_of_getElem? hy)).1
    have:=hl y (hr y hym)
    repeat walk_at "step"
    exact ⟨h2t i t y h1 hy,by show (0:Int)<=(y : Int); exact dm,by show (y : Int) < 64; exact zP this⟩
   ·rw [List.getElem?_map] at h2
    obtain ⟨y,hy,rfl⟩:=Option.map_eq_some_iff.mp h2
    have hym:=List.mem_filter.mp (List.mem_of_getElem? hy)
    have htt:=h2t b t y h1 hy
    repeat walk_at "step"
    refine q _ y s2 (.inr ⟨hym.1,by simpa using hym.2,fun z hz hza=>?_⟩)
    obtain ⟨i,hi⟩:=List.getElem?_of_mem (List.mem_filter.mpr ⟨hz,by exact decide_eq_true hza⟩ : z∈(r a).filter fun y=>decide (y≠a))
    have:=hmax i (((r z).length : Int),(z : Int)) (by refine aa (List.getElem?_map) (aa (hi ..) ?_); rfl)
    simp only at this
    exact EM this
end
end
section
inductive PS (gf : Nat->List Nat) : List Nat->List Nat->List (Nat × Nat)->Prop
 | init : PS gf [] [0] [(0,0)]
 | done {po seen : List Nat} {v i : Nat} {st : List (Nat × Nat)} : PS gf po seen ((v,i) :: st)->i = (gf v).length->PS gf (po ++ [v]) seen st
 | old {po seen : List Nat} {v i u : Nat} {st : List (Nat × Nat)} : PS gf po seen ((v,i) :: st)->(gf v)[i]? = some u->u∈seen->PS gf po seen ((v,i + 1) :: st)
 | new {po seen : List Nat} {v i u : Nat} {st : List (Nat × Nat)} : PS gf po seen ((v,i) :: st)->(gf v)[i]? = some u->u∉seen->PS gf po (u :: seen) ((u,0) :: (v,i + 1) :: st)
theorem PS.nodup {gf : Nat->List Nat} {po seen : List Nat} {st : List (Nat × Nat)} (h : PS gf po seen st) : seen.Nodup/\seen.Perm (po ++ st.map Prod.fst)/\(∀ p∈st,p.2<=(gf p.1).length):=by
 induction h with
 | init=>exact ⟨by simp,by simp,by simp⟩
 | done h e ih=>exact ⟨ih.1,by simpa using ih.2.1,fun p hp=>ih.2.2 p (List.mem_cons_of_mem _ hp)⟩
 | old h e hu ih=>
  refine ⟨ih.1,by simpa using ih.2.1,fun p hp=>?_⟩
  rcases List.mem_cons.mp hp with rfl | hp
  ·exact (List.getElem?_eq_some_iff.mp e).1
  ·exact ih.2.2 p (List.mem_cons_of_mem _ hp)
 | @new po seen v i u st h e hu ih=>
  refine ⟨List.nodup_cons.mpr ⟨hu,ih.1⟩,?_,fun p hp=>?_⟩
  ·have:=ih.2.1.cons u
   refine this.trans ?_
   simp only [List.map_cons]
   exact List.perm_middle.symm
  ·rcases List.mem_cons.mp hp with rfl | hp
   ·exact Nat.zero_le _
   ·rcases List.mem_cons.mp hp with rfl | hp
    ·exact (List.getElem?_eq_some_iff.mp e).1
    ·exact ih.2.2 p (List.mem_cons_of_mem _ hp)
theorem PS.bound {gf : Nat->List Nat} {n : Nat} (hgf : ∀ v,v < n->∀ u∈gf v,u < n) (h0 : 0 < n) {po seen : List Nat} {st : List (Nat × Nat)} (h : PS gf po seen st) : (∀ v∈seen,v < n)/\(∀ v∈po,v∈seen)/\(∀ p∈st,p.1∈seen):=by
 have hp:=h.nodup.2.1
 refine ⟨?_,fun v hv=>hp.mem_iff.mpr (List.mem_append_left _ hv),fun p hq=>hp.mem_iff.mpr (List.mem_append_right _ (List.mem_map.mpr ⟨p,hq,rfl⟩))⟩
 clear hp
 induction h with
 | init=>simpa using h0
 | done h e ih=>exact ih
 | old h e hu ih=>exact ih
 | @new po seen v i u st h e hu ih=>
  intro x hx
  rcases List.mem_cons.mp hx with rfl | hx
  ·have hv : v∈seen:=h.nodup.2.1.mem_iff.mpr (by simp)
   exact hgf v (ih v hv) _ (List.mem_of_getElem? e)
  ·exact ih x hx
end
section
def cU (H : ag) (gf : Nat->List Nat) (X : List Addr) : List (Nat × Nat)->List Addr->Prop
 | [],[]=>True
 | (v,i) :: st,t :: ts=>(∃ d,H t = some (.list [ak v,.ref d,ak i])/\H d = some (.list ((gf v).map ak))/\d∉X/\t∉X/\t∉ts)/\cU H gf X st ts
 | _,_=>False
theorem cU.keep {H H' : ag} {gf : Nat->List Nat} {X : List Addr} (hk : ∀ x o,x∉X->H x = some o->H' x = some o) : ∀ {st : List (Nat × Nat)} {ts : List Addr},cU H gf X st ts->cU H' gf X st ts
 | [],[],_=>trivial
 | [],_ :: _,h=>h.elim
 | _ :: _,[],h=>h.elim
 | (v,i) :: st,t :: ts,h=>by
  refine bc fun GG=>?_
  obtain ⟨⟨d,h1,h2,h3,h4,h5⟩,hr⟩:=h
  refine GG ?_
  exact ⟨⟨d,hk _ _ h4 h1,hk _ _ h3 h2,h3,h4,h5⟩,cU.keep hk hr⟩
theorem ic {xs : List Nat} {v i : Nat} {d : Addr} (h : xs.map ak = [ak v,.ref d,ak i]) : False:=by
 match xs,h with
 | [a,b,c],h=>cases h
theorem cU.other {H : ag} {gf : Nat->List Nat} {X : List Addr} {t : Addr} {o : AO} {w j : Nat} {e : Addr} (ht : H t = some (.list [ak w,.ref e,ak j])) : ∀ {st : List (Nat × Nat)} {ts : List Addr},t∉ts->cU H gf X st ts->cU (an H t o) gf X st ts
 | [],[],_,_=>trivial
 | [],_ :: _,_,h=>h.elim
 | _ :: _,[],_,h=>h.elim
 | (v,i) :: st,s :: ts,hn,h=>by
  refine bc fun GG=>?_
  obtain ⟨⟨d,h1,h2,h3,h4,h5⟩,hr⟩:=h
  refine GG ?_
  have n1 : s≠t:=fun e=>hn (by refine aa (e ..) ?_; exact .head _)
  have n2 : d≠t:=fun e'=>by
   rw [e',ht] at h2
   injection h2 with h2
   injection h2 with h2
   exact ic h2.symm
  exact ⟨⟨d,by refine aa (aj n1) ?_; exact h1,by refine aa (aj n2) ?_; exact h2,h3,h4,h5⟩,cU.other ht (fun hm=>hn (.tail _ hm)) hr⟩
theorem cU.len {H : ag} {gf : Nat->List Nat} {X : List Addr} : ∀ {st : List (Nat × Nat)} {ts : List Addr},cU H gf X st ts->ts.length = st.length
 | [],[],_=>rfl
 | [],_ :: _,h=>h.elim
 | _ :: _,[],h=>h.elim
 | (v,i) :: st,s :: ts,h=>by
  rw [List.length_cons,List.length_cons,cU.len h.2]
theorem cU.there {H : ag} {gf : Nat->List Nat} {X : List Addr} : ∀ {st : List (Nat × Nat)} {ts : List Addr},cU H gf X st ts->∀ t∈ts,H t≠none
 | [],[],_,t,ht=>by cases ht
 | [],_ :: _,h,_,_=>h.elim
 | _ :: _,[],h,_,_=>h.elim
 | (v,i) :: st,s :: ts,h,t,ht=>by
  obtain ⟨⟨d,h1,_⟩,hr⟩:=h
  rcases List.mem_cons.mp ht with e | hm
  ·refine aa (e ..) (aa (h1 ..) ?_); exact fun z=>by cases z
  ·exact cU.there hr t hm
def ke (gf : Nat->List Nat) (st : List (Nat × Nat)) : Nat:=(st.map fun p=>(gf p.1).length - p.2 + 1).sum
theorem aX {G : List cI} (hG : cm G) {v : Nat} (hv : v < G.length) : (ah G v).length<=3/\∀ u∈ah G v,u < G.length:=by
 have e : ah G v = G[v].kind.goals:=by unfold ah; exact aa (List.getElem?_eq_getElem hv) rfl
 refine aa (e ..) ?_
 exact ⟨(hG.blk _ (List.getElem_mem hv)).fin.len,(hG.blk _ (List.getElem_mem hv)).fin.goals⟩
theorem pY (n : Nat) : kX (n + 1) (-1) = some n:=by
 unfold kX
 refine aa (if_neg (by exact yg)) (aa (if_pos (by exact wO)) ?_)
 congr 1
 exact xt
section
variable {c : Cx} {k : Nat} {H : ag} {Q : AV->ag->Prop}
theorem jL (hK : KF c.K) {G : List cI} {bs : List Addr} (hblk : ∀ (i : Nat) (b : Addr) (B : cI),bs[i]? = some b->G[i]? = some B->dF H b i B) {v : Nat} {b : Addr} (hv : v < G.length) (hb : bs[v]? = some b)
  (q : ∀ H' d,Sub H H'->H d = none->H' d = some (.list ((ah G v).map ak))->Q (.ref d) H') : AC c (k + 1) 84 [.ref b] H Q:=by
 refine bc fun GG=>?_
 obtain ⟨st,sl,e,⟨dxb,hb1,hb2⟩,_,_,al,hend,_⟩:=hblk v b G[v] hb (List.getElem?_eq_getElem hv)
 refine GG ?_
 have e : ah G v = G[v].kind.goals:=by unfold ah; exact aa (List.getElem?_eq_getElem hv) rfl
 exact fZ hK ⟨dxb,hb1,hb2⟩ hend fun H' d s1 h1 h2=>q H' d s1 h1 (by refine aa (e ..) ?_; exact h2)
theorem fP (hK : KF c.K) {f : Addr} {G : List cI} (hF : cA H f G) (hG : cm G)
  (q : ∀ (H' : ag) (d : Addr) (po seen : List Nat),Sub H H'->H d = none->H' d = some (.list (po.map ak))->PS (ah G) po seen []->Q (.ref d) H') : AC c (k + 2) 122 [.ref f] H Q:=by
 refine aI (Dg hK) rfl ?_
 dsimp only [lL,mX,my,lI,nz]
 refine bc fun GG=>?_
 obtain ⟨bl,bs,p0,s0,⟨dx,hf1,hf2⟩,hbl,hlen,hblk⟩:=hF.is
 refine GG ?_
 have hsix:=hG.six
 have hpos:=hG.pos
 have hb0l : 0 < bs.length:=by exact Am hpos hlen
 have hb0 : bs[0]? = some bs[0]:=List.getElem?_eq_getElem hb0l
 repeat walk_at "step"
 refine ⟨by simp,fun fa hfa=>?_⟩
 repeat walk_at "step"
 refine ⟨by decide,fun sa hsa=>?_⟩
 have nsf : sa≠fa:=ai hsa (ad _ _ _)
 have hsa0:=(Sub.upd hfa).none hsa
 have s1 : Sub H (an (an H fa (.list [])) sa (.set [0])):=(Sub.upd hfa).trans (Sub.upd hsa)
 have h1f : an (an H fa (.list [])) sa (.set [0]) fa = some (.list []):=Sub.upd hsa _ _ (ad _ _ _)
 have h1s : an (an H fa (.list [])) sa (.set [0]) sa = some (.set [0]):=ad _ _ _
 generalize an (an H fa (.list [])) sa (.set [0]) = H1 at s1 h1f h1s
 repeat walk_at "step"
 refine bn (j:=0) (s1 _ _ hbl) (by simp; exact bE hlen hsix) (aJ (n:=(bs.map AV.ref).length) (i:=0) (by simp; exact Am hpos hlen)) (by refine aa (List.getElem?_map) (aa (hb0 ..) ?_); rfl) ?_
 refine jL hK (fun i b B h1 h2=>(hblk i b B h1 h2).sub s1) hpos hb0 fun H2 d s2 hd h2d=>?_
 have h2f:=s2 _ _ h1f
 have h2s:=s2 _ _ h1s
 have ndf : d≠fa:=ai hd h1f
 have nds : d≠sa:=ai hd h1s
 have sH2:=s1.trans s2
 repeat walk_at "step"
 refine ⟨by simp,fun t ht=>?_⟩
 have ntf : t≠fa:=ai ht h2f
 have nts : t≠sa:=ai ht h2s
 have ntd : t≠d:=ai ht h2d
 have ht0:=sH2.none ht
 have hd0:=s1.none hd
 refine ⟨by simp,fun wa hwa=>?_⟩
 have nwt : wa≠t:=ai hwa (ad _ _ _)
 rw [aj nwt] at hwa
 have nwf : wa≠fa:=ai hwa h2f
 have nws : wa≠sa:=ai hwa h2s
 have nwd : wa≠d:=ai hwa h2d
 have hwa0:=sH2.none hwa
 have s3 : Sub H (an (an H2 t (.list [.int 0,.ref d,.int 0])) wa (.list [.ref t])):=(sH2.then ht).trans (Sub.upd (by refine aa (aj nwt) ?_; exact hwa))
 have h3f : an (an H2 t (.list [.int 0,.ref d,.int 0])) wa (.list [.ref t]) fa = some (.list ([].map ak)):=by refine aa (aj (Ne.symm nwf)) (aa (aj (Ne.symm ntf)) ?_); exact h2f
 have h3s : an (an H2 t (.list [.int 0,.ref d,.int 0])) wa (.list [.ref t]) sa = some (.set (aK fun i=>i == 0)):=by refine aa (aj (Ne.symm nws)) (aa (aj (Ne.symm nts)) ?_); exact h2s
 have h3d : an (an H2 t (.list [.int 0,.ref d,.int 0])) wa (.list [.ref t]) d = some (.list ((ah G 0).map ak)):=by refine aa (aj (Ne.symm nwd)) (aa (aj (Ne.symm ntd)) ?_); exact h2d
 have h3w : an (an H2 t (.list [.int 0,.ref d,.int 0])) wa (.list [.ref t]) wa = some (.list ([t].reverse.map AV.ref)):=ad _ _ _
 have h3t : an (an H2 t (.list [.int 0,.ref d,.int 0])) wa (.list [.ref t]) t = some (.list [ak 0,.ref d,ak 0]):=by refine aa (aj (Ne.symm nwt)) (aa (ad ..) ?_); rfl
 generalize an (an H2 t (.list [.int 0,.ref d,.int 0])) wa (.list [.ref t]) = H3 at s3 h3f h3s h3d h3w h3t
 repeat walk_at "step"
 refine bK (fun ms m H5=>bC (c0 (m "found" = some (.ref fa)) (m "seen" = some (.ref sa)) (m "stack" = some (.ref wa)) (m "func" = some (.ref f))) (Sub H H5) (A8 fun (po seen : List Nat) (st : List (Nat × Nat)) (ts : List Addr) (p : Int->Bool)=>uE (PS (ah G) po seen st) (ms = (G.length - seen.length) * 5 + ke (ah G) st) (H5 fa = some (.list (po.map ak))) (H5 sa = some (.set (aK p))) (∀ v,v < G.length->(p v = true↔v∈seen)) (H5 wa = some (.list (ts.reverse.map AV.ref))) (cU H5 (ah G) [fa,sa,wa] st ts) (∀ t∈ts,H t = none))) ?_ ((G.length - 1) * 5 + ke (ah G) [(0,0)])
  ⟨⟨rfl,rfl,rfl,rfl⟩,s3,[],[0],[(0,0)],[t],_,.init,rfl,h3f,h3s,fun v hv=>by refine aa (propext (beq_iff_eq ..)) (aa (propext (List.mem_singleton ..)) ?_); exact wy,h3w,⟨⟨d,h3t,h3d,by simp [ndf,nds,Ne.symm nwd],by simp [ntf,nts,Ne.symm nwt],by simp⟩,trivial⟩,by simpa using ht0⟩
 intro ms R_ hR_ hr_ m H5 hzz
 refine bc fun GG=>?_
 obtain ⟨⟨e1,e2,e3,e4⟩,s5,po,seen,st,ts,p,ps,rfl,h5f,h5s,hps,h5w,hst,hts0⟩:=hzz
 refine GG ?_
 have hnd:=ps.nodup
 have hbd:=ps.bound (n:=G.length) (fun v hv=>(aX hG hv).2) hpos
 have hseen6 : seen.length<=G.length:=a9 hnd.1 hbd.1
 have hpl : po.length + st.length = seen.length:=by refine aa (hnd.2.1.length_eq ..) ?_; simp
 have htsl:=hst.len
 refine cf ?_ (fun _ _=>rfl)
 repeat walk_at "step"
 refine oP h5w (by simp; exact xq hpl hseen6 hsix htsl) ?_
 cases st with
 | nil=>
  cases ts with
  | cons _ _=>exact hst.elim
  | nil=>
   refine fD rfl ?_
   repeat walk_at "step"
   exact q H5 fa po seen s5 hfa h5f ps
 | cons vi st=>
  refine bc fun GG=>?_
  obtain ⟨v,i⟩:=vi
  refine GG ?_
  cases ts with
  | nil=>exact hst.elim
  | cons t ts=>
   have hb : (!((t :: ts).reverse.map AV.ref).isEmpty) = true:=by simp
   refine aa (hb ..) ?_
   refine eU rfl ?_
   refine bc fun GG=>?_
   obtain ⟨⟨d,h5t,h5d,hdX,htX,htn⟩,hst'⟩:=hst
   refine GG ?_
   simp only [List.mem_cons,List.not_mem_nil,or_false,not_or] at hdX htX
   have hmap : (t :: ts).reverse.map AV.ref = ts.reverse.map AV.ref ++ [.ref t]:=by simp
   rw [hmap] at h5w
   have hvs : v∈seen:=hbd.2.2 (v,i) (.head _)
   have hvn:=hbd.1 v hvs
   have hgl:=aX hG hvn
   have hil : i<=(ah G v).length:=hnd.2.2 (v,i) (.head _)
   simp only [List.length_cons] at hpl htsl
   repeat walk_at "step"
   refine bn (j:=ts.reverse.length) h5w (by simp; exact Ct htsl hpl hseen6 hsix) (by refine aa (List.length_append ..) (aa (List.length_map ..) ?_); exact pY _) (by refine aa (List.getElem?_append_right (by simp)) (aa (List.length_map ..) (aa (Nat.sub_self ..) ?_)); rfl) ?_
   repeat walk_at "step"
   refine cF (.inl ⟨_,h5d,rfl⟩) (by simp; exact wk hgl) ?_
   repeat walk_at "step"
   refine aa (List.length_map ..) ?_
   cases hc : ((i : Int) == ((ah G v).length : Int)) with
   | true=>
    have hi : i = (ah G v).length:=by
     have:=beq_iff_eq.mp hc
     exact fS this
    repeat walk_at "step"
    refine ⟨fa,_,rfl,h5f,rfl,?_⟩
    repeat walk_at "step"
    refine aO h5f (by simp; exact wS hpl hseen6 hsix) ?_
    repeat walk_at "step"
    have h6w : an H5 fa (.list (po.map ak ++ [ak v])) wa = some (.list (ts.reverse.map AV.ref ++ [.ref t])):=by refine aa (aj nwf) ?_; exact h5w
    refine ⟨wa,_,rfl,h6w,rfl,?_⟩
    repeat walk_at "step"
    refine fN h6w (by simp; exact BF htsl hpl hseen6 hsix) ?_
    repeat walk_at "step"
    refine ⟨(G.length - seen.length) * 5 + ke (ah G) st,?_,⟨e1,e2,e3,e4⟩,fun x o hx=>?_,po ++ [v],seen,st,ts,p,ps.done hi,rfl,?_,?_,hps,ad _ _ _,?_,fun x hx=>hts0 x (.tail _ hx)⟩
    ·simp only [ke,List.map_cons,List.sum_cons]; exact AR
    ·refine aa (aj (fun e=>by rw [e,hwa0] at hx; cases hx)) (aa (aj (fun e=>by rw [e,hfa] at hx; cases hx)) ?_); exact s5 x o hx
    ·refine aa (aj (Ne.symm nwf)) (aa (ad ..) ?_); simp
    ·refine aa (aj (Ne.symm nws)) (aa (aj nsf) ?_); exact h5s
    ·refine hst'.keep fun x o hx hxo=>?_
     simp only [List.mem_cons,List.not_mem_nil,or_false,not_or] at hx
     refine aa (aj hx.2.2) (aa (aj hx.1) ?_); exact hxo
   | false=>
    have hi : i < (ah G v).length:=by
     have : ¬ (i : Int) = ((ah G v).length : Int):=by simpa using hc
     exact yl hil this
    have hu : (ah G v)[i]? = some (ah G v)[i]:=List.getElem?_eq_getElem hi
    generalize (ah G v)[i] = u at hu
    have hun:=hgl.2 u (List.mem_of_getElem? hu)
    repeat walk_at "step"
    refine bn (j:=i) h5d (by simp; exact yb hgl) (aJ (by simp; exact dr hi)) (by refine aa (List.getElem?_map) (aa (hu ..) ?_); rfl) ?_
    repeat walk_at "step"
    refine pB (fun _ _ _=>rfl) ?_
    repeat walk_at "step"
    refine qB h5t (by simp) rfl rfl ?_
    repeat walk_at "step"
    refine oK ?_
    refine dv h5t (by simp) (by decide) (by simp) ?_
    have et : [ak v,AV.ref d,ak i].set ((2 : Int).toNat) (.int ((i : Int) + 1)) = [ak v,.ref d,ak (i + 1)]:=rfl
    refine aa (et ..) ?_
    have s6 : Sub H (an H5 t (.list [ak v,.ref d,ak (i + 1)])):=fun x o hx=>by
     refine aa (aj (fun e=>by rw [e,hts0 t (.head _)] at hx; cases hx)) ?_; exact s5 x o hx
    have h6f : an H5 t (.list [ak v,.ref d,ak (i + 1)]) fa = some (.list (po.map ak)):=by refine aa (aj (Ne.symm htX.1)) ?_; exact h5f
    have h6s : an H5 t (.list [ak v,.ref d,ak (i + 1)]) sa = some (.set (aK p)):=by refine aa (aj (Ne.symm htX.2.1)) ?_; exact h5s
    have h6w : an H5 t (.list [ak v,.ref d,ak (i + 1)]) wa = some (.list (ts.reverse.map AV.ref ++ [.ref t])):=by refine aa (aj (Ne.symm htX.2.2)) ?_; exact h5w
    have ntd' : d≠t:=fun e=>by
     rw [e,h5t] at h5d
     injection h5d with h5d
     injection h5d with h5d
     exact ic h5d.symm
    have h6st : cU (an H5 t (.list [ak v,.ref d,ak (i + 1)])) (ah G) [fa,sa,wa] ((v,i + 1) :: st) (t :: ts):=
     ⟨⟨d,ad _ _ _,by refine aa (aj ntd') ?_; exact h5d,by simp [hdX],by simp [htX],htn⟩,hst'.other h5t htn⟩
    generalize an H5 t (.list [ak v,.ref d,ak (i + 1)]) = H6 at s6 h6f h6s h6w h6st
    repeat walk_at "step"
    refine cQ h6s ?_
    refine aa (dc (by exact ox hun hsix)) ?_
    cases hpu : p u with
    | true=>
     have hus : u∈seen:=(hps u hun).mp hpu
     repeat walk_at "step"
     refine ⟨(G.length - seen.length) * 5 + ke (ah G) ((v,i + 1) :: st),?_,⟨e1,e2,e3,e4⟩,s6,po,seen,(v,i + 1) :: st,t :: ts,p,ps.old hu hus,rfl,h6f,h6s,hps,by refine aa (hmap ..) ?_; exact h6w,h6st,hts0⟩
     simp only [ke,List.map_cons,List.sum_cons]; exact Ad hi
    | false=>
     have hus : u∉seen:=fun h=>by rw [(hps u hun).mpr h] at hpu; cases hpu
     have ps':=ps.new hu hus
     have hse' : (u :: seen).length<=G.length:=a9 ps'.nodup.1 (ps'.bound (n:=G.length) (fun v hv=>(aX hG hv).2) hpos).1
     rw [List.length_cons] at hse'
     have hubl : u < bs.length:=by exact aU hun hlen
     have hub : bs[u]? = some bs[u]:=List.getElem?_eq_getElem hubl
     repeat walk_at "step"
     refine ⟨sa,_,rfl,h6s,rfl,?_⟩
     repeat walk_at "step"
     refine eW h6s (dn (by exact oL) (by exact qr hun hsix)) ?_
     have hpf : ∀ w,w < G.length->(((aK p).contains (w : Int) || (w : Int) == (u : Int)) = true↔w∈u :: seen):=fun w hw=>by
      refine aa (dc (by exact ox hw hsix)) (aa (Bool.or_eq_true ..) (aa (propext (beq_iff_eq ..)) (aa (propext (List.mem_cons ..)) (aa (propext (hps w hw)) ?_))))
      constructor
      ·rintro (h | h)
       ·exact .inr h
       ·exact .inl (by exact fS h)
      ·rintro (h | h)
       ·exact .inr (by exact Ax h)
       ·exact .inl h
     have s7 : Sub H (an H6 sa (.set (aK fun i=>(aK p).contains i || i == (u : Int)))):=fun x o hx=>by
      refine aa (aj (fun e=>by rw [e,hsa0] at hx; cases hx)) ?_; exact s6 x o hx
     have h7f : an H6 sa (.set (aK fun i=>(aK p).contains i || i == (u : Int))) fa = some (.list (po.map ak)):=by refine aa (aj (Ne.symm nsf)) ?_; exact h6f
     have h7s : an H6 sa (.set (aK fun i=>(aK p).contains i || i == (u : Int))) sa = some (.set (aK fun i=>(aK p).contains i || i == (u : Int))):=ad _ _ _
     have h7w : an H6 sa (.set (aK fun i=>(aK p).contains i || i == (u : Int))) wa = some (.list (ts.reverse.map AV.ref ++ [.ref t])):=by refine aa (aj nws) ?_; exact h6w
     have h7st:=h6st.keep (H':=an H6 sa (.set (aK fun i=>(aK p).contains i || i == (u : Int)))) fun x o hx hxo=>by
      simp only [List.mem_cons,List.not_mem_nil,or_false,not_or] at hx
      refine aa (aj hx.2.1) ?_; exact hxo
     generalize an H6 sa (.set (aK fun i=>(aK p).contains i || i == (u : Int))) = H7 at s7 h7f h7s h7w h7st
     repeat walk_at "step"
     refine ⟨wa,_,rfl,h7w,rfl,?_⟩
     repeat walk_at "step"
     refine bn (j:=u) (s7 _ _ hbl) (by simp; exact bE hlen hsix) (aJ (by simp; exact aU hun hlen)) (by refine aa (List.getElem?_map) (aa (hub ..) ?_); rfl) ?_
     refine jL hK (fun i b B h1 h2=>(hblk i b B h1 h2).sub s7) hun hub fun H8 d8 s8 hd8 h8d=>?_
     have nd8f:=ai hd8 h7f
     have nd8s:=ai hd8 h7s
     have nd8w:=ai hd8 h7w
     repeat walk_at "step"
     refine ⟨by simp,fun t8 ht8=>?_⟩
     have nt8f:=ai ht8 (s8 _ _ h7f)
     have nt8s:=ai ht8 (s8 _ _ h7s)
     have nt8w:=ai ht8 (s8 _ _ h7w)
     have nt8d:=ai ht8 h8d
     have ht80:=(s7.trans s8).none ht8
     have h8st:=h7st.keep (H':=H8) fun x o _ hxo=>s8 x o hxo
     have nt8ts : t8∉t :: ts:=fun hm=>h8st.there t8 hm ht8
     have h9w : an H8 t8 (.list [ak u,.ref d8,.int 0]) wa = some (.list (ts.reverse.map AV.ref ++ [.ref t])):=by refine aa (aj (Ne.symm nt8w)) ?_; exact s8 _ _ h7w
     refine aO h9w (by simp; exact CY htsl hse' hpl hsix) ?_
     repeat walk_at "step"
     have kk : ∀ x o v2,x≠wa->H8 x = some o->an (an H8 t8 (.list [ak u,.ref d8,.int 0])) wa v2 x = some o:=fun x o v2 h1 h2=>by
      refine aa (aj h1) (aa (aj (fun e=>by rw [e,ht8] at h2; cases h2)) ?_); exact h2
     refine ⟨(G.length - (u :: seen).length) * 5 + ke (ah G) ((u,0) :: (v,i + 1) :: st),?_,⟨e1,e2,e3,e4⟩,fun x o hx=>kk x o _ (fun e=>by rw [e,hwa0] at hx; cases hx) (s8 _ _ (s7 x o hx)),po,u :: seen,(u,0) :: (v,i + 1) :: st,t8 :: t :: ts,_,ps',rfl,kk _ _ _ (Ne.symm nwf) (s8 _ _ h7f),kk _ _ _ (Ne.symm nws) (s8 _ _ h7s),hpf,?_,?_,?_⟩
     ·have:=(aX hG hun).1
      simp only [ke,List.map_cons,List.sum_cons,List.length_cons]; exact y4 hse' this
     ·refine aa (ad ..) ?_; simp
     ·repeat walk_at "step"
      refine ⟨⟨d8,by refine aa (aj nt8w) (aa (ad ..) ?_); rfl,kk _ _ _ nd8w h8d,by simp [nd8f,nd8s,nd8w],by simp [nt8f,nt8s,nt8w],nt8ts⟩,h8st.keep fun x o hx hxo=>?_⟩
      simp only [List.mem_cons,List.not_mem_nil,or_false,not_or] at hx
      exact kk _ _ _ hx.2.2 hxo
     ·intro x hx
      rcases List.mem_cons.mp hx with e | hm
      ·refine aa (e ..) ?_; exact ht80
      ·exact hts0 x hm
end
end
section
section
variable {c : Cx} {k : Nat} {H : ag} {Q : AV->ag->Prop}
theorem g0 (hK : KF c.K) {f : Addr} {G : List cI} (hF : cA H f G) (hG : cm G)
  (q : ∀ (H' : ag) (d : Addr) (po seen : List Nat),Sub H H'->H d = none->H' d = some (.list (po.reverse.map ak))->PS (ah G) po seen []->Q (.ref d) H') : AC c (k + 3) 129 [.ref f] H Q:=by
 refine aI (CS hK) rfl ?_
 dsimp only [lN]
 repeat walk_at "step"
 refine fP hK hF hG fun H1 d po seen s1 hd h1d ps=>?_
 repeat walk_at "step"
 have hpl : po.length<=6:=by
  have h1:=a9 ps.nodup.1 (ps.bound (n:=G.length) (fun v hv=>(aX hG hv).2) hG.pos).1
  have h2:=ps.nodup.2.1.length_eq
  simp only [List.map_nil,List.append_nil] at h2
  have:=hG.six
  exact AJ h2 h1 this
 refine ⟨d,_,rfl,h1d,by simp; exact gF hpl,by simp,fun d2 hd2=>?_⟩
 repeat walk_at "step"
 refine q _ d2 po seen (s1.then hd2) (s1.none hd2) ?_ ps
 exact aa (ad ..) (aa (gm ..) (aa (List.map_reverse ..) rfl))
end
end
section
abbrev bW (gf : Nat->List Nat) (u v : Nat) : Prop:=Re gf (-1) u v
theorem bW.refl (gf : Nat->List Nat) (u : Nat) : bW gf u u:=.start (by exact tj)
theorem bW.step {gf : Nat->List Nat} {u v w : Nat} (h : bW gf u v) (hw : w∈gf v) : bW gf u w:=Re.step h hw (by exact tj)
theorem bW.trans {gf : Nat->List Nat} {u v w : Nat} (h : bW gf u v) (h' : bW gf v w) : bW gf u w:=by
 induction h' with
 | start=>exact h
 | step _ hu _ ih=>exact ih.step hu
def iC (gf : Nat->List Nat) : List (Nat × Nat)->Prop
 | []=>True
 | [_]=>True
 | (u,_) :: (v,j) :: st=>u∈gf v/\iC gf ((v,j) :: st)
theorem iC.tail {gf : Nat->List Nat} {p : Nat × Nat} {st : List (Nat × Nat)} (h : iC gf (p :: st)) : iC gf st:=by
 cases st with
 | nil=>trivial
 | cons q st=>exact h.2
theorem iC.bump {gf : Nat->List Nat} {v i j : Nat} {st : List (Nat × Nat)} (h : iC gf ((v,i) :: st)) : iC gf ((v,j) :: st):=by
 cases st with
 | nil=>trivial
 | cons q st=>exact h
theorem iC.reach {gf : Nat->List Nat} : ∀ {st : List (Nat × Nat)} {v i : Nat},iC gf ((v,i) :: st)->∀ p∈(v,i) :: st,bW gf p.1 v
 | [],v,i,_,p,hp=>by
  refine aa (List.mem_singleton.mp hp) ?_; exact bW.refl _ _
 | (w,j) :: st,v,i,h,p,hp=>by
  rcases List.mem_cons.mp hp with e | hm
  ·refine aa (e ..) ?_; exact bW.refl _ _
  ·exact (iC.reach h.2 p hm).step h.1
theorem gq {a b : Nat} {l l' : List Nat} (ha : a∈l) (hb : b∈l') : [a,b].Sublist (l ++ l'):=
 List.Sublist.append (l₁:=[a]) (l₂:=l) (r₁:=[b]) (r₂:=l') (List.singleton_sublist.mpr ha) (List.singleton_sublist.mpr hb)
structure BX (gf : Nat->List Nat) (po seen : List Nat) (st : List (Nat × Nat)) : Prop where
 re : ∀ v∈seen,bW gf 0 v
 last : ∃ l,po ++ st.map Prod.fst = l ++ [0]
 par : ∀ x∈seen,x≠0->∃ u,x∈gf u/\[x,u].Sublist (po ++ st.map Prod.fst)
 ch : iC gf st
 all : ∀ v∈po,∀ g∈gf v,g∈seen/\([g,v].Sublist (po ++ st.map Prod.fst)\/bW gf g v)
 some : ∀ p∈st,∀ g∈(gf p.1).take p.2,g∈seen/\([g,p.1].Sublist (po ++ st.map Prod.fst)\/bW gf g p.1)
theorem az {α : Type} {l : List α} {i : Nat} {x : α} (h : l[i]? = Option.some x) : l.take (i + 1) = l.take i ++ [x]:=by
 refine bc fun GG=>?_
 obtain ⟨h1,h2⟩:=List.getElem?_eq_some_iff.mp h
 refine GG ?_
 exact aa (List.take_succ_eq_append_getElem h1) (aa (h2 ..) rfl)
theorem PS.inv {gf : Nat->List Nat} {po seen : List Nat} {st : List (Nat × Nat)} (h : PS gf po seen st) : BX gf po seen st:=by
 induction h with
 | init=>
  refine ⟨?_,⟨[],rfl⟩,?_,trivial,?_,?_⟩
  ·intro v hv; refine aa (List.mem_singleton.mp hv) ?_; exact bW.refl _ _
  ·intro x hx h0; exact absurd (List.mem_singleton.mp hx) h0
  ·intro v hv; exact nomatch hv
  ·intro p hp g hg; rw [List.mem_singleton.mp hp] at hg; simp at hg
 | @done po seen v i st h e ih=>
  have eL : po ++ [v] ++ st.map Prod.fst = po ++ ((v,i) :: st).map Prod.fst:=by simp
  refine ⟨ih.re,by refine aa (eL ..) ?_; exact ih.last,by refine aa (eL ..) ?_; exact ih.par,ih.ch.tail,?_,?_⟩
  ·refine aa (eL ..) ?_
   intro w hw g hg
   rcases List.mem_append.mp hw with hw | hw
   ·exact ih.all w hw g hg
   ·rw [List.mem_singleton.mp hw] at hg ⊢
    exact ih.some (v,i) (.head _) g (by refine aa (e ..) (aa (List.take_length ..) ?_); exact hg)
  ·refine aa (eL ..) ?_
   exact fun p hp=>ih.some p (.tail _ hp)
 | @old po seen v i u st h e hu ih=>
  refine ⟨ih.re,ih.last,ih.par,ih.ch.bump,ih.all,?_⟩
  intro p hp g hg
  rcases List.mem_cons.mp hp with e' | hp'
  ·clear hp; subst e'
   rw [az e] at hg
   rcases List.mem_append.mp hg with hg | hg
   ·exact ih.some (v,i) (.head _) g hg
   ·refine aa (List.mem_singleton.mp hg) ?_
    refine ⟨hu,?_⟩
    have:=h.nodup.2.1.mem_iff.mp hu
    rcases List.mem_append.mp this with hm | hm
    ·exact .inl (gq hm (by simp))
    ·obtain ⟨q,hq,rfl⟩:=List.mem_map.mp hm
     exact .inr (ih.ch.reach q hq)
  ·exact ih.some p (.tail _ hp') g hg
 | @new po seen v i u st h e hu ih=>
  have sL : (po ++ ((v,i) :: st).map Prod.fst).Sublist (po ++ ((u,0) :: (v,i + 1) :: st).map Prod.fst):=
   List.Sublist.append (List.Sublist.refl _) (List.sublist_cons_self _ _)
  have hv : v∈seen:=h.nodup.2.1.mem_iff.mpr (by simp)
  have hug:=List.mem_of_getElem? e
  have huv : [u,v].Sublist (po ++ ((u,0) :: (v,i + 1) :: st).map Prod.fst):=
   List.Sublist.trans (by simp) (List.sublist_append_right _ _)
  refine ⟨?_,?_,?_,⟨hug,ih.ch.bump⟩,?_,?_⟩
  ·intro w hw
   rcases List.mem_cons.mp hw with e' | hw
   ·refine aa (e' ..) ?_; exact (ih.re v hv).step hug
   ·exact ih.re w hw
  ·obtain ⟨l,hl⟩:=ih.last
   have hs : ∃ s,((v,i) :: st).map Prod.fst = s ++ [0]:=by
    rcases dq (((v,i) :: st).map Prod.fst) with h0 | ⟨s,x,hx⟩
    ·simp at h0
    ·rw [hx,<-List.append_assoc] at hl
     have:=List.append_inj' hl rfl
     exact ⟨s,by exact aa (hx ..) (aa (this.2 ..) rfl)⟩
   obtain ⟨s,hs⟩:=hs
   refine ⟨po ++ u :: s,?_⟩
   have : ((u,0) :: (v,i + 1) :: st).map Prod.fst = u :: ((v,i) :: st).map Prod.fst:=rfl
   refine aa (this ..) (aa (hs ..) ?_); simp
  ·intro x hx h0
   rcases List.mem_cons.mp hx with e' | hx
   ·exact ⟨v,by refine aa (e' ..) ?_; exact hug,by refine aa (e' ..) ?_; exact huv⟩
   ·obtain ⟨w,h1,h2⟩:=ih.par x hx h0
    exact ⟨w,h1,h2.trans sL⟩
  ·intro w hw g hg
   obtain ⟨h1,h2⟩:=ih.all w hw g hg
   exact ⟨.tail _ h1,h2.imp (fun z=>z.trans sL) id⟩
  ·intro p hp g hg
   rcases List.mem_cons.mp hp with e' | hp
   ·clear hp; subst e'; simp at hg
   rcases List.mem_cons.mp hp with e' | hp
   ·clear hp; subst e'
    rw [az e] at hg
    rcases List.mem_append.mp hg with hg | hg
    ·obtain ⟨h1,h2⟩:=ih.some (v,i) (.head _) g hg
     exact ⟨.tail _ h1,h2.imp (fun z=>z.trans sL) id⟩
    ·refine aa (List.mem_singleton.mp hg) ?_
     exact ⟨.head _,.inl huv⟩
   ·obtain ⟨h1,h2⟩:=ih.some p (.tail _ hp) g hg
    exact ⟨.tail _ h1,h2.imp (fun z=>z.trans sL) id⟩
structure kY (gf : Nat->List Nat) (n : Nat) (po : List Nat) : Prop where
 nd : po.Nodup
 lt : ∀ v∈po,v < n
 mem : ∀ v,v∈po↔bW gf 0 v
 last : ∃ l,po = l ++ [0]
 par : ∀ x∈po,x≠0->∃ u,x∈gf u/\[x,u].Sublist po
 edge : ∀ v∈po,∀ g∈gf v,[g,v].Sublist po\/bW gf g v
theorem PS.dfs {gf : Nat->List Nat} {n : Nat} (hgf : ∀ v,v < n->∀ u∈gf v,u < n) (h0 : 0 < n) {po seen : List Nat} (h : PS gf po seen []) : kY gf n po:=by
 have I:=h.inv
 have hn:=h.nodup
 have hb:=h.bound hgf h0
 have hp : seen.Perm po:=by simpa using hn.2.1
 have hpo : po.Nodup:=hp.nodup_iff.mp hn.1
 obtain ⟨l,hl⟩:=I.last
 have I2:=I.par
 have I3:=I.all
 simp only [List.map_nil,List.append_nil] at hl I2 I3
 refine ⟨hpo,fun v hv=>hb.1 v (hb.2.1 v hv),fun v=>⟨fun hv=>I.re v (hp.mem_iff.mpr hv),fun hv=>?_⟩,⟨l,hl⟩,fun x hx h0=>I2 x (hp.mem_iff.mpr hx) h0,fun v hv g hg=>(I3 v hv g hg).2⟩
 induction hv with
 | start=>refine aa (hl ..) ?_; simp
 | step _ hu _ ih=>exact hp.mem_iff.mp (I3 _ ih _ hu).1
theorem nA {y a : Nat} (l : List Nat) (h : y≠a) : (y :: l).idxOf a = l.idxOf a + 1:=by
 refine aa (List.idxOf_cons ..) (aa (beq_eq_false_iff_ne.mpr h) ?_); rfl
theorem fj {l : List Nat} (h : l.Nodup) : l.reverse.Nodup:=(List.reverse_perm l).nodup_iff.mpr h
theorem uw {a b : Nat} : ∀ {l : List Nat},l.Nodup->[a,b].Sublist l->l.idxOf a < l.idxOf b:=by
 intro l
 induction l with
 | nil=>intro _ h; exact nomatch h
 | cons y l ih=>
  intro hn h
  rw [List.nodup_cons] at hn
  cases h with
  | cons _ h=>
   have ha : a∈l:=h.mem (.head _)
   have hb : b∈l:=h.mem (.tail _ (.head _))
   have na : y≠a:=fun e=>hn.1 (by refine aa (e ..) ?_; exact ha)
   have nb : y≠b:=fun e=>hn.1 (by refine aa (e ..) ?_; exact hb)
   refine aa (nA _ na) (aa (nA _ nb) ?_)
   have:=ih hn.2 h
   exact v7 this
  | cons_cons _ h=>
   have hb : b∈l:=h.mem (.head _)
   have nb : a≠b:=fun e=>hn.1 (by refine aa (e ..) ?_; exact hb)
   refine aa (List.idxOf_cons_self ..) (aa (nA _ nb) ?_)
   exact qR
def cX (po : List Nat) (v : Nat) : Nat:=po.reverse.idxOf v
theorem qc {po : List Nat} (hn : po.Nodup) {a b : Nat} (h : [a,b].Sublist po) : cX po b < cX po a:=
 uw (fj hn) (by have:=List.reverse_sublist.mpr h; assumption)
theorem ef {po : List Nat} {a b : Nat} (ha : a∈po) (hb : b∈po) (h : cX po a = cX po b) : a = b:=by
 have h1:=List.getElem_idxOf (xs:=po.reverse) (x:=a) (List.idxOf_lt_length_iff.mpr (List.mem_reverse.mpr ha))
 have h2:=List.getElem_idxOf (xs:=po.reverse) (x:=b) (List.idxOf_lt_length_iff.mpr (List.mem_reverse.mpr hb))
 unfold cX at h
 refine aa (Eq.symm (h1 ..)) (aa (Eq.symm (h2 ..)) ?_)
 congr 1
theorem gY {po : List Nat} (hn : po.Nodup) {i v : Nat} (h : po.reverse[i]? = some v) : cX po v = i:=by
 obtain ⟨h1,h2⟩:=List.getElem?_eq_some_iff.mp h
 unfold cX
 refine aa (Eq.symm (h2 ..)) ?_
 exact (fj hn).idxOf_getElem _ _
theorem cL {po : List Nat} {v : Nat} (h : v∈po) : cX po v < po.length:=by
 have:=List.idxOf_lt_length_iff.mpr (List.mem_reverse.mpr h)
 rwa [List.length_reverse] at this
theorem kY.zero {gf : Nat->List Nat} {n : Nat} {po : List Nat} (D : kY gf n po) : po.reverse[0]? = some 0:=by
 obtain ⟨l,hl⟩:=D.last
 refine aa (hl ..) ?_; simp
theorem kY.plc0 {gf : Nat->List Nat} {n : Nat} {po : List Nat} (D : kY gf n po) : cX po 0 = 0:=gY D.nd D.zero
theorem kY.up {gf : Nat->List Nat} {n : Nat} {po : List Nat} (D : kY gf n po) {x : Nat} (hx : bW gf 0 x) (h0 : x≠0) : ∃ u,bW gf 0 u/\x∈gf u/\cX po u < cX po x:=by
 obtain ⟨u,h1,h2⟩:=D.par x ((D.mem x).mpr hx) h0
 exact ⟨u,(D.mem u).mp (h2.mem (.tail _ (.head _))),h1,qc D.nd h2⟩
end
section
inductive Pa (gf : Nat->List Nat) (a : Nat) : Nat->Nat->Prop
 | start {k : Nat} (h : 0≠a) : Pa gf a k 0
 | step {k u v : Nat} (h : Pa gf a k u) (hv : v∈gf u) (hne : v≠a) : Pa gf a (k + 1) v
theorem Pa.succ {gf : Nat->List Nat} {a k v : Nat} (h : Pa gf a k v) : Pa gf a (k + 1) v:=by
 induction h with
 | start h=>exact .start h
 | step _ hv hne ih=>exact .step ih hv hne
theorem Pa.mono {gf : Nat->List Nat} {a k v : Nat} (h : Pa gf a k v) {k' : Nat} (hk : k<=k') : Pa gf a k' v:=by
 obtain ⟨d,rfl⟩:=Nat.le.dest hk
 clear hk
 induction d with
 | zero=>exact h
 | succ d ih=>exact ih.succ
theorem Pa.ne {gf : Nat->List Nat} {a k v : Nat} (h : Pa gf a k v) : v≠a:=by
 cases h with
 | start h=>exact h
 | step _ _ h=>exact h
theorem Re.pa {gf : Nat->List Nat} {a v : Nat} (h : Re gf (a : Int) 0 v) : ∃ k,Pa gf a k v:=by
 induction h with
 | start h=>exact ⟨0,.start (by exact Ep h)⟩
 | step _ hu hb ih=>obtain ⟨k,hk⟩:=ih; exact ⟨k + 1,.step hk hu (by exact At hb)⟩
theorem Pa.split {gf : Nat->List Nat} {a k v : Nat} (w : Nat) (h : Pa gf a k v) : Pa gf w k v\/(Pa gf a k w/\(v≠w->0 < k/\Pa gf a (k - 1) w)):=by
 induction h with
 | start h=>
  by_cases e : 0 = w
  ·subst e; exact .inr ⟨.start h,fun z=>absurd rfl z⟩
  ·exact .inl (.start e)
 | @step k u v h hv hne ih=>
  rcases ih with ih | ih
  ·by_cases e : v = w
   ·clear ih; subst e; exact .inr ⟨.step h hv hne,fun z=>absurd rfl z⟩
   ·exact .inl (.step ih hv e)
  ·exact .inr ⟨ih.1.succ,fun _=>⟨by exact qR,ih.1⟩⟩
theorem Re.any {gf : Nat->List Nat} {b : Int} {f v : Nat} (h : Re gf b f v) : bW gf f v:=by
 induction h with
 | start h=>exact bW.refl _ _
 | step _ hu _ ih=>exact bW.step ih hu
theorem bW.lt {gf : Nat->List Nat} {n : Nat} (hgf : ∀ v,v < n->∀ u∈gf v,u < n) {f v : Nat} (hf : f < n) (h : bW gf f v) : v < n:=by
 induction h with
 | start=>exact hf
 | step _ hu _ ih=>exact hgf _ ih _ hu
theorem gt {P : Nat->Nat->Prop} (hm : ∀ i k k',k<=k'->P i k->P i k') : ∀ m,(∀ i,i < m->∃ k,P i k)->∃ K,∀ i,i < m->P i K
 | 0,_=>⟨0,fun i h=>absurd h (Nat.not_lt_zero _)⟩
 | m + 1,h=>by
  obtain ⟨K,hK⟩:=gt hm m fun i hi=>h i (by exact sC hi)
  obtain ⟨k,hk⟩:=h m (by exact AK)
  refine ⟨max K k,fun i hi=>?_⟩
  by_cases e : i = m
  ·clear h hK hi; subst e; exact hm _ _ _ (Nat.le_max_right _ _) hk
  ·exact hm _ _ _ (Nat.le_max_left _ _) (hK i (by exact yS hi e))
theorem lK (gf : Nat->List Nat) (n : Nat) : ∃ K,0 < K/\∀ a,a < n->∀ v,v < n->Re gf (a : Int) 0 v->Pa gf a K v:=by
 obtain ⟨K,hK⟩:=gt (P:=fun a K=>∀ v,v < n->Re gf (a : Int) 0 v->Pa gf a K v) (fun a k k' hk h v hv hr=>(h v hv hr).mono hk) n fun a _=>
  gt (P:=fun v K=>Re gf (a : Int) 0 v->Pa gf a K v) (fun v k k' hk h hr=>(h hr).mono hk) n fun v _=>by
   by_cases hr : Re gf (a : Int) 0 v
   ·obtain ⟨k,hk⟩:=hr.pa; exact ⟨k,fun _=>hk⟩
   ·exact ⟨0,fun h=>absurd h hr⟩
 exact ⟨K + 1,by exact qR,fun a ha v hv hr=>(hK a ha v hv hr).succ⟩
def Dm (gf : Nat->List Nat) (d v : Nat) : Prop:=bW gf 0 v/\¬ Re gf (d : Int) 0 v
theorem Dm.pred {gf : Nat->List Nat} {d u v : Nat} (h : Dm gf d v) (hu : bW gf 0 u) (he : v∈gf u) (hne : d≠v) : Dm gf d u:=⟨hu,fun q=>h.2 (q.step he (by exact v8 hne))⟩
theorem Dm.zero {gf : Nat->List Nat} {d : Nat} (h : Dm gf d 0) : d = 0:=by
 by_cases e : d = 0
 ·exact e
 ·exact absurd (Re.start (by exact wo e)) h.2
theorem Dm.le {gf : Nat->List Nat} {n : Nat} {po : List Nat} (D : kY gf n po) : ∀ (m : Nat) {d v : Nat},cX po v<=m->Dm gf d v->cX po d<=cX po v:=by
 intro m
 induction m with
 | zero=>
  intro d v hm h
  by_cases e : v = 0
  ·clear hm; subst e; refine aa (h.zero ..) ?_; exact Nat.le_refl _
  ·obtain ⟨u,_,_,h3⟩:=D.up h.1 e; exact uf h3 hm
 | succ m ih=>
  intro d v hm h
  by_cases e : v = 0
  ·clear hm; subst e; refine aa (h.zero ..) ?_; exact Nat.le_refl _
  ·by_cases e' : d = v
   ·refine aa (e' ..) ?_; exact Nat.le_refl _
   ·obtain ⟨u,h1,h2,h3⟩:=D.up h.1 e
    have:=ih (by exact ue h3 hm) (h.pred h1 h2 e')
    exact qV h3 this
theorem Ch.at0 {par : Nat->Nat} {y : Nat} (h : Ch par 0 y) : y = 0:=by
 cases h with
 | refl=>rfl
 | up h _=>exact absurd rfl h
structure DS (gf : Nat->List Nat) (po : List Nat) (V : Nat->Prop) (par : Nat->Nat) (k j : Nat) : Prop where
 tree : j4 V par (cX po)
 re : ∀ v,V v->bW gf 0 v
 dom : ∀ v d,V v->v≠0->Dm gf d v->d≠v->Dm gf d (par v)
 far : ∀ a v,V v->(Pa gf a k v\/cX po v < j/\Pa gf a (k + 1) v)->¬ Ch par v a
 all : ∀ v,bW gf 0 v->(0 < k\/cX po v < j)->V v
 zero : par 0 = 0
theorem DS.start {gf : Nat->List Nat} {n : Nat} {po : List Nat} (D : kY gf n po) (par : Nat->Nat) (h00 : par 0 = 0) : DS gf po (fun v=>v = 0) par 0 1:=by
 refine ⟨⟨rfl,fun v hv h0=>absurd hv h0,fun u v hu hv _=>by exact aa (hu ..) (aa (hv ..) rfl)⟩,fun v hv=>by refine aa (hv ..) ?_; exact bW.refl _ _,fun v d hv h0=>absurd hv h0,fun a v hv hp hc=>?_,fun v hv h=>?_,h00⟩
 ·subst hv
  have:=hc.at0
  rcases hp with hp | ⟨_,hp⟩<;>exact hp.ne this.symm
 ·rcases h with h | h
  ·exact BH h
  ·refine ef ((D.mem v).mpr hv) ((D.mem 0).mpr (bW.refl _ _)) ?_
   refine aa (D.plc0 ..) ?_; exact tR h
theorem DS.next {gf : Nat->List Nat} {n : Nat} {po : List Nat} (D : kY gf n po) {V : Nat->Prop} {par : Nat->Nat} {k : Nat} (S : DS gf po V par k po.length) : DS gf po V par (k + 1) 1:=by
 refine ⟨S.tree,S.re,S.dom,fun a v hv hp=>?_,fun v hv _=>S.all v hv (.inr (cL ((D.mem v).mpr hv))),S.zero⟩
 rcases hp with hp | ⟨h1,hp⟩
 ·exact S.far a v hv (.inr ⟨cL ((D.mem v).mpr (S.re v hv)),hp⟩)
 ·have : v = 0:=ef ((D.mem v).mpr (S.re v hv)) ((D.mem 0).mpr (bW.refl _ _)) (by refine aa (D.plc0 ..) ?_; exact tR h1)
  clear hv h1; subst this
  exact fun hc=>hp.ne hc.at0.symm
theorem Ch.change {par par' : Nat->Nat} {w : Nat} (hp : ∀ v,v≠w->par' v = par v) {v a : Nat} (h : Ch par' v a) : Ch par v a\/(Ch par v w/\(w = 0\/Ch par' (par' w) a)):=by
 induction h with
 | refl v=>exact .inl (.refl v)
 | @up v a h0 t ih=>
  by_cases e : v = w
  ·clear hp ih; subst e; exact .inr ⟨.refl _,.inr t⟩
  ·rw [hp v e] at ih
   rcases ih with ih | ih
   ·exact .inl (.up h0 ih)
   ·exact .inr ⟨.up h0 ih.1,ih.2⟩
theorem Ch.old {V : Nat->Prop} {par par' pl : Nat->Nat} (T : j4 V par pl) {w : Nat} (hp : ∀ v,v≠w->par' v = par v) {x a : Nat} (h : Ch par' x a) : V x->pl x < pl w->Ch par x a:=by
 induction h with
 | refl v=>exact fun _ _=>.refl v
 | @up v a h0 t ih=>
  intro hv hl
  have e : v≠w:=fun e=>by clear hp ih; subst e; exact q0 hl
  have hu:=T.up v hv h0
  rw [hp v e] at ih
  exact .up h0 (ih hu.1 (by exact zF hl hu))
theorem DS.step {gf : Nat->List Nat} {n : Nat} {po : List Nat} (D : kY gf n po) {V : Nat->Prop} {par : Nat->Nat} {k j : Nat} (S : DS gf po V par k j) {w r : Nat} (hw : bW gf 0 w) (hj : cX po w = j) (h0 : w≠0)
  (hr : V r) (hch : ∀ y,Ch par r y↔∀ u,w∈gf u->V u->Ch par u y) (hdm : ∀ d,(∀ u,w∈gf u->V u->Dm gf d u)->Dm gf d r) :
  DS gf po (fun v=>V v\/v = w) (fun v=>if v = w then r else par v) k (j + 1):=by
 obtain ⟨u0,hu0,he0,hl0⟩:=D.up hw h0
 have hV0 : V u0:=S.all u0 hu0 (.inr (by exact bM hl0 hj))
 have hrl : cX po r < cX po w:=by
  have:=((hch r).mp (.refl r) u0 he0 hV0).le S.tree hV0
  exact xy hl0 this
 have hrw : r≠w:=fun e=>by rw [e] at hrl; exact q0 hrl
 have hp : ∀ v,v≠w->(fun v=>if v = w then r else par v) v = par v:=fun v hv=>if_neg hv
 have hpw : (fun v=>if v = w then r else par v) w = r:=if_pos rfl
 generalize (fun v=>if v = w then r else par v) = par' at hp hpw
 have key : ∀ a,Pa gf a (k + 1) w->¬ Ch par' r a:=fun a hpa hc=>by
  have hc:=hc.old S.tree hp hr hrl
  cases hpa with
  | start=>exact h0 rfl
  | @step _ u _ hu he hne=>
   have hru : bW gf 0 u:=by
    have : ∀ {k v},Pa gf a k v->bW gf 0 v:=fun h=>by
     induction h with
     | start=>exact bW.refl _ _
     | step _ hv _ ih=>exact bW.step ih hv
    exact this hu
   have hVu : V u:=by
    by_cases hk : 0 < k
    ·exact S.all u hru (.inl hk)
    ·have : k = 0:=by exact yy hk
     clear hk; subst this
     cases hu with
     | start=>exact S.tree.zero
   exact S.far a u hVu (.inl hu) ((hch a).mp hc u he hVu)
 refine ⟨⟨.inl S.tree.zero,fun v hv hv0=>?_,fun u v hu hv e=>?_⟩,fun v hv=>?_,fun v d hv hv0 hd hne=>?_,fun a v hv hpa hc=>?_,fun v hv hpl=>?_,by refine aa (hp 0 (Ne.symm h0)) ?_; exact S.zero⟩
 ·by_cases e : v = w
  ·clear hw hj h0 hch hdm he0 hl0 hrw hp key hv; subst e; refine aa (hpw ..) ?_; exact ⟨.inl hr,hrl⟩
  ·refine aa (hp v e) ?_
   have:=S.tree.up v (hv.resolve_right e) hv0
   exact ⟨.inl this.1,this.2⟩
 ·have hx : ∀ x,(V x\/x = w)->x∈po:=fun x hx=>(D.mem x).mpr (hx.elim (S.re x) fun e=>by refine aa (e ..) ?_; exact hw)
  exact ef (hx u hu) (hx v hv) e
 ·exact hv.elim (S.re v) fun e=>by refine aa (e ..) ?_; exact hw
 ·by_cases e : v = w
  ·clear hw hj h0 hch he0 hl0 hrl hrw hp key hv; subst e
   refine aa (hpw ..) ?_
   exact hdm d fun u he hVu=>hd.pred (S.re u hVu) he hne
  ·refine aa (hp v e) ?_; exact S.dom v d (hv.resolve_right e) hv0 hd hne
 ·by_cases e : v = w
  ·subst e
   have hpk : Pa gf a (k + 1) v:=hpa.elim Pa.succ fun h=>h.2
   cases hc with
   | refl=>exact hpk.ne rfl
   | up _ t=>rw [hpw] at t; exact key a hpk t
  ·have hVv:=hv.resolve_right e
   have hpa' : Pa gf a k v\/cX po v < j/\Pa gf a (k + 1) v:=hpa.imp id fun h=>⟨by
    have : cX po v≠cX po w:=fun q=>e (ef ((D.mem v).mpr (S.re v hVv)) ((D.mem w).mpr hw) q)
    exact wu h this hj,h.2⟩
   rcases hc.change hp with hc | ⟨hcw,hz | hc⟩
   ·exact S.far a v hVv hpa' hc
   ·exact h0 hz
   ·rw [hpw] at hc
    refine key a ?_ hc
    rcases hpa' with h | ⟨hl,h⟩
    ·rcases h.split w with h' | h'
     ·exact absurd hcw (S.far w v hVv (.inl h'))
     ·exact h'.1.succ
    ·rcases h.split w with h' | h'
     ·exact absurd hcw (S.far w v hVv (.inr ⟨hl,h'⟩))
     ·exact h'.1
 ·by_cases e : v = w
  ·exact .inr e
  ·refine .inl (S.all v hv (hpl.imp id fun h=>?_))
   have : cX po v≠cX po w:=fun q=>e (ef ((D.mem v).mpr hv) ((D.mem w).mpr hw) q)
   exact wP h this hj
def vd (gf : Nat->List Nat) (po : List Nat) (V : Nat->Prop) (par : Nat->Nat) (j : Nat) : Prop:=
 ∀ v,bW gf 0 v->v≠0->cX po v < j->∀ y,Ch par (par v) y↔∀ u,v∈gf u->V u->Ch par u y
theorem DS.up {gf : Nat->List Nat} {po : List Nat} {V : Nat->Prop} {par : Nat->Nat} {k j : Nat} (S : DS gf po V par k j) : ∀ (m : Nat) {v d : Nat},cX po v<=m->V v->Dm gf d v->Ch par v d:=by
 intro m
 induction m with
 | zero=>
  intro v d hm hv hd
  by_cases e : v = 0
  ·clear hm hv; subst e; refine aa (hd.zero ..) ?_; exact .refl _
  ·have:=(S.tree.up v hv e).2; exact xg this hm
 | succ m ih=>
  intro v d hm hv hd
  by_cases e : v = 0
  ·clear hm hv; subst e; refine aa (hd.zero ..) ?_; exact .refl _
  ·by_cases e' : d = v
   ·refine aa (e' ..) ?_; exact .refl _
   ·have hu:=S.tree.up v hv e
    exact .up e (ih (by exact AU hu hm) hu.1 (S.dom v d hv e hd e'))
theorem DS.fin {gf : Nat->List Nat} {n : Nat} {po : List Nat} (D : kY gf n po) {V : Nat->Prop} {par : Nat->Nat} {k : Nat} (S : DS gf po V par k po.length) (st : vd gf po V par po.length) {v y : Nat} (hv : bW gf 0 v) : Ch par v y↔Dm gf y v:=by
 have hV : ∀ v,bW gf 0 v->V v:=fun v hv=>S.all v hv (.inr (cL ((D.mem v).mpr hv)))
 refine ⟨fun h=>⟨hv,fun q=>?_⟩,fun h=>S.up _ (Nat.le_refl _) (hV v hv) h⟩
 induction q with
 | start hne=>exact hne (by exact aa (h.at0 ..) rfl)
 | @step u v hu he hb ih=>
  have hru : bW gf 0 u:=hu.any
  by_cases e : v = 0
  ·clear he hv; subst e; exact hb (by exact aa (h.at0 ..) rfl)
  ·cases h with
   | refl=>exact hb rfl
   | up _ t=>exact ih hru ((st v hv e (cL ((D.mem v).mpr hv)) y).mp t u he (hV u hru))
theorem DS.exact {gf : Nat->List Nat} {n K : Nat} {po : List Nat} (D : kY gf n po) (hK : ∀ a,a < n->∀ v,v < n->Re gf (a : Int) 0 v->Pa gf a K v) {V : Nat->Prop} {par : Nat->Nat} {k j : Nat} (hk : K<=k) (S : DS gf po V par k j) {v y : Nat} (hv : V v) : Ch par v y↔Dm gf y v:=by
 refine ⟨fun h=>⟨S.re v hv,fun q=>?_⟩,fun h=>S.up _ (Nat.le_refl _) hv h⟩
 have hlt : ∀ x,V x->x < n:=fun x hx=>D.lt x ((D.mem x).mpr (S.re x hx))
 exact S.far y v hv (.inl ((hK y (hlt y (h.le S.tree hv).1) v (hlt v hv) q).mono hk)) h
theorem DS.same {gf : Nat->List Nat} {n K : Nat} {po : List Nat} (D : kY gf n po) (hK : ∀ a,a < n->∀ v,v < n->Re gf (a : Int) 0 v->Pa gf a K v) {V : Nat->Prop} {par : Nat->Nat} {k j : Nat} (h0K : 0 < K) (hk : K<=k) (S : DS gf po V par k j)
  {w r : Nat} (hw : bW gf 0 w) (h0 : w≠0) (hr : V r) (hch : ∀ y,Ch par r y↔∀ u,w∈gf u->V u->Ch par u y) : V w/\r = par w:=by
 have hV : ∀ v,bW gf 0 v->V v:=fun v hv=>S.all v hv (.inl (by exact B2 h0K hk))
 have hVw:=hV w hw
 have ex : ∀ {v y},V v->(Ch par v y↔Dm gf y v):=fun hv=>S.exact D hK hk hv
 obtain ⟨u0,hu0,he0,hl0⟩:=D.up hw h0
 have h1 : ∀ y,Ch par r y↔Dm gf y w/\y≠w:=fun y=>by
  refine aa (propext (hch y)) ?_
  constructor
  ·intro h
   refine ⟨⟨hw,fun q=>?_⟩,fun e=>?_⟩
   ·cases q with
    | start=>exact h0 rfl
    | @step u _ hu he hb=>exact ((ex (hV u hu.any)).mp (h u he (hV u hu.any))).2 hu
   ·clear hw h0 hch hVw; subst e
    have:=Dm.le D _ (Nat.le_refl _) ((ex (hV u0 hu0)).mp (h u0 he0 (hV u0 hu0)))
    exact p8 hl0 this
  ·rintro ⟨hd,hne⟩ u he hu
   exact (ex hu).mpr (hd.pred (S.re u hu) he hne)
 have hup:=S.tree.up w hVw h0
 have h2 : ∀ y,Ch par (par w) y↔Dm gf y w/\y≠w:=fun y=>by
  constructor
  ·intro h
   refine ⟨(ex hVw).mp (.up h0 h),fun e=>?_⟩
   clear hw h0 hch hVw he0 hl0 h1; subst e
   have:=(h.le S.tree hup.1).2
   exact zY hup this
  ·rintro ⟨hd,hne⟩
   cases (ex hVw).mpr hd with
   | refl=>exact absurd rfl hne
   | up _ t=>exact t
 have q1:=(((h2 r).mpr ((h1 r).mp (.refl r))).le S.tree hup.1).2
 have q2:=(((h1 (par w)).mpr ((h2 (par w)).mp (.refl _))).le S.tree hr).2
 exact ⟨hVw,S.tree.inj _ _ hr hup.1 (by exact tm q1 q2)⟩
end
section
structure yk (gf : Nat->List Nat) (n : Nat) (po : List Nat) (par : Nat->Nat) (ps : List Int) : Prop where
 tree : j4 (fun v=>bW gf 0 v) par (cX po)
 len : ps.length = n
 yes : ∀ v,bW gf 0 v->ps[v]? = some (par v : Int)
 no : ∀ v,v < n->¬ bW gf 0 v->ps[v]? = some (-1)
 ch : ∀ v y,bW gf 0 v->(Ch par v y↔Dm gf y v)
 zero : par 0 = 0
structure uS (ps : List Int) (n : Nat) (V : Nat->Prop) (par : Nat->Nat) : Prop where
 len : ps.length = n
 yes : ∀ v,V v->ps[v]? = some (par v : Int)
 no : ∀ v,v < n->¬ V v->ps[v]? = some (-1)
theorem bT {G : List cI} {n t u : Nat} : u∈ay G n t↔u < n/\t∈ah G u:=by
 unfold ay
 rw [List.mem_filter,List.mem_range,List.contains_iff_mem]
section
variable {c : Cx} {k : Nat} {H : ag} {Q : AV->ag->Prop}
theorem fx (hK : KF c.K) {f : Addr} {G : List cI} (hF : cA H f G) (hG : cm G)
  (q : ∀ (H' : ag) (d : Addr) (ps : List Int) (po : List Nat) (par : Nat->Nat),Sub H H'->H d = none->H' d = some (.list (ps.map .int))->kY (ah G) G.length po->yk (ah G) G.length po par ps->Q (.ref d) H') : AC c (k + 4) 143 [.ref f] H Q:=by
 refine aI (Cv hK) rfl ?_
 dsimp only [mw,m9,mA,nX,mx,oj,lb,lz,lH]
 obtain ⟨bl,bs,p0,s0,⟨dx,hf1,hf2⟩,hbl,hlen,hblk⟩:=hF.is
 have hsix:=hG.six
 have hpos:=hG.pos
 repeat walk_at "step"
 refine g0 hK hF hG fun H1 ra po seen s1 hra h1r ps=>?_
 have D:=ps.dfs (n:=G.length) (fun v hv=>(aX hG hv).2) hpos
 clear ps
 have hpl : po.length<=G.length:=a9 D.nd D.lt
 repeat walk_at "step"
 refine d7 fun pp hpp=>?_
 have hpp0:=s1.none hpp
 refine (by assumption : pq _ _) _ _ ?_
 refine kA ?_
 have B:=j5 hK
 refine kx (xs:=po.reverse.map ak) (l:=ra) ?_ ?_ ?_ B.nd B.nn B.ns B.bo ?_ ?_ ?_
 ·exact rfl
 ·exact rfl
 ·exact rfl
 ·exact fun _=>rfl
 rotate_left
 ·exact fun _ _=>rfl
 repeat walk_at "step"
 have nrp : ra≠pp:=fun e=>by rw [e,hpp] at h1r; exact ns h1r
 refine ⟨rfl,Sub.upd hpp _ _ h1r,?_⟩
 refine p5 (I:=fun i m H5=>bC (bC (m "row" = some (.ref ra)) (m "places" = some (.ref pp)) (m "func" = some (.ref f))) (aV pp H1 H5) (∃ es : List (Int × AV),bC (H5 pp = some (.dict es)) (es.length<=i) (∀ x∈po.reverse.take i,es.lookup (x : Int) = some (ak (cX po x))))) _ 0 _ _
  ⟨⟨rfl,rfl,rfl⟩,fun x o hx hxo=>by refine aa (aj hx) ?_; exact hxo,[],ad _ _ _,Nat.le_refl _,by exact nofun⟩ (fun i R_ hR_ hr_ v m H5 hv hI=>?_) fun m H5 hI=>?_
 ·obtain ⟨⟨e1,e2,e3⟩,s5,es,h5p,hes,hlk⟩:=hI
  rw [Nat.zero_add] at *
  rw [List.getElem?_map] at hv
  obtain ⟨x,hx,rfl⟩:=Option.map_eq_some_iff.mp hv
  have hi:=(List.getElem?_eq_some_iff.mp hx).1
  rw [List.length_reverse] at hi
  have hpx:=gY D.nd hx
  repeat walk_at "step"
  refine cr h5p (by exact rp hi hpl hsix hes) ?_
  repeat walk_at "step"
  refine ⟨by exact aa (aj nrp) (aa (aj nrp) (aa (s5 _ _ nrp h1r) (aa (h1r ..) rfl))),⟨e1,e2,e3⟩,fun y o hy hyo=>by refine aa (aj hy) ?_; exact s5 _ _ hy hyo,cV es (x : Int) (ak i),ad _ _ _,by have:=eS es (x : Int) (ak i); exact kF this hes,fun y hy=>?_⟩
  refine aa (cb ..) ?_
  rw [az hx] at hy
  by_cases e : y = x
  ·clear hx hv hy; subst e; exact aa (if_pos rfl) (aa (hpx ..) rfl)
  ·refine aa (if_neg (by exact iO e)) ?_
   rcases List.mem_append.mp hy with h | h
   ·exact hlk y h
   ·exact absurd (List.mem_singleton.mp h) e
 obtain ⟨⟨e1,e2,e3⟩,s5,es,h5p,hes,hlk⟩:=hI
 have hll : 0 + (po.reverse.map ak).length = po.reverse.length:=by simp
 rw [hll,List.take_length] at hlk
 have hlk : ∀ x,bW (ah G) 0 x->es.lookup (x : Int) = some (ak (cX po x)):=fun x hx=>hlk x (List.mem_reverse.mpr ((D.mem x).mpr hx))
 have h5r:=s5 _ _ nrp h1r
 have s6 : Sub H H5:=fun x o hx=>s5 x o (fun e=>by rw [e,hpp0] at hx; exact ns hx) (s1 x o hx)
 clear s5 hes hll
 repeat walk_at "step"
 refine f6 hK (hF.sub s6) hG fun H6 ba ls t6 hba hls hll R6=>?_
 have h6r:=t6 _ _ h5r
 have h6p:=t6 _ _ h5p
 have s7:=s6.trans t6
 clear h5r h5p s6 t6
 repeat walk_at "step"
 refine ⟨by simp,fun t1 ht1=>?_⟩
 repeat walk_at "step"
 refine cF (.inl ⟨_,Sub.upd ht1 _ _ (s7 _ _ hbl),rfl⟩) (by simp; exact jp hlen hsix) ?_
 refine aa (List.length_map ..) (aa (hlen ..) ?_)
 refine nx (ad _ _ _) (by exact dm) (by exact zU hsix) fun pa hpa=>?_
 have nt1 : pa≠t1:=fun e=>by rw [e,ad] at hpa; exact ns hpa.symm
 rw [aj nt1] at hpa
 have hpa0:=s7.none hpa
 have npr : ra≠pa:=fun e=>by rw [e,hpa] at h6r; exact ns h6r
 have npp : pp≠pa:=fun e=>by rw [e,hpa] at h6p; exact ns h6p
 have e0 : List.replicate ((G.length : Int)).toNat (AV.int (-1)) = (List.replicate G.length (-1 : Int)).map AV.int:=by refine aa (List.map_replicate ..) ?_; rfl
 repeat walk_at "step"
 refine dv (ad _ _ _) (by simp; exact gF hsix) (by exact tC) (by simp; exact Dd hpos) ?_
 have s8 : aV pa H6 (an (an (an H6 t1 (.list [.int (-1)])) pa (.list (List.replicate ((G.length : Int)).toNat (AV.int (-1))))) pa (.list ((List.replicate ((G.length : Int)).toNat (AV.int (-1))).set (0 : Int).toNat (.int 0)))):=fun x o hx hxo=>by
  refine aa (aj hx) (aa (aj hx) (aa (aj (fun e=>by rw [e,ht1] at hxo; exact ns hxo)) ?_)); exact hxo
 have h8a : an (an (an H6 t1 (.list [.int (-1)])) pa (.list (List.replicate ((G.length : Int)).toNat (AV.int (-1))))) pa (.list ((List.replicate ((G.length : Int)).toNat (AV.int (-1))).set (0 : Int).toNat (.int 0))) pa = some (.list (((List.replicate G.length (-1 : Int)).set 0 0).map AV.int)):=by
  refine aa (ad ..) (aa (e0 ..) (aa (List.map_set ..) ?_)); rfl
 generalize an (an (an H6 t1 (.list [.int (-1)])) pa (.list (List.replicate ((G.length : Int)).toNat (AV.int (-1))))) pa (.list ((List.replicate ((G.length : Int)).toNat (AV.int (-1))).set (0 : Int).toNat (.int 0))) = H8 at s8 h8a
 repeat walk_at "step"
 have hnone : ∀ x o,H x = some o->x≠pa:=fun x o hx e=>by rw [e,hpa0] at hx; exact ns hx
 obtain ⟨K,h0K,hK'⟩:=lK (ah G) G.length
 have hP0 : uS ((List.replicate G.length (-1 : Int)).set 0 0) G.length (fun v=>v = 0) (fun _=>0):=by
  refine ⟨by simp,fun v hv=>?_,fun v hv hne=>?_⟩
  ·subst hv; refine aa (List.getElem?_set_self (by simpa using hpos)) ?_; rfl
  ·exact aa (List.getElem?_set_ne (by exact Ah hne)) (aa (List.getElem?_replicate) (aa (if_pos hv) rfl))
 refine bK (fun ms m H9=>bC (fJ (m "row" = some (.ref ra)) (m "places" = some (.ref pp)) (m "func" = some (.ref f)) (m "before" = some (.ref ba)) (m "parents" = some (.ref pa))) (aV pa H6 H9) (A8 fun (ps : List Int) (V : Nat->Prop) (par : Nat->Nat) (kk : Nat) (b : Bool)=>c0 (m "is_new" = some (.bool b)) (H9 pa = some (.list (ps.map .int))) (uS ps G.length V par) ((b = true/\kk<=K/\DS (ah G) po V par kk 1/\ms = K - kk + 1)\/(b = false/\DS (ah G) po V par kk po.length/\vd (ah G) po V par po.length/\ms = 0)))) ?_ (K - 0 + 1)
  ⟨⟨e1,e2,e3,rfl,rfl⟩,s8,_,_,_,0,true,rfl,h8a,hP0,.inl ⟨rfl,Nat.zero_le _,DS.start D _ rfl,rfl⟩⟩
 clear hP0
 rintro ms R_ hR_ hr_ m H9 ⟨⟨e1,e2,e3,e4,e5⟩,s9,ps,V,par,kk,b,e6,h9a,hP,hcase⟩
 refine cf ?_ (fun _ _=>rfl)
 repeat walk_at "step"
 refine dG ?_
 clear e6; rcases hcase with ⟨rfl,hkk,S,rfl⟩ | ⟨rfl,S,St,rfl⟩
 rotate_left
 ·refine fD rfl ?_
  repeat walk_at "step"
  have hV : ∀ v,V v↔bW (ah G) 0 v:=fun v=>⟨S.re v,fun h=>S.all v h (.inr (cL ((D.mem v).mpr h)))⟩
  have hVe : V = fun v=>bW (ah G) 0 v:=funext fun v=>propext (hV v)
  refine q H9 pa ps po par (fun x o hx=>s9 _ _ (hnone x o hx) (s7 x o hx)) hpa0 h9a D ⟨by refine aa (Eq.symm (hVe ..)) ?_; exact S.tree,hP.len,fun v hv=>hP.yes v ((hV v).mpr hv),fun v hv hn=>hP.no v hv (fun h=>hn ((hV v).mp h)),fun v y hv=>S.fin D St hv,S.zero⟩
 ·refine eU rfl ?_
  repeat walk_at "step"
  have h9r:=s9 _ _ npr h6r
  refine ⟨ra,_,rfl,h9r,by simp; exact kc hsix hpl,by simp,fun ta hta=>?_⟩
  have nta : ta≠pa:=ai hta h9a
  have h9t : an H9 ta (.list (cC (po.reverse.map ak) (some 1) none none)) ta = some (.list ((po.reverse.drop 1).map ak)):=by
   exact aa (ad ..) (aa (show (some (1 : Int)) = some ((1 : Nat) : Int) from rfl) (aa (ix ..) (aa (List.map_drop ..) rfl)))
  have s9':=Sub.upd (o:=.list (cC (po.reverse.map ak) (some 1) none none)) hta
  generalize an H9 ta (.list (cC (po.reverse.map ak) (some 1) none none)) = H10 at h9t s9'
  repeat walk_at "step"
  refine cP (ar h9t) ?_
  refine aD (I:=fun i m H11=>c0 (fJ (m "row" = some (.ref ra)) (m "places" = some (.ref pp)) (m "func" = some (.ref f)) (m "before" = some (.ref ba)) (m "parents" = some (.ref pa))) (aV pa H6 H11) (H11 ta = H10 ta) (Bi fun (ps : List Int) (V : Nat->Prop) (par : Nat->Nat) (b : Bool)=>pf (m "is_new" = some (.bool b)) (H11 pa = some (.list (ps.map .int))) (uS ps G.length V par) (DS (ah G) po V par kk (i + 1)) (b = false->vd (ah G) po V par (i + 1)) (K<=kk->b = false))) rfl _ 0 _ _
   ⟨⟨e1,e2,e3,e4,e5⟩,fun x o hx hxo=>s9' _ _ (s9 x o hx hxo),rfl,ps,V,par,false,rfl,s9' _ _ h9a,hP,S,fun _ v hv h0 hl=>?_,fun _=>rfl⟩ (fun i R_ hR_ hr_ v m H11 hv hI=>?_) fun m H11 hI=>?_
  ·exact absurd (ef ((D.mem v).mpr hv) ((D.mem 0).mpr (bW.refl _ _)) (by refine aa (D.plc0 ..) ?_; exact yU hl)) h0
  rotate_left
  ·obtain ⟨⟨e1,e2,e3,e4,e5⟩,s11,h11t,ps,V,par,b,e6,h11a,hP,S,hSt,hb⟩:=hI
   have hlen' : 0 + ((po.reverse.drop 1).map ak).length + 1 = po.length:=by
    have : 0 < po.length:=List.length_pos_of_mem ((D.mem 0).mpr (bW.refl _ _))
    simp; exact CU this
   rw [hlen'] at S hSt
   repeat walk_at "step"
   cases b with
   | false=>exact ⟨0,by exact Ay,⟨e1,e2,e3,e4,e5⟩,s11,ps,V,par,kk,false,e6,h11a,hP,.inr ⟨rfl,S,hSt rfl,rfl⟩⟩
   | true=>
    have : ¬ K<=kk:=fun h=>by cases hb h
    exact ⟨K - (kk + 1) + 1,by exact xo this,⟨e1,e2,e3,e4,e5⟩,s11,ps,V,par,kk + 1,true,e6,h11a,hP,.inl ⟨rfl,by exact w4 this,S.next D,rfl⟩⟩
  ·obtain ⟨⟨e1,e2,e3,e4,e5⟩,s11,h11t,ps,V,par,b,e6,h11a,hP,S,hSt,hb⟩:=hI
   rw [Nat.zero_add] at *
   rw [List.getElem?_map] at hv
   obtain ⟨w,hw,rfl⟩:=Option.map_eq_some_iff.mp hv
   rw [List.getElem?_drop] at hw
   have hpw : cX po w = i + 1:=by refine aa (gY D.nd hw) ?_; exact we
   have hwm : w∈po:=List.mem_reverse.mp (List.mem_of_getElem? hw)
   have hwr:=(D.mem w).mp hwm
   have hwn:=D.lt w hwm
   have hw0 : w≠0:=fun e=>by rw [e,D.plc0] at hpw; exact BP hpw
   have hwl : w < ls.length:=by exact aU hwn hll
   have lk : ls[w]? = some ls[w]:=List.getElem?_eq_getElem hwl
   have nba : ba≠pa:=fun e=>by
    have:=R6.top
    rw [e,hpa] at this; exact ns this
   have nla : ls[w]≠pa:=fun e=>by
    have:=R6.row w _ lk
    rw [e,hpa] at this; exact ns this
   have h11b:=s11 _ _ nba R6.top
   have h11l:=s11 _ _ nla (R6.row w _ lk)
   have hVr : ∀ v,V v->v < G.length:=fun v hv=>D.lt v ((D.mem v).mpr (S.re v hv))
   repeat walk_at "step"
   refine bn (j:=w) h11b (by simp; exact bE hll hsix) (aJ (by simp; exact dr hwl)) (by refine aa (List.getElem?_map) (aa (lk ..) ?_); rfl) ?_
   repeat walk_at "step"
   refine cP (ar h11l) ?_
   refine aD (I:=fun i2 m H12=>bC (H12 = H11) (nk (m "row" = some (.ref ra)) (m "places" = some (.ref pp)) (m "func" = some (.ref f)) (m "before" = some (.ref ba)) (m "parents" = some (.ref pa)) (m "number" = some (ak w)) (m "is_new" = some (.bool b))) (∃ fv : Int,m "found" = some (.int fv)/\((fv = -1/\∀ u∈(ay G G.length w).take i2,¬ V u)\/∃ r : Nat,fv = r/\V r/\(∀ y,Ch par r y↔∀ u∈(ay G G.length w).take i2,V u->Ch par u y)/\∀ d,(∀ u∈(ay G G.length w).take i2,V u->Dm (ah G) d u)->Dm (ah G) d r))) rfl _ 0 _ _
    ⟨rfl,⟨e1,e2,e3,e4,e5,rfl,e6⟩,-1,rfl,.inl ⟨rfl,by simp⟩⟩ (fun i2 R_ hR_ hr_ v m H12 hv hI=>?_) fun m H12 hI=>?_
   ·clear h11t h11b h11l; obtain ⟨rfl,⟨e1,e2,e3,e4,e5,e7,e6⟩,fv,e8,hfv⟩:=hI
    rw [Nat.zero_add] at *
    rw [List.getElem?_map] at hv
    obtain ⟨u,hu,rfl⟩:=Option.map_eq_some_iff.mp hv
    have hum:=bT.mp (List.mem_of_getElem? hu)
    have htk:=az hu
    have hul : u < ps.length:=by refine aa (hP.len ..) ?_; exact hum.1
    have hpu : ps[u]? = some ps[u]:=List.getElem?_eq_getElem hul
    repeat walk_at "step"
    refine bn (j:=u) h11a (by simp; have:=hP.len; exact bE this hsix) (aJ (by simp; exact dr hul)) (by refine aa (List.getElem?_map) (aa (hpu ..) ?_); rfl) ?_
    repeat walk_at "step"
    by_cases hVu : V u
    ·have hy:=hP.yes u hVu
     rw [hpu] at hy
     have hge : decide (ps[u]>=0) = true:=by
      injection hy with hy
      refine aa (hy ..) ?_; rfl
     refine aa (hge ..) ?_
     repeat walk_at "step"
     rcases hfv with ⟨rfl,hno⟩ | ⟨r,rfl,hr,hch,hdm⟩
     ·repeat walk_at "step"
      refine ⟨rfl,rfl,⟨e1,e2,e3,e4,e5,e7,e6⟩,_,rfl,.inr ⟨u,rfl,hVu,fun y=>?_,fun d hd=>?_⟩⟩
      ·refine aa (htk ..) ?_
       constructor
       ·intro h x hx hVx
        rcases List.mem_append.mp hx with h' | h'
        ·exact absurd hVx (hno x h')
        ·refine aa (List.mem_singleton.mp h') ?_; exact h
       ·exact fun h=>h u (by exact List.mem_concat_self) hVu
      ·exact hd u (by refine aa (htk ..) ?_; exact List.mem_concat_self) hVu
     ·have hlt : decide ((r : Int) < 0) = false:=by rfl
      refine aa (hlt ..) ?_
      repeat walk_at "step"
      refine lh hK S.tree ⟨ps,h11a,by have:=hP.len; exact sB this hsix,fun v hv=>hP.yes v hv⟩ ⟨es,s11 _ _ npp h6p,fun v hv=>hlk v (S.re v hv)⟩ hr hVu (S:=Dm (ah G)) (fun d x hx h0 hd hne=>S.dom x d hx h0 hd hne) (fun d x hx hd=>Dm.le D _ (Nat.le_refl _) hd) fun r' hr' hch' hdm'=>?_
      repeat walk_at "step"
      refine ⟨rfl,rfl,⟨e1,e2,e3,e4,e5,e7,e6⟩,_,rfl,.inr ⟨r',rfl,hr',fun y=>?_,fun d hd=>?_⟩⟩
      ·refine aa (propext (hch' y)) (aa (propext (hch y)) (aa (htk ..) ?_))
       constructor
       ·rintro ⟨h1,h2⟩ x hx hVx
        rcases List.mem_append.mp hx with h' | h'
        ·exact h1 x h' hVx
        ·refine aa (List.mem_singleton.mp h') ?_; exact h2
       ·exact fun h=>⟨fun x hx hVx=>h x (List.mem_append_left _ hx) hVx,h u (by exact List.mem_concat_self) hVu⟩
      ·rw [htk] at hd
       exact hdm' d (hdm d fun x hx hVx=>hd x (List.mem_append_left _ hx) hVx) (hd u (by exact List.mem_concat_self) hVu)
    ·have hy:=hP.no u hum.1 hVu
     rw [hpu] at hy
     have hge : decide (ps[u]>=0) = false:=by
      injection hy with hy
      refine aa (hy ..) ?_; simp
     refine aa (hge ..) ?_
     repeat walk_at "step"
     refine ⟨rfl,rfl,⟨e1,e2,e3,e4,e5,e7,e6⟩,fv,e8,hfv.imp (fun h=>⟨h.1,fun x hx=>?_⟩) fun ⟨r,h1,h2,h3,h4⟩=>⟨r,h1,h2,fun y=>?_,fun d hd=>?_⟩⟩
     ·rw [htk] at hx
      rcases List.mem_append.mp hx with h' | h'
      ·exact h.2 x h'
      ·refine aa (List.mem_singleton.mp h') ?_; exact hVu
     ·refine aa (propext (h3 y)) (aa (htk ..) ?_)
      constructor
      ·intro h x hx hVx
       rcases List.mem_append.mp hx with h' | h'
       ·exact h x h' hVx
       ·rw [List.mem_singleton.mp h'] at hVx; exact absurd hVx hVu
      ·exact fun h x hx hVx=>h x (List.mem_append_left _ hx) hVx
     ·rw [htk] at hd
      exact h4 d fun x hx hVx=>hd x (List.mem_append_left _ hx) hVx
   ·clear h11b; obtain ⟨rfl,⟨e1,e2,e3,e4,e5,e7,e6⟩,fv,e8,hfv⟩:=hI
    have hll2 : 0 + ((ay G G.length w).map ak).length = (ay G G.length w).length:=by simp
    rw [hll2,List.take_length] at hfv
    obtain ⟨u0,hu0,he0,hl0⟩:=D.up hwr hw0
    have hVu0 : V u0:=S.all u0 hu0 (.inr (by exact wc hl0 hpw))
    obtain ⟨r,rfl,hr,hch,hdm⟩:=hfv.resolve_left fun h=>h.2 u0 (bT.mpr ⟨hVr u0 hVu0,he0⟩) hVu0
    have hch : ∀ y,Ch par r y↔∀ u,w∈ah G u->V u->Ch par u y:=fun y=>by
     refine aa (propext (hch y)) ?_
     exact ⟨fun h u he hV=>h u (bT.mpr ⟨hVr u hV,he⟩) hV,fun h u hu hV=>h u (bT.mp hu).2 hV⟩
    have hdm : ∀ d,(∀ u,w∈ah G u->V u->Dm (ah G) d u)->Dm (ah G) d r:=fun d h=>hdm d fun u hu hV=>h u (bT.mp hu).2 hV
    have S':=S.step D hwr hpw hw0 hr hch hdm
    have hwl2 : w < ps.length:=by refine aa (hP.len ..) ?_; exact hwn
    have hpw' : ps[w]? = some ps[w]:=List.getElem?_eq_getElem hwl2
    repeat walk_at "step"
    refine bn (j:=w) h11a (by simp; have:=hP.len; exact bE this hsix) (aJ (by simp; exact dr hwl2)) (by refine aa (List.getElem?_map) (aa (hpw' ..) ?_); rfl) ?_
    repeat walk_at "step"
    cases hne : ((r : Int) != ps[w]) with
    | false=>
     have heq : (r : Int) = ps[w]:=by simpa using hne
     have hVw : V w:=by
      by_cases h : V w
      ·exact h
      ·have:=hP.no w hwn h
       rw [hpw'] at this
       injection this with this
       exact BQ heq this
     have hrp : r = par w:=by
      have:=hP.yes w hVw
      rw [hpw'] at this
      injection this with this
      exact Dl heq this
     have hVe : (fun v=>V v\/v = w) = V:=funext fun v=>propext ⟨fun h=>h.elim id fun e=>by refine aa (e ..) ?_; exact hVw,.inl⟩
     have hpe : (fun v=>if v = w then r else par v) = par:=funext fun v=>by
      by_cases e : v = w
      ·clear hw hv hpw hwm hwr hwn hw0 hwl lk nla h11l e7 hll2 he0 hl0 hfv hch hdm S' hwl2 hpw' hne heq hVw hVe; subst e; exact aa (if_pos rfl) (aa (hrp ..) rfl)
      ·exact aa (if_neg e) rfl
     rw [hVe,hpe] at S'
     repeat walk_at "step"
     refine ⟨h11t,⟨e1,e2,e3,e4,e5⟩,s11,h11t,ps,V,par,b,e6,h11a,hP,S',fun hbf v hv h0 hl y=>?_,hb⟩
     by_cases e : v = w
     ·clear hw hpw hwm hwr hwn hw0 hwl lk nla h11l e7 hll2 he0 hl0 hfv hdm hwl2 hpw' hne heq hVw hVe hpe; subst e; refine aa (Eq.symm (hrp ..)) ?_; exact hch y
     ·refine hSt hbf v hv h0 ?_ y
      have : cX po v≠cX po w:=fun q'=>e (ef ((D.mem v).mpr hv) hwm q')
      exact zy hl this hpw
    | true=>
     repeat walk_at "step"
     refine dv h11a (by simp; have:=hP.len; exact jp this hsix) (by exact dm) (by simp; exact dr hwl2) ?_
     repeat walk_at "step"
     have ep : (ps.map AV.int).set ((w : Int)).toNat (.int (r : Int)) = (ps.set w (r : Int)).map AV.int:=by refine aa (List.map_set ..) ?_; rfl
     try refine aa (ep ..) ?_
     refine ⟨by refine aa (aj nta) ?_; exact h11t,⟨e1,e2,e3,e4,e5⟩,fun x o hx hxo=>by refine aa (aj hx) ?_; exact s11 x o hx hxo,by refine aa (aj nta) ?_; exact h11t,ps.set w (r : Int),_,_,true,rfl,ad _ _ _,⟨by refine aa (List.length_set ..) ?_; exact hP.len,fun v hv=>?_,fun v hv hn=>?_⟩,S',fun h=>(by exact nomatch h),fun hKk=>?_⟩
     ·by_cases e : v = w
      ·clear hw hpw hwm hwr hwn hw0 hwl lk nla h11l e7 hll2 he0 hl0 hfv hch hdm S' hpw' hne ep hv; subst e; exact aa (List.getElem?_set_self hwl2) (aa (if_pos rfl) rfl)
      ·refine aa (List.getElem?_set_ne (Ne.symm e)) (aa (if_neg e) ?_); exact hP.yes v (hv.resolve_right e)
     ·have e : v≠w:=fun e=>hn (.inr e)
      refine aa (List.getElem?_set_ne (Ne.symm e)) ?_; exact hP.no v hv fun h=>hn (.inl h)
     ·exfalso
      have:=S.same D hK' h0K hKk hwr hw0 hr hch
      have hy:=hP.yes w this.1
      rw [hpw',<-this.2] at hy
      injection hy with hy
      rw [hy] at hne
      simp at hne
end
end
section
def eV (G : List cI) (v : Nat) : List Int:=match G[v]? with | some B=>(cZ B).1 | none=>[]
def ey (G : List cI) (v : Nat) : List Int:=match G[v]? with | some B=>(cZ B).2 | none=>[]
inductive Lv (G : List cI) (r : Int) : Nat->Prop
 | use {v : Nat} (h : r∈eV G v) : Lv G r v
 | thru {v u : Nat} (h : r∉ey G v) (hu : u∈ah G v) (t : Lv G r u) : Lv G r v
structure cR (H : ag) (a : Addr) (ls : List Addr) (p : Nat->Int->Bool) : Prop where
 top : H a = some (.list (ls.map AV.ref))
 row : ∀ (t : Nat) (l : Addr),ls[t]? = some l->H l = some (.set (aK (p t)))
theorem cR.keep {H H' : ag} {a : Addr} {ls : List Addr} {p : Nat->Int->Bool} (R : cR H a ls p) (ha : ∀ o,H a = some o->H' a = some o) (hk : ∀ x xs,H x = some (.set xs)->H' x = some (.set xs)) : cR H' a ls p:=
 ⟨ha _ R.top,fun t l h=>hk _ _ (R.row t l h)⟩
theorem cR.put {H H' : ag} {a d : Addr} {ls : List Addr} {p : Nat->Int->Bool} {q : Int->Bool} {v : Nat} (R : cR H a ls p) (hv : v < ls.length) (ha : H' a = some (.list ((ls.map AV.ref).set v (.ref d)))) (hk : ∀ x xs,H x = some (.set xs)->H' x = some (.set xs)) (hd : H d = some (.set (aK q))) :
  cR H' a (ls.set v d) (fun t=>if t = v then q else p t):=by
 refine ⟨by exact aa (ha ..) (aa (List.map_set ..) rfl),fun t l h=>?_⟩
 by_cases e : t = v
 ·clear ha; subst e
  rw [List.getElem?_set_self hv] at h
  cases h
  refine aa (if_pos rfl) ?_; exact hk _ _ hd
 ·rw [List.getElem?_set_ne (Ne.symm e)] at h
  refine aa (if_neg e) ?_; exact hk _ _ (R.row t l h)
structure bk (H7 H9 : ag) (po : List Nat) (n : Nat) (la lo wa ia : Addr) (p p2 : Nat->Int->Bool) (wl : List Nat) (iw : Nat->Bool) : Prop where
 keep : ∀ x o,x≠la->x≠lo->x≠wa->x≠ia->H7 x = some o->H9 x = some o
 r1 : ∃ l1 : List Addr,cR H9 la l1 p/\l1.length = n
 r2 : ∃ l2 : List Addr,cR H9 lo l2 p2/\l2.length = n
 w : H9 wa = some (.list (wl.map ak))
 i : ∃ es : List (Int × AV),H9 ia = some (.dict es)/\es.length<=po.length/\∀ x∈po,es.lookup (x : Int) = some (.bool (iw x))
theorem bk.sub {H7 H9 H' : ag} {po : List Nat} {n : Nat} {la lo wa ia : Addr} {p p2 : Nat->Int->Bool} {wl : List Nat} {iw : Nat->Bool} (L : bk H7 H9 po n la lo wa ia p p2 wl iw) (s : Sub H9 H') : bk H7 H' po n la lo wa ia p p2 wl iw:=by
 refine bc fun GG=>?_
 obtain ⟨l1,R1,e1⟩:=L.r1
 obtain ⟨l2,R2,e2⟩:=L.r2
 obtain ⟨es,g1,g2,g3⟩:=L.i
 refine GG ?_
 exact ⟨fun x o a b c d h=>s _ _ (L.keep x o a b c d h),⟨l1,R1.keep (s _) fun x xs=>s x _,e1⟩,⟨l2,R2.keep (s _) fun x xs=>s x _,e2⟩,s _ _ L.w,es,s _ _ g1,g2,g3⟩
section
variable {H7 H9 : ag} {po : List Nat} {n : Nat} {la lo wa ia : Addr} {p p2 : Nat->Int->Bool} {wl : List Nat} {iw : Nat->Bool}
theorem bk.ne (L : bk H7 H9 po n la lo wa ia p p2 wl iw) : (∀ x xs,H9 x = some (.set xs)->x≠la/\x≠lo/\x≠wa/\x≠ia)/\la≠ia/\lo≠ia/\wa≠ia:=by
 refine bc fun GG=>?_
 obtain ⟨l1,R1,e1⟩:=L.r1
 obtain ⟨l2,R2,e2⟩:=L.r2
 obtain ⟨es,g1,g2,g3⟩:=L.i
 refine GG ?_
 have h1:=R1.top
 have h2:=R2.top
 have h3:=L.w
 refine ⟨fun x xs h=>⟨fun e=>?_,fun e=>?_,fun e=>?_,fun e=>?_⟩,fun e=>?_,fun e=>?_,fun e=>?_⟩
 ·rw [e,h1] at h; exact nomatch h
 ·rw [e,h2] at h; exact nomatch h
 ·rw [e,h3] at h; exact nomatch h
 ·rw [e,g1] at h; exact nomatch h
 ·rw [e,g1] at h1; exact nomatch h1
 ·rw [e,g1] at h2; exact nomatch h2
 ·rw [e,g1] at h3; exact nomatch h3
theorem bk.setIn (L : bk H7 H9 po n la lo wa ia p p2 wl iw) (n1 : la≠lo) (n2 : la≠wa) {l1 : List Addr} {d : Addr} {q : Int->Bool} {v : Nat} (hv : v < n) (h1 : H9 la = some (.list (l1.map AV.ref))) (hd : H9 d = some (.set (aK q))) :
  bk H7 (an H9 la (.list ((l1.map AV.ref).set v (.ref d)))) po n la lo wa ia (fun t=>if t = v then q else p t) p2 wl iw:=by
 refine bc fun GG=>?_
 obtain ⟨l1',R1,e1⟩:=L.r1
 obtain ⟨l2,R2,e2⟩:=L.r2
 obtain ⟨es,g1,g2,g3⟩:=L.i
 obtain ⟨hs,n3,n4,n5⟩:=L.ne
 refine GG ?_
 have hl : l1.map AV.ref = l1'.map AV.ref:=by
  have:=R1.top
  rw [h1] at this
  injection this with this
  injection this
 refine aa (hl ..) ?_
 have hk : ∀ x xs,H9 x = some (.set xs)->an H9 la (.list ((l1'.map AV.ref).set v (.ref d))) x = some (.set xs):=fun x xs h=>by refine aa (aj (hs x xs h).1) ?_; exact h
 exact ⟨fun x o a b c' d' h=>by refine aa (aj a) ?_; exact L.keep x o a b c' d' h,⟨_,R1.put (by exact aU hv e1) (ad _ _ _) hk hd,by refine aa (List.length_set ..) ?_; exact e1⟩,⟨l2,R2.keep (fun o h=>by refine aa (aj (Ne.symm n1)) ?_; exact h) hk,e2⟩,
  by refine aa (aj (Ne.symm n2)) ?_; exact L.w,es,by refine aa (aj (Ne.symm n3)) ?_; exact g1,g2,g3⟩
theorem bk.setOut (L : bk H7 H9 po n la lo wa ia p p2 wl iw) (n1 : la≠lo) (n2 : lo≠wa) {l2 : List Addr} {d : Addr} {q : Int->Bool} {v : Nat} (hv : v < n) (h1 : H9 lo = some (.list (l2.map AV.ref))) (hd : H9 d = some (.set (aK q))) :
  bk H7 (an H9 lo (.list ((l2.map AV.ref).set v (.ref d)))) po n la lo wa ia p (fun t=>if t = v then q else p2 t) wl iw:=by
 refine bc fun GG=>?_
 obtain ⟨l1,R1,e1⟩:=L.r1
 obtain ⟨l2',R2,e2⟩:=L.r2
 obtain ⟨es,g1,g2,g3⟩:=L.i
 obtain ⟨hs,n3,n4,n5⟩:=L.ne
 refine GG ?_
 have hl : l2.map AV.ref = l2'.map AV.ref:=by
  have:=R2.top
  rw [h1] at this
  injection this with this
  injection this
 refine aa (hl ..) ?_
 have hk : ∀ x xs,H9 x = some (.set xs)->an H9 lo (.list ((l2'.map AV.ref).set v (.ref d))) x = some (.set xs):=fun x xs h=>by refine aa (aj (hs x xs h).2.1) ?_; exact h
 exact ⟨fun x o a b c' d' h=>by refine aa (aj b) ?_; exact L.keep x o a b c' d' h,⟨l1,R1.keep (fun o h=>by refine aa (aj n1) ?_; exact h) hk,e1⟩,⟨_,R2.put (by exact aU hv e2) (ad _ _ _) hk hd,by refine aa (List.length_set ..) ?_; exact e2⟩,
  by refine aa (aj (Ne.symm n2)) ?_; exact L.w,es,by refine aa (aj (Ne.symm n4)) ?_; exact g1,g2,g3⟩
theorem bk.app (L : bk H7 H9 po n la lo wa ia p p2 wl iw) (n1 : la≠wa) (n2 : lo≠wa) {x : Nat} : bk H7 (an H9 wa (.list (wl.map ak ++ [ak x]))) po n la lo wa ia p p2 (wl ++ [x]) iw:=by
 refine bc fun GG=>?_
 obtain ⟨l1,R1,e1⟩:=L.r1
 obtain ⟨l2,R2,e2⟩:=L.r2
 obtain ⟨es,g1,g2,g3⟩:=L.i
 obtain ⟨hs,n3,n4,n5⟩:=L.ne
 refine GG ?_
 have hk : ∀ y xs,H9 y = some (.set xs)->an H9 wa (.list (wl.map ak ++ [ak x])) y = some (.set xs):=fun y xs h=>by refine aa (aj (hs y xs h).2.2.1) ?_; exact h
 exact ⟨fun x o a b c' d' h=>by refine aa (aj c') ?_; exact L.keep x o a b c' d' h,⟨l1,R1.keep (fun o h=>by refine aa (aj n1) ?_; exact h) hk,e1⟩,⟨l2,R2.keep (fun o h=>by refine aa (aj n2) ?_; exact h) hk,e2⟩,
  by refine aa (ad ..) ?_; simp,es,by refine aa (aj (Ne.symm n5)) ?_; exact g1,g2,g3⟩
theorem bk.setW (L : bk H7 H9 po n la lo wa ia p p2 wl iw) {es : List (Int × AV)} (h : H9 ia = some (.dict es)) {v : Nat} (hv : v∈po) (b : Bool) : bk H7 (an H9 ia (.dict (cV es (v : Int) (.bool b)))) po n la lo wa ia p p2 wl (fun x=>if x = v then b else iw x):=by
 refine bc fun GG=>?_
 obtain ⟨l1,R1,e1⟩:=L.r1
 obtain ⟨l2,R2,e2⟩:=L.r2
 obtain ⟨es',g1,g2,g3⟩:=L.i
 obtain ⟨hs,n3,n4,n5⟩:=L.ne
 have he : es = es':=by
  rw [h] at g1
  injection g1 with g1
  injection g1
 clear g1; subst he
 refine GG ?_
 have hk : ∀ y xs,H9 y = some (.set xs)->an H9 ia (.dict (cV es (v : Int) (.bool b))) y = some (.set xs):=fun y xs h=>by refine aa (aj (hs y xs h).2.2.2) ?_; exact h
 refine ⟨fun x o a b c' d' h=>by refine aa (aj d') ?_; exact L.keep x o a b c' d' h,⟨l1,R1.keep (fun o h=>by refine aa (aj n3) ?_; exact h) hk,e1⟩,⟨l2,R2.keep (fun o h=>by refine aa (aj n4) ?_; exact h) hk,e2⟩,
  by refine aa (aj n5) ?_; exact L.w,_,ad _ _ _,by refine aa (jz (g3 v hv)) ?_; exact g2,fun x hx=>?_⟩
 refine aa (cb ..) ?_
 by_cases e : x = v
 ·clear hv GG hk; subst e; exact aa (if_pos rfl) (aa (if_pos rfl) rfl)
 ·refine aa (if_neg (by exact iO e)) (aa (if_neg e) ?_); exact g3 x hx
end
theorem sh {p q : Int->Bool} (h : ∀ r∈aA,p r = true->q r = true) : (aK p).Sublist (aK q):=by
 have : aK p = (aK q).filter p:=by
  unfold aK
  refine aa (List.filter_filter ..) ?_
  refine List.filter_congr fun r hr=>?_
  cases hp : p r with
  | true=>refine aa (h r hr hp) ?_; rfl
  | false=>rfl
 refine aa (this ..) ?_
 exact List.filter_sublist
theorem vn {p q : Int->Bool} (h : ∀ r∈aA,p r = true->q r = true) (hne : aK q≠aK p) : (aK p).length < (aK q).length:=by
 have s:=sh h
 rcases Nat.lt_or_ge (aK p).length (aK q).length with h' | h'
 ·exact h'
 ·exact absurd (s.eq_of_length_le h').symm hne
theorem oW {p q : Int->Bool} (h : ∀ r∈aA,p r = q r) : aK p = aK q:=List.filter_congr h
theorem sq {p q : Int->Bool} (h : aK p = aK q) {r : Int} (hr : r∈aA) : p r = true↔q r = true:=by
 have h1 : r∈aK p↔r∈aK q:=by rw [h]
 rw [br,br] at h1
 exact ⟨fun z=>(h1.mp ⟨hr,z⟩).2,fun z=>(h1.mpr ⟨hr,z⟩).2⟩
theorem gc {p : Int->Bool} {r : Int} (hr : r∈aA) : (aK p).contains r = p r:=by
 refine aa (propext (Bool.eq_iff_iff ..)) (aa (propext (List.contains_iff_mem ..)) (aa (propext (br ..)) ?_))
 exact ⟨fun h=>h.2,fun h=>⟨hr,h⟩⟩
theorem qZ {α : Type} {f g : α->Nat} : ∀ {l : List α},(∀ x∈l,f x<=g x)->(l.map f).sum<=(l.map g).sum
 | [],_=>Nat.le_refl _
 | x :: l,h=>by
  refine aa (List.map_cons ..) (aa (List.map_cons ..) (aa (List.sum_cons ..) (aa (List.sum_cons ..) ?_)))
  have:=qZ (l:=l) fun y hy=>h y (.tail _ hy)
  have:=h x (.head _)
  exact Ao this ‹_›
theorem rb {α : Type} {f g : α->Nat} : ∀ {l : List α},(∀ x∈l,f x<=g x)->(∃ x∈l,f x < g x)->(l.map f).sum < (l.map g).sum
 | [],_,h=>by obtain ⟨x,hx,_⟩:=h; exact nomatch hx
 | x :: l,h,hx=>by
  refine aa (List.map_cons ..) (aa (List.map_cons ..) (aa (List.sum_cons ..) (aa (List.sum_cons ..) ?_)))
  have h1:=h x (.head _)
  have h2:=qZ (l:=l) fun y hy=>h y (.tail _ hy)
  obtain ⟨y,hy,hlt⟩:=hx
  rcases List.mem_cons.mp hy with e | hm
  ·clear h h1 hy; subst e; exact yQ hlt h2
  ·have:=rb (l:=l) (fun y hy=>h y (.tail _ hy)) ⟨y,hm,hlt⟩
   exact xC this h1
def fQ (n : Nat) (p : Nat->Int->Bool) : Nat:=((List.range n).map fun v=>7 - (aK (p v)).length).sum
theorem qM (n : Nat) (p : Nat->Int->Bool) : fQ n p<=7 * n:=by
 unfold fQ
 have : ∀ l : List Nat,(l.map fun v=>7 - (aK (p v)).length).sum<=7 * l.length:=by
  intro l
  induction l with
  | nil=>exact Nat.le_refl _
  | cons x l ih=>
   refine aa (List.map_cons ..) (aa (List.sum_cons ..) (aa (List.length_cons ..) ?_)); exact ye ih
 have:=this (List.range n)
 rwa [List.length_range] at this
theorem rj {n : Nat} {p : Nat->Int->Bool} {v : Nat} {q : Int->Bool} (hv : v < n) (h : ∀ r∈aA,p v r = true->q r = true) (hne : aK q≠aK (p v)) : fQ n (fun t=>if t = v then q else p t) < fQ n p:=by
 have hlt:=vn h hne
 have h7:=gX q
 refine rb (fun x hx=>?_) ⟨v,List.mem_range.mpr hv,?_⟩
 ·try dsimp only
  by_cases e : x = v
  ·clear hv h hne; subst e; refine aa (if_pos rfl) ?_; exact yn hlt
  ·refine aa (if_neg e) ?_; exact Nat.le_refl _
 ·try dsimp only
  refine aa (if_pos rfl) ?_; exact xT hlt h7
theorem bg {α : Type} {l : List α} {i : Nat} {x : α} (h : l[i]? = some x) (y : α) : y∈l.take (i + 1)↔y∈l.take i\/y = x:=by
 rw [az h,List.mem_append,List.mem_singleton]
theorem jd {α : Type} {l : List α} {i : Nat} {x : α} (h : l[i]? = some x) : l.drop i = x :: l.drop (i + 1):=by
 refine bc fun GG=>?_
 obtain ⟨h1,h2⟩:=List.getElem?_eq_some_iff.mp h
 refine GG ?_
 exact aa (List.drop_eq_getElem_cons h1) (aa (h2 ..) rfl)
structure eD (G : List cI) (po : List Nat) (p p2 : Nat->Int->Bool) (wl : List Nat) (at_ : Nat) (iw : Nat->Bool) : Prop where
 le : at_<=wl.length
 inw : ∀ x∈wl,x∈po
 wait : ∀ x∈po,iw x = true->x∈wl.drop at_
 snd : ∀ v∈po,∀ r∈aA,p v r = true->Lv G r v
 pre : ∀ v∈po,∀ r∈aA,p v r = true->r∈eV G v\/(r∉ey G v/\∃ u∈ah G v,p u r = true)
 fix : ∀ v∈po,iw v = false->∀ r∈aA,(p v r = true↔r∈eV G v\/(r∉ey G v/\∃ u∈ah G v,p u r = true))/\(p2 v r = true↔∃ u∈ah G v,p u r = true)
theorem eD.end {G : List cI} {po : List Nat} {p p2 : Nat->Int->Bool} {wl : List Nat} {at_ : Nat} {iw : Nat->Bool} (I : eD G po p p2 wl at_ iw) (hcl : ∀ v∈po,∀ u∈ah G v,u∈po) (he : wl.length<=at_) {v : Nat} (hv : v∈po) {r : Int} (hr : r∈aA) :
  (p v r = true↔Lv G r v)/\(p2 v r = true↔∃ u∈ah G v,Lv G r u):=by
 have hw : ∀ x∈po,iw x = false:=fun x hx=>by
  cases h : iw x with
  | false=>rfl
  | true=>
   have:=I.wait x hx h
   rw [List.drop_eq_nil_of_le he] at this; exact nomatch this
 have h1 : ∀ v∈po,Lv G r v->p v r = true:=fun v hv h=>by
  induction h with
  | use h=>exact ((I.fix _ hv (hw _ hv) r hr).1).mpr (.inl h)
  | thru h hu _ ih=>exact ((I.fix _ hv (hw _ hv) r hr).1).mpr (.inr ⟨h,_,hu,ih (hcl _ hv _ hu)⟩)
 refine ⟨⟨I.snd v hv r hr,h1 v hv⟩,?_⟩
 refine aa (propext ((I.fix v hv (hw v hv) r hr).2)) ?_
 exact ⟨fun ⟨u,hu,h⟩=>⟨u,hu,I.snd u (hcl v hv u hu) r hr h⟩,fun ⟨u,hu,h⟩=>⟨u,hu,h1 u (hcl v hv u hu) h⟩⟩
section
variable {G : List cI} {po : List Nat} {p p2 : Nat->Int->Bool} {wl : List Nat} {at_ v : Nat} {iw : Nat->Bool} {beh q : Int->Bool}
theorem eD.grow (I : eD G po p p2 wl at_ iw) (hv : v∈po) (hb : ∀ r∈aA,beh r = true↔∃ u∈ah G v,p u r = true) (hq : ∀ r∈aA,q r = true↔r∈eV G v\/(beh r = true/\r∉ey G v)) : ∀ r∈aA,p v r = true->q r = true:=fun r hr h=>by
 refine aa (propext (hq r hr)) (aa (propext (hb r hr)) ?_)
 exact (I.pre v hv r hr h).imp id fun z=>⟨z.2,z.1⟩
theorem eD.keepS (I : eD G po p p2 wl at_ iw) (hat : wl[at_]? = some v) (hb : ∀ r∈aA,beh r = true↔∃ u∈ah G v,p u r = true) (hq : ∀ r∈aA,q r = true↔r∈eV G v\/(beh r = true/\r∉ey G v)) (he : aK q = aK (p v)) :
  eD G po p (fun t=>if t = v then beh else p2 t) wl (at_ + 1) (fun x=>if x = v then false else iw x):=by
 have hl:=(List.getElem?_eq_some_iff.mp hat).1
 refine ⟨hl,I.inw,fun x hx h=>?_,I.snd,I.pre,fun x hx h r hr=>?_⟩
 ·try dsimp only at h
  by_cases e : x = v
  ·rw [if_pos e] at h; exact nomatch h
  ·rw [if_neg e] at h
   have:=I.wait x hx h
   rw [jd hat] at this
   exact (List.mem_cons.mp this).resolve_left e
 ·try dsimp only at h ⊢
  by_cases e : x = v
  ·clear hat h; subst e
   refine aa (if_pos rfl) ?_
   refine ⟨?_,hb r hr⟩
   rw [<-sq he hr,hq r hr,hb r hr]
   exact ⟨fun z=>z.imp id fun w=>⟨w.2,w.1⟩,fun z=>z.imp id fun w=>⟨w.2,w.1⟩⟩
  ·rw [if_neg e] at h ⊢
   exact I.fix x hx h r hr
theorem eD.turn (I : eD G po p p2 wl at_ iw) (hcl : ∀ v∈po,∀ u∈ah G v,u∈po) (hat : wl[at_]? = some v) (hb : ∀ r∈aA,beh r = true↔∃ u∈ah G v,p u r = true) (hq : ∀ r∈aA,q r = true↔r∈eV G v\/(beh r = true/\r∉ey G v))
  {nw : List Nat} {iw' : Nat->Bool} (h1 : ∀ x∈nw,x∈po) (h2 : ∀ x∈po,iw' x = true->(iw x = true/\x≠v)\/x∈nw) (h3 : ∀ x∈po,v∈ah G x->iw' x = true) (h4 : ∀ x∈po,x≠v->iw x = true->iw' x = true) :
  eD G po (fun t=>if t = v then q else p t) (fun t=>if t = v then beh else p2 t) (wl ++ nw) (at_ + 1) iw':=by
 have hl:=(List.getElem?_eq_some_iff.mp hat).1
 have hv : v∈po:=I.inw v (List.mem_of_getElem? hat)
 have hg:=I.grow hv hb hq
 have hup : ∀ u r,r∈aA->p u r = true->(fun t=>if t = v then q else p t) u r = true:=fun u r hr h=>by
  try dsimp only
  by_cases e : u = v
  ·clear hat hb hq h2 h3 h4 hv; subst e; refine aa (if_pos rfl) ?_; exact hg r hr h
  ·refine aa (if_neg e) ?_; exact h
 refine ⟨by refine aa (List.length_append ..) ?_; exact yD hl,fun x hx=>(List.mem_append.mp hx).elim (I.inw x) (h1 x),fun x hx h=>?_,fun x hx r hr h=>?_,fun x hx r hr h=>?_,fun x hx h r hr=>?_⟩
 ·refine aa (List.drop_append_of_le_length hl) (aa (propext (List.mem_append ..)) ?_)
  rcases h2 x hx h with ⟨g1,g2⟩ | g
  ·have:=I.wait x hx g1
   rw [jd hat] at this
   exact .inl ((List.mem_cons.mp this).resolve_left g2)
  ·exact .inr g
 ·try dsimp only at h
  by_cases e : x = v
  ·clear hat h2 h3 h4 hv hg hup; subst e
   rw [if_pos rfl,hq r hr,hb r hr] at h
   rcases h with h | ⟨⟨u,hu,h⟩,hn⟩
   ·exact .use h
   ·exact .thru hn hu (I.snd u (hcl _ hx u hu) r hr h)
  ·rw [if_neg e] at h; exact I.snd x hx r hr h
 ·have h' : r∈eV G x\/(r∉ey G x/\∃ u∈ah G x,p u r = true):=by
   by_cases e : x = v
   ·clear hat h2 h3 h4 hv hg hup; subst e
    rw [if_pos rfl,hq r hr,hb r hr] at h
    exact h.imp id fun w=>⟨w.2,w.1⟩
   ·rw [if_neg e] at h; exact I.pre x hx r hr h
  exact h'.imp id fun ⟨a,u,hu,hp⟩=>⟨a,u,hu,hup u r hr hp⟩
 ·have hng : ∀ u∈ah G x,u≠v:=fun u hu e=>by
   clear hat hb hq h2 h4 hv hg hup; subst e
   rw [h3 x hx hu] at h; exact nomatch h
  have hex : (∃ u∈ah G x,(fun t=>if t = v then q else p t) u r = true)↔∃ u∈ah G x,p u r = true:=by
   constructor
   ·rintro ⟨u,hu,h⟩
    try dsimp only at h
    rw [if_neg (hng u hu)] at h
    exact ⟨u,hu,h⟩
   ·rintro ⟨u,hu,h⟩
    exact ⟨u,hu,hup u r hr h⟩
  refine aa (propext (hex ..)) ?_
  by_cases e : x = v
  ·clear hat h2 h3 h4 hv hg hup hng hex; subst e
   refine aa (if_pos rfl) (aa (if_pos rfl) ?_)
   refine ⟨?_,hb r hr⟩
   refine aa (propext (hq r hr)) (aa (propext (hb r hr)) ?_)
   exact ⟨fun z=>z.imp id fun w=>⟨w.2,w.1⟩,fun z=>z.imp id fun w=>⟨w.2,w.1⟩⟩
  ·refine aa (if_neg e) (aa (if_neg e) ?_)
   refine I.fix x hx ?_ r hr
   cases hi : iw x with
   | false=>rfl
   | true=>rw [h4 x hx e hi] at h; exact nomatch h
end
end
section
theorem aQ {H : ag} {a b : Addr} {o o' : AO} (h : H a = some o) (h' : H b = some o') (hne : o≠o') : a≠b:=fun e=>by
 rw [e,h'] at h
 injection h with h
 exact hne h.symm
structure rR (H : ag) (na : Addr) (G : List cI) (xs : List Nat) : Prop where
 is : ∃ es : List (Int × AV),H na = some (.dict es)/\es.length<=xs.length/\(∀ x∈xs,∃ t nd gv,es.lookup (x : Int) = some (.ref t)/\nd≠gv/\H t = some (.tuple [.ref nd,.ref gv])/\H nd = some (.set (eV G x))/\H gv = some (.set (ey G x)))/\
  ∀ z : Int,(es.lookup z).isSome = true->∃ y∈xs,z = (y : Int)
section
variable {c : Cx} {k : Nat} {H : ag} {Q : AV->ag->Prop}
theorem sn (hK : KF c.K) {f : Addr} {G : List cI} (hF : cA H f G) (hG : cm G)
  (q : ∀ (H' : ag) (t la lo : Addr) (l1 l2 : List Addr) (p p2 : Nat->Int->Bool),Sub H H'->H t = none->H' t = some (.tuple [.ref la,.ref lo])->cR H' la l1 p->cR H' lo l2 p2->l1.length = G.length->l2.length = G.length->
   (∀ v,bW (ah G) 0 v->∀ r∈aA,(p v r = true↔Lv G r v)/\(p2 v r = true↔∃ u∈ah G v,Lv G r u))->Q (.ref t) H') : AC c (k + 3) 162 [.ref f] H Q:=by
 refine aI (Ci hK) rfl ?_
 dsimp only [lc,mL,n7,mR,nv,mZ,ll,mu,nL,lP]
 refine bc fun GG=>?_
 obtain ⟨bl,bs,p0,s0,⟨dx,hf1,hf2⟩,hbl,hlen,hblk⟩:=hF.is
 refine GG ?_
 have hsix:=hG.six
 have hpos:=hG.pos
 repeat walk_at "step"
 refine bA (ar hbl) (by simp; exact im hlen hsix) ?_
 refine ax (I:=fun i acc H1=>∃ ls : List Addr,c0 (acc = ls.map AV.ref) (ls.length = i) (∀ l∈ls,H1 l = some (.set (aK fun _=>false))) (Sub H H1)) rfl _ 0 _ _ _
  ⟨[],rfl,rfl,by exact nofun,Sub.rfl⟩ (fun j v acc hv Ry_ hy_ Rn_ hn_ H1 hI=>?_) fun acc H1 hI=>?_
 ·refine bc fun GG=>?_
  clear hn_; obtain ⟨ls,rfl,hll,hls,s1⟩:=hI
  refine GG ?_
  repeat walk_at "step"
  refine dR fun d hd=>?_
  repeat walk_at "step"
  refine ⟨by refine aa (hbl ..) ?_; exact (s1.then hd) _ _ hbl,ls ++ [d],by simp,by simp [hll],fun l hl=>?_,s1.then hd⟩
  rcases List.mem_append.mp hl with h | h
  ·exact Sub.upd hd _ _ (hls l h)
  ·refine aa (List.mem_singleton.mp h) ?_; exact ad _ _ _
 refine bc fun GG=>?_
 obtain ⟨l1,rfl,hl1,hs1,s1⟩:=hI
 refine GG ?_
 intro la hla
 have hla0:=s1.none hla
 have s2:=s1.then (o:=.list (l1.map AV.ref)) hla
 have h2a : an H1 la (.list (l1.map AV.ref)) la = some (.list (l1.map AV.ref)):=ad _ _ _
 have hs2 : ∀ l∈l1,an H1 la (.list (l1.map AV.ref)) l = some (.set (aK fun _=>false)):=fun l hl=>Sub.upd hla _ _ (hs1 l hl)
 generalize an H1 la (.list (l1.map AV.ref)) = H2 at s2 h2a hs2
 repeat walk_at "step"
 refine bA (ar (s2 _ _ hbl)) (by simp; exact im hlen hsix) ?_
 refine ax (I:=fun i acc H3=>∃ ls : List Addr,c0 (acc = ls.map AV.ref) (ls.length = i) (∀ l∈ls,H3 l = some (.set (aK fun _=>false))) (Sub H2 H3)) rfl _ 0 _ _ _
  ⟨[],rfl,rfl,by exact nofun,Sub.rfl⟩ (fun j v acc hv Ry_ hy_ Rn_ hn_ H3 hI=>?_) fun acc H3 hI=>?_
 ·refine bc fun GG=>?_
  clear hn_; obtain ⟨ls,rfl,hll,hls,s3⟩:=hI
  refine GG ?_
  repeat walk_at "step"
  refine dR fun d hd=>?_
  repeat walk_at "step"
  refine ⟨by refine aa (s2 _ _ hbl) ?_; exact (s3.then hd) _ _ (s2 _ _ hbl),ls ++ [d],by simp,by simp [hll],fun l hl=>?_,s3.then hd⟩
  rcases List.mem_append.mp hl with h | h
  ·exact Sub.upd hd _ _ (hls l h)
  ·refine aa (List.mem_singleton.mp h) ?_; exact ad _ _ _
 refine bc fun GG=>?_
 obtain ⟨l2,rfl,hl2,hs3,s3⟩:=hI
 refine GG ?_
 intro lo hlo
 have nal : la≠lo:=fun e=>by rw [<-e,s3 _ _ h2a] at hlo; exact ns hlo.symm
 have hlo0:=(s2.trans s3).none hlo
 have s4 : Sub H (an H3 lo (.list (l2.map AV.ref))):=(s2.trans s3).then hlo
 have h4a : an H3 lo (.list (l2.map AV.ref)) la = some (.list (l1.map AV.ref)):=Sub.upd hlo _ _ (s3 _ _ h2a)
 have h4o : an H3 lo (.list (l2.map AV.ref)) lo = some (.list (l2.map AV.ref)):=ad _ _ _
 have h4s1 : ∀ l∈l1,an H3 lo (.list (l2.map AV.ref)) l = some (.set (aK fun _=>false)):=fun l hl=>Sub.upd hlo _ _ (s3 _ _ (hs2 l hl))
 have h4s2 : ∀ l∈l2,an H3 lo (.list (l2.map AV.ref)) l = some (.set (aK fun _=>false)):=fun l hl=>Sub.upd hlo _ _ (hs3 l hl)
 have fq : l1.length = G.length:=by refine aa (hl1 ..) ?_; simp [hlen]
 have gT : l2.length = G.length:=by refine aa (hl2 ..) ?_; simp [hlen]
 clear s1 hs1 s2 h2a hs2 hs3 s3 hl1 hl2
 generalize an H3 lo (.list (l2.map AV.ref)) = H4 at s4 h4a h4o h4s1 h4s2
 clear hla hlo
 repeat walk_at "step"
 refine f6 hK (hF.sub s4) hG fun H5 ba ls s5 hba hls hll R5=>?_
 repeat walk_at "step"
 refine fP hK (hF.sub (s4.trans s5)) hG fun H6 wa po seen s6 hwa h6w ps=>?_
 have D:=ps.dfs (n:=G.length) (fun v hv=>(aX hG hv).2) hpos
 clear ps
 have hpl : po.length<=G.length:=a9 D.nd D.lt
 repeat walk_at "step"
 refine d7 fun na hna=>?_
 repeat walk_at "step"
 refine d7 fun ia hia=>?_
 repeat walk_at "step"
 have nia : ia≠na:=ai hia (ad _ _ _)
 rw [aj nia] at hia
 have hia0:=(s4.trans (s5.trans s6)).none hia
 have hwa0:=(s4.trans s5).none hwa
 have nwn : wa≠na:=fun e=>by rw [e,hna] at h6w; exact ns h6w
 have nwi : wa≠ia:=fun e=>by rw [e,hia] at h6w; exact ns h6w
 have k6 : ∀ x o,H6 x = some o->x≠na/\x≠ia:=fun x o hx=>⟨Ne.symm (ai hna hx),Ne.symm (ai hia hx)⟩
 refine cP (ar (by refine aa (aj nwi) (aa (aj nwn) ?_); exact h6w)) ?_
 refine aD (I:=fun i m H7=>c0 (nk (m "live_in" = some (.ref la)) (m "live_out" = some (.ref lo)) (m "before" = some (.ref ba)) (m "waiting" = some (.ref wa)) (m "needs" = some (.ref na)) (m "is_waiting" = some (.ref ia)) (m "func" = some (.ref f))) (Sub H6 H7) (rR H7 na G (po.take i)) (∃ es : List (Int × AV),bC (H7 ia = some (.dict es)) (es.length<=i) (∀ x∈po.take i,es.lookup (x : Int) = some (.bool true)))) rfl _ 0 _ _
  ⟨⟨rfl,rfl,rfl,rfl,rfl,rfl,rfl⟩,fun x o hx=>by refine aa (aj (k6 x o hx).2) (aa (aj (k6 x o hx).1) ?_); exact hx,⟨[],by exact aa (aj (Ne.symm nia)) (aa (ad ..) rfl),Nat.zero_le _,by exact nofun,by exact nofun⟩,[],ad _ _ _,Nat.le_refl _,by simp⟩ (fun i R_ hR_ hr_ v m H7 hv hI=>?_) fun m H7 hI=>?_
 ·refine bc fun GG=>?_
  obtain ⟨⟨e1,e2,e3,e4,e5,e6,e7⟩,s7,hN,es,h7i,hel,hes⟩:=hI
  refine GG ?_
  rw [Nat.zero_add] at *
  rw [List.getElem?_map] at hv
  refine bc fun GG=>?_
  obtain ⟨x,hx,rfl⟩:=Option.map_eq_some_iff.mp hv
  refine GG ?_
  have hxn:=D.lt x (List.mem_of_getElem? hx)
  have htk:=az hx
  have hbxl : x < bs.length:=by exact aU hxn hlen
  have hbx : bs[x]? = some bs[x]:=List.getElem?_eq_getElem hbxl
  have hGx : G[x]? = some G[x]:=List.getElem?_eq_getElem hxn
  have sH7:=(s4.trans (s5.trans s6)).trans s7
  have hil:=(List.getElem?_eq_some_iff.mp hx).1
  repeat walk_at "step"
  refine bn (j:=x) (sH7 _ _ hbl) (by simp; exact bE hlen hsix) (aJ (by simp; exact aU hxn hlen)) (by refine aa (List.getElem?_map) (aa (hbx ..) ?_); rfl) ?_
  refine qG hK ((hblk x bs[x] G[x] hbx hGx).sub sH7) (hG.blk _ (List.getElem_mem hxn)) fun H8 t nd gv s8 ht hnd hgv hne h8t h8n h8g=>?_
  refine bc fun GG=>?_
  obtain ⟨esn,hn1,hnl,hn2,hn3⟩:=hN.is
  refine GG ?_
  have ed : (cZ G[x]).1 = eV G x:=by unfold eV; exact aa (hGx ..) rfl
  have eg : (cZ G[x]).2 = ey G x:=by unfold ey; exact aa (hGx ..) rfl
  rw [ed] at h8n
  rw [eg] at h8g
  have htl : (po.take i).length<=6:=by have:=List.length_take_le' i po; exact jg hsix hpl this
  repeat walk_at "step"
  refine cr (s8 _ _ hn1) (by exact kc htl hnl) ?_
  repeat walk_at "step"
  have h9i : an H8 na (.dict (cV esn (x : Int) (.ref t))) ia = some (.dict es):=by refine aa (aj nia) ?_; exact s8 _ _ h7i
  refine cr h9i (by exact rp hil hpl hsix hel) ?_
  repeat walk_at "step"
  have kk : ∀ y o v1 v2,y≠na->y≠ia->H8 y = some o->an (an H8 na v1) ia v2 y = some o:=fun y o v1 v2 h1 h2 h3=>by
   refine aa (aj h2) (aa (aj h1) ?_); exact h3
  have h8na:=s8 _ _ hn1
  have h8ia:=s8 _ _ h7i
  refine ⟨?_,⟨e1,e2,e3,e4,e5,e6,e7⟩,fun y o hy=>kk y o _ _ (k6 y o hy).1 (k6 y o hy).2 (s8 _ _ (s7 _ _ hy)),⟨cV esn (x : Int) (.ref t),by exact aa (aj (Ne.symm nia)) (aa (ad ..) rfl),?_,fun y hy=>?_,fun z hz=>?_⟩,cV es (x : Int) (.bool true),ad _ _ _,by have:=eS es (x : Int) (.bool true); exact kF this hel,fun y hy=>?_⟩
  ·exact aa (kk _ _ _ _ nwn nwi (s8 _ _ (s7 _ _ h6w))) (aa (aj nwi) (aa (aj nwn) (aa (h6w ..) rfl)))
  ·have:=eS esn (x : Int) (.ref t)
   refine aa (htk ..) (aa (List.length_append ..) (aa (List.length_singleton ..) ?_)); exact kF this hnl
  ·refine aa (cb ..) ?_
   by_cases e : y = x
   ·clear hx hv hxn htk hbxl hbx hGx GG ed eg h9i; subst e
    refine aa (if_pos rfl) ?_
    exact ⟨t,nd,gv,rfl,hne,kk _ _ _ _ (aQ h8t h8na fun e=>by contradiction) (aQ h8t h8ia fun e=>by contradiction) h8t,kk _ _ _ _ (aQ h8n h8na fun e=>by contradiction) (aQ h8n h8ia fun e=>by contradiction) h8n,kk _ _ _ _ (aQ h8g h8na fun e=>by contradiction) (aQ h8g h8ia fun e=>by contradiction) h8g⟩
   ·refine aa (if_neg (by exact iO e)) ?_
    rw [htk] at hy
    refine bc fun GG=>?_
    obtain ⟨t',nd',gv',g1,g2,g3,g4,g5⟩:=hn2 y ((List.mem_append.mp hy).resolve_right fun h=>e (List.mem_singleton.mp h))
    refine GG ?_
    have g3:=s8 _ _ g3
    have g4:=s8 _ _ g4
    have g5:=s8 _ _ g5
    exact ⟨t',nd',gv',g1,g2,kk _ _ _ _ (aQ g3 h8na fun e=>by contradiction) (aQ g3 h8ia fun e=>by contradiction) g3,kk _ _ _ _ (aQ g4 h8na fun e=>by contradiction) (aQ g4 h8ia fun e=>by contradiction) g4,kk _ _ _ _ (aQ g5 h8na fun e=>by contradiction) (aQ g5 h8ia fun e=>by contradiction) g5⟩
  ·rw [cb] at hz
   (try rw [htk] at hR_)
   try refine aa (htk ..) ?_
   by_cases e : z = (x : Int)
   ·repeat walk_at "step"
    exact ⟨x,by simp,e⟩
   ·rw [if_neg e] at hz
    refine bc fun GG=>?_
    obtain ⟨y,hy,e'⟩:=hn3 z hz
    refine GG ?_
    exact ⟨y,List.mem_append_left _ hy,e'⟩
  ·refine aa (cb ..) ?_
   by_cases e : y = x
   ·clear hx hv hxn htk hbxl hbx hGx h8n h8g GG ed eg h9i; subst e; exact aa (if_pos rfl) rfl
   ·refine aa (if_neg (by exact iO e)) ?_
    rw [htk] at hy
    exact hes y ((List.mem_append.mp hy).resolve_right fun h=>e (List.mem_singleton.mp h))
 refine bc fun GG=>?_
 obtain ⟨⟨e1,e2,e3,e4,e5,e6,e7⟩,s7,hN,es,h7i,hel,hes⟩:=hI
 refine GG ?_
 have hll2 : 0 + (po.map ak).length = po.length:=by simp
 rw [hll2] at hN hel hes
 rw [List.take_length] at hN hes
 have nal4 : la≠wa:=fun e=>by rw [<-e,s5 _ _ h4a] at hwa; exact ns hwa.symm
 have nol4 : lo≠wa:=fun e=>by rw [<-e,s5 _ _ h4o] at hwa; exact ns hwa.symm
 have hbaG : ba≠la/\ba≠lo/\ba≠wa/\ba≠ia:=⟨ai hba h4a,ai hba h4o,Ne.symm (ai hwa R5.top),(k6 _ _ (s6 _ _ R5.top)).2⟩
 have hlsG : ∀ (t : Nat) (l : Addr),ls[t]? = some l->l≠la/\l≠lo/\l≠wa/\l≠ia:=fun t l hl=>by
  have h0:=hls l (List.mem_of_getElem? hl)
  have hr:=R5.row t l hl
  exact ⟨ai h0 h4a,ai h0 h4o,Ne.symm (ai hwa hr),(k6 _ _ (s6 _ _ hr)).2⟩
 have hoG : ∀ x o,H x = some o->x≠la/\x≠lo/\x≠wa/\x≠ia:=fun x o hx=>⟨Ne.symm (ai hla0 hx),Ne.symm (ai hlo0 hx),Ne.symm (ai hwa0 hx),Ne.symm (ai hia0 hx)⟩
 have hnG : na≠la/\na≠lo/\na≠wa/\na≠ia:=⟨fun e=>(k6 _ _ (s6 _ _ (s5 _ _ h4a))).1 e.symm,fun e=>(k6 _ _ (s6 _ _ (s5 _ _ h4o))).1 e.symm,Ne.symm nwn,Ne.symm nia⟩
 have s57:=s5.trans (s6.trans s7)
 have R7:=R5.sub (s6.trans s7)
 have sH7:=s4.trans s57
 have L0 : bk H7 H7 po G.length la lo wa ia (fun _ _=>false) (fun _ _=>false) po (fun _=>true):=
  ⟨fun _ _ _ _ _ _ h=>h,⟨l1,⟨s57 _ _ h4a,fun t l hl=>s57 _ _ (h4s1 l (List.mem_of_getElem? hl))⟩,fq⟩,⟨l2,⟨s57 _ _ h4o,fun t l hl=>s57 _ _ (h4s2 l (List.mem_of_getElem? hl))⟩,gT⟩,s7 _ _ h6w,es,h7i,hel,hes⟩
 have hcl : ∀ v∈po,∀ u∈ah G v,u∈po:=fun v hv u hu=>(D.mem u).mpr (bW.step ((D.mem v).mp hv) hu)
 have I0 : eD G po (fun _ _=>false) (fun _ _=>false) po 0 (fun _=>true):=⟨Nat.zero_le _,fun _ h=>h,fun x hx _=>hx,fun _ _ _ _ h=>(by exact nomatch h),fun _ _ _ _ h=>(by exact nomatch h),fun _ _ h=>(by exact nomatch h)⟩
 clear h4s1 h4s2 s5 s6 hba hls R5 hwa h6w k6 hna hia nwn nwi nia s57 hel hes h7i h4a h4o
 repeat walk_at "step"
 refine bK (fun ms m H9=>(nk (m "live_in" = some (.ref la)) (m "live_out" = some (.ref lo)) (m "before" = some (.ref ba)) (m "waiting" = some (.ref wa)) (m "needs" = some (.ref na)) (m "is_waiting" = some (.ref ia)) (m "func" = some (.ref f)))/\A8 fun (p p2 : Nat->Int->Bool) (wl : List Nat) (at_ : Nat) (iw : Nat->Bool)=>fJ (m "at" = some (ak at_)) (bk H7 H9 po G.length la lo wa ia p p2 wl iw) (eD G po p p2 wl at_ iw) (ms = fQ G.length p * 7 + (wl.length - at_)) (wl.length + 6 * fQ G.length p<=300)) ?_ (fQ G.length (fun _ _=>false) * 7 + (po.length - 0))
  ⟨⟨e1,e2,e3,e4,e5,e6,e7⟩,_,_,po,0,_,rfl,L0,I0,rfl,by have:=qM G.length (fun _ _=>false); exact yC this hsix hpl⟩
 have L0':=L0
 clear L0 I0 e1 e2 e3 e4 e5 e6 e7
 intro ms R_ hR_ hr_ m H9 hzz
 refine bc fun GG=>?_
 obtain ⟨⟨e1,e2,e3,e4,e5,e6,e7⟩,p,p2,wl,at_,iw,e8,L,I,rfl,hwl⟩:=hzz
 refine GG ?_
 repeat walk_at "step"
 refine cF (.inl ⟨_,L.w,rfl⟩) (by simp; exact CJ hwl) ?_
 refine aa (List.length_map ..) ?_
 repeat walk_at "step"
 refine bc fun GG=>?_
 obtain ⟨l1',R1,hl1'⟩:=L.r1
 obtain ⟨l2',R2,hl2'⟩:=L.r2
 obtain ⟨esi,hi1,hi2,hi3⟩:=L.i
 refine GG ?_
 cases hlt : decide ((at_ : Int) < (wl.length : Int)) with
 | false=>
  have hlt:=of_decide_eq_false hlt
  refine fD rfl ?_
  repeat walk_at "step"
  refine ⟨by simp,fun t ht=>?_⟩
  have sH : Sub H H9:=fun x o hx=>by
   have g:=hoG x o hx
   exact L.keep x o g.1 g.2.1 g.2.2.1 g.2.2.2 (sH7 x o hx)
  repeat walk_at "step"
  refine q _ t la lo l1' l2' p p2 (sH.then ht) (sH.none ht) (ad _ _ _) (R1.keep (fun o h=>Sub.upd ht _ _ h) fun x xs h=>Sub.upd ht _ _ h) (R2.keep (fun o h=>Sub.upd ht _ _ h) fun x xs h=>Sub.upd ht _ _ h) hl1' hl2' fun v hv r hr=>I.end hcl (by exact yY hlt) ((D.mem v).mpr hv) hr
 | true=>
  have hlt:=of_decide_eq_true hlt
  have hatl : at_ < wl.length:=by exact uJ hlt
  have hat : wl[at_]? = some wl[at_]:=List.getElem?_eq_getElem hatl
  generalize wl[at_] = v at hat
  have hvp : v∈po:=I.inw v (List.mem_of_getElem? hat)
  have hvn:=D.lt v hvp
  have hgv:=aX hG hvn
  refine eU rfl ?_
  repeat walk_at "step"
  refine bn (j:=at_) L.w (by simp; exact CQ hwl) (aJ (by simp; exact dr hatl)) (by refine aa (List.getElem?_map) (aa (hat ..) ?_); rfl) ?_
  repeat walk_at "step"
  refine oK ?_
  repeat walk_at "step"
  refine cr hi1 (by exact tr hsix hpl hi2) ?_
  have L1:=L.setW hi1 hvp false
  generalize an H9 ia (.dict (cV esi (v : Int) (.bool false))) = H10 at L1
  repeat walk_at "step"
  refine dR fun db hdb=>?_
  have L2:=L1.sub (Sub.upd (o:=.set []) hdb)
  have h11d : an H10 db (.set []) db = some (.set (aK fun _=>false)):=ad _ _ _
  have s11 : aV db H10 (an H10 db (.set [])):=fun x o hx hxo=>by refine aa (aj hx) ?_; exact hxo
  have kk : ∀ {Hx : ag},bk H7 Hx po G.length la lo wa ia p p2 wl (fun x=>if x = v then false else iw x)->∀ x o,H x = some o->Hx x = some o:=fun Lx x o hx=>by
   have g:=hoG x o hx
   exact Lx.keep x o g.1 g.2.1 g.2.2.1 g.2.2.2 (sH7 x o hx)
  have hbvl : v < bs.length:=by exact aU hvn hlen
  have hbv : bs[v]? = some bs[v]:=List.getElem?_eq_getElem hbvl
  generalize an H10 db (.set []) = H11 at L2 h11d s11
  repeat walk_at "step"
  have hf1':=kk L2 _ _ hf1
  have hf2':=kk L2 _ _ hf2
  repeat walk_at "step"
  refine bn (j:=v) (kk L2 _ _ hbl) (by simp; exact bE hlen hsix) (aJ (by simp; exact aU hvn hlen)) (by refine aa (List.getElem?_map) (aa (hbv ..) ?_); rfl) ?_
  refine jL hK (fun i b B h1 h2=>(hblk i b B h1 h2).sub (kk L2)) hvn hbv fun H12 d s12 hd h12d=>?_
  have L3:=L2.sub s12
  have h12b:=s12 _ _ h11d
  have ndb : d≠db:=ai hd h11d
  repeat walk_at "step"
  refine cP (ar h12d) ?_
  refine aD (I:=fun j m H13=>bC (sM (m "live_in" = some (.ref la)) (m "live_out" = some (.ref lo)) (m "before" = some (.ref ba)) (m "waiting" = some (.ref wa)) (m "needs" = some (.ref na)) (m "is_waiting" = some (.ref ia)) (m "func" = some (.ref f)) (m "at" = some (ak (at_ + 1))) (m "number" = some (ak v)) (m "behind" = some (.ref db))) (aV db H12 H13) (∃ b : Int->Bool,H13 db = some (.set (aK b))/\∀ r∈aA,(b r = true↔∃ u∈(ah G v).take j,p u r = true))) rfl _ 0 _ _
   ⟨⟨e1,e2,e3,e4,e5,e6,e7,rfl,rfl,rfl⟩,fun _ _ _ h=>h,_,h12b,fun r hr=>by simp⟩ (fun j R_ hR_ hr_ vv m H13 hvv hI=>?_) fun m H13 hI=>?_
  ·refine bc fun GG=>?_
   obtain ⟨⟨e1,e2,e3,e4,e5,e6,e7,e8,e9,e10⟩,s13,b,h13b,hb⟩:=hI
   refine GG ?_
   rw [Nat.zero_add] at *
   rw [List.getElem?_map] at hvv
   refine bc fun GG=>?_
   obtain ⟨u,hu,rfl⟩:=Option.map_eq_some_iff.mp hvv
   have hun:=hgv.2 u (List.mem_of_getElem? hu)
   obtain ⟨m1,M1,hm1⟩:=L3.r1
   refine GG ?_
   have nlb : la≠db:=fun e=>by
    have:=M1.top
    rw [e,h12b] at this; exact nomatch this
   have h13l:=s13 _ _ nlb M1.top
   have hmul : u < m1.length:=by exact aU hun hm1
   have hmu : m1[u]? = some m1[u]:=List.getElem?_eq_getElem hmul
   have hrow:=M1.row u _ hmu
   have nub : m1[u]≠db:=fun e=>by
    refine bc fun GG=>?_
    obtain ⟨m0,M0,hm0⟩:=L1.r1
    refine GG ?_
    have ht:=M0.top
    have h1:=s12 _ _ (s11 _ _ (fun e=>by rw [e,hdb] at ht; exact ns ht) ht)
    rw [M1.top] at h1
    injection h1 with h1
    injection h1 with h1
    have h2 : m1 = m0:=by
     have:=congrArg (List.map fun v : AV=>match v with | .ref a=>a | _=>0) h1
     simpa [Function.comp_def] using this
    clear hm0 ht h1; subst h2
    have:=M0.row u _ hmu
    rw [e,hdb] at this; exact ns this
   repeat walk_at "step"
   refine bn (j:=u) h13l (by simp; exact bE hm1 hsix) (aJ (by simp; exact aU hun hm1)) (by refine aa (List.getElem?_map) (aa (hmu ..) ?_); rfl) ?_
   refine pE h13b (s13 _ _ nub hrow) (Ne.symm nub) ?_
   repeat walk_at "step"
   refine ⟨?_,⟨e1,e2,e3,e4,e5,e6,e7,e8,e9,rfl⟩,fun x o hx hxo=>by refine aa (aj hx) ?_; exact s13 x o hx hxo,_,ad _ _ _,fun r hr=>?_⟩
   ·exact aa (aj ndb) (aa (s13 _ _ ndb h12d) (aa (h12d ..) rfl))
   ·refine aa (Bool.or_eq_true ..) (aa (gc hr) (aa (gc hr) (aa (propext (hb r hr)) ?_)))
    constructor
    ·rintro (⟨x,hx,h⟩ | h)
     ·repeat walk_at "step"
      exact ⟨x,(bg hu x).mpr (.inl hx),h⟩
     ·repeat walk_at "step"
      exact ⟨u,(bg hu u).mpr (.inr rfl),h⟩
    ·intro hzz
     refine bc fun GG=>?_
     obtain ⟨x,hx,h⟩:=hzz
     refine GG ?_
     rcases (bg hu x).mp hx with h' | h'
     ·exact .inl ⟨x,h',h⟩
     ·rw [h'] at h; exact .inr h
  clear e1 e2 e3 e4 e5 e6 e7 e8
  refine bc fun GG=>?_
  obtain ⟨⟨e1,e2,e3,e4,e5,e6,e7,e8,e9,e10⟩,s13,beh,h13b,hb⟩:=hI
  refine GG ?_
  have hll3 : 0 + ((ah G v).map ak).length = (ah G v).length:=by simp
  rw [hll3,List.take_length] at hb
  have L4 : bk H7 H13 po G.length la lo wa ia p p2 wl (fun x=>if x = v then false else iw x):=L1.sub fun x o hx=>by
   have hne : x≠db:=Ne.symm (ai hdb hx)
   exact s13 _ _ hne (s12 _ _ (s11 _ _ hne hx))
  clear L2 L3 s11 s12 s13 h12b h12d hd ndb h11d
  repeat walk_at "step"
  refine bc fun GG=>?_
  obtain ⟨m2,M2,hm2⟩:=L4.r2
  refine GG ?_
  refine dv M2.top (by simp; exact jp hm2 hsix) (by exact dm) (by simp; exact aU hvn hm2) ?_
  have L5:=L4.setOut nal nol4 hvn M2.top h13b
  have nbo : db≠lo:=(L4.ne.1 _ _ h13b).2.1
  have h14b : an H13 lo (.list ((m2.map AV.ref).set v (.ref db))) db = some (.set (aK beh)):=by refine aa (aj nbo) ?_; exact h13b
  have eN : ((v : Int)).toNat = v:=rfl
  refine aa (eN ..) ?_
  generalize an H13 lo (.list ((m2.map AV.ref).set v (.ref db))) = H14 at L5 h14b
  clear L4 h13b M2 hm2 m2
  refine bc fun GG=>?_
  obtain ⟨esn,hn1,hnl,hn2,hn3⟩:=hN.is
  obtain ⟨tn,nd,gv,q1,q2,q3,q4,q5⟩:=hn2 v hvp
  refine GG ?_
  have hset : ∀ {Hx : ag},(∀ x o,x≠la->x≠lo->x≠wa->x≠ia->H7 x = some o->Hx x = some o)->∀ x o,(∀ xs,o≠.list xs)->(∀ es,o≠.dict es)->H7 x = some o->Hx x = some o:=fun hk x o h1 h2 hx=>by
   refine bc fun GG=>?_
   obtain ⟨l1,R1,_⟩:=L0'.r1
   obtain ⟨l2,R2,_⟩:=L0'.r2
   obtain ⟨es,g1,_⟩:=L0'.i
   refine GG ?_
   exact hk x o (aQ hx R1.top (h1 _)) (aQ hx R2.top (h1 _)) (aQ hx L0'.w (h1 _)) (aQ hx g1 (h2 _)) hx
  have q3':=hset L5.keep _ _ (fun _ e=>by contradiction) (fun _ e=>by contradiction) q3
  have q4':=hset L5.keep _ _ (fun _ e=>by contradiction) (fun _ e=>by contradiction) q4
  have q5':=hset L5.keep _ _ (fun _ e=>by contradiction) (fun _ e=>by contradiction) q5
  have hn1':=L5.keep _ _ hnG.1 hnG.2.1 hnG.2.2.1 hnG.2.2.2 hn1
  repeat walk_at "step"
  refine eC hn1' q1 ?_
  repeat walk_at "step"
  have nbg : db≠gv:=ai hdb (hset L1.keep _ _ (fun _ e=>by contradiction) (fun _ e=>by contradiction) q5)
  refine pj h14b q5' nbg fun d1 hd1=>?_
  have L6:=L5.sub (Sub.upd (o:=.set (aK fun i=>(aK beh).contains i && !(ey G v).contains i)) hd1)
  have nn1 : nd≠d1:=Ne.symm (ai hd1 q4')
  have q4'':=hset L6.keep _ _ (fun _ e=>by contradiction) (fun _ e=>by contradiction) q4
  have h15d : an H14 d1 (.set (aK fun i=>(aK beh).contains i && !(ey G v).contains i)) d1 = some (.set (aK fun i=>(aK beh).contains i && !(ey G v).contains i)):=ad _ _ _
  generalize an H14 d1 (.set (aK fun i=>(aK beh).contains i && !(ey G v).contains i)) = H15 at L6 q4'' h15d
  refine pS q4'' h15d nn1 fun d2 hd2=>?_
  refine bc fun GG=>?_
  obtain ⟨aq,haq⟩ : ∃ aq : Int->Bool,aq = fun i=>(eV G v).contains i || (aK fun i=>(aK beh).contains i && !(ey G v).contains i).contains i:=⟨_,rfl⟩
  refine GG ?_
  refine aa (Eq.symm (haq ..)) ?_
  have hq : ∀ r∈aA,aq r = true↔r∈eV G v\/(beh r = true/\r∉ey G v):=fun r hr=>by
   refine aa (haq ..) ?_
   try dsimp only
   rw [Bool.or_eq_true,List.contains_iff_mem,gc hr,Bool.and_eq_true,gc hr,Bool.not_eq_true',<-Bool.not_eq_true,List.contains_iff_mem]
  clear haq
  have L7:=L6.sub (Sub.upd (o:=.set (aK aq)) hd2)
  have h16d : an H15 d2 (.set (aK aq)) d2 = some (.set (aK aq)):=ad _ _ _
  generalize an H15 d2 (.set (aK aq)) = H16 at L7 h16d
  refine bc fun GG=>?_
  obtain ⟨m1,M1,hm1⟩:=L7.r1
  refine GG ?_
  have hmvl : v < m1.length:=by exact aU hvn hm1
  have hmv : m1[v]? = some m1[v]:=List.getElem?_eq_getElem hmvl
  have hrow:=M1.row v _ hmv
  repeat walk_at "step"
  refine bn (j:=v) M1.top (by simp; exact bE hm1 hsix) (aJ (by simp; exact aU hvn hm1)) (by rw [List.getElem?_map,hmv]; rfl) ?_
  refine md h16d hrow ?_
  repeat walk_at "step"
  cases hne : (aK aq != aK (p v)) with
  | false=>
   have heq : aK aq = aK (p v):=by simpa using hne
   repeat walk_at "step"
   refine ⟨fQ G.length p * 7 + (wl.length - (at_ + 1)),by exact B8 hlt,⟨e1,e2,e3,e4,e5,e6,e7⟩,p,_,wl,at_ + 1,_,e8,L7,I.keepS hat hb hq heq,rfl,hwl⟩
  | true=>
   have hneq : aK aq≠aK (p v):=by simpa using hne
   repeat walk_at "step"
   refine dv M1.top (by simp; exact jp hm1 hsix) (by exact dm) (by simp; exact aU hvn hm1) ?_
   have L8:=L7.setIn nal nal4 hvn M1.top h16d
   refine aa (eN ..) ?_
   generalize an H16 la (.list ((m1.map AV.ref).set v (.ref d2))) = H17 at L8
   have hvl : v < ls.length:=by exact aU hvn hll
   have lk : ls[v]? = some ls[v]:=List.getElem?_eq_getElem hvl
   have hlG:=hlsG v _ lk
   have h17b:=L8.keep _ _ hbaG.1 hbaG.2.1 hbaG.2.2.1 hbaG.2.2.2 R7.top
   have h17l:=L8.keep _ _ hlG.1 hlG.2.1 hlG.2.2.1 hlG.2.2.2 (R7.row v _ lk)
   have hpr6 : (ay G G.length v).length<=6:=by
    have:=List.length_filter_le (fun b=>(ah G b).contains v) (List.range G.length)
    rw [List.length_range] at this
    unfold ay; exact oX hsix this
   have hroom:=rj hvn (I.grow hvp hb hq) hneq
   repeat walk_at "step"
   refine bn (j:=v) h17b (by simp; exact bE hll hsix) (aJ (by simp; exact dr hvl)) (by refine aa (List.getElem?_map) (aa (lk ..) ?_); rfl) ?_
   repeat walk_at "step"
   refine cP (ar h17l) ?_
   refine aD (I:=fun j m H18=>(uE (m "live_in" = some (.ref la)) (m "live_out" = some (.ref lo)) (m "before" = some (.ref ba)) (m "waiting" = some (.ref wa)) (m "needs" = some (.ref na)) (m "is_waiting" = some (.ref ia)) (m "func" = some (.ref f)) (m "at" = some (ak (at_ + 1))))/\A4 fun (nw : List Nat) (iw' : Nat->Bool)=>fJ (bk H7 H18 po G.length la lo wa ia (fun t=>if t = v then aq else p t) (fun t=>if t = v then beh else p2 t) (wl ++ nw) iw') (nw.length<=j) (∀ x∈nw,x∈po) (∀ x∈po,iw' x = true↔(iw x = true/\x≠v)\/x∈nw) (∀ x∈(ay G G.length v).take j,x∈po->iw' x = true)) rfl _ 0 _ _
    ⟨⟨e1,e2,e3,e4,e5,e6,e7,e8⟩,[],_,by refine aa (List.append_nil ..) ?_; exact L8,Nat.le_refl _,by exact nofun,fun x hx=>?_,by exact nofun⟩ (fun j R_ hR_ hr_ vv m H18 hvv hI=>?_) fun m H18 hI=>?_
   ·try dsimp only
    by_cases e : x = v
    ·refine aa (if_pos e) ?_; simp [e]
    ·refine aa (if_neg e) ?_; simp [e]
   ·refine bc fun GG=>?_
    obtain ⟨⟨e1,e2,e3,e4,e5,e6,e7,e8⟩,nw,iw',L9,hnw,hnp,hiw,hpre⟩:=hI
    refine GG ?_
    rw [Nat.zero_add] at *
    rw [List.getElem?_map] at hvv
    refine bc fun GG=>?_
    obtain ⟨u,hu,rfl⟩:=Option.map_eq_some_iff.mp hvv
    refine GG ?_
    have hj:=(List.getElem?_eq_some_iff.mp hu).1
    have hn1'':=L9.keep _ _ hnG.1 hnG.2.1 hnG.2.2.1 hnG.2.2.2 hn1
    have stay : ∀ {Hx : ag} {wl' : List Nat} {iw'' : Nat->Bool} {pa pb : Nat->Int->Bool},bk H7 Hx po G.length la lo wa ia pa pb wl' iw''->Hx ls[v] = H17 ls[v]:=fun Lx=>by
     refine aa (h17l ..) ?_; exact Lx.keep _ _ hlG.1 hlG.2.1 hlG.2.2.1 hlG.2.2.2 (R7.row v _ lk)
    repeat walk_at "step"
    refine kO hn1'' ?_
    repeat walk_at "step"
    cases hin : (esn.lookup (u : Int)).isSome with
    | false=>
     have hup : u∉po:=fun h=>by
      refine bc fun GG=>?_
      obtain ⟨t',_,_,g1,_⟩:=hn2 u h
      refine GG ?_
      rw [g1] at hin; exact nomatch hin
     repeat walk_at "step"
     refine ⟨stay L9,⟨e1,e2,e3,e4,e5,e6,e7,e8⟩,nw,iw',L9,by exact sP hnw,hnp,hiw,fun x hx hxp=>?_⟩
     rcases (bg hu x).mp hx with h | h
     ·exact hpre x h hxp
     ·rw [h] at hxp; exact absurd hxp hup
    | true=>
     have hup : u∈po:=by
      refine bc fun GG=>?_
      obtain ⟨y,hy,e⟩:=hn3 _ hin
      refine GG ?_
      have : u = y:=by exact fS e
      refine aa (this ..) ?_; exact hy
     refine bc fun GG=>?_
     obtain ⟨es9,i1,i2,i3⟩:=L9.i
     refine GG ?_
     repeat walk_at "step"
     refine cf ?_ (fun _ _=>rfl)
     repeat walk_at "step"
     refine eC i1 (i3 u hup) ?_
     refine dG ?_
     cases hiu : iw' u with
     | true=>
      repeat walk_at "step"
      refine ⟨stay L9,⟨e1,e2,e3,e4,e5,e6,e7,e8⟩,nw,iw',L9,by exact sP hnw,hnp,hiw,fun x hx hxp=>?_⟩
      rcases (bg hu x).mp hx with h | h
      ·exact hpre x h hxp
      ·refine aa (h ..) ?_; exact hiu
     | false=>
      repeat walk_at "step"
      refine cr i1 (by exact tr hsix hpl i2) ?_
      have L10:=L9.setW i1 hup true
      generalize an H18 ia (.dict (cV es9 (u : Int) (.bool true))) = H19 at L10
      repeat walk_at "step"
      refine ⟨wa,_,rfl,L10.w,rfl,?_⟩
      repeat walk_at "step"
      refine aO L10.w (by simp; exact Co hwl hj hpr6 hnw) ?_
      have L11:=L10.app nal4 nol4 (x:=u)
      repeat walk_at "step"
      refine ⟨stay L11,⟨e1,e2,e3,e4,e5,e6,e7,e8⟩,nw ++ [u],_,by refine aa (Eq.symm (List.append_assoc ..)) ?_; exact L11,by simp; exact zw hnw,fun x hx=>?_,fun x hx=>?_,fun x hx hxp=>?_⟩
      ·rcases List.mem_append.mp hx with h | h
       ·exact hnp x h
       ·refine aa (List.mem_singleton.mp h) ?_; exact hup
      ·try dsimp only
       by_cases e : x = u
       ·refine aa (if_pos e) ?_; simp [e]
       ·refine aa (if_neg e) (aa (propext (hiw x hx)) ?_); simp [e]
      ·try dsimp only
       by_cases e : x = u
       ·exact aa (if_pos e) rfl
       ·refine aa (if_neg e) ?_
        rcases (bg hu x).mp hx with h | h
        ·exact hpre x h hxp
        ·exact absurd h e
   ·refine bc fun GG=>?_
    obtain ⟨⟨e1,e2,e3,e4,e5,e6,e7,e8⟩,nw,iw',L9,hnw,hnp,hiw,hpre⟩:=hI
    refine GG ?_
    have hll4 : 0 + ((ay G G.length v).map ak).length = (ay G G.length v).length:=by simp
    rw [hll4] at hnw hpre
    rw [List.take_length] at hpre
    repeat walk_at "step"
    refine ⟨fQ G.length (fun t=>if t = v then aq else p t) * 7 + ((wl ++ nw).length - (at_ + 1)),by refine aa (List.length_append ..) ?_; exact AT hroom hpr6 hnw,⟨e1,e2,e3,e4,e5,e6,e7⟩,_,_,wl ++ nw,at_ + 1,iw',e8,L9,
     I.turn hcl hat hb hq hnp (fun x hx h=>(hiw x hx).mp h) (fun x hx h=>hpre x (bT.mpr ⟨D.lt x hx,h⟩) hx) (fun x hx h1 h2=>(hiw x hx).mpr (.inl ⟨h2,h1⟩)),rfl,by refine aa (List.length_append ..) ?_; exact Do hwl hroom hpr6 hnw⟩
end
end
section
def ir (base : Int->Bool) : List (Int × List Nat)->Int->Bool
 | []=>base
 | x :: xs=>fun i=>(ir base xs i && i != x.1) || (x.2.map fun (r : Nat)=>(r : Int)).contains i
theorem qv (a : Int->Bool) (ns : List Int) : (aK fun i=>(aK a).contains i || ns.contains i) = aK fun i=>a i || ns.contains i:=oW fun r hr=>by exact aa (gc hr) rfl
section
variable {c : Cx} {k : Nat} {H : ag} {Q : AV->ag->Prop}
theorem ig (hK : KF c.K) {b o : Addr} {i n : Nat} {B : cI} {lv : Int->Bool} (hb : dF H b i B) (hB : sk n B) (ho : H o = some (.set (aK lv)))
  (q : ∀ (H' : ag) (d : Addr) (ls : List Addr),Sub H H'->H d = none->H' d = some (.list (ls.map AV.ref))->ls.length = B.steps.length->
   (∀ (j : Nat) (l : Addr),ls[j]? = some l->H' l = some (.set (aK (ir (fun i=>lv i || (B.regs.map fun (r : Nat)=>(r : Int)).contains i) (B.steps.drop (j + 1))))))->Q (.ref d) H') : AC c (k + 2) 169 [.ref b,.ref o] H Q:=by
 refine aI (Dk hK) rfl ?_
 dsimp only [mC,nq,lD,mh,mN]
 refine bc fun GG=>?_
 obtain ⟨st,sl,e,⟨dxb,hb1,hb2⟩,hst,hsl,al,⟨mo,⟨de,he1,he2⟩,hm⟩,hops⟩:=hb
 refine GG ?_
 have hslen:=hsl.len
 have hs2:=hB.slen
 have homeR : ∀ {rs : List Nat},(∀ r∈rs,r < 4)->∀ x∈rs.map (fun (r : Nat)=>(r : Int)),x∈aA:=fun h x hx=>by
  refine bc fun GG=>?_
  obtain ⟨r,hr,rfl⟩:=List.mem_map.mp hx
  refine GG ?_
  exact hZ (h r hr)
 repeat walk_at "step"
 refine ⟨by simp,fun fa hfa=>?_⟩
 repeat walk_at "step"
 refine ji (Sub.upd hfa _ _ ho) fun ha hha=>?_
 have nhf : ha≠fa:=ai hha (ad _ _ _)
 have hha0:=(Sub.upd hfa).none hha
 have s1 : Sub H (an (an H fa (.list [])) ha (.set (aK lv))):=(Sub.upd hfa).trans (Sub.upd hha)
 have h1f : an (an H fa (.list [])) ha (.set (aK lv)) fa = some (.list []):=Sub.upd hha _ _ (ad _ _ _)
 have h1h : an (an H fa (.list [])) ha (.set (aK lv)) ha = some (.set (aK lv)):=ad _ _ _
 generalize an (an H fa (.list [])) ha (.set (aK lv)) = H1 at s1 h1f h1h
 repeat walk_at "step"
 refine ⟨ha,_,rfl,h1h,rfl,?_⟩
 repeat walk_at "step"
 have hb1':=s1 _ _ hb1
 have hb2':=s1 _ _ hb2
 refine oz hK (⟨de,s1 _ _ he1,s1 _ _ he2⟩ : bQ H1 e 31 _) (hops.sub s1) fun H2 ud s2 hud h2u=>?_
 refine gH (s2 _ _ h1h) h2u (homeR hB.fin.regs) ?_
 refine aa (qv ..) ?_
 have nuh : ud≠ha:=ai hud h1h
 have s3 : Sub H (an H2 ha (.set (aK fun i=>lv i || (B.regs.map fun (r : Nat)=>(r : Int)).contains i))):=fun x ob hx=>by
  refine aa (aj (Ne.symm (ai hha0 hx))) ?_; exact s2 _ _ (s1 _ _ hx)
 have h3f : an H2 ha (.set (aK fun i=>lv i || (B.regs.map fun (r : Nat)=>(r : Int)).contains i)) fa = some (.list []):=by refine aa (aj (Ne.symm nhf)) ?_; exact s2 _ _ h1f
 have h3h : an H2 ha (.set (aK fun i=>lv i || (B.regs.map fun (r : Nat)=>(r : Int)).contains i)) ha = some (.set (aK fun i=>lv i || (B.regs.map fun (r : Nat)=>(r : Int)).contains i)):=ad _ _ _
 generalize an H2 ha (.set (aK fun i=>lv i || (B.regs.map fun (r : Nat)=>(r : Int)).contains i)) = H3 at s3 h3f h3h
 clear s1 h1f h1h s2 hud h2u nuh hb1' hb2'
 have hb1':=s3 _ _ hb1
 have hb2':=s3 _ _ hb2
 generalize hbase : (fun i=>lv i || (B.regs.map fun (r : Nat)=>(r : Int)).contains i) = base at h3h q
 repeat walk_at "step"
 refine ⟨st,_,rfl,s3 _ _ hst,by simp; exact oV hslen hs2,by simp,fun rv hrv=>?_⟩
 refine aa (gm ..) ?_
 have nrf : rv≠fa:=ai hrv h3f
 have nrh : rv≠ha:=ai hrv h3h
 have s4:=s3.then (o:=.list (sl.map AV.ref).reverse) hrv
 have h4f:=Sub.upd (o:=.list (sl.map AV.ref).reverse) hrv _ _ h3f
 have h4h:=Sub.upd (o:=.list (sl.map AV.ref).reverse) hrv _ _ h3h
 have h4r : an H3 rv (.list (sl.map AV.ref).reverse) rv = some (.list (sl.reverse.map AV.ref)):=by exact aa (ad ..) (aa (List.map_reverse ..) rfl)
 generalize an H3 rv (.list (sl.map AV.ref).reverse) = H4 at s4 h4f h4h h4r
 clear s3 h3f h3h hrv hb1' hb2'
 repeat walk_at "step"
 refine cP (ar h4r) ?_
 refine aD (I:=fun j m H5=>bC (m "found" = some (.ref fa)/\m "here" = some (.ref ha)) (∀ x ob,x≠fa->x≠ha->H4 x = some ob->H5 x = some ob) (∃ fs : List Addr,c0 (H5 fa = some (.list (fs.map AV.ref))) (fs.length = j) (H5 ha = some (.set (aK (ir base (B.steps.drop (B.steps.length - j)))))) (∀ (t : Nat) (l : Addr),fs[t]? = some l->l≠ha/\H5 l = some (.set (aK (ir base (B.steps.drop (B.steps.length - t)))))))) rfl _ 0 _ _
  ⟨⟨rfl,rfl⟩,fun _ _ _ _ h=>h,[],h4f,rfl,by refine aa (Nat.sub_zero ..) (aa (List.drop_length ..) ?_); exact h4h,by simp⟩ (fun j R_ hR_ hr_ v m H5 hv hI=>?_) fun m H5 hI=>?_
 ·refine bc fun GG=>?_
  obtain ⟨⟨e1,e2⟩,s5,fs,h5f,hfl,h5h,hfs⟩:=hI
  refine GG ?_
  rw [Nat.zero_add] at *
  rw [List.getElem?_map] at hv
  refine bc fun GG=>?_
  obtain ⟨sa,hsa,rfl⟩:=Option.map_eq_some_iff.mp hv
  refine GG ?_
  have hj : j < B.steps.length:=by
   have:=(List.getElem?_eq_some_iff.mp hsa).1
   rw [List.length_reverse] at this; exact bM this hslen
  rw [List.getElem?_reverse (by exact aU hj hslen)] at hsa
  have hj2 : B.steps.length - (j + 1) < B.steps.length:=by exact wm hj
  have hsa : sl[B.steps.length - (j + 1)]? = some sa:=by refine aa (Eq.symm (hsa ..)) ?_; congr 1; exact wz hslen
  have hsx:=(hsl.at hsa (List.getElem?_eq_getElem hj2)).is
  refine bc fun GG=>?_
  obtain ⟨al1,⟨dxs,hs1,hs2'⟩,hop1⟩:=hsx
  refine GG ?_
  have hsw:=hB.steps _ (List.getElem_mem hj2)
  have hdrop : B.steps.drop (B.steps.length - (j + 1)) = B.steps[B.steps.length - (j + 1)] :: B.steps.drop (B.steps.length - j):=by
   refine aa (List.drop_eq_getElem_cons hj2) ?_
   congr 2; exact Ab hj
  generalize B.steps[B.steps.length - (j + 1)] = x at hs1 hs2' hop1 hsw hdrop
  have k5 : Sub H H5:=fun y ob hy=>s5 y ob (Ne.symm (ai hfa hy)) (Ne.symm (ai hha0 hy)) (s4 _ _ hy)
  repeat walk_at "step"
  refine ⟨fa,_,rfl,h5f,rfl,?_⟩
  repeat walk_at "step"
  refine ji h5h fun cd hcd=>?_
  have ncf : cd≠fa:=ai hcd h5f
  have nch : cd≠ha:=ai hcd h5h
  refine aO (Sub.upd hcd _ _ h5f) (by simp; exact tW hj hs2 hfl) ?_
  have h6f : an (an H5 cd (.set (aK (ir base (B.steps.drop (B.steps.length - j)))))) fa (.list (fs.map AV.ref ++ [.ref cd])) fa = some (.list ((fs ++ [cd]).map AV.ref)):=by refine aa (ad ..) ?_; simp
  have h6c : an (an H5 cd (.set (aK (ir base (B.steps.drop (B.steps.length - j)))))) fa (.list (fs.map AV.ref ++ [.ref cd])) cd = some (.set (aK (ir base (B.steps.drop (B.steps.length - j))))):=by exact aa (aj ncf) (aa (ad ..) rfl)
  have k6 : ∀ y ob,y≠fa->H5 y = some ob->an (an H5 cd (.set (aK (ir base (B.steps.drop (B.steps.length - j)))))) fa (.list (fs.map AV.ref ++ [.ref cd])) y = some ob:=fun y ob h1 h2=>by
   refine aa (aj h1) ?_; exact Sub.upd hcd _ _ h2
  generalize an (an H5 cd (.set (aK (ir base (B.steps.drop (B.steps.length - j)))))) fa (.list (fs.map AV.ref ++ [.ref cd])) = H6 at h6f h6c k6
  have h6h:=k6 _ _ nhf h5h
  repeat walk_at "step"
  refine ⟨ha,_,rfl,h6h,rfl,?_⟩
  have hs1':=k6 _ _ (Ne.symm (ai hfa hs1)) (k5 _ _ hs1)
  have hs2'':=k6 _ _ (Ne.symm (ai hfa hs2')) (k5 _ _ hs2')
  repeat walk_at "step"
  refine jJ h6h ?_
  have k7 : ∀ y ob v,y≠ha->H6 y = some ob->an H6 ha v y = some ob:=fun y ob v h1 h2=>by refine aa (aj h1) ?_; exact h2
  have h7h : an H6 ha (.set (aK fun i=>(aK (ir base (B.steps.drop (B.steps.length - j)))).contains i && i != x.1)) ha = some (.set (aK fun i=>ir base (B.steps.drop (B.steps.length - j)) i && i != x.1)):=by
   refine aa (ad ..) ?_
   congr 2
   exact oW fun r hr=>by exact aa (gc hr) rfl
  have k7:=fun y ob h1 h2=>k7 y ob (.set (aK fun i=>(aK (ir base (B.steps.drop (B.steps.length - j)))).contains i && i != x.1)) h1 h2
  generalize an H6 ha (.set (aK fun i=>(aK (ir base (B.steps.drop (B.steps.length - j)))).contains i && i != x.1)) = H7 at h7h k7
  have k07 : Sub H H7:=fun y ob hy=>k7 _ _ (Ne.symm (ai hha0 hy)) (k6 _ _ (Ne.symm (ai hfa hy)) (k5 _ _ hy))
  repeat walk_at "step"
  refine ⟨ha,_,rfl,h7h,rfl,?_⟩
  repeat walk_at "step"
  refine oz hK (⟨dxs,k07 _ _ hs1,k07 _ _ hs2'⟩ : bQ H7 sa 31 _) (hop1.sub k07) fun H8 ud s8 hud h8u=>?_
  refine gH (s8 _ _ h7h) h8u (homeR hsw.2.2.1) ?_
  refine aa (qv ..) ?_
  repeat walk_at "step"
  have kk : ∀ y ob v,y≠fa->y≠ha->H5 y = some ob->an H8 ha v y = some ob:=fun y ob v h1 h2 h3=>by
   refine aa (aj h2) ?_; exact s8 _ _ (k7 _ _ h2 (k6 _ _ h1 h3))
  have h4r5:=s5 _ _ nrf nrh h4r
  refine ⟨by exact aa (kk _ _ _ nrf nrh h4r5) (aa (h4r ..) rfl),⟨e1,e2⟩,fun y ob h1 h2 h3=>kk _ _ _ h1 h2 (s5 y ob h1 h2 h3),fs ++ [cd],?_,by simp [hfl],?_,fun t l ht=>?_⟩
  ·refine aa (aj (Ne.symm nhf)) ?_; exact s8 _ _ (k7 _ _ (Ne.symm nhf) h6f)
  ·refine aa (ad ..) (aa (hdrop ..) ?_); rfl
  ·rcases Nat.lt_or_ge t fs.length with hlt | hge
   ·rw [List.getElem?_append_left hlt] at ht
    refine bc fun GG=>?_
    obtain ⟨g1,g2⟩:=hfs t l ht
    refine GG ?_
    exact ⟨g1,kk _ _ _ (aQ g2 h5f fun e=>by cases e) g1 g2⟩
   ·rw [List.getElem?_append_right hge] at ht
    have : t = fs.length:=by
     have:=(List.getElem?_eq_some_iff.mp ht).1
     simp at this; exact fB this hge
    subst this
    rw [Nat.sub_self] at ht
    cases ht
    refine ⟨nch,?_⟩
    refine aa (aj nch) (aa (hfl ..) ?_); exact s8 _ _ (k7 _ _ nch h6c)
 refine bc fun GG=>?_
 obtain ⟨⟨e1,e2⟩,s5,fs,h5f,hfl,h5h,hfs⟩:=hI
 refine GG ?_
 have hfl : fs.length = B.steps.length:=by refine aa (hfl ..) ?_; simp [hslen]
 have k5 : Sub H H5:=fun y ob hy=>s5 y ob (Ne.symm (ai hfa hy)) (Ne.symm (ai hha0 hy)) (s4 _ _ hy)
 repeat walk_at "step"
 refine ⟨fa,_,rfl,h5f,by simp; exact oV hfl hs2,by simp,fun rd hrd=>?_⟩
 refine aa (gm ..) ?_
 repeat walk_at "step"
 refine q _ rd fs.reverse (k5.then hrd) (k5.none hrd) (by exact aa (ad ..) (aa (List.map_reverse ..) rfl)) (by refine aa (List.length_reverse ..) ?_; exact hfl) fun t l ht=>?_
 have htl : t < fs.length:=by
  have:=(List.getElem?_eq_some_iff.mp ht).1
  rwa [List.length_reverse] at this
 rw [List.getElem?_reverse htl] at ht
 have:=(hfs _ l ht).2
 rw [show B.steps.length - (fs.length - 1 - t) = t + 1 by exact zt htl hfl] at this
 exact Sub.upd hrd _ _ this
end
end
section
inductive cJ (H : ag) (n : Nat) (u v : AV) (P : Prop) : Prop | mk (b : Bool) (h : eH H n u v b) (e : b = true↔P)
theorem pF {H : ag} {n : Nat} {a b : Int} : cJ H n (.int a) (.int b) (a = b):=⟨_,.int n a b,beq_iff_eq⟩
theorem jq {H : ag} {n : Nat} {a b : Nat} : cJ H n (ak a) (ak b) (a = b):=⟨_,.int n a b,by refine aa (propext (beq_iff_eq ..)) ?_; exact pP⟩
theorem dt {α : Type} {H : ag} {n : Nat} {l l' : Addr} {xs ys : List AV} {ds es : List α} (h1 : H l = some (.list xs)) (h2 : H l' = some (.list ys)) (e1 : xs.length = ds.length) (e2 : ys.length = es.length)
  (he : ∀ (j : Nat) x y d e,xs[j]? = some x->ys[j]? = some y->ds[j]? = some d->es[j]? = some e->cJ H n x y (d = e)) : cJ H (n + 1) (.ref l) (.ref l') (ds = es):=by
 by_cases hl : xs.length = ys.length
 ·have hch : ∀ j : Nat,∃ b : Bool,∀ x y d e,xs[j]? = some x->ys[j]? = some y->ds[j]? = some d->es[j]? = some e->eH H n x y b/\(b = true↔d = e):=fun j=>by
   by_cases hj : j < xs.length
   ·refine bc fun GG=>?_
    obtain ⟨b,h3,h4⟩:=he j _ _ _ _ (List.getElem?_eq_getElem hj) (List.getElem?_eq_getElem (by exact bM hj hl)) (List.getElem?_eq_getElem (by exact bM hj e1)) (List.getElem?_eq_getElem (by exact sY hj hl e2))
    refine GG ?_
    refine ⟨b,fun x y d e hx hy hd he=>?_⟩
    rw [List.getElem?_eq_getElem hj] at hx
    rw [List.getElem?_eq_getElem (by omega)] at hy hd he
    cases hx; cases hy; cases hd; cases he
    exact ⟨h3,h4⟩
   ·exact ⟨true,fun x y d e hx _ _ _=>absurd (List.getElem?_eq_some_iff.mp hx).1 hj⟩
  refine ⟨_,.list n (fun j=>Classical.choose (hch j)) h1 h2 hl fun j x y hx hy=>?_,?_⟩
  ·have hj:=(List.getElem?_eq_some_iff.mp hx).1
   exact (Classical.choose_spec (hch j) x y _ _ hx hy (List.getElem?_eq_getElem (by exact bM hj e1)) (List.getElem?_eq_getElem (by exact sY hj hl e2))).1
  ·refine aa (propext (List.all_eq_true ..)) ?_
   constructor
   ·intro h
    refine List.ext_getElem (by exact zJ hl e1 e2) fun j hj1 hj2=>?_
    have:=h j (List.mem_range.mpr (by exact aU hj1 e1))
    exact (Classical.choose_spec (hch j) _ _ _ _ (List.getElem?_eq_getElem (by exact aU hj1 e1)) (List.getElem?_eq_getElem (by exact xJ hj1 e1 hl)) (List.getElem?_eq_getElem hj1) (List.getElem?_eq_getElem hj2)).2.mp this
   ·intro h j hj
    have hj:=List.mem_range.mp hj
    clear e2 he; subst h
    exact (Classical.choose_spec (hch j) _ _ _ _ (List.getElem?_eq_getElem hj) (List.getElem?_eq_getElem (by exact bM hj hl)) (List.getElem?_eq_getElem (by exact bM hj e1)) (List.getElem?_eq_getElem (by exact bM hj e1))).2.mpr rfl
 ·exact ⟨false,.lens n h1 h2 hl,fun h=>(by exact nomatch h),fun h=>absurd (by exact aa (e1 ..) (aa (e2 ..) (aa (h ..) rfl))) hl⟩
theorem cO {H : ag} {n : Nat} {l l' : Addr} {ds es : List Int} (h1 : H l = some (.list (ds.map .int))) (h2 : H l' = some (.list (es.map .int))) : cJ H (n + 1) (.ref l) (.ref l') (ds = es):=by
 refine dt h1 h2 (by simp) (by simp) fun j x y d e hx hy hd he=>?_
 rw [List.getElem?_map,hd] at hx
 rw [List.getElem?_map,he] at hy
 cases hx; cases hy
 exact pF
theorem bx {H : ag} {n : Nat} {l l' : Addr} {ds es : List Nat} (h1 : H l = some (.list (ds.map ak))) (h2 : H l' = some (.list (es.map ak))) : cJ H (n + 1) (.ref l) (.ref l') (ds = es):=by
 refine dt h1 h2 (by simp) (by simp) fun j x y d e hx hy hd he=>?_
 rw [List.getElem?_map,hd] at hx
 rw [List.getElem?_map,he] at hy
 cases hx; cases hy
 exact jq
theorem lM {H : ag} {n : Nat} {l l' : Addr} {x1 x2 x3 y1 y2 y3 : AV} {P1 P2 P3 : Prop} (h1 : H l = some (.tuple [x1,x2,x3])) (h2 : H l' = some (.tuple [y1,y2,y3])) (g1 : cJ H n x1 y1 P1) (g2 : cJ H n x2 y2 P2) (g3 : cJ H n x3 y3 P3) :
  cJ H (n + 1) (.ref l) (.ref l') (P1/\P2/\P3):=by
 refine bc fun GG=>?_
 obtain ⟨b1,a1,e1⟩:=g1
 obtain ⟨b2,a2,e2⟩:=g2
 obtain ⟨b3,a3,e3⟩:=g3
 refine GG ?_
 refine ⟨_,.tuple n (fun j=>if j = 0 then b1 else if j = 1 then b2 else b3) h1 h2 rfl fun j x y hx hy=>?_,?_⟩
 ·match j with
  | 0=>cases hx; cases hy; exact a1
  | 1=>cases hx; cases hy; exact a2
  | 2=>cases hx; cases hy; exact a3
  | j + 3=>exact ns hx
 ·rw [<-e1,<-e2,<-e3]
  show ((List.range 3).all _) = true↔_
  simp [List.range_succ,and_assoc]
theorem cJ.congr {H : ag} {n : Nat} {u v : AV} {P P' : Prop} (h : cJ H n u v P) (e : P↔P') : cJ H n u v P':=by
 refine bc fun GG=>?_
 obtain ⟨b,h1,h2⟩:=h
 refine GG ?_
 exact ⟨b,h1,h2.trans e⟩
section
variable {c : Cx} {k : Nat} {H : ag} {Q : AV->ag->Prop}
theorem j8 {l l' : Addr} {P : Prop} (hl : ∃ xs,H l = some (.list xs)) (h : cJ H 20 (.ref l) (.ref l') P) (q : ∀ b : Bool,(b = true↔P)->Q (.bool b) H) : dM c k (compareOp .Eq) (.ref l) (.ref l') H Q:=by
 refine bc fun GG=>?_
 obtain ⟨b,h1,h2⟩:=h
 refine GG ?_
 exact kT h1 hl (q b h2)
theorem di {l l' : Addr} {P : Prop} (hl : ∃ xs,H l = some (.list xs)) (h : cJ H 20 (.ref l) (.ref l') P) (q : ∀ b : Bool,(b = true↔¬ P)->Q (.bool b) H) : dM c k (compareOp .NotEq) (.ref l) (.ref l') H Q:=by
 refine bc fun GG=>?_
 obtain ⟨b,h1,h2⟩:=h
 refine GG ?_
 exact bO h1 hl (q _ (by rw [<-h2]; clear h1 h2; cases b<;>simp))
end
def dA (cell : Int) (x : Int × List Nat) : Int:=if (x.2.map fun (r : Nat)=>(r : Int)).contains cell = true then 1 else if (x.1 == cell) = true then 2 else 0
def bj (B : cI) (s : Nat) : List (Int × List Nat):=B.steps.drop s ++ [((-1 : Int),B.regs)]
def bq (B : cI) (s : Nat) (cell : Int) : List Int:=(((bj B s).map (dA cell)).filter fun u=>decide (u > 0)).take 1
inductive LW (G : List cI) (cell : Int) : Nat->Nat->Prop
 | use {v s : Nat} {B : cI} (hB : G[v]? = some B) (h : bq B s cell = [1]) : LW G cell v s
 | thru {v s u : Nat} {B : cI} (hB : G[v]? = some B) (h : bq B s cell = []) (hu : u∈ah G v) (t : LW G cell u 0) : LW G cell v s
inductive vS (H : ag) (a : Addr) (x : Int × List Nat) : Prop | mk (op : Str) (al more : AV) (h1 : bQ H a 31 (dg op x.1 al more)) (h2 : gA H al (x.2.map fun (r : Nat)=>(r : Int)))
theorem bX.drop {α β : Type} {R : α->β->Prop} {as : List α} {bs : List β} (h : bX R as bs) (n : Nat) : bX R (as.drop n) (bs.drop n):=by
 induction h generalizing n with
 | nil=>simp; exact .nil
 | cons h t ih=>
  cases n with
  | zero=>exact .cons h t
  | succ n=>exact ih n
def dD (n : Nat) (seen : List Nat) : Nat:=((List.range n).filter fun x=>decide (x∉seen)).length
theorem kb (n : Nat) (seen : List Nat) : dD n seen<=n:=by
 have:=List.length_filter_le (fun x=>decide (x∉seen)) (List.range n)
 rwa [List.length_range] at this
theorem qh {n : Nat} {seen fresh : List Nat} {x : Nat} (hx : x < n) (h : x∈fresh) (hn : x∉seen) : dD n (seen ++ fresh) < dD n seen:=by
 unfold dD
 have e : (List.range n).filter (fun x=>decide (x∉seen ++ fresh)) = ((List.range n).filter fun x=>decide (x∉seen)).filter fun x=>decide (x∉fresh):=by
  refine aa (List.filter_filter ..) ?_
  refine List.filter_congr fun y _=>?_
  simp [not_or,Bool.and_comm]
 refine aa (e ..) ?_
 have hs : (((List.range n).filter fun x=>decide (x∉seen)).filter fun x=>decide (x∉fresh)).Sublist ((List.range n).filter fun x=>decide (x∉seen)):=List.filter_sublist
 rcases Nat.lt_or_ge (((List.range n).filter fun x=>decide (x∉seen)).filter fun x=>decide (x∉fresh)).length ((List.range n).filter fun x=>decide (x∉seen)).length with h' | h'
 ·exact h'
 ·have:=hs.eq_of_length_le h'
  have hm : x∈(List.range n).filter fun x=>decide (x∉seen):=List.mem_filter.mpr ⟨List.mem_range.mpr hx,by exact decide_eq_true hn⟩
  rw [<-this] at hm
  have:=(List.mem_filter.mp hm).2
  exact absurd h (by simpa using this)
end
section
section
variable {c : Cx} {k : Nat} {H : ag} {Q : AV->ag->Prop}
def rI (G : List cI) (cell : Int) (seen : List Nat) (v s : Nat) : Prop:=∀ B,G[v]? = some B->bq B s cell≠[1]/\(bq B s cell = []->∀ w∈ah G v,w∈seen)
theorem rn {P Q : Nat->Nat->Prop} {ws ws' : List (Nat × Nat)} {v s : Nat} (hs : ∀ p,p∈ws->p∈ws') (hm : ∀ u t,Q u t->P u t) (hok : P v s) (u t : Nat) (h : (u,t)∈ws ++ [(v,s)]\/Q u t) : (u,t)∈ws'\/P u t:=by
 rcases h with h | h
 ·rcases List.mem_append.mp h with h | h
  ·exact .inl (hs _ h)
  ·cases List.mem_singleton.mp h
   exact .inr hok
 ·exact .inr (hm _ _ h)
theorem fH (hK : KF c.K) {f ga : Addr} {G : List cI} {ls : List Addr} {at_ spot : Nat} {cell : Int} (hF : cA H f G) (hG : cm G) (hB : Rows H ga ls (ah G)) (hl : ls.length = G.length) (ha : at_ < G.length)
  (q : ∀ (H' : ag) (b : Bool),Sub H H'->(b = true↔LW G cell at_ spot)->Q (.bool b) H') : AC c (k + 2) 241 [.ref f,.ref ga,ak at_,ak spot,.int cell] H Q:=by
 refine aI (Dx hK) rfl ?_
 dsimp only [nW,mz,nO]
 refine bc fun GG=>?_
 obtain ⟨bl,bs,p0,s0,⟨dx,hf1,hf2⟩,hbl,hlen,hblk⟩:=hF.is
 refine GG ?_
 have hsix:=hG.six
 repeat walk_at "step"
 refine ⟨by simp,fun t0 ht0=>?_⟩
 refine ⟨by simp,fun wa hwa=>?_⟩
 repeat walk_at "step"
 refine ⟨by simp,fun sa hsa=>?_⟩
 refine ⟨by simp,fun tt htt=>?_⟩
 repeat walk_at "step"
 have nw0 : wa≠t0:=ai hwa (ad _ _ _)
 rw [aj nw0] at hwa
 refine bc fun GG=>?_
 obtain ⟨ns1,hsa⟩:=aM hsa
 obtain ⟨ns0,hsa⟩:=aM hsa
 obtain ⟨nt1,htt⟩:=aM htt
 obtain ⟨nt2,htt⟩:=aM htt
 obtain ⟨nt3,htt⟩:=aM htt
 refine GG ?_
 have s1 : Sub H (an (an (an (an H t0 (.tuple [ak at_,ak spot])) wa (.list [.ref t0])) sa (.list [])) tt (.tuple [.ref wa,.ref sa])):=fun x o hx=>by
  refine aa (aj (Ne.symm (ai htt hx))) (aa (aj (Ne.symm (ai hsa hx))) (aa (aj (Ne.symm (ai hwa hx))) (aa (aj (Ne.symm (ai ht0 hx))) ?_))); exact hx
 have h1w : an (an (an (an H t0 (.tuple [ak at_,ak spot])) wa (.list [.ref t0])) sa (.list [])) tt (.tuple [.ref wa,.ref sa]) wa = some (.list ([t0].map AV.ref)):=by
  refine aa (aj (Ne.symm nt2)) (aa (aj (Ne.symm ns1)) (aa (ad ..) ?_)); rfl
 have h1s : an (an (an (an H t0 (.tuple [ak at_,ak spot])) wa (.list [.ref t0])) sa (.list [])) tt (.tuple [.ref wa,.ref sa]) sa = some (.list (([] : List Nat).map ak)):=by
  refine aa (aj (Ne.symm nt1)) (aa (ad ..) ?_); rfl
 have h1t : an (an (an (an H t0 (.tuple [ak at_,ak spot])) wa (.list [.ref t0])) sa (.list [])) tt (.tuple [.ref wa,.ref sa]) t0 = some (.tuple [ak at_,ak spot]):=by
  exact aa (aj (Ne.symm nt3)) (aa (aj (Ne.symm ns0)) (aa (aj (Ne.symm nw0)) (aa (ad ..) rfl)))
 generalize an (an (an (an H t0 (.tuple [ak at_,ak spot])) wa (.list [.ref t0])) sa (.list [])) tt (.tuple [.ref wa,.ref sa]) = H1 at s1 h1w h1s h1t
 clear nt1 nt2 nt3 ns0 nw0 htt hsa ht0
 refine bK (fun ms m H5=>bC (bC (m "func" = some (.ref f)) (m "goals" = some (.ref ga)) (m "cell" = some (.int cell))) (Sub H H5) (A8 fun (wa sa : Addr) (ts : List Addr) (ws : List (Nat × Nat)) (seen : List Nat)=>ze (m "waiting" = some (.ref wa)) (m "seen" = some (.ref sa)) (H wa = none) (sa≠wa) (H5 wa = some (.list (ts.map AV.ref))) (H5 sa = some (.list (seen.map ak))) (bX (fun t p=>H5 t = some (.tuple [ak p.1,ak p.2])) ts ws) (ms = dD G.length seen * 4 + ws.length) (ws.length + 3 * dD G.length seen<=20) (seen.length + 3 * dD G.length seen<=20) (∀ p∈ws,p.1 < G.length/\(LW G cell p.1 p.2->LW G cell at_ spot)) ((at_,spot)∈ws\/rI G cell seen at_ spot) (∀ u∈seen,u < G.length/\((u,0)∈ws\/rI G cell seen u 0)))) ?_ (dD G.length [] * 4 + 1)
  ⟨⟨rfl,rfl,rfl⟩,s1,wa,sa,[t0],[(at_,spot)],[],rfl,rfl,hwa,ns1,h1w,h1s,.cons h1t .nil,rfl,by have:=kb G.length []; simp; exact AG hsix this,by have:=kb G.length []; simp; exact ww hsix this,fun p hp=>by refine aa (List.mem_singleton.mp hp) ?_; exact ⟨ha,id⟩,.inl (.head _),fun u hu=>by cases hu⟩
 clear s1 h1w h1s h1t ns1 hwa
 intro ms R_ hR_ hr_ m H5 hzz
 refine bc fun GG=>?_
 obtain ⟨⟨e1,e2,e3⟩,s5,wa,sa,ts,ws,seen,e4,e5,hwa0,nsw,h5w,h5s,hts,rfl,hwl,hsl,hsnd,hst,hseen⟩:=hzz
 refine GG ?_
 have htsl:=hts.len
 repeat walk_at "step"
 refine ⟨by simp,fun d hd=>?_⟩
 have sd:=Sub.upd (o:=.list []) hd
 have h6d : an H5 d (.list []) d = some (.list []):=ad _ _ _
 have h6w:=sd _ _ h5w
 have h6s:=sd _ _ h5s
 have hts6:=hts.mono fun t p h=>sd _ _ h
 have s6:=s5.trans sd
 generalize an H5 d (.list []) = H6 at sd h6d h6w h6s hts6 s6
 rcases dq ws with rfl | ⟨ws',pp,rfl⟩
 ·cases hts6
  have hA : eH H6 20 (.ref wa) (.ref d) true:=eH.list 19 (fun _=>true) h6w h6d rfl (fun j x y hx hy=>by cases hx)
  refine bO hA ⟨_,h6w⟩ ?_
  repeat walk_at "step"
  have hn : ∀ u s,LW G cell u s->¬ rI G cell seen u s:=fun u s h=>by
   induction h with
   | use hB h=>exact fun ho=>(ho _ hB).1 h
   | thru hB h hu _ ih=>exact fun ho=>ih ((hseen _ ((ho _ hB).2 h _ hu)).2.resolve_left fun h=>by cases h)
  refine q H6 false s6 ⟨fun h=>(by cases h),fun h=>absurd (hst.resolve_left fun h=>by cases h) (hn _ _ h)⟩
 ·refine bc fun GG=>?_
  obtain ⟨ts',t,rfl⟩ : ∃ ts' t,ts = ts' ++ [t]:=by
   rcases dq ts with rfl | ⟨a,b,e⟩
   ·rw [List.length_append] at htsl; simp at htsl
   ·repeat walk_at "step"
    exact ⟨a,b,e⟩
  have hlen' : ts'.length = ws'.length:=by simpa using htsl
  have ht : H6 t = some (.tuple [ak pp.1,ak pp.2]):=hts6.at (i:=ts'.length) (by refine aa (List.getElem?_append_right (Nat.le_refl _)) (aa (Nat.sub_self ..) ?_); rfl) (by refine aa (hlen' ..) (aa (List.getElem?_append_right (Nat.le_refl _)) (aa (Nat.sub_self ..) ?_)); rfl)
  have hts' : bX (fun t p=>H6 t = some (.tuple [ak p.1,ak p.2])) ts' ws':=bX.of_at hlen' fun i a b h1 h2=>hts6.at (by refine aa (List.getElem?_append_left (List.getElem?_eq_some_iff.mp h1).1) ?_; exact h1) (by refine aa (List.getElem?_append_left (List.getElem?_eq_some_iff.mp h2).1) ?_; exact h2)
  obtain ⟨v,s⟩:=pp
  refine GG ?_
  simp only at ht
  have hv:=hsnd (v,s) (by simp)
  simp only at hv
  have hA : eH H6 20 (.ref wa) (.ref d) false:=eH.lens 19 h6w h6d (by simp)
  refine bO hA ⟨_,h6w⟩ ?_
  rw [List.map_append] at h6w
  rw [List.length_append,List.length_singleton] at hwl
  (try rw [List.length_append,List.length_singleton] at hR_)
  repeat walk_at "step"
  refine ⟨wa,_,rfl,h6w,rfl,?_⟩
  repeat walk_at "step"
  refine fN h6w (by simp; exact C9 hwl hlen') ?_
  have h7w : an H6 wa (.list (ts'.map AV.ref)) wa = some (.list (ts'.map AV.ref)):=ad _ _ _
  have k7 : ∀ x o,x≠wa->H6 x = some o->an H6 wa (.list (ts'.map AV.ref)) x = some o:=fun x o h1 h2=>by refine aa (aj h1) ?_; exact h2
  have h7t:=k7 _ _ (aQ ht h6w fun e=>by cases e) ht
  have h7s:=k7 _ _ nsw h6s
  have hts7:=hts'.mono fun t p h=>k7 _ _ (aQ h h6w fun e=>by cases e) h
  have s7 : Sub H (an H6 wa (.list (ts'.map AV.ref))):=fun x o hx=>k7 _ _ (Ne.symm (ai hwa0 hx)) (s6 _ _ hx)
  generalize an H6 wa (.list (ts'.map AV.ref)) = H7 at h7w k7 h7t h7s hts7 s7
  clear k7 h6w h6s h6d hts6 hts' ht s6 sd hA h5w h5s hts s5 hd
  refine j3 (fun _=>rfl) h7t rfl ?_
  repeat walk_at "step"
  have hbvl : v < bs.length:=by exact oA hv hlen
  have hbv : bs[v]? = some bs[v]:=List.getElem?_eq_getElem hbvl
  have hGvl : v < G.length:=hv.1
  have hGv : G[v]? = some G[v]:=List.getElem?_eq_getElem hGvl
  refine bc fun GG=>?_
  obtain ⟨st,sl,e,⟨dxb,hb1,hb2⟩,hsst,hssl,al,⟨mo,hei,hm⟩,hops⟩:=hblk v bs[v] G[v] hbv hGv
  refine GG ?_
  have hact : bX (vS H) (sl.drop s ++ [e]) (bj G[v] s):=bX.append ((hssl.drop s).mono fun a x h=>by
   refine bc fun GG=>?_
   obtain ⟨al,h1,h2⟩:=h.is
   refine GG ?_
   exact ⟨_,_,_,h1,h2⟩) (.cons ⟨_,_,_,hei,hops⟩ .nil)
  have hslen:=hssl.len
  have hBw:=hG.blk _ (List.getElem_mem hv.1)
  have hs2:=hBw.slen
  have hf1':=s7 _ _ hf1
  have hf2':=s7 _ _ hf2
  refine bn (j:=v) (s7 _ _ hbl) (by simp; exact bE hlen hsix) (aJ (by simp; exact oA hv hlen)) (by refine aa (List.getElem?_map) (aa (hbv ..) ?_); rfl) ?_
  have hb1':=s7 _ _ hb1
  have hb2':=s7 _ _ hb2
  repeat walk_at "step"
  refine ⟨st,_,rfl,s7 _ _ hsst,by simp; exact oV hslen hs2,by simp,fun d1 hd1=>?_⟩
  refine aa (ix ..) (aa (Eq.symm (List.map_drop ..)) ?_)
  have s8:=s7.then (o:=.list ((sl.drop s).map AV.ref)) hd1
  have t8:=Sub.upd (o:=.list ((sl.drop s).map AV.ref)) hd1
  have h8d : an H7 d1 (.list ((sl.drop s).map AV.ref)) d1 = some (.list ((sl.drop s).map AV.ref)):=ad _ _ _
  generalize an H7 d1 (.list ((sl.drop s).map AV.ref)) = H8 at s8 t8 h8d
  have hf1':=s8 _ _ hf1
  have hf2':=s8 _ _ hf2
  repeat walk_at "step"
  refine bn (j:=v) (s8 _ _ hbl) (by simp; exact bE hlen hsix) (aJ (by simp; exact oA hv hlen)) (by refine aa (List.getElem?_map) (aa (hbv ..) ?_); rfl) ?_
  have hb1':=s8 _ _ hb1
  have hb2':=s8 _ _ hb2
  repeat walk_at "step"
  refine ⟨by simp,fun d2 hd2=>?_⟩
  have hdl : (sl.drop s).length<=2:=by refine aa (List.length_drop ..) ?_; exact Az hslen hs2
  refine cK (Sub.upd hd2 _ _ h8d) (ad _ _ _) (by simp only [List.length_map,List.length_singleton]; exact Ae hdl) fun d3 hd3=>?_
  have el : (sl.drop s).map AV.ref ++ [.ref e] = (sl.drop s ++ [e]).map AV.ref:=by simp
  refine aa (el ..) ?_
  have s9:=(s8.then (o:=.list [.ref e]) hd2).then (o:=.list ((sl.drop s ++ [e]).map AV.ref)) hd3
  have t9:=(t8.then (o:=.list [.ref e]) hd2).then (o:=.list ((sl.drop s ++ [e]).map AV.ref)) hd3
  have h9d : an (an H8 d2 (.list [.ref e])) d3 (.list ((sl.drop s ++ [e]).map AV.ref)) d3 = some (.list ((sl.drop s ++ [e]).map AV.ref)):=ad _ _ _
  generalize an (an H8 d2 (.list [.ref e])) d3 (.list ((sl.drop s ++ [e]).map AV.ref)) = H9 at s9 t9 h9d
  clear s8 t8 h8d hd2 hd3 hd1
  repeat walk_at "step"
  refine bA (ar h9d) (by refine aa (List.length_map ..) (aa (List.length_append ..) (aa (List.length_singleton ..) ?_)); exact wK hdl) ?_
  have hactl : (bj G[v] s).length<=3:=by unfold bj; refine aa (List.length_append ..) (aa (List.length_drop ..) ?_); simp; exact wn hs2
  refine ax (I:=fun i acc H10=>Sub H9 H10/\acc = (((bj G[v] s).take i).map (dA cell)).map .int) rfl _ 0 _ _ _ ⟨Sub.rfl,rfl⟩ (fun j vv acc hvv Ry_ hy_ Rn_ hn_ H10 hI=>?_) fun acc H10 hI=>?_
  ·refine bc fun GG=>?_
   obtain ⟨s10,rfl⟩:=hI
   refine GG ?_
   rw [Nat.zero_add] at *
   rw [List.getElem?_map] at hvv
   refine bc fun GG=>?_
   obtain ⟨a,haj,rfl⟩:=Option.map_eq_some_iff.mp hvv
   have hj : j < (bj G[v] s).length:=by refine aa (Eq.symm (hact.len ..)) ?_; exact (List.getElem?_eq_some_iff.mp haj).1
   have hx:=List.getElem?_eq_getElem hj
   obtain ⟨op,al1,mo1,hin,hop⟩:=hact.at haj hx
   refine GG ?_
   (try rw [az hx] at hy_)
   (try rw [az hx] at hn_)
   repeat walk_at "step"
   refine uI hK (hin.sub (s9.trans s10)) (hop.sub (s9.trans s10)) fun H11 s11=>?_
   repeat walk_at "step"
   refine ⟨by exact aa (s11 _ _ (s10 _ _ h9d)) (aa (h9d ..) rfl),s10.trans s11,?_⟩
   refine aa (List.map_append ..) (aa (List.map_append ..) ?_)
   rfl
  refine bc fun GG=>?_
  obtain ⟨s10,rfl⟩:=hI
  refine GG ?_
  have hll : 0 + ((sl.drop s ++ [e]).map AV.ref).length = (bj G[v] s).length:=by refine aa (Eq.symm (hact.len ..)) ?_; simp
  refine aa (hll ..) (aa (List.take_length ..) ?_)
  intro ua hua
  have s11:=(s9.trans s10).then (o:=.list (((bj G[v] s).map (dA cell)).map .int)) hua
  have t11:=(t9.trans s10).then (o:=.list (((bj G[v] s).map (dA cell)).map .int)) hua
  have h11u : an H10 ua (.list (((bj G[v] s).map (dA cell)).map .int)) ua = some (.list (((bj G[v] s).map (dA cell)).map .int)):=ad _ _ _
  generalize an H10 ua (.list (((bj G[v] s).map (dA cell)).map .int)) = H11 at s11 t11 h11u
  clear s9 t9 h9d s10 hua
  repeat walk_at "step"
  refine bA (ar h11u) (by simp; exact t5 hactl) ?_
  refine ax (I:=fun i acc H12=>H12 = H11/\acc = ((((bj G[v] s).map (dA cell)).take i).filter fun u=>decide (u > 0)).map .int) rfl _ 0 _ _ _ ⟨rfl,rfl⟩ (fun j vv acc hvv Ry_ hy_ Rn_ hn_ H12 hI=>?_) fun acc H12 hI=>?_
  ·refine bc fun GG=>?_
   obtain ⟨rfl,rfl⟩:=hI
   refine GG ?_
   rw [Nat.zero_add] at *
   rw [List.getElem?_map] at hvv
   refine bc fun GG=>?_
   obtain ⟨x,hx,rfl⟩:=Option.map_eq_some_iff.mp hvv
   refine GG ?_
   (try rw [az hx,List.filter_append,List.filter_cons,List.filter_nil] at hy_)
   (try rw [az hx,List.filter_append,List.filter_cons,List.filter_nil] at hn_)
   repeat walk_at "step"
   cases hgt : decide (x > 0) with
   | true=>
    (try rw [hgt] at hy_)
    (try rw [hgt] at hn_)
    repeat walk_at "step"
    exact ⟨rfl,rfl,by simp⟩
   | false=>
    (try rw [hgt] at hy_)
    (try rw [hgt] at hn_)
    repeat walk_at "step"
    exact ⟨rfl,rfl,by simp⟩
  refine bc fun GG=>?_
  obtain ⟨rfl,rfl⟩:=hI
  refine GG ?_
  have hll2 : 0 + (((bj G[v] s).map (dA cell)).map AV.int).length = ((bj G[v] s).map (dA cell)).length:=by simp
  refine aa (hll2 ..) (aa (List.take_length ..) ?_)
  intro fd hfd
  repeat walk_at "step"
  have hfl : (((bj G[v] s).map (dA cell)).filter fun u=>decide (u > 0)).length<=3:=by
   have:=List.length_filter_le (fun u=>decide (u > 0)) ((bj G[v] s).map (dA cell))
   rw [List.length_map] at this; exact Aj hactl this
  refine ⟨fd,_,rfl,ad _ _ _,by refine aa (List.length_map ..) ?_; exact AB hfl,by simp,fun ff hff=>?_⟩
  have et : cC ((((bj G[v] s).map (dA cell)).filter fun u=>decide (u > 0)).map AV.int) none (some 1) none = (bq G[v] s cell).map AV.int:=by
   refine aa (show (some (1 : Int)) = some ((1 : Nat) : Int) from rfl) (aa (eb ..) (aa (Eq.symm (List.map_take ..)) ?_)); rfl
  refine aa (et ..) ?_
  have s13:=(s11.then (o:=.list ((((bj G[v] s).map (dA cell)).filter fun u=>decide (u > 0)).map AV.int)) hfd).then (o:=.list ((bq G[v] s cell).map AV.int)) hff
  have t13:=(t11.then (o:=.list ((((bj G[v] s).map (dA cell)).filter fun u=>decide (u > 0)).map AV.int)) hfd).then (o:=.list ((bq G[v] s cell).map AV.int)) hff
  have h13f : an (an H12 fd (.list ((((bj G[v] s).map (dA cell)).filter fun u=>decide (u > 0)).map AV.int))) ff (.list ((bq G[v] s cell).map AV.int)) ff = some (.list ((bq G[v] s cell).map AV.int)):=ad _ _ _
  generalize an (an H12 fd (.list ((((bj G[v] s).map (dA cell)).filter fun u=>decide (u > 0)).map AV.int))) ff (.list ((bq G[v] s cell).map AV.int)) = H13 at s13 t13 h13f
  clear s11 t11 h11u hfd hff et
  repeat walk_at "step"
  refine ⟨by simp,fun o1 ho1=>?_⟩
  refine j8 ⟨_,Sub.upd ho1 _ _ h13f⟩ (cO (ds:=bq G[v] s cell) (es:=[1]) (Sub.upd ho1 _ _ h13f) (ad _ _ _)) fun b1 hb1=>?_
  have s14:=s13.then (o:=.list [.int 1]) ho1
  have t14:=t13.then (o:=.list [.int 1]) ho1
  have h14f:=Sub.upd (o:=.list [.int 1]) ho1 _ _ h13f
  generalize an H13 o1 (.list [.int 1]) = H14 at s14 t14 h14f
  clear s13 t13 h13f ho1
  repeat walk_at "step"
  cases b1 with
  | true=>
   repeat walk_at "step"
   exact q H14 true s14 ⟨fun _=>hv.2 (.use hGv (hb1.mp rfl)),fun _=>rfl⟩
  | false=>
   have hn1 : bq G[v] s cell≠[1]:=fun e=>by cases hb1.mpr e
   repeat walk_at "step"
   refine ⟨by simp,fun o2 ho2=>?_⟩
   refine j8 ⟨_,Sub.upd ho2 _ _ h14f⟩ (cO (ds:=bq G[v] s cell) (es:=[]) (Sub.upd ho2 _ _ h14f) (ad _ _ _)) fun b2 hb2=>?_
   have s15:=s14.then (o:=.list []) ho2
   have t15:=t14.then (o:=.list []) ho2
   generalize an H14 o2 (.list []) = H15 at s15 t15
   clear s14 t14 h14f ho2
   repeat walk_at "step"
   have h15s:=t15 _ _ h7s
   have h15w:=t15 _ _ h7w
   cases b2 with
   | false=>
    have hn2 : bq G[v] s cell≠[]:=fun e=>by cases hb2.mpr e
    have hok : rI G cell seen v s:=fun B hB=>by
     rw [hGv] at hB; cases hB
     exact ⟨hn1,fun e=>absurd e hn2⟩
    have sel:=rn (ws:=ws') (ws':=ws') (P:=rI G cell seen) (fun _ h=>h) (fun _ _ h=>h) hok
    repeat walk_at "step"
    refine ⟨dD G.length seen * 4 + ws'.length,by exact wj,⟨e1,e2,e3⟩,s15,wa,sa,ts',ws',seen,e4,e5,hwa0,nsw,h15w,h15s,hts7.mono fun t p h=>t15 _ _ h,rfl,by exact Cy hwl,hsl,fun p hp=>hsnd p (List.mem_append_left _ hp),sel _ _ hst,fun u hu=>⟨(hseen u hu).1,sel _ _ (hseen u hu).2⟩⟩
   | true=>
    have h0 : bq G[v] s cell = []:=hb2.mp rfl
    have hgl:=aX hG hv.1
    have hvl : v < ls.length:=by exact oA hv hl
    have lk : ls[v]? = some ls[v]:=List.getElem?_eq_getElem hvl
    have hrow:=hB.row v _ lk
    repeat walk_at "step"
    refine bn (j:=v) (s15 _ _ hB.top) (by simp; exact bE hl hsix) (aJ (by simp; exact dr hvl)) (by refine aa (List.getElem?_map) (aa (lk ..) ?_); rfl) ?_
    repeat walk_at "step"
    refine bA (ar (s15 _ _ hrow)) (by simp; exact sv hgl) ?_
    refine ax (I:=fun i acc H16=>H16 = H15/\acc = (((ah G v).take i).filter fun u=>decide (u∉seen)).map ak) rfl _ 0 _ _ _ ⟨rfl,rfl⟩ (fun j vv acc hvv Ry_ hy_ Rn_ hn_ H16 hI=>?_) fun acc H16 hI=>?_
    ·refine bc fun GG=>?_
     obtain ⟨rfl,rfl⟩:=hI
     refine GG ?_
     rw [Nat.zero_add] at *
     rw [List.getElem?_map] at hvv
     refine bc fun GG=>?_
     obtain ⟨x,hx,rfl⟩:=Option.map_eq_some_iff.mp hvv
     refine GG ?_
     (try rw [az hx,List.filter_append,List.filter_cons,List.filter_nil] at hy_)
     (try rw [az hx,List.filter_append,List.filter_cons,List.filter_nil] at hn_)
     repeat walk_at "step"
     refine bB h15s ?_
     repeat walk_at "step"
     cases hc : seen.contains x with
     | true=>
      have : x∈seen:=List.contains_iff_mem.mp hc
      repeat walk_at "step"
      exact ⟨rfl,rfl,by simp [this]⟩
     | false=>
      have : x∉seen:=fun h=>by rw [List.contains_iff_mem.mpr h] at hc; cases hc
      repeat walk_at "step"
      exact ⟨rfl,rfl,by simp [this]⟩
    refine bc fun GG=>?_
    obtain ⟨rfl,rfl⟩:=hI
    refine GG ?_
    have hll3 : 0 + ((ah G v).map ak).length = (ah G v).length:=by simp
    refine aa (hll3 ..) (aa (List.take_length ..) ?_)
    refine bc fun GG=>?_
    obtain ⟨fr,hfr⟩ : ∃ fr,fr = (ah G v).filter fun u=>decide (u∉seen):=⟨_,rfl⟩
    refine GG ?_
    refine aa (Eq.symm (hfr ..)) ?_
    have hfrl : fr.length<=3:=by refine aa (hfr ..) ?_; exact Nat.le_trans (List.length_filter_le _ _) hgl.1
    have hfrm : ∀ x,x∈fr↔x∈ah G v/\x∉seen:=fun x=>by refine aa (hfr ..) (aa (propext (List.mem_filter ..)) ?_); simp
    clear hfr
    intro fa hfa
    have s16:=s15.then (o:=.list (fr.map ak)) hfa
    have t16:=t15.then (o:=.list (fr.map ak)) hfa
    have h16f : an H16 fa (.list (fr.map ak)) fa = some (.list (fr.map ak)):=ad _ _ _
    generalize an H16 fa (.list (fr.map ak)) = H17 at s16 t16 h16f
    clear s15 t15 h15s h15w hfa
    repeat walk_at "step"
    refine cK (t16 _ _ h7s) h16f (by simp; exact Bu hsl hfrl) fun sb hsb=>?_
    refine aa (Eq.symm (List.map_append ..)) ?_
    have hsb0:=s16.none hsb
    have s17:=s16.then (o:=.list ((seen ++ fr).map ak)) hsb
    have t17:=t16.then (o:=.list ((seen ++ fr).map ak)) hsb
    have h17f:=Sub.upd (o:=.list ((seen ++ fr).map ak)) hsb _ _ h16f
    have h17s : an H17 sb (.list ((seen ++ fr).map ak)) sb = some (.list ((seen ++ fr).map ak)):=ad _ _ _
    generalize an H17 sb (.list ((seen ++ fr).map ak)) = H18 at s17 t17 h17f h17s
    clear s16 t16 h16f hsb
    repeat walk_at "step"
    refine bA (ar h17f) (by simp; exact t5 hfrl) ?_
    refine ax (I:=fun i acc H19=>Sub H18 H19/\∃ us : List Addr,acc = us.map AV.ref/\bX (fun t (p : Nat × Nat)=>H19 t = some (.tuple [ak p.1,ak p.2])) us ((fr.take i).map fun x=>(x,0))) rfl _ 0 _ _ _ ⟨Sub.rfl,[],rfl,.nil⟩ (fun j vv acc hvv Ry_ hy_ Rn_ hn_ H19 hI=>?_) fun acc H19 hI=>?_
    ·refine bc fun GG=>?_
     obtain ⟨s19,us,rfl,hus⟩:=hI
     refine GG ?_
     rw [Nat.zero_add] at *
     rw [List.getElem?_map] at hvv
     refine bc fun GG=>?_
     obtain ⟨x,hx,rfl⟩:=Option.map_eq_some_iff.mp hvv
     refine GG ?_
     repeat walk_at "step"
     refine ⟨by simp,fun tn htn=>?_⟩
     repeat walk_at "step"
     refine ⟨by exact aa (s19.then htn _ _ h17f) (aa (h17f ..) rfl),s19.then htn,us ++ [tn],by simp,?_⟩
     (try rw [az hx,List.map_append] at hy_)
     (try rw [az hx,List.map_append] at hn_)
     try refine aa (az hx) (aa (List.map_append ..) ?_)
     exact bX.append (hus.mono fun t p h=>Sub.upd htn _ _ h) (.cons (ad _ _ _) .nil)
    refine bc fun GG=>?_
    obtain ⟨s19,us,rfl,hus⟩:=hI
    refine GG ?_
    have hll4 : 0 + (fr.map ak).length = fr.length:=by simp
    rw [hll4,List.take_length] at hus
    have husl : us.length = fr.length:=by refine aa (hus.len ..) ?_; simp
    intro ua hua
    refine cK (Sub.upd hua _ _ (s19 _ _ (t17 _ _ h7w))) (ad _ _ _) (by simp; exact CE hwl hlen' husl hfrl) fun wb hwb=>?_
    refine aa (Eq.symm (List.map_append ..)) ?_
    have s20:=((s17.trans s19).then (o:=.list (us.map AV.ref)) hua).then (o:=.list ((ts' ++ us).map AV.ref)) hwb
    have t20:=((t17.trans s19).then (o:=.list (us.map AV.ref)) hua).then (o:=.list ((ts' ++ us).map AV.ref)) hwb
    have u20:=(Sub.upd (o:=.list (us.map AV.ref)) hua).then (o:=.list ((ts' ++ us).map AV.ref)) hwb
    have hwb0:=((s17.trans s19).then (o:=.list (us.map AV.ref)) hua).none hwb
    have nsw' : sb≠wb:=Ne.symm (ai hwb (Sub.upd hua _ _ (s19 _ _ h17s)))
    repeat walk_at "step"
    have hD : fr.length + 3 * dD G.length (seen ++ fr)<=3 * dD G.length seen/\fr.length + 4 * dD G.length (seen ++ fr)<=4 * dD G.length seen:=by
     cases hfe : fr with
     | nil=>simp
     | cons x fr'=>
      have hx:=(hfrm x).mp (by refine aa (hfe ..) ?_; exact .head _)
      have:=qh (n:=G.length) (seen:=seen) (fresh:=fr) (hgl.2 x hx.1) (by refine aa (hfe ..) ?_; exact .head _) hx.2
      rw [hfe] at this hfrl
      exact yt this hfrl
    have hmono : ∀ u s',rI G cell seen u s'->rI G cell (seen ++ fr) u s':=fun u s' h B hB=>⟨(h B hB).1,fun e w hw=>List.mem_append_left _ ((h B hB).2 e w hw)⟩
    have hok : rI G cell (seen ++ fr) v s:=fun B hB=>by
     rw [hGv] at hB; cases hB
     refine ⟨hn1,fun _ w hw=>?_⟩
     by_cases hs : w∈seen
     ·exact List.mem_append_left _ hs
     ·exact List.mem_append_right _ ((hfrm w).mpr ⟨hw,hs⟩)
    have sel:=rn (ws:=ws') (ws':=ws' ++ fr.map (fun x=>(x,0))) (P:=rI G cell (seen ++ fr)) (fun _ h=>List.mem_append_left _ h) hmono hok
    refine ⟨dD G.length (seen ++ fr) * 4 + (ws' ++ fr.map fun x=>(x,0)).length,by refine aa (List.length_append ..) (aa (List.length_map ..) ?_); exact CX hD,⟨e1,e2,e3⟩,s20,wb,sb,ts' ++ us,ws' ++ fr.map (fun x=>(x,0)),seen ++ fr,rfl,rfl,hwb0,nsw',ad _ _ _,u20 _ _ (s19 _ _ h17s),bX.append (hts7.mono fun t p h=>t20 _ _ h) (hus.mono fun t p h=>u20 _ _ h),rfl,
     by refine aa (List.length_append ..) (aa (List.length_map ..) ?_); exact B0 hD hwl,by refine aa (List.length_append ..) ?_; exact BU hD hsl,fun p hp=>?_,sel _ _ hst,fun u hu=>?_⟩
    ·rcases List.mem_append.mp hp with h | h
     ·exact hsnd p (List.mem_append_left _ h)
     ·refine bc fun GG=>?_
      obtain ⟨x,hx,rfl⟩:=List.mem_map.mp h
      refine GG ?_
      have:=(hfrm x).mp hx
      repeat walk_at "step"
      exact ⟨hgl.2 x this.1,fun h=>hv.2 (.thru hGv h0 this.1 h)⟩
    ·rcases List.mem_append.mp hu with h | h
     ·repeat walk_at "step"
      exact ⟨(hseen u h).1,sel _ _ (hseen u h).2⟩
     ·repeat walk_at "step"
      exact ⟨hgl.2 u ((hfrm u).mp h).1,.inl (List.mem_append_right _ (List.mem_map.mpr ⟨u,h,rfl⟩))⟩
end
end
section
theorem eX {gv : List Int} {r : Int} (hr : r∈aA) : ∀ {rs nd : List Int},r∈bp gv nd rs↔r∈nd\/(r∉gv/\r∈rs)
 | [],nd=>by unfold bp; simp
 | a :: rs,nd=>by
  unfold bp
  rw [eX hr (rs:=rs)]
  cases hc : gv.contains a with
  | true=>
   have ha : a∈gv:=List.contains_iff_mem.mp hc
   refine aa (if_pos rfl) (aa (propext (List.mem_cons ..)) ?_)
   constructor
   ·rintro (h | ⟨h1,h2⟩)
    ·exact .inl h
    ·exact .inr ⟨h1,.inr h2⟩
   ·rintro (h | ⟨h1,h2 | h2⟩)
    ·exact .inl h
    ·rw [h2] at h1; exact absurd ha h1
    ·exact .inr ⟨h1,h2⟩
  | false=>
   have ha : a∉gv:=fun h=>by rw [List.contains_iff_mem.mpr h] at hc; exact nomatch hc
   rw [if_neg (by simp),br,Bool.or_eq_true,List.contains_iff_mem,beq_iff_eq,List.mem_cons]
   constructor
   ·rintro (⟨_,h | h⟩ | ⟨h1,h2⟩)
    ·exact .inl h
    ·refine aa (h ..) ?_; exact .inr ⟨ha,.inl rfl⟩
    ·exact .inr ⟨h1,.inr h2⟩
   ·rintro (h | ⟨h1,h2 | h2⟩)
    ·exact .inl ⟨hr,.inl h⟩
    ·exact .inl ⟨hr,.inr h2⟩
    ·exact .inr ⟨h1,h2⟩
theorem eO {gv : List Int} {r : Int} : ∀ {rs nd : List Int},r∈bp gv nd rs->r∈nd\/r∈rs
 | [],nd,h=>by unfold bp at h; exact .inl h
 | a :: rs,nd,h=>by
  unfold bp at h
  rcases eO (rs:=rs) h with h | h
  ·split at h
   ·exact .inl h
   ·rw [br,Bool.or_eq_true,List.contains_iff_mem,beq_iff_eq] at h
    rcases h.2 with h | h
    ·exact .inl h
    ·exact .inr (by refine aa (h ..) ?_; exact .head _)
  ·exact .inr (.tail _ h)
theorem fA {r : Int} : ∀ {xs : List (Int × List Nat)} {nd gv : List Int},r∈(aH (nd,gv) xs).1->r∈nd\/∃ x∈xs,r∈x.2.map fun (r : Nat)=>(r : Int)
 | [],nd,gv,h=>by unfold aH at h; exact .inl h
 | x :: xs,nd,gv,h=>by
  unfold aH at h
  rcases fA (xs:=xs) h with h | ⟨y,hy,h⟩
  ·rcases eO h with h | h
   ·exact .inl h
   ·exact .inr ⟨x,.head _,h⟩
  ·exact .inr ⟨y,.tail _ hy,h⟩
theorem rC {G : List cI} (hG : cm G) {v : Nat} {r : Int} (h : r∈eV G v) : 0<=r/\r < 4:=by
 unfold eV at h
 split at h
 ·rename_i B hB
  have hBw:=hG.blk B (List.mem_of_getElem? hB)
  have key : ∀ {rs : List Nat},(∀ x∈rs,x < 4)->r∈rs.map (fun (r : Nat)=>(r : Int))->0<=r/\r < 4:=fun hl hm=>by
   obtain ⟨x,hx,rfl⟩:=List.mem_map.mp hm
   have:=hl x hx; exact tE this
  rcases eO h with h | h
  ·rcases fA h with h | ⟨x,hx,h⟩
   ·exact nomatch h
   ·exact key (hBw.steps x hx).2.2.1 h
  ·exact key hBw.fin.regs h
 ·exact nomatch h
theorem Lv.small {G : List cI} (hG : cm G) {v : Nat} {r : Int} (h : Lv G r v) : 0<=r/\r < 4:=by
 induction h with
 | use h=>exact rC hG h
 | thru _ _ _ ih=>exact ih
theorem jh {q : Int->Bool} {regs : List Int} {r : Int} (hr : r∈aA) : ∀ {xs : List (Int × List Nat)} {nd gv : List Int},
  (r∈bp (aH (nd,gv) xs).2 (aH (nd,gv) xs).1 regs\/(r∉(aH (nd,gv) xs).2/\q r = true))↔r∈nd\/(r∉gv/\ir (fun i=>q i || regs.contains i) xs r = true)
 | [],nd,gv=>by
  unfold aH ir
  refine aa (propext (eX hr)) (aa (Bool.or_eq_true ..) (aa (propext (List.contains_iff_mem ..)) ?_))
  constructor
  ·rintro ((h | ⟨h1,h2⟩) | ⟨h1,h2⟩)
   ·exact .inl h
   ·exact .inr ⟨h1,.inr h2⟩
   ·exact .inr ⟨h1,.inl h2⟩
  ·rintro (h | ⟨h1,h2 | h2⟩)
   ·exact .inl (.inl h)
   ·exact .inr ⟨h1,h2⟩
   ·exact .inl (.inr ⟨h1,h2⟩)
 | x :: xs,nd,gv=>by
  unfold aH ir
  rw [jh hr (xs:=xs),eX hr,br,Bool.or_eq_true,Bool.or_eq_true,Bool.and_eq_true,List.contains_iff_mem,List.contains_iff_mem,beq_iff_eq,bne_iff_ne]
  constructor
  ·rintro ((h | ⟨h1,h2⟩) | ⟨h1,h2⟩)
   ·exact .inl h
   ·exact .inr ⟨h1,.inr h2⟩
   ·exact .inr ⟨fun h=>h1 ⟨hr,.inl h⟩,.inl ⟨h2,fun e=>h1 ⟨hr,.inr e⟩⟩⟩
  ·rintro (h | ⟨h1,⟨h2,h3⟩ | h2⟩)
   ·exact .inl (.inl h)
   ·exact .inr ⟨fun h=>h.2.elim h1 h3,h2⟩
   ·exact .inl (.inr ⟨h1,h2⟩)
theorem fg {q : Int->Bool} {regs : List Nat} {r : Int} (h0 : 0<=r) : ∀ {xs : List (Int × List Nat)},
  ir (fun i=>q i || (regs.map fun (r : Nat)=>(r : Int)).contains i) xs r = true↔
   (((xs ++ [((-1 : Int),regs)]).map (dA r)).filter fun u=>decide (u > 0)).take 1 = [1]\/((((xs ++ [((-1 : Int),regs)]).map (dA r)).filter fun u=>decide (u > 0)).take 1 = []/\q r = true)
 | []=>by
  have hn : ((-1 : Int) == r) = false:=beq_eq_false_iff_ne.mpr (by exact Cl h0)
  unfold ir
  simp only [List.nil_append,List.map_cons,List.map_nil,dA,hn,Bool.or_eq_true]
  cases (regs.map fun (r : Nat)=>(r : Int)).contains r<;>simp
 | x :: xs=>by
  unfold ir
  rw [Bool.or_eq_true,Bool.and_eq_true,fg h0 (xs:=xs)]
  simp only [List.cons_append,List.map_cons]
  generalize ((xs ++ [((-1 : Int),regs)]).map (dA r)) = us
  unfold dA
  cases hc : (x.2.map fun (r : Nat)=>(r : Int)).contains r with
  | true=>simp
  | false=>
   by_cases e : x.1 = r
   ·subst e; simp
   ·have h1 : (x.1 == r) = false:=beq_eq_false_iff_ne.mpr e
    have h2 : (r != x.1) = true:=bne_iff_ne.mpr (Ne.symm e)
    refine aa (h1 ..) (aa (h2 ..) ?_)
    simp
theorem fY {G : List cI} {v : Nat} {B : cI} (hB : G[v]? = some B) {r : Int} (hr : r∈aA) (h0 : 0<=r) (q : Bool) : (r∈eV G v\/(r∉ey G v/\q = true))↔(bq B 0 r = [1]\/(bq B 0 r = []/\q = true)):=by
 have h1:=jh (q:=fun _=>q) (regs:=B.regs.map fun (r : Nat)=>(r : Int)) hr (xs:=B.steps) (nd:=[]) (gv:=[])
 have h2:=fg (q:=fun _=>q) (regs:=B.regs) h0 (xs:=B.steps)
 have e1 : eV G v = (cZ B).1:=by unfold eV; exact aa (hB ..) rfl
 have e2 : ey G v = (cZ B).2:=by unfold ey; exact aa (hB ..) rfl
 refine aa (e1 ..) (aa (e2 ..) ?_)
 unfold cZ bq bj
 rw [List.drop_zero,<-h2]
 refine h1.trans ?_
 simp
theorem Lv.iff {G : List cI} (hgf : ∀ v,v < G.length->∀ u∈ah G v,u < G.length) {v : Nat} (hv : v < G.length) {r : Int} (hr : r∈aA) (h0 : 0<=r) : Lv G r v↔LW G r v 0:=by
 constructor
 ·intro h
  induction h with
  | @use v h=>exact .use (List.getElem?_eq_getElem hv) (((fY (List.getElem?_eq_getElem hv) hr h0 false).mp (.inl h)).resolve_right fun z=>by exact nomatch z.2)
  | @thru v u h hu _ ih=>
   rcases (fY (List.getElem?_eq_getElem hv) hr h0 true).mp (.inr ⟨h,rfl⟩) with z | z
   ·exact .use (List.getElem?_eq_getElem hv) z
   ·exact .thru (List.getElem?_eq_getElem hv) z.1 hu (ih (hgf v hv u hu))
 ·intro h
  have : ∀ {v s : Nat},LW G r v s->s = 0->v < G.length->Lv G r v:=fun h=>by
   induction h with
   | use hB h=>
    intro e hv
    subst e
    exact .use (((fY hB hr h0 false).mpr (.inl h)).resolve_right fun z=>by exact nomatch z.2)
   | thru hB h hu _ ih=>
    intro e hv
    subst e
    rcases (fY hB hr h0 true).mpr (.inr ⟨h,rfl⟩) with z | z
    ·exact .use z
    ·exact .thru z.1 hu (ih rfl (hgf _ hv _ hu))
  exact this h rfl hv
open Classical in
noncomputable def aG (G : List cI) (v s : Nat) : List Int:=[0,1,2,3].filter fun r=>decide (LW G r v s)
theorem jK {G : List cI} {v s : Nat} {r : Int} : r∈aG G v s↔(0<=r/\r < 4)/\LW G r v s:=by
 unfold aG
 refine aa (propext (List.mem_filter ..)) ?_
 simp only [decide_eq_true_eq]
 have : r∈[(0 : Int),1,2,3]↔0<=r/\r < 4:=by
  simp only [List.mem_cons,List.not_mem_nil,or_false]; exact tB
 rw [this]
theorem gR {G : List cI} {v s : Nat} : (aG G v s).Pairwise (· < ·):=by
 have : [(0 : Int),1,2,3].Pairwise (· < ·):=by decide
 exact this.sublist List.filter_sublist
theorem kI {G : List cI} {v s : Nat} {p : Int->Bool} (h : ∀ r∈aA,p r = true↔(0<=r/\r < 4)/\LW G r v s) : aK p = aG G v s:=by
 refine bP (bv _) gR fun y=>?_
 refine aa (propext (br ..)) (aa (propext (jK ..)) ?_)
 constructor
 ·rintro ⟨h1,h2⟩; exact (h y h1).mp h2
 ·intro h1
  have hy : y∈aA:=dn (by exact DR h1) (by exact D7 h1)
  exact ⟨hy,(h y hy).mpr h1⟩
open Classical in
noncomputable def bJ (G : List cI) (v : Nat) : List Int:=[0,1,2,3].filter fun r=>decide (∃ u∈ah G v,LW G r u 0)
theorem i4 {G : List cI} {v : Nat} {r : Int} : r∈bJ G v↔(0<=r/\r < 4)/\∃ u∈ah G v,LW G r u 0:=by
 unfold bJ
 refine aa (propext (List.mem_filter ..)) ?_
 simp only [decide_eq_true_eq]
 have : r∈[(0 : Int),1,2,3]↔0<=r/\r < 4:=by
  simp only [List.mem_cons,List.not_mem_nil,or_false]; exact tB
 rw [this]
theorem o6 {G : List cI} {v : Nat} {p : Int->Bool} (h : ∀ r∈aA,p r = true↔(0<=r/\r < 4)/\∃ u∈ah G v,LW G r u 0) : aK p = bJ G v:=by
 have : [(0 : Int),1,2,3].Pairwise (· < ·):=by decide
 refine bP (bv _) (this.sublist List.filter_sublist) fun y=>?_
 refine aa (propext (br ..)) (aa (propext (i4 ..)) ?_)
 constructor
 ·rintro ⟨h1,h2⟩; exact (h y h1).mp h2
 ·intro h1
  have hy : y∈aA:=dn (by exact DR h1) (by exact D7 h1)
  exact ⟨hy,(h y hy).mpr h1⟩
theorem kJ {G : List cI} (hG : cm G) {v : Nat} {B : cI} (hB : G[v]? = some B) {q : Int->Bool} (hq : ∀ r∈aA,q r = true↔(0<=r/\r < 4)/\∃ u∈ah G v,LW G r u 0) (s : Nat) :
  aK (ir (fun i=>q i || (B.regs.map fun (r : Nat)=>(r : Int)).contains i) (B.steps.drop s)) = aG G v s:=by
 have hBw:=hG.blk B (List.mem_of_getElem? hB)
 refine kI fun r hr=>?_
 have small : ∀ {xs : List (Int × List Nat)},(∀ x∈xs,kQ x)->ir (fun i=>q i || (B.regs.map fun (r : Nat)=>(r : Int)).contains i) xs r = true->0<=r/\r < 4:=by
  have key : ∀ {rs : List Nat},(∀ x∈rs,x < 4)->(rs.map (fun (r : Nat)=>(r : Int))).contains r = true->0<=r/\r < 4:=fun hl hm=>by
   obtain ⟨x,hx,rfl⟩:=List.mem_map.mp (List.contains_iff_mem.mp hm)
   have:=hl x hx; exact tE this
  intro xs
  induction xs with
  | nil=>
   intro _ h
   unfold ir at h
   rw [Bool.or_eq_true] at h
   rcases h with h | h
   ·exact ((hq r hr).mp h).1
   ·exact key hBw.fin.regs h
  | cons x xs ih=>
   intro hx h
   unfold ir at h
   rw [Bool.or_eq_true,Bool.and_eq_true] at h
   rcases h with ⟨h,_⟩ | h
   ·exact ih (fun y hy=>hx y (.tail _ hy)) h
   ·exact key (hx x (.head _)).2.2.1 h
 have hst : ∀ x∈B.steps.drop s,kQ x:=fun x hx=>hBw.steps x (List.mem_of_mem_drop hx)
 constructor
 ·intro h
  have h4:=small hst h
  refine ⟨h4,?_⟩
  rcases (fg h4.1).mp h with z | ⟨z,hz⟩
  ·exact .use hB z
  ·obtain ⟨_,u,hu,h'⟩:=(hq r hr).mp hz
   exact .thru hB z hu h'
 ·rintro ⟨h4,h⟩
  refine (fg h4.1).mpr ?_
  cases h with
  | use hB' z=>rw [hB] at hB'; cases hB'; exact .inl z
  | thru hB' z hu h'=>rw [hB] at hB'; cases hB'; exact .inr ⟨z,(hq r hr).mpr ⟨h4,_,hu,h'⟩⟩
end
section
open Classical in
noncomputable def bm {α : Type} (p : α->Prop) (l : List α) : List α:=l.filter fun x=>decide (p x)
theorem cn {α : Type} {p : α->Prop} {l : List α} {x : α} (h : p x) : bm p (l ++ [x]) = bm p l ++ [x]:=by unfold bm; refine aa (List.filter_append ..) ?_; simp [h]
theorem bV {α : Type} {p : α->Prop} {l : List α} {x : α} (h : ¬ p x) : bm p (l ++ [x]) = bm p l:=by unfold bm; refine aa (List.filter_append ..) ?_; simp [h]
theorem bu {α : Type} {p : α->Prop} {l : List α} {x : α} : x∈bm p l↔x∈l/\p x:=by
 unfold bm
 refine aa (propext (List.mem_filter ..)) ?_
 simp only [decide_eq_true_eq]
theorem cW {α : Type} (p : α->Prop) (l : List α) : (bm p l).length<=l.length:=List.length_filter_le _ _
theorem iK {α : Type} {p : α->Prop} {l : List α} : ¬ bm p l = []↔∃ x∈l,p x:=by
 constructor
 ·intro h
  cases e : bm p l with
  | nil=>exact absurd e h
  | cons x xs=>
   have : x∈bm p l:=by refine aa (e ..) ?_; exact .head _
   exact ⟨x,bu.mp this⟩
 ·rintro ⟨x,hx,hp⟩ h
  have : x∈bm p l:=bu.mpr ⟨hx,hp⟩
  rw [h] at this; exact nomatch this
section
variable {c : Cx} {k : Nat} {H : ag} {Q : AV->ag->Prop}
theorem i9 (hK : KF c.K) {f ga ca : Addr} {G : List cI} {ls : List Addr} {come : List Nat} (hF : cA H f G) (hG : cm G) (hB : Rows H ga ls (ah G)) (hl : ls.length = G.length)
  (hc : H ca = some (.list (come.map ak))) (hcm : ∀ v∈come,v < G.length/\bW (ah G) 0 v)
  (q : ∀ H' : ag,Sub H H'->Q (.bool true) H') : AC c (k + 4) 246 [.ref f,.ref ga,.ref ca] H Q:=by
 refine aI (BL hK) rfl ?_
 dsimp only [mW,lF,ni]
 obtain ⟨bl,bs,p0,s0,⟨dx,hf1,hf2⟩,hbl,hlen,hblk⟩:=hF.is
 have hsix:=hG.six
 have hgf : ∀ v,v < G.length->∀ u∈ah G v,u < G.length:=fun v hv=>(aX hG hv).2
 have e4 : [0,1,2,3].map ak = ([0,1,2,3] : List Int).map AV.int:=rfl
 repeat walk_at "step"
 refine sn hK hF hG fun H1 t la lo l1 l2 p p2 s1 ht h1t R1 R2 hl1 hl2 hlv=>?_
 have hp : ∀ v∈come,aK (p v) = aG G v 0:=fun v hv=>kI fun r hr=>by
  have hv:=hcm v hv
  refine aa (propext ((hlv v hv.2 r hr).1)) ?_
  exact ⟨fun h=>⟨h.small hG,(Lv.iff hgf hv.1 hr (h.small hG).1).mp h⟩,fun h=>(Lv.iff hgf hv.1 hr h.1.1).mpr h.2⟩
 have hq2 : ∀ v∈come,∀ r∈aA,p2 v r = true↔(0<=r/\r < 4)/\∃ u∈ah G v,LW G r u 0:=fun v hv r hr=>by
  have hv:=hcm v hv
  refine aa (propext ((hlv v hv.2 r hr).2)) ?_
  exact ⟨fun ⟨u,hu,h⟩=>⟨h.small hG,u,hu,(Lv.iff hgf (hgf v hv.1 u hu) hr (h.small hG).1).mp h⟩,fun ⟨h1,u,hu,h⟩=>⟨u,hu,(Lv.iff hgf (hgf v hv.1 u hu) hr h1.1).mpr h⟩⟩
 clear hlv
 repeat walk_at "step"
 refine cP (ar (s1 _ _ hc)) ?_
 refine aD (I:=fun i m H5=>(fJ (m "func" = some (.ref f)) (m "goals" = some (.ref ga)) (m "come" = some (.ref ca)) (m "ahead" = some (.ref la)) (m "behind" = some (.ref lo)))/\Sub H1 H5) rfl _ 0 _ _
  ⟨⟨rfl,rfl,rfl,rfl,rfl⟩,Sub.rfl⟩ (fun i R_ hR_ hr_ vv m H5 hvv hI=>?_) fun m H5 hI=>?_
 rotate_left
 ·obtain ⟨⟨e1,e2,e3,e5,e6⟩,s5⟩:=hI
  repeat walk_at "step"
  first | exact q H5 (s1.trans s5) | exact s1.trans s5
 obtain ⟨⟨e1,e2,e3,e5,e6⟩,s5⟩:=hI
 rw [List.getElem?_map] at hvv
 obtain ⟨v,hv,rfl⟩:=Option.map_eq_some_iff.mp hvv
 have hvc:=List.mem_of_getElem? hv
 have hvn:=hcm v hvc
 have hgv:=aX hG hvn.1
 have hbvl : v < bs.length:=by exact fy hvn hlen
 have hbv : bs[v]? = some bs[v]:=List.getElem?_eq_getElem hbvl
 have hGvl : v < G.length:=hvn.1
 have hGv : G[v]? = some G[v]:=List.getElem?_eq_getElem hGvl
 have hBw:=hG.blk _ (List.getElem_mem hvn.1)
 have hBs:=hBw.slen
 have s6:=s1.trans s5
 have hf1':=s6 _ _ hf1
 have hf2':=s6 _ _ hf2
 have hc1:=s1 _ _ hc
 repeat walk_at "step"
 refine bn (j:=v) (s6 _ _ hbl) (by simp; exact bE hlen hsix) (aJ (by simp; exact fy hvn hlen)) (by refine aa (List.getElem?_map) (aa (hbv ..) ?_); rfl) ?_
 repeat walk_at "step"
 refine d9 hK fun rd hrd=>?_
 refine aa (e4 ..) ?_
 have s7:=s6.then (o:=.list (([0,1,2,3] : List Int).map AV.int)) hrd
 have t7:=s5.then (o:=.list (([0,1,2,3] : List Int).map AV.int)) hrd
 have h7 : an H5 rd (.list (([0,1,2,3] : List Int).map AV.int)) rd = some (.list (([0,1,2,3] : List Int).map AV.int)):=ad _ _ _
 generalize an H5 rd (.list (([0,1,2,3] : List Int).map AV.int)) = H7 at s7 t7 h7
 repeat walk_at "step"
 refine bA (ar h7) (by simp) ?_
 refine ax (I:=fun j acc H8=>Sub H7 H8/\acc = (bm (fun r=>LW G r v 0) (([0,1,2,3] : List Int).take j)).map .int) rfl _ 0 _ _ _ ⟨Sub.rfl,rfl⟩ (fun j vv acc hvv Ry_ hy_ Rn_ hn_ H8 hI=>?_) fun acc H8 hI=>?_
 ·obtain ⟨s8,rfl⟩:=hI
  rw [Nat.zero_add] at *
  rw [List.getElem?_map] at hvv
  obtain ⟨r,hr,rfl⟩:=Option.map_eq_some_iff.mp hvv
  (try rw [az hr] at hy_)
  (try rw [az hr] at hn_)
  repeat walk_at "step"
  refine cf ?_ (fun _ _=>rfl)
  repeat walk_at "step"
  refine fH (spot:=0) hK (hF.sub (s7.trans s8)) hG (hB.sub (s7.trans s8)) hl hvn.1 fun H9 b s9 hb=>?_
  refine dG ?_
  cases b with
  | true=>
   (try rw [cn (p:=fun r=>LW G r v 0) (x:=r) (hb.mp rfl)] at hy_)
   (try rw [cn (p:=fun r=>LW G r v 0) (x:=r) (hb.mp rfl)] at hn_)
   repeat walk_at "step"
   exact ⟨by exact aa (s9 _ _ (s8 _ _ h7)) (aa (h7 ..) rfl),s8.trans s9,by simp⟩
  | false=>
   (try rw [bV (p:=fun r=>LW G r v 0) (x:=r) fun h=>by cases hb.mpr h] at hy_)
   (try rw [bV (p:=fun r=>LW G r v 0) (x:=r) fun h=>by cases hb.mpr h] at hn_)
   repeat walk_at "step"
   exact ⟨by exact aa (s9 _ _ (s8 _ _ h7)) (aa (h7 ..) rfl),s8.trans s9,rfl⟩
 obtain ⟨s8,rfl⟩:=hI
 intro du hdu
 have e10 : (bm (fun r=>LW G r v 0) (([0,1,2,3] : List Int).take (0 + (([0,1,2,3] : List Int).map AV.int).length))).map AV.int = (aG G v 0).map .int:=rfl
 refine aa (e10 ..) ?_
 have s9:=(s7.trans s8).then (o:=.list ((aG G v 0).map .int)) hdu
 have t9:=(t7.trans s8).then (o:=.list ((aG G v 0).map .int)) hdu
 have h9d : an H8 du (.list ((aG G v 0).map .int)) du = some (.list ((aG G v 0).map .int)):=ad _ _ _
 generalize an H8 du (.list ((aG G v 0).map .int)) = H9 at s9 t9 h9d
 clear s7 t7 h7 s8 hdu hrd e10
 repeat walk_at "step"
 refine ⟨by simp,fun lt hlt=>?_⟩
 have s10:=s9.then (o:=.list []) hlt
 have t10:=t9.then (o:=.list []) hlt
 have h10d:=Sub.upd (o:=.list []) hlt _ _ h9d
 have h10l : an H9 lt (.list []) lt = some (.list []):=ad _ _ _
 have hlt0:=t9.none hlt
 have hlt0':=s9.none hlt
 have ndl : du≠lt:=Ne.symm (ai hlt h9d)
 generalize an H9 lt (.list []) = H10 at s10 t10 h10d h10l
 clear s9 t9 h9d hlt
 repeat walk_at "step"
 refine d9 hK fun rd hrd=>?_
 refine aa (e4 ..) ?_
 have h11 : an H10 rd (.list (([0,1,2,3] : List Int).map AV.int)) rd = some (.list (([0,1,2,3] : List Int).map AV.int)):=ad _ _ _
 have u11:=Sub.upd (o:=.list (([0,1,2,3] : List Int).map AV.int)) hrd
 have nrl : rd≠lt:=ai hrd h10l
 generalize an H10 rd (.list (([0,1,2,3] : List Int).map AV.int)) = H11 at h11 u11
 repeat walk_at "step"
 refine cP (ar h11) ?_
 refine aD (I:=fun j m H12=>bC (zm (m "func" = some (.ref f)) (m "goals" = some (.ref ga)) (m "come" = some (.ref ca)) (m "ahead" = some (.ref la)) (m "behind" = some (.ref lo)) (m "at" = some (ak v)) (m "box" = some (.ref bs[v])) (m "due" = some (.ref du)) (m "later" = some (.ref lt))) (aV lt H11 H12) (H12 lt = some (.list ((bm (fun r=>∃ u∈ah G v,LW G r u 0) (([0,1,2,3] : List Int).take j)).map .int)))) rfl _ 0 _ _
  ⟨⟨e1,e2,e3,e5,e6,rfl,rfl,rfl,rfl⟩,fun _ _ _ h=>h,u11 _ _ h10l⟩ (fun j R_ hR_ hr_ vv m H12 hvv hI=>?_) fun m H12 hI=>?_
 ·obtain ⟨⟨e1,e2,e3,e5,e6,e7,e8,e9,e10⟩,s12,h12l⟩:=hI
  rw [Nat.zero_add] at *
  rw [List.getElem?_map] at hvv
  obtain ⟨r,hr,rfl⟩:=Option.map_eq_some_iff.mp hvv
  (try rw [az hr] at hR_)
  have s12' : Sub H H12:=fun x o hx=>s12 _ _ (Ne.symm (ai hlt0' hx)) (u11 _ _ (s10 _ _ hx))
  have hvl : v < ls.length:=by exact fy hvn hl
  have lk : ls[v]? = some ls[v]:=List.getElem?_eq_getElem hvl
  have hrow:=s12' _ _ (hB.row v _ lk)
  have hj4 : ([0,1,2,3] : List Int).length = 4:=rfl
  have hplen:=cW (fun r=>∃ u∈ah G v,LW G r u 0) (([0,1,2,3] : List Int).take j)
  have hjl : (([0,1,2,3] : List Int).take j).length<=4:=by refine aa (Eq.symm (hj4 ..)) ?_; exact List.length_take_le' _ _
  repeat walk_at "step"
  refine bn (j:=v) (s12' _ _ hB.top) (by simp; exact bE hl hsix) (aJ (by simp; exact dr hvl)) (by refine aa (List.getElem?_map) (aa (lk ..) ?_); rfl) ?_
  repeat walk_at "step"
  refine bA (ar hrow) (by simp; exact sv hgv) ?_
  refine ax (I:=fun j2 acc H13=>Sub H12 H13/\acc = (bm (fun u=>LW G r u 0) ((ah G v).take j2)).map ak) rfl _ 0 _ _ _ ⟨Sub.rfl,rfl⟩ (fun j2 vv acc hvv Ry_ hy_ Rn_ hn_ H13 hI=>?_) fun acc H13 hI=>?_
  ·obtain ⟨s13,rfl⟩:=hI
   rw [Nat.zero_add] at *
   rw [List.getElem?_map] at hvv
   obtain ⟨u,hu,rfl⟩:=Option.map_eq_some_iff.mp hvv
   (try rw [az hu] at hy_)
   (try rw [az hu] at hn_)
   repeat walk_at "step"
   refine cf ?_ (fun _ _=>rfl)
   repeat walk_at "step"
   refine fH (spot:=0) hK (hF.sub (s12'.trans s13)) hG (hB.sub (s12'.trans s13)) hl (hgv.2 u (List.mem_of_getElem? hu)) fun H14 b s14 hb=>?_
   refine dG ?_
   cases b with
   | true=>
    (try rw [cn (p:=fun u=>LW G r u 0) (x:=u) (hb.mp rfl)] at hy_)
    (try rw [cn (p:=fun u=>LW G r u 0) (x:=u) (hb.mp rfl)] at hn_)
    repeat walk_at "step"
    exact ⟨by exact aa (s14 _ _ (s13 _ _ hrow)) (aa (hrow ..) rfl),s13.trans s14,by simp⟩
   | false=>
    (try rw [bV (p:=fun u=>LW G r u 0) (x:=u) fun h=>by cases hb.mpr h] at hy_)
    (try rw [bV (p:=fun u=>LW G r u 0) (x:=u) fun h=>by cases hb.mpr h] at hn_)
    repeat walk_at "step"
    exact ⟨by exact aa (s14 _ _ (s13 _ _ hrow)) (aa (hrow ..) rfl),s13.trans s14,rfl⟩
  obtain ⟨s13,rfl⟩:=hI
  have hll3 : 0 + ((ah G v).map ak).length = (ah G v).length:=by simp
  refine aa (hll3 ..) (aa (List.take_length ..) ?_)
  intro gd hgd
  repeat walk_at "step"
  refine ⟨by simp,fun o1 ho1=>?_⟩
  refine di ⟨_,Sub.upd ho1 _ _ (ad _ _ _)⟩ (bx (ds:=bm (fun u=>LW G r u 0) (ah G v)) (es:=[]) (Sub.upd ho1 _ _ (ad _ _ _)) (ad _ _ _)) fun b hb=>?_
  rw [iK] at hb
  have s14 : Sub H12 (an (an H13 gd (.list ((bm (fun u=>LW G r u 0) (ah G v)).map ak))) o1 (.list [])):=(s13.then hgd).then ho1
  have h14l:=s14 _ _ h12l
  have h14r:=s14 _ _ (s12 _ _ nrl h11)
  generalize an (an H13 gd (.list ((bm (fun u=>LW G r u 0) (ah G v)).map ak))) o1 (.list []) = H14 at s14 h14l h14r
  repeat walk_at "step"
  cases b with
  | true=>
   (try rw [cn (p:=fun r=>∃ u∈ah G v,LW G r u 0) (x:=r) (hb.mp rfl)] at hR_)
   repeat walk_at "step"
   refine ⟨lt,_,rfl,h14l,rfl,?_⟩
   repeat walk_at "step"
   refine aO h14l (by simp; exact xh hjl hplen) ?_
   repeat walk_at "step"
   refine ⟨by exact aa (aj nrl) (aa (h14r ..) (aa (h11 ..) rfl)),⟨e1,e2,e3,e5,e6,e7,e8,e9,e10⟩,fun x o hx hxo=>by refine aa (aj hx) ?_; exact s14 _ _ (s12 x o hx hxo),by refine aa (ad ..) ?_; simp⟩
  | false=>
   (try rw [bV (p:=fun r=>∃ u∈ah G v,LW G r u 0) (x:=r) fun h=>by cases hb.mpr h] at hR_)
   repeat walk_at "step"
   exact ⟨by exact aa (h14r ..) (aa (h11 ..) rfl),⟨e1,e2,e3,e5,e6,e7,e8,e9,e10⟩,fun x o hx hxo=>s14 _ _ (s12 x o hx hxo),h14l⟩
 clear e1 e2 e3 e5 e6
 obtain ⟨⟨e1,e2,e3,e5,e6,e7,e8,e9,e10⟩,s12,h12l⟩:=hI
 have e11 : (bm (fun r=>∃ u∈ah G v,LW G r u 0) (([0,1,2,3] : List Int).take (0 + (([0,1,2,3] : List Int).map AV.int).length))) = bJ G v:=List.filter_congr fun r _=>decide_eq_decide.mpr Iff.rfl
 rw [e11] at h12l
 have s13 : Sub H H12:=fun x o hx=>s12 _ _ (Ne.symm (ai hlt0' hx)) (u11 _ _ (s10 _ _ hx))
 have t13 : Sub H1 H12:=fun x o hx=>s12 _ _ (Ne.symm (ai hlt0 hx)) (u11 _ _ (t10 _ _ hx))
 have h13d : H12 du = some (.list ((aG G v 0).map .int)):=s12 _ _ ndl (u11 _ _ h10d)
 clear s12 u11 h11 h10d h10l s10 t10 hrd nrl e11
 have hm1l : v < l1.length:=by exact fy hvn hl1
 have hm1 : l1[v]? = some l1[v]:=List.getElem?_eq_getElem hm1l
 have hm2l : v < l2.length:=by exact fy hvn hl2
 have hm2 : l2[v]? = some l2[v]:=List.getElem?_eq_getElem hm2l
 have hr1:=R1.row v _ hm1
 have hr2:=R2.row v _ hm2
 have e12 : aK (p2 v) = bJ G v:=o6 (hq2 v hvc)
 repeat walk_at "step"
 refine bn (j:=v) (t13 _ _ R1.top) (by simp; exact bE hl1 hsix) (aJ (by simp; exact fy hvn hl1)) (by refine aa (List.getElem?_map) (aa (hm1 ..) ?_); rfl) ?_
 refine cj (t13 _ _ hr1) fun d1 hd1=>?_
 refine aa (hp v hvc) ?_
 repeat walk_at "step"
 refine di ⟨_,ad _ _ _⟩ (cO (ds:=aG G v 0) (es:=aG G v 0) (ad _ _ _) (Sub.upd hd1 _ _ h13d)) fun b1 hb1=>?_
 have hb1 : b1 = false:=by
  cases b1 with
  | false=>rfl
  | true=>exact absurd rfl (hb1.mp rfl)
 subst hb1
 have s14:=s13.then (o:=.list ((aG G v 0).map .int)) hd1
 have t14:=t13.then (o:=.list ((aG G v 0).map .int)) hd1
 have h14l:=Sub.upd (o:=.list ((aG G v 0).map .int)) hd1 _ _ h12l
 generalize an H12 d1 (.list ((aG G v 0).map .int)) = H14 at s14 t14 h14l
 repeat walk_at "step"
 refine bn (j:=v) (t14 _ _ R2.top) (by simp; exact bE hl2 hsix) (aJ (by simp; exact fy hvn hl2)) (by refine aa (List.getElem?_map) (aa (hm2 ..) ?_); rfl) ?_
 refine cj (t14 _ _ hr2) fun d2 hd2=>?_
 refine aa (e12 ..) ?_
 repeat walk_at "step"
 refine di ⟨_,ad _ _ _⟩ (cO (ds:=bJ G v) (es:=bJ G v) (ad _ _ _) (Sub.upd hd2 _ _ h14l)) fun b2 hb2=>?_
 have hb2 : b2 = false:=by
  cases b2 with
  | false=>rfl
  | true=>exact absurd rfl (hb2.mp rfl)
 subst hb2
 have s15:=s14.then (o:=.list ((bJ G v).map .int)) hd2
 have t15:=t14.then (o:=.list ((bJ G v).map .int)) hd2
 generalize an H14 d2 (.list ((bJ G v).map .int)) = H15 at s15 t15
 clear s13 t13 h13d h12l s14 t14 h14l hd1 hd2
 repeat walk_at "step"
 refine bn (j:=v) (t15 _ _ R2.top) (by simp; exact bE hl2 hsix) (aJ (by simp; exact fy hvn hl2)) (by refine aa (List.getElem?_map) (aa (hm2 ..) ?_); rfl) ?_
 refine ig hK ((hblk v bs[v] G[v] hbv hGv).sub s15) hBw (t15 _ _ hr2) fun H16 rl rs s16 hrl h16 hrsl hrs=>?_
 have hrs' : ∀ (j : Nat) (l : Addr),rs[j]? = some l->H16 l = some (.set (aG G v (j + 1))):=fun j l h=>by
  refine aa (Eq.symm (kJ hG hGv (hq2 v hvc) (j + 1))) ?_
  exact hrs j l h
 clear hrs
 repeat walk_at "step"
 refine bA (ar h16) (by simp; exact yV hrsl hBs) ?_
 refine ax (I:=fun j acc H17=>Sub H16 H17/\∃ xs : List Addr,bC (acc = xs.map AV.ref) (xs.length = j) (∀ (t : Nat) (l : Addr),xs[t]? = some l->H17 l = some (.list ((aG G v (t + 1)).map .int)))) rfl _ 0 _ _ _ ⟨Sub.rfl,[],rfl,rfl,by exact nofun⟩ (fun j vv acc hvv Ry_ hy_ Rn_ hn_ H17 hI=>?_) fun acc H17 hI=>?_
 ·clear hn_; obtain ⟨s17,xs,rfl,hxl,hxs⟩:=hI
  rw [Nat.zero_add] at *
  rw [List.getElem?_map] at hvv
  obtain ⟨l,hl',rfl⟩:=Option.map_eq_some_iff.mp hvv
  repeat walk_at "step"
  refine cj (s17 _ _ (hrs' j l hl')) fun d hd=>?_
  repeat walk_at "step"
  refine ⟨by exact aa (s17.then hd _ _ h16) (aa (h16 ..) rfl),s17.then hd,xs ++ [d],by simp,by simp [hxl],fun t l' ht'=>?_⟩
  rcases Nat.lt_or_ge t xs.length with h | h
  ·rw [List.getElem?_append_left h] at ht'
   exact Sub.upd hd _ _ (hxs t l' ht')
  ·rw [List.getElem?_append_right h] at ht'
   have : t = xs.length:=by
    have:=(List.getElem?_eq_some_iff.mp ht').1
    simp at this; exact fB this h
   clear h; subst this
   rw [Nat.sub_self] at ht'
   cases ht'
   exact aa (ad ..) (aa (hxl ..) rfl)
 obtain ⟨s17,xs,rfl,hxl,hxs⟩:=hI
 have hxl : xs.length = G[v].steps.length:=by refine aa (hxl ..) ?_; simp [hrsl]
 intro rw_ hrw
 have s18:=(s15.trans (s16.trans s17)).then (o:=.list (xs.map AV.ref)) hrw
 have t18:=(t15.trans (s16.trans s17)).then (o:=.list (xs.map AV.ref)) hrw
 have h18 : an H17 rw_ (.list (xs.map AV.ref)) rw_ = some (.list (xs.map AV.ref)):=ad _ _ _
 have hxs : ∀ (t : Nat) (l : Addr),xs[t]? = some l->an H17 rw_ (.list (xs.map AV.ref)) l = some (.list ((aG G v (t + 1)).map .int)):=fun t l h=>Sub.upd hrw _ _ (hxs t l h)
 generalize an H17 rw_ (.list (xs.map AV.ref)) = H18 at s18 t18 h18 hxs
 clear s15 t15 s16 s17 h16 hrs' hrl hrw hrsl
 repeat walk_at "step"
 refine ⟨by simp,fun da hda=>?_⟩
 have hda0:=t18.none hda
 have hda0':=s18.none hda
 have u19:=Sub.upd (o:=.list []) hda
 have h19 : an H18 da (.list []) da = some (.list []):=ad _ _ _
 have n19 : rw_≠da:=Ne.symm (ai hda h18)
 have hdx : ∀ (t : Nat) (l : Addr),xs[t]? = some l->l≠da:=fun t l h=>Ne.symm (ai hda (hxs t l h))
 generalize an H18 da (.list []) = H19 at u19 h19
 obtain ⟨st,sl,e,⟨dxb,hb1,hb2⟩,hsst,hssl,_⟩:=hblk v bs[v] G[v] hbv hGv
 have hssl':=hssl.len
 have hb1':=u19 _ _ (s18 _ _ hb1)
 have hb2':=u19 _ _ (s18 _ _ hb2)
 repeat walk_at "step"
 refine cF (.inl ⟨_,u19 _ _ (s18 _ _ hsst),rfl⟩) (by simp; exact oV hssl' hBs) ?_
 refine bS fun rg hrg=>?_
 have h20r : an H19 rg (.range ((sl.map AV.ref).length : Int)) rg = some (.range ((sl.map AV.ref).length : Int)):=ad _ _ _
 have u20:=u19.then (o:=.range ((sl.map AV.ref).length : Int)) hrg
 have h20a:=Sub.upd (o:=.range ((sl.map AV.ref).length : Int)) hrg _ _ h19
 have nrg : rg≠da:=ai hrg h19
 rw [List.length_map,hssl'] at h20r u20 h20a
 try refine aa (List.length_map ..) (aa (hssl' ..) ?_)
 generalize an H19 rg (.range (G[v].steps.length : Int)) = H20 at h20r u20 h20a
 repeat walk_at "step"
 refine cP (bU h20r (by exact dm) (by omega)) ?_
 refine aD (I:=fun j m H21=>bC (uE (m "func" = some (.ref f)) (m "goals" = some (.ref ga)) (m "come" = some (.ref ca)) (m "ahead" = some (.ref la)) (m "behind" = some (.ref lo)) (m "at" = some (ak v)) (m "rows" = some (.ref rw_)) (m "dues" = some (.ref da))) (aV da H20 H21) (∃ ys : List Addr,bC (H21 da = some (.list (ys.map AV.ref))) (ys.length = j) (∀ (t : Nat) (l : Addr),ys[t]? = some l->l≠da/\H21 l = some (.list ((aG G v (t + 1)).map .int))))) rfl _ 0 _ _
  ⟨⟨e1,e2,e3,e5,e6,e7,rfl,rfl⟩,fun _ _ _ h=>h,[],h20a,rfl,by exact nofun⟩ (fun j R_ hR_ hr_ vv m H21 hvv hI=>?_) fun m H21 hI=>?_
 ·obtain ⟨⟨e1,e2,e3,e5,e6,e7,e8,e9⟩,s21,ys,h21,hyl,hys⟩:=hI
  rw [Nat.zero_add] at *
  have hj : j < G[v].steps.length:=by
   have:=(List.getElem?_eq_some_iff.mp hvv).1
   simpa using this
  have hvj : vv = ak j:=by
   rw [List.getElem?_map,List.getElem?_range (by assumption)] at hvv
   simpa using hvv.symm
  clear hvv; subst hvj
  clear hvv
  have s22 : Sub H H21:=fun x o hx=>s21 _ _ (Ne.symm (ai hda0' hx)) (u20 _ _ (s18 _ _ hx))
  repeat walk_at "step"
  refine ⟨da,_,rfl,h21,rfl,?_⟩
  repeat walk_at "step"
  refine d9 hK fun rd hrd=>?_
  refine aa (e4 ..) ?_
  have h22 : an H21 rd (.list (([0,1,2,3] : List Int).map AV.int)) rd = some (.list (([0,1,2,3] : List Int).map AV.int)):=ad _ _ _
  have u22:=Sub.upd (o:=.list (([0,1,2,3] : List Int).map AV.int)) hrd
  generalize an H21 rd (.list (([0,1,2,3] : List Int).map AV.int)) = H22 at h22 u22
  repeat walk_at "step"
  refine bA (ar h22) (by simp) ?_
  refine ax (I:=fun j2 acc H23=>Sub H22 H23/\acc = (bm (fun r=>LW G r v (j + 1)) (([0,1,2,3] : List Int).take j2)).map .int) rfl _ 0 _ _ _ ⟨Sub.rfl,rfl⟩ (fun j2 vv acc hvv Ry_ hy_ Rn_ hn_ H23 hI=>?_) fun acc H23 hI=>?_
  ·obtain ⟨s23,rfl⟩:=hI
   rw [Nat.zero_add] at *
   rw [List.getElem?_map] at hvv
   obtain ⟨r,hr,rfl⟩:=Option.map_eq_some_iff.mp hvv
   (try rw [az hr] at hy_)
   (try rw [az hr] at hn_)
   have s24:=s22.trans (u22.trans s23)
   repeat walk_at "step"
   refine cf ?_ (fun _ _=>rfl)
   repeat walk_at "step"
   refine fH (spot:=j + 1) hK (hF.sub s24) hG (hB.sub s24) hl hvn.1 fun H25 b s25 hb=>?_
   refine dG ?_
   cases b with
   | true=>
    (try rw [cn (p:=fun r=>LW G r v (j + 1)) (x:=r) (hb.mp rfl)] at hy_)
    (try rw [cn (p:=fun r=>LW G r v (j + 1)) (x:=r) (hb.mp rfl)] at hn_)
    repeat walk_at "step"
    exact ⟨by exact aa (s25 _ _ (s23 _ _ h22)) (aa (h22 ..) rfl),s23.trans s25,by simp⟩
   | false=>
    (try rw [bV (p:=fun r=>LW G r v (j + 1)) (x:=r) fun h=>by cases hb.mpr h] at hy_)
    (try rw [bV (p:=fun r=>LW G r v (j + 1)) (x:=r) fun h=>by cases hb.mpr h] at hn_)
    repeat walk_at "step"
    exact ⟨by exact aa (s25 _ _ (s23 _ _ h22)) (aa (h22 ..) rfl),s23.trans s25,rfl⟩
  obtain ⟨s23,rfl⟩:=hI
  intro dj hdj
  have e20 : (bm (fun r=>LW G r v (j + 1)) (([0,1,2,3] : List Int).take (0 + (([0,1,2,3] : List Int).map AV.int).length))).map AV.int = (aG G v (j + 1)).map .int:=rfl
  refine aa (e20 ..) ?_
  have u24:=(u22.trans s23).then (o:=.list ((aG G v (j + 1)).map .int)) hdj
  have h24j : an H23 dj (.list ((aG G v (j + 1)).map .int)) dj = some (.list ((aG G v (j + 1)).map .int)):=ad _ _ _
  have ndj : dj≠da:=ai hdj (s23 _ _ (u22 _ _ h21))
  generalize an H23 dj (.list ((aG G v (j + 1)).map .int)) = H24 at u24 h24j
  refine aO (u24 _ _ h21) (by simp; exact tW hj hBs hyl) ?_
  repeat walk_at "step"
  have kk : ∀ x o v2,x≠da->H24 x = some o->an H24 da v2 x = some o:=fun x o v2 h1 h2=>by refine aa (aj h1) ?_; exact h2
  refine ⟨by exact aa (kk _ _ _ nrg (u24 _ _ (s21 _ _ nrg h20r))) (aa (h20r ..) rfl),⟨e1,e2,e3,e5,e6,e7,e8,e9⟩,fun x o h1 h2=>kk _ _ _ h1 (u24 _ _ (s21 x o h1 h2)),ys ++ [dj],by refine aa (ad ..) ?_; simp,by simp [hyl],fun t l ht'=>?_⟩
  rcases Nat.lt_or_ge t ys.length with h | h
  ·rw [List.getElem?_append_left h] at ht'
   obtain ⟨g1,g2⟩:=hys t l ht'
   exact ⟨g1,kk _ _ _ g1 (u24 _ _ g2)⟩
  ·rw [List.getElem?_append_right h] at ht'
   have : t = ys.length:=by
    have:=(List.getElem?_eq_some_iff.mp ht').1
    simp at this; exact fB this h
   clear h; subst this
   rw [Nat.sub_self] at ht'
   cases ht'
   exact ⟨ndj,by refine aa (hyl ..) ?_; exact kk _ _ _ ndj h24j⟩
 clear e1 e2 e3 e5 e6 e7
 obtain ⟨⟨e1,e2,e3,e5,e6,e7,e8,e9⟩,s21,ys,h21,hyl,hys⟩:=hI
 have hyl : ys.length = G[v].steps.length:=by refine aa (hyl ..) ?_; simp
 have h21r:=s21 _ _ n19 (u20 _ _ h18)
 have hsh : cJ H21 20 (.ref rw_) (.ref da) ((List.range G[v].steps.length).map (fun j=>aG G v (j + 1)) = (List.range G[v].steps.length).map (fun j=>aG G v (j + 1))):=
  dt h21r h21 (by simp; exact jl hxl) (by simp; exact jl hyl) fun j x0 y0 d0 e0 hx0 hy0 hd0 he0=>by
   rw [List.getElem?_map] at hx0 hy0 hd0 he0
   obtain ⟨x,hx,rfl⟩:=Option.map_eq_some_iff.mp hx0
   obtain ⟨y,hy,rfl⟩:=Option.map_eq_some_iff.mp hy0
   obtain ⟨d,hd,rfl⟩:=Option.map_eq_some_iff.mp hd0
   obtain ⟨e,he,rfl⟩:=Option.map_eq_some_iff.mp he0
   have hjd:=(List.getElem?_eq_some_iff.mp hd).2
   have hje:=(List.getElem?_eq_some_iff.mp he).2
   rw [List.getElem_range] at hjd hje
   clear hd hd0; subst hjd; clear he he0; subst hje
   exact cO (s21 _ _ (hdx _ _ hx) (u20 _ _ (hxs _ _ hx))) (hys _ _ hy).2
 repeat walk_at "step"
 refine di ⟨_,h21r⟩ hsh fun b hb=>?_
 have hb : b = false:=by
  cases b with
  | false=>rfl
  | true=>exact absurd rfl (hb.mp rfl)
 subst hb
 repeat walk_at "step"
 have s26 : Sub H1 H21:=fun x o hx=>s21 _ _ (Ne.symm (ai hda0 hx)) (u20 _ _ (t18 _ _ hx))
 exact ⟨by exact aa (s26 _ _ hc1) (aa (hc1 ..) rfl),⟨e1,e2,e3,e5,e6⟩,s26⟩
end
end
section
theorem bR {gf : Nat->List Nat} {bs : List Nat} {a x : Nat} : x∈aL gf bs a↔x∈bs/\¬ Re gf (x : Int) 0 a:=by
 unfold aL
 refine aa (propext (List.mem_filter ..)) ?_
 simp only [decide_eq_true_eq]
section
variable {c : Cx} {k : Nat} {H : ag} {Q : AV->ag->Prop}
theorem eZ {a : Addr} {po : List Nat} {x : Nat} (hn : po.Nodup) (h6 : po.length<=6) (hx : x∈po) (ha : H a = some (.list (po.reverse.map ak))) (q : Q (ak (cX po x)) H) : bF c k (.builtin "list.index") [.ref a,ak x] H Q:=by
 have e : po.reverse.map ak = (po.reverse.map fun (r : Nat)=>(r : Int)).map AV.int:=by refine aa (List.map_map ..) ?_; rfl
 rw [e] at ha
 have hj:=List.getElem_idxOf (xs:=po.reverse) (x:=x) (List.idxOf_lt_length_iff.mpr (List.mem_reverse.mpr hx))
 have hj' : po.reverse[cX po x]? = some x:=by
  unfold cX
  exact aa (List.getElem?_eq_getElem (List.idxOf_lt_length_iff.mpr (List.mem_reverse.mpr hx))) (aa (hj ..) rfl)
 refine mf (j:=cX po x) ha (by refine aa (List.getElem?_map) (aa (hj' ..) ?_); rfl) (fun i hi he=>?_) (by simp; exact gF h6) q
 rw [List.getElem?_map] at he
 obtain ⟨y,hy,e'⟩:=Option.map_eq_some_iff.mp he
 have : y = x:=by exact fS e'
 subst this
 have:=gY hn hy
 exact tQ hi this
theorem iq (hK : KF c.K) {f ga ca oa : Addr} {G : List cI} {ls : List Addr} {come : List Nat} (hF : cA H f G) (hG : cm G) (hB : Rows H ga ls (ah G)) (hl : ls.length = G.length)
  (hc : H ca = some (.list (come.map ak))) (hcs : come.Pairwise (· < ·)) (hcm : ∀ v,v∈come↔v < G.length/\bW (ah G) 0 v) (hO : j7 H oa come (aL (ah G) come))
  (q : ∀ H' : ag,Sub H H'->Q (.bool true) H') : AC c (k + 4) 268 [.ref f,.ref ga,.ref ca,.ref oa] H Q:=by
 refine aI (BM hK) rfl ?_
 dsimp only [l4,mB,mq,m8]
 have hsix:=hG.six
 have hgf : ∀ v,v < G.length->(ah G v).length<=6/\∀ u∈ah G v,u < G.length:=fun v hv=>⟨by have:=(aX hG hv).1; exact ut this,(aX hG hv).2⟩
 have hcl : come.length<=6:=Nat.le_trans (a9 (hcs.imp fun h=>Nat.ne_of_lt h) fun v hv=>((hcm v).mp hv).1) hsix
 repeat walk_at "step"
 refine g0 hK hF hG fun H1 ra po seen s1 hra h1r ps=>?_
 have D:=ps.dfs (n:=G.length) (fun v hv=>(aX hG hv).2) hG.pos
 clear ps
 have hpl : po.length<=6:=Nat.le_trans (a9 D.nd D.lt) hsix
 have hpc : ∀ v,v∈come↔v∈po:=fun v=>by
  refine aa (propext (hcm ..)) (aa (propext (D.mem ..)) ?_)
  exact ⟨fun h=>h.2,fun h=>⟨D.lt v ((D.mem v).mpr h),h⟩⟩
 obtain ⟨es,ho,hel,hov⟩:=hO.is
 repeat walk_at "step"
 refine ⟨ra,_,rfl,h1r,by simp; exact gF hpl,by simp,fun d1 hd1=>?_⟩
 have et : cC (po.reverse.map ak) none (some 1) none = [0].map ak:=by
  refine aa (show (some (1 : Int)) = some ((1 : Nat) : Int) from rfl) (aa (eb ..) (aa (Eq.symm (List.map_take ..)) ?_))
  congr 1
  have h0:=D.zero
  cases hr : po.reverse with
  | nil=>rw [hr] at h0; cases h0
  | cons x xs=>rw [hr] at h0; cases h0; rfl
 refine aa (et ..) ?_
 repeat walk_at "step"
 refine ⟨by simp,fun d2 hd2=>?_⟩
 refine di ⟨_,Sub.upd hd2 _ _ (ad _ _ _)⟩ (bx (ds:=[0]) (es:=[0]) (Sub.upd hd2 _ _ (ad _ _ _)) (ad _ _ _)) fun b hb=>?_
 have hb : b = false:=by
  cases b with
  | false=>rfl
  | true=>exact absurd rfl (hb.mp rfl)
 subst hb
 have s2 : Sub H1 (an (an H1 d1 (.list ([0].map ak))) d2 (.list [.int 0])):=(Sub.upd hd1).then hd2
 generalize an (an H1 d1 (.list ([0].map ak))) d2 (.list [.int 0]) = H2 at s2
 repeat walk_at "step"
 have h2r:=s2 _ _ h1r
 have e2 : po.reverse.map ak = (po.reverse.map fun (r : Nat)=>(r : Int)).map AV.int:=by refine aa (List.map_map ..) ?_; rfl
 rw [e2] at h2r
 refine b0 h2r (by simp; exact w8 hpl) fun d3 ns hd3 hperm hsort=>?_
 rw [<-e2] at h2r
 have ens : ns = come.map fun (r : Nat)=>(r : Int):=by
  refine eK (hperm.trans ?_) hsort ?_
  ·refine List.Perm.map _ ?_
   refine aa (propext (List.perm_ext_iff_of_nodup (fj D.nd) (hcs.imp fun h=>Nat.ne_of_lt h))) ?_
   intro x
   rw [List.mem_reverse,hpc]
  ·refine aa (propext (List.pairwise_map ..)) ?_
   exact hcs.imp fun h=>by exact uc h
 subst ens
 have e3 : (come.map fun (r : Nat)=>(r : Int)).map AV.int = come.map ak:=by refine aa (List.map_map ..) ?_; rfl
 refine aa (e3 ..) ?_
 have s3:=(s1.trans s2).then (o:=.list (come.map ak)) hd3
 have t3:=s2.then (o:=.list (come.map ak)) hd3
 have h3d : an H2 d3 (.list (come.map ak)) d3 = some (.list (come.map ak)):=ad _ _ _
 generalize an H2 d3 (.list (come.map ak)) = H3 at s3 t3 h3d
 repeat walk_at "step"
 refine di ⟨_,h3d⟩ (bx (ds:=come) (es:=come) h3d (s3 _ _ hc)) fun b hb=>?_
 have hb : b = false:=by
  cases b with
  | false=>rfl
  | true=>exact absurd rfl (hb.mp rfl)
 subst hb
 repeat walk_at "step"
 have h3r:=t3 _ _ h1r
 clear s2 hd1 hd2 hd3 h2r h3d t3 e2 e3 et hperm hsort
 refine cP (ar (s3 _ _ hc)) ?_
 refine aD (I:=fun i m H5=>(fJ (m "func" = some (.ref f)) (m "goals" = some (.ref ga)) (m "come" = some (.ref ca)) (m "over" = some (.ref oa)) (m "row" = some (.ref ra)))/\Sub H3 H5) rfl _ 0 _ _
  ⟨⟨rfl,rfl,rfl,rfl,rfl⟩,Sub.rfl⟩ (fun i R_ hR_ hr_ vv m H5 hvv hI=>?_) fun m H5 hI=>?_
 rotate_left
 ·obtain ⟨_,s5⟩:=hI
  repeat walk_at "step"
  first | exact q H5 (s3.trans s5) | exact s3.trans s5
 obtain ⟨⟨e1,e2,e3,e4,e5⟩,s5⟩:=hI
 rw [List.getElem?_map] at hvv
 obtain ⟨v,hv,rfl⟩:=Option.map_eq_some_iff.mp hvv
 have hvc:=List.mem_of_getElem? hv
 have hvp:=(hpc v).mp hvc
 have hvr:=(D.mem v).mp hvp
 have hvn:=D.lt v hvp
 have s6:=s3.trans s5
 obtain ⟨lo,k1,k2,k3⟩:=hov v hvc
 have h5r:=s5 _ _ h3r
 have hrl : (aL (ah G) come v).length<=6:=Nat.le_trans (List.length_filter_le _ _) hcl
 repeat walk_at "step"
 refine eC (s6 _ _ ho) k1 ?_
 repeat walk_at "step"
 refine bA (ar (s6 _ _ k3)) (by refine aa (List.length_map ..) ?_; exact gE hrl) ?_
 refine ax (I:=fun j acc H6=>H6 = H5/\acc = []) rfl _ 0 _ _ _ ⟨rfl,rfl⟩ (fun j vv acc hvv Ry_ hy_ Rn_ hn_ H6 hI=>?_) fun acc H6 hI=>?_
 ·obtain ⟨rfl,rfl⟩:=hI
  rw [List.getElem?_map] at hvv
  obtain ⟨u,hu,rfl⟩:=Option.map_eq_some_iff.mp hvv
  have hum:=bR.mp (List.mem_of_getElem? hu)
  have hup:=(hpc u).mp hum.1
  have hle:=Dm.le D _ (Nat.le_refl _) (⟨hvr,hum.2⟩ : Dm (ah G) u v)
  repeat walk_at "step"
  cases hne : ((u : Int) != (v : Int)) with
  | false=>
   repeat walk_at "step"
   exact ⟨rfl,rfl,rfl⟩
  | true=>
   repeat walk_at "step"
   refine ⟨ra,_,rfl,h5r,rfl,?_⟩
   repeat walk_at "step"
   refine eZ D.nd hpl hup h5r ?_
   repeat walk_at "step"
   refine ⟨ra,_,rfl,h5r,rfl,?_⟩
   repeat walk_at "step"
   refine eZ D.nd hpl hvp h5r ?_
   repeat walk_at "step"
   have hgt : decide ((cX po u : Int) > (cX po v : Int)) = false:=decide_eq_false (by exact xp hle)
   refine aa (hgt ..) ?_
   repeat walk_at "step"
   exact ⟨rfl,rfl,rfl⟩
 obtain ⟨rfl,rfl⟩:=hI
 intro d1 hd1
 repeat walk_at "step"
 refine ⟨by simp,fun d2 hd2=>?_⟩
 refine di ⟨_,Sub.upd hd2 _ _ (ad _ _ _)⟩ (bx (ds:=[]) (es:=[]) (Sub.upd hd2 _ _ (ad _ _ _)) (ad _ _ _)) fun b hb=>?_
 have hb : b = false:=by
  cases b with
  | false=>rfl
  | true=>exact absurd rfl (hb.mp rfl)
 subst hb
 have s7:=(s5.then (o:=.list []) hd1).then (o:=.list []) hd2
 generalize an (an H6 d1 (.list [])) d2 (.list []) = H7 at s7
 clear s5 s6 h5r hd1 hd2
 have s8:=s3.trans s7
 have h7r:=s7 _ _ h3r
 repeat walk_at "step"
 have h7c:=s8 _ _ hc
 have hgv:=aX hG hvn
 cases h0 : ((v : Int) != 0)
 repeat walk_at "step"
 clear s8 h7r h7c
 revert s7
 generalize H7 = H10
 intro s10
 rotate_left
 refine eU rfl ?_
 have hv0 : v≠0:=fun e=>by subst e; simp at h0
 repeat walk_at "step"
 refine ⟨ra,_,rfl,h7r,rfl,?_⟩
 repeat walk_at "step"
 refine eZ D.nd hpl hvp h7r ?_
 repeat walk_at "step"
 refine ⟨ra,_,rfl,h7r,by simp; exact gF hpl,by simp,fun d3 hd3=>?_⟩
 rw [eb,<-List.map_take]
 have h8d : an H7 d3 (.list ((po.reverse.take (cX po v)).map ak)) d3 = some (.list ((po.reverse.take (cX po v)).map ak)):=ad _ _ _
 have t8:=Sub.upd (o:=.list ((po.reverse.take (cX po v)).map ak)) hd3
 generalize an H7 d3 (.list ((po.reverse.take (cX po v)).map ak)) = H8 at h8d t8
 repeat walk_at "step"
 refine bA (ar h8d) (by simp; exact An hpl) ?_
 have s8':=s8.trans t8
 refine ax (I:=fun j acc H9=>H9 = H8/\acc = (bm (fun u=>v∈ah G u) ((po.reverse.take (cX po v)).take j)).map ak) rfl _ 0 _ _ _ ⟨rfl,rfl⟩ (fun j vv acc hvv Ry_ hy_ Rn_ hn_ H9 hI=>?_) fun acc H9 hI=>?_
 ·obtain ⟨rfl,rfl⟩:=hI
  rw [Nat.zero_add] at *
  rw [List.getElem?_map] at hvv
  obtain ⟨u,hu,rfl⟩:=Option.map_eq_some_iff.mp hvv
  have hup : u∈po:=List.mem_reverse.mp (List.mem_of_mem_take (List.mem_of_getElem? hu))
  have hun:=D.lt u hup
  have lkl : u < ls.length:=by exact aU hun hl
  have lk : ls[u]? = some ls[u]:=List.getElem?_eq_getElem lkl
  have hrow:=s8' _ _ (hB.row u _ lk)
  (try rw [az hu] at hy_)
  (try rw [az hu] at hn_)
  repeat walk_at "step"
  refine bn (j:=u) (s8' _ _ hB.top) (by simp; exact bE hl hsix) (aJ (by simp; exact aU hun hl)) (by refine aa (List.getElem?_map) (aa (lk ..) ?_); rfl) ?_
  refine bY hrow ?_
  repeat walk_at "step"
  cases hcn : (ah G u).contains v with
  | true=>
   (try rw [cn (p:=fun u=>v∈ah G u) (x:=u) (List.contains_iff_mem.mp hcn)] at hy_)
   (try rw [cn (p:=fun u=>v∈ah G u) (x:=u) (List.contains_iff_mem.mp hcn)] at hn_)
   repeat walk_at "step"
   exact ⟨rfl,rfl,by simp⟩
  | false=>
   (try rw [bV (p:=fun u=>v∈ah G u) (x:=u) fun h=>by rw [List.contains_iff_mem.mpr h] at hcn; cases hcn] at hy_)
   (try rw [bV (p:=fun u=>v∈ah G u) (x:=u) fun h=>by rw [List.contains_iff_mem.mpr h] at hcn; cases hcn] at hn_)
   repeat walk_at "step"
   exact ⟨rfl,rfl,rfl⟩
 obtain ⟨rfl,rfl⟩:=hI
 have hll : 0 + ((po.reverse.take (cX po v)).map ak).length = (po.reverse.take (cX po v)).length:=by simp
 rw [hll,List.take_length]
 intro d4 hd4
 repeat walk_at "step"
 refine ⟨by simp,fun d5 hd5=>?_⟩
 refine j8 ⟨_,Sub.upd hd5 _ _ (ad _ _ _)⟩ (bx (ds:=bm (fun u=>v∈ah G u) (po.reverse.take (cX po v))) (es:=[]) (Sub.upd hd5 _ _ (ad _ _ _)) (ad _ _ _)) fun b hb=>?_
 have hb : b = false:=by
  cases b with
  | false=>rfl
  | true=>
   refine absurd (hb.mp rfl) (iK.mpr ?_)
   obtain ⟨u,hu1,hu2,hu3⟩:=D.up hvr hv0
   refine ⟨u,?_,hu2⟩
   have hup:=(D.mem u).mpr hu1
   have hg:=List.getElem_idxOf (xs:=po.reverse) (x:=u) (List.idxOf_lt_length_iff.mpr (List.mem_reverse.mpr hup))
   exact List.mem_take_iff_getElem.mpr ⟨cX po u,by have:=cL hup; refine aa (List.length_reverse ..) ?_; exact yc hu3 this,hg⟩
 subst hb
 have s10:=(s7.trans t8).then (o:=.list ((bm (fun u=>v∈ah G u) (po.reverse.take (cX po v))).map ak)) hd4 |>.then (o:=.list []) hd5
 generalize an (an H9 d4 (.list ((bm (fun u=>v∈ah G u) (po.reverse.take (cX po v))).map ak))) d5 (.list []) = H10 at s10
 clear h8d t8 s8' hd3 hd4 hd5 s7 s8 h7r h7c
 repeat walk_at "step"
 all_goals
  refine cP (ar (s10 _ _ (s3 _ _ hc))) ?_
  refine aD (I:=fun i m H5=>(pf (m "func" = some (.ref f)) (m "goals" = some (.ref ga)) (m "come" = some (.ref ca)) (m "over" = some (.ref oa)) (m "row" = some (.ref ra)) (m "at" = some (ak v)))/\Sub H3 H5) rfl _ 0 _ _
   ⟨⟨e1,e2,e3,e4,e5,rfl⟩,s10⟩ (fun i R_ hR_ hr_ vv m H5 hvv hI=>?_) fun m H5 hI=>?_
 rotate_left
 ·obtain ⟨⟨e1,e2,e3,e4,e5,e6⟩,s5⟩:=hI
  repeat walk_at "step"
  exact ⟨by exact aa (s5 _ _ (s3 _ _ hc)) (aa (s3 _ _ hc) rfl),⟨e1,e2,e3,e4,e5⟩,s5⟩
 rotate_left
 ·obtain ⟨⟨e1,e2,e3,e4,e5,e6⟩,s5⟩:=hI
  repeat walk_at "step"
  exact ⟨by exact aa (s5 _ _ (s3 _ _ hc)) (aa (s3 _ _ hc) rfl),⟨e1,e2,e3,e4,e5⟩,s5⟩
 all_goals
  clear e1 e2 e3 e4 e5
  obtain ⟨⟨e1,e2,e3,e4,e5,e6⟩,s5⟩:=hI
  rw [List.getElem?_map] at hvv
  obtain ⟨u,hu,rfl⟩:=Option.map_eq_some_iff.mp hvv
  have huc:=List.mem_of_getElem? hu
  have hup:=(hpc u).mp huc
  have hun:=D.lt u hup
  have s6:=s3.trans s5
  have lkl : u < ls.length:=by exact aU hun hl
  have lk : ls[u]? = some ls[u]:=List.getElem?_eq_getElem lkl
  have hrow:=s6 _ _ (hB.row u _ lk)
  have h0 : 0 < G.length:=hG.pos
  repeat walk_at "step"
  refine bn (j:=u) (s6 _ _ hB.top) (by simp; exact bE hl hsix) (aJ (by simp; exact aU hun hl)) (by refine aa (List.getElem?_map) (aa (lk ..) ?_); rfl) ?_
  refine bY hrow ?_
  repeat walk_at "step"
  cases hcn : (ah G u).contains v with
  | false=>
   repeat walk_at "step"
   exact ⟨by exact aa (s6 _ _ hc) (aa (s10 _ _ (s3 _ _ hc)) rfl),⟨e1,e2,e3,e4,e5,e6⟩,s5⟩
  | true=>
   have hg:=List.contains_iff_mem.mp hcn
   repeat walk_at "step"
   refine cG (first:=v) (barred:=-1) hK hsix (hB.sub s6) hl hgf hvn fun H11 fr rs s11 hfr h11r hrs hmem hbd=>?_
   refine bB h11r ?_
   repeat walk_at "step"
   have s12:=s5.trans s11
   cases hrc : rs.contains u with
   | true=>
    repeat walk_at "step"
    exact ⟨by exact aa (s12 _ _ (s3 _ _ hc)) (aa (s10 _ _ (s3 _ _ hc)) rfl),⟨e1,e2,e3,e4,e5,e6⟩,s12⟩
   | false=>
    have hnr : ¬ bW (ah G) v u:=fun h=>by
     rw [List.contains_iff_mem.mpr ((hmem u).mpr ⟨hun,h⟩)] at hrc; cases hrc
    have hlt:=qc D.nd ((D.edge u hup v hg).resolve_right hnr)
    have h12r:=s12 _ _ h3r
    repeat walk_at "step"
    refine ⟨ra,_,rfl,h12r,rfl,?_⟩
    repeat walk_at "step"
    refine eZ D.nd hpl hup h12r ?_
    repeat walk_at "step"
    refine ⟨ra,_,rfl,h12r,rfl,?_⟩
    repeat walk_at "step"
    refine eZ D.nd hpl hvp h12r ?_
    repeat walk_at "step"
    have hgt : decide ((cX po u : Int) > (cX po v : Int)) = false:=decide_eq_false (by exact xZ hlt)
    refine aa (hgt ..) ?_
    repeat walk_at "step"
    exact ⟨by exact aa (s12 _ _ (s3 _ _ hc)) (aa (s10 _ _ (s3 _ _ hc)) rfl),⟨e1,e2,e3,e4,e5,e6⟩,s12⟩
end
end
section
noncomputable def au (gf : Nat->List Nat) (come : List Nat) (h : Nat) : List Nat:=bm (fun a=>h∈gf a/\¬ Re gf (h : Int) 0 a) come
noncomputable def aC (gf : Nat->List Nat) (come : List Nat) (h : Nat) : List Nat:=bm (fun a=>a = h\/∃ t∈au gf come h,Re gf (h : Int) a t) come
noncomputable def ct (gf : Nat->List Nat) (come : List Nat) : List Nat:=bm (fun h=>∃ t,t∈au gf come h) come
noncomputable def qQ (gf : Nat->List Nat) (come : List Nat) (h : Nat) : Int:=((aC gf come h).length : Int) * 64 + h
theorem cu {p : Nat->Prop} {l : List Nat} (h : l.Pairwise (· < ·)) : (bm p l).Pairwise (· < ·):=h.sublist List.filter_sublist
theorem eJ {xs : List Nat} {ns : List Int} (hn : xs.Nodup) (hp : ns.Perm (xs.map fun (r : Nat)=>(r : Int))) (hs : ns.Pairwise (·<=·)) {ys : List Nat} (hy : ys.Pairwise (· < ·)) (e : ∀ y,y∈xs↔y∈ys) : ns = ys.map fun (r : Nat)=>(r : Int):=by
 refine eK (hp.trans ?_) hs ?_
 ·exact List.Perm.map _ ((List.perm_ext_iff_of_nodup hn (hy.imp fun h=>Nat.ne_of_lt h)).mpr e)
 ·refine aa (propext (List.pairwise_map ..)) ?_
  exact hy.imp fun h=>by exact uc h
theorem pI {f : Nat->Int} {l l' : List Nat} (hp : l.Perm l') (h : (l.map f).Pairwise (· < ·)) (h' : (l'.map f).Pairwise (· < ·)) : l = l':=by
 rw [List.pairwise_map] at h h'
 exact hp.eq_of_pairwise (fun a b _ _ h1 h2=>by exact AX h1 h2) h h'
theorem Re.cons {gf : Nat->List Nat} {b : Int} {u v t : Nat} (hu : (u : Int)≠b) (he : v∈gf u) (h : Re gf b v t) : Re gf b u t:=by
 induction h with
 | start h=>exact .step (.start hu) he h
 | step _ hx hb ih=>exact .step ih hx hb
theorem kg {gf bf : Nat->List Nat} {n : Nat} {come : List Nat} (hgf : ∀ v,v < n->∀ u∈gf v,u < n) (hcm : ∀ v,v∈come↔v < n/\bW gf 0 v) (hbf : ∀ v,v < n->∀ u,u∈bf v↔u < n/\v∈gf u/\bW gf 0 u) {h : Nat} (hh : h∈come) {tails : List Nat} (ht : ∀ t,t∈tails↔t∈au gf come h) {v : Nat} (hv : v < n) :
  fR bf h tails v↔v∈aC gf come h:=by
 unfold aC
 refine aa (propext (bu ..)) ?_
 have htc : ∀ t∈au gf come h,t∈come:=fun t ht=>(bu.mp ht).1
 constructor
 ·intro hb
  induction hb with
  | hd=>exact ⟨hh,.inl rfl⟩
  | @tail t htt=>
   have:=(ht t).mp htt
   by_cases e : t = h
   ·exact ⟨htc t this,.inl e⟩
   ·exact ⟨htc t this,.inr ⟨t,this,.start (by exact qm e)⟩⟩
  | @step w u hw hne hu ih=>
   have hwn : w < n:=by
    have : ∀ {x},fR bf h tails x->∀ y,x∈bf y->y < n->x < n:=fun {x} _ y hxy hy=>((hbf y hy x).mp hxy).1
    by_cases hw' : w < n
    ·exact hw'
    ·exfalso
     cases hw with
     | hd=>exact hne rfl
     | tail htt=>exact hw' ((hcm _).mp (htc _ ((ht _).mp htt))).1
     | step hx hxne hwx=>
      have : ∀ {x},fR bf h tails x->x < n:=fun hb=>by
       induction hb with
       | hd=>exact ((hcm h).mp hh).1
       | tail htt=>exact ((hcm _).mp (htc _ ((ht _).mp htt))).1
       | step _ _ hu ih=>exact ((hbf _ ih _).mp hu).1
      exact hw' (this (.step hx hxne hwx))
   have hu':=(hbf w hwn u).mp hu
   refine bc fun GG=>?_
   obtain ⟨hwc,hw2⟩:=ih hwn
   obtain ⟨t,ht1,ht2⟩:=hw2.resolve_left hne
   refine GG ?_
   refine ⟨(hcm u).mpr ⟨hu'.1,hu'.2.2⟩,?_⟩
   by_cases e : u = h
   ·exact .inl e
   ·exact .inr ⟨t,ht1,ht2.cons (by exact qm e) hu'.2.1⟩
 ·rintro ⟨hvc,e | ⟨t,ht1,ht2⟩⟩
  ·refine aa (e ..) ?_; exact .hd
  ·have hvr:=(hcm v).mp hvc
   have key : ∀ x,Re gf (h : Int) v x->x < n->fR bf h tails x->fR bf h tails v:=fun x hx=>by
    induction hx with
    | start _=>exact fun _ hb=>hb
    | @step x y hx hy hne ih=>
     intro hyn hb
     have hxr : bW gf 0 x:=hvr.2.trans hx.any
     have hxn : x < n:=bW.lt hgf (by exact x7 hyn : 0 < n) hxr
     exact ih hxn (.step hb (by exact At hne) ((hbf y hyn x).mpr ⟨hxn,hy,hxr⟩))
   have htn:=(hcm t).mp (htc t ht1)
   exact key t ht2 htn.1 (.tail ((ht t).mpr ht1))
section
variable {c : Cx} {k : Nat} {H : ag} {Q : AV->ag->Prop}
theorem dH {l : Addr} {ts : List Addr} {hs : List Nat} {ln : Nat->Nat} (ha : H l = some (.list (ts.map .ref))) (hl : ts.length = hs.length) (h6 : hs.length<=6) (hn : hs.Nodup) (h64 : ∀ h∈hs,h < 64)
  (ht : ∀ (i : Nat) (t : Addr) (h : Nat),ts[i]? = some t->hs[i]? = some h->ux H t (ln h : Int) (h : Int))
  (q : ∀ (d : Addr) (ts' : List Addr) (hs' : List Nat),H d = none->hs'.Perm hs->(hs'.map fun h=>(ln h : Int) * 64 + (h : Int)).Pairwise (· < ·)->ts'.length = hs'.length->(∀ (i : Nat) (t : Addr) (h : Nat),ts'[i]? = some t->hs'[i]? = some h->∃ j : Nat,ts[j]? = some t/\hs[j]? = some h)->Q (.ref d) (an H d (.list (ts'.map .ref)))) :
  bF c k (.builtin "sorted") [.ref l] H Q:=by
 have hcode : ((hs.map fun h=>((ln h : Int),(h : Int))).map fun p=>p.1 * 64 + p.2) = hs.map fun h=>(ln h : Int) * 64 + (h : Int):=by refine aa (List.map_map ..) ?_; rfl
 refine gh (ab:=hs.map fun h=>((ln h : Int),(h : Int))) ha (by refine aa (List.length_map ..) ?_; exact hl) (by refine aa (List.length_map ..) ?_; exact h6) (fun i t p h1 h2=>?_) ?_ fun d p hd hp hs'=>?_
 ·rw [List.getElem?_map] at h2
  obtain ⟨h,hh,rfl⟩:=Option.map_eq_some_iff.mp h2
  have:=h64 h (List.mem_of_getElem? hh)
  exact ⟨ht i t h h1 hh,by show (0 : Int)<=(h : Int); exact dm,by show (h : Int) < 64; exact xM this⟩
 ·rw [hcode,List.Nodup,List.pairwise_map]
  refine List.Pairwise.imp_of_mem (fun {a b} ha hb hab e=>?_) hn
  have:=h64 a ha
  have:=h64 b hb
  exact Ez e ‹_› hab this
 ·rw [List.length_map] at hp
  rw [hcode] at hs'
  have hlt : ∀ i∈p,i < hs.length:=fun i hi=>List.mem_range.mp (hp.mem_iff.mp hi)
  have e1 : (p.map fun i=>(ts.map AV.ref).getD i .none) = (p.map fun i=>ts.getD i 0).map AV.ref:=by
   refine aa (List.map_map ..) ?_
   refine List.map_congr_left fun i hi=>?_
   have:=hlt i hi
   simp only [Function.comp,List.getD_eq_getElem?_getD,List.getElem?_map,List.getElem?_eq_getElem (show i < ts.length by exact aU this hl)]
   rfl
  refine aa (e1 ..) ?_
  refine q d (p.map fun i=>ts.getD i 0) (p.map fun i=>hs.getD i 0) hd ?_ ?_ (by simp) fun i t h h1 h2=>?_
  ·refine (hp.map _).trans ?_
   have : (List.range hs.length).map (fun i=>hs.getD i 0) = hs:=by
    refine List.ext_getElem (by simp) fun i h1 h2=>?_
    simp [List.getD_eq_getElem?_getD,h2]
   rw [this]
  ·refine aa (List.map_map ..) ?_
   have : p.map ((fun h=>(ln h : Int) * 64 + (h : Int)) ∘ fun i=>hs.getD i 0) = p.map fun i=>(hs.map fun h=>(ln h : Int) * 64 + (h : Int)).getD i 0:=by
    refine List.map_congr_left fun i hi=>?_
    have:=hlt i hi
    simp only [Function.comp,List.getD_eq_getElem?_getD,List.getElem?_map,List.getElem?_eq_getElem this]
    rfl
   refine aa (this ..) ?_; exact hs'
  ·rw [List.getElem?_map] at h1 h2
   obtain ⟨j,hj,rfl⟩:=Option.map_eq_some_iff.mp h1
   rw [hj] at h2
   have hj':=hlt j (List.mem_of_getElem? hj)
   cases h2
   exact ⟨j,by show ts[j]? = some (ts.getD j 0); refine aa (List.getD_eq_getElem?_getD) (aa (List.getElem?_eq_getElem (by exact aU hj' hl)) ?_); rfl,by show hs[j]? = some (hs.getD j 0); refine aa (List.getD_eq_getElem?_getD) (aa (List.getElem?_eq_getElem hj') ?_); rfl⟩
end
end
section
section
variable {c : Cx} {k : Nat} {H : ag} {Q : AV->ag->Prop}
def uz (H : ag) (t : Addr) (h : Nat) (bs tl : List Nat) : Prop:=∃ b l,H t = some (.tuple [ak h,.ref b,.ref l])/\H b = some (.list (bs.map ak))/\H l = some (.list (tl.map ak))
theorem jR (hK : KF c.K) {ga ca oa : Addr} {ls : List Addr} {n : Nat} {gf : Nat->List Nat} {come : List Nat} (hn : n<=6) (hB : Rows H ga ls gf) (hl : ls.length = n) (hgf : ∀ v,v < n->(gf v).length<=6/\∀ u∈gf v,u < n)
  (hc : H ca = some (.list (come.map ak))) (hcs : come.Pairwise (· < ·)) (hcn : ∀ v∈come,v < n) (hO : j7 H oa come (aL gf come))
  (q : ∀ (H' : ag) (d : Addr) (ts : List Addr) (hs : List Nat),Sub H H'->H' d = some (.list (ts.map AV.ref))->ts.length = hs.length->hs.Perm (ct gf come)->(hs.map (qQ gf come)).Pairwise (· < ·)->(∀ (i : Nat) (t : Addr) (h : Nat),ts[i]? = some t->hs[i]? = some h->uz H' t h (aC gf come h) (au gf come h))->Q (.ref d) H') : AC c (k + 2) 263 [.ref ga,.ref ca,.ref oa] H Q:=by
 refine aI (Da hK) rfl ?_
 dsimp only [lW,lQ,lY]
 have hcl : come.length<=6:=Nat.le_trans (a9 (hcs.imp fun h=>Nat.ne_of_lt h) hcn) hn
 refine bc fun GG=>?_
 obtain ⟨es,ho,hel,hov⟩:=hO.is
 refine GG ?_
 repeat walk_at "step"
 refine ⟨by simp,fun fa hfa=>?_⟩
 repeat walk_at "step"
 refine cP (ar (Sub.upd hfa _ _ hc)) ?_
 have hne : ∀ x o,H x = some o->x≠fa:=fun x o hx=>Ne.symm (ai hfa hx)
 refine aD (I:=fun i m H5=>bC (c0 (m "goals" = some (.ref ga)) (m "come" = some (.ref ca)) (m "over" = some (.ref oa)) (m "found" = some (.ref fa))) (Sub H H5) (∃ ts : List Addr,bC (H5 fa = some (.list (ts.map AV.ref))) (ts.length = (bm (fun h=>∃ t,t∈au gf come h) (come.take i)).length) (∀ (j : Nat) (t : Addr) (h : Nat),ts[j]? = some t->(bm (fun h=>∃ t,t∈au gf come h) (come.take i))[j]? = some h->∃ b l,t≠fa/\b≠fa/\l≠fa/\H5 t = some (.tuple [ak (aC gf come h).length,ak h,.ref b,.ref l])/\H5 b = some (.list ((aC gf come h).map ak))/\H5 l = some (.list ((au gf come h).map ak))))) rfl _ 0 _ _
  ⟨⟨rfl,rfl,rfl,rfl⟩,Sub.upd hfa,[],ad _ _ _,rfl,by exact nofun⟩ (fun i R_ hR_ hr_ vv m H5 hvv hI=>?_) fun m H5 hI=>?_
 ·refine bc fun GG=>?_
  obtain ⟨⟨e1,e2,e3,e4⟩,s5,ts,h5f,htl,hts⟩:=hI
  refine GG ?_
  rw [Nat.zero_add] at *
  rw [List.getElem?_map] at hvv
  refine bc fun GG=>?_
  obtain ⟨h,hh,rfl⟩:=Option.map_eq_some_iff.mp hvv
  refine GG ?_
  have hhc:=List.mem_of_getElem? hh
  have hst0 : (an H fa (.list [])) ca = some (.list (come.map ak)):=Sub.upd hfa _ _ hc
  repeat walk_at "step"
  refine bA (ar (s5 _ _ hc)) (by simp; exact gE hcl) ?_
  refine ax (I:=fun j acc H6=>H6 = H5/\acc = (bm (fun a=>h∈gf a/\¬ Re gf (h : Int) 0 a) (come.take j)).map ak) rfl _ 0 _ _ _ ⟨rfl,rfl⟩ (fun j vv acc hvv Ry_ hy_ Rn_ hn_ H6 hI=>?_) fun acc H6 hI=>?_
  ·refine bc fun GG=>?_
   clear h5f hts; obtain ⟨rfl,rfl⟩:=hI
   refine GG ?_
   rw [Nat.zero_add] at *
   rw [List.getElem?_map] at hvv
   refine bc fun GG=>?_
   obtain ⟨a,ha,rfl⟩:=Option.map_eq_some_iff.mp hvv
   refine GG ?_
   have hac:=List.mem_of_getElem? ha
   have hal : a < ls.length:=by have:=hcn a hac; exact aU this hl
   have lk : ls[a]? = some ls[a]:=List.getElem?_eq_getElem hal
   have hrow:=s5 _ _ (hB.row a _ lk)
   (try rw [az ha] at hy_)
   (try rw [az ha] at hn_)
   repeat walk_at "step"
   refine bn (j:=a) (s5 _ _ hB.top) (by simp; exact bE hl hn) (aJ (by simp; exact dr hal)) (by refine aa (List.getElem?_map) (aa (lk ..) ?_); rfl) ?_
   refine bY hrow ?_
   repeat walk_at "step"
   cases hg : (gf a).contains h with
   | false=>
    (try rw [bV (p:=fun a=>h∈gf a/\¬ Re gf (h : Int) 0 a) (x:=a) fun z=>by rw [List.contains_iff_mem.mpr z.1] at hg; exact nomatch hg] at hy_)
    (try rw [bV (p:=fun a=>h∈gf a/\¬ Re gf (h : Int) 0 a) (x:=a) fun z=>by rw [List.contains_iff_mem.mpr z.1] at hg; exact nomatch hg] at hn_)
    repeat walk_at "step"
    exact ⟨rfl,rfl,rfl⟩
   | true=>
    refine bc fun GG=>?_
    obtain ⟨lo,k1,k2,k3⟩:=hov a hac
    refine GG ?_
    repeat walk_at "step"
    refine eC (s5 _ _ ho) k1 ?_
    refine bY (s5 _ _ k3) ?_
    repeat walk_at "step"
    cases hov' : (aL gf come a).contains h with
    | false=>
     (try rw [bV (p:=fun a=>h∈gf a/\¬ Re gf (h : Int) 0 a) (x:=a) fun z=>by rw [List.contains_iff_mem.mpr (bR.mpr ⟨hhc,z.2⟩)] at hov'; exact nomatch hov'] at hy_)
     (try rw [bV (p:=fun a=>h∈gf a/\¬ Re gf (h : Int) 0 a) (x:=a) fun z=>by rw [List.contains_iff_mem.mpr (bR.mpr ⟨hhc,z.2⟩)] at hov'; exact nomatch hov'] at hn_)
     repeat walk_at "step"
     exact ⟨rfl,rfl,rfl⟩
    | true=>
     (try rw [cn (p:=fun a=>h∈gf a/\¬ Re gf (h : Int) 0 a) (x:=a) ⟨List.contains_iff_mem.mp hg,(bR.mp (List.contains_iff_mem.mp hov')).2⟩] at hy_)
     (try rw [cn (p:=fun a=>h∈gf a/\¬ Re gf (h : Int) 0 a) (x:=a) ⟨List.contains_iff_mem.mp hg,(bR.mp (List.contains_iff_mem.mp hov')).2⟩] at hn_)
     repeat walk_at "step"
     exact ⟨rfl,rfl,by simp⟩
  refine bc fun GG=>?_
  obtain ⟨rfl,rfl⟩:=hI
  refine GG ?_
  have hll : 0 + (come.map ak).length = come.length:=by simp
  refine aa (hll ..) (aa (List.take_length ..) ?_)
  have et : bm (fun a=>h∈gf a/\¬ Re gf (h : Int) 0 a) come = au gf come h:=rfl
  refine aa (et ..) ?_
  intro ta hta
  have h7t : an H6 ta (.list ((au gf come h).map ak)) ta = some (.list ((au gf come h).map ak)):=ad _ _ _
  have t7:=Sub.upd (o:=.list ((au gf come h).map ak)) hta
  generalize an H6 ta (.list ((au gf come h).map ak)) = H7 at h7t t7
  have htaf : ta≠fa:=ai hta h5f
  repeat walk_at "step"
  refine ⟨by simp,fun d1 hd1=>?_⟩
  refine di ⟨_,Sub.upd hd1 _ _ h7t⟩ (bx (ds:=au gf come h) (es:=[]) (Sub.upd hd1 _ _ h7t) (ad _ _ _)) fun b hb=>?_
  have hbn : b = true↔∃ t,t∈au gf come h:=by
   refine aa (propext (hb ..)) ?_
   cases au gf come h with
   | nil=>simp
   | cons x xs=>exact ⟨fun _=>⟨x,.head _⟩,fun _ e=>by exact nomatch e⟩
  have t8:=t7.then (o:=.list []) hd1
  have h8t:=Sub.upd (o:=.list []) hd1 _ _ h7t
  generalize an H7 d1 (.list []) = H8 at t8 h8t
  clear hd1 t7 h7t hta
  repeat walk_at "step"
  (try rw [az hh] at hR_)
  cases b with
  | false=>
   (try rw [bV (p:=fun h=>∃ t,t∈au gf come h) (x:=h) fun z=>by cases hbn.mpr z] at hR_)
   repeat walk_at "step"
   refine ⟨by exact aa (t8 _ _ (s5 _ _ hc)) (aa (hst0 ..) rfl),⟨e1,e2,e3,e4⟩,s5.trans t8,ts,t8 _ _ h5f,htl,fun j t h' h1 h2=>?_⟩
   refine bc fun GG=>?_
   obtain ⟨b,l,g1,g2,g3,g4,g5,g6⟩:=hts j t h' h1 h2
   refine GG ?_
   exact ⟨b,l,g1,g2,g3,t8 _ _ g4,t8 _ _ g5,t8 _ _ g6⟩
  | true=>
   (try rw [cn (p:=fun h=>∃ t,t∈au gf come h) (x:=h) (hbn.mp rfl)] at hR_)
   repeat walk_at "step"
   refine ⟨by simp,fun ba hba=>?_⟩
   have nbf : ba≠fa:=ai hba (t8 _ _ h5f)
   have nbt : ba≠ta:=ai hba h8t
   have nb5 : ∀ x o,H6 x = some o->x≠ba:=fun x o hx=>Ne.symm (ai hba (t8 _ _ hx))
   have t9:=t8.then (o:=.list [ak h]) hba
   have h9t:=Sub.upd (o:=.list [ak h]) hba _ _ h8t
   have h9b : an H8 ba (.list [ak h]) ba = some (.list ([h].map ak)):=ad _ _ _
   generalize an H8 ba (.list [ak h]) = H9 at t9 h9t h9b
   clear hba t8 h8t
   repeat walk_at "step"
   refine cP (ar (t9 _ _ (s5 _ _ hc))) ?_
   refine aD (I:=fun j m H10=>bC (nk (m "goals" = some (.ref ga)) (m "come" = some (.ref ca)) (m "over" = some (.ref oa)) (m "found" = some (.ref fa)) (m "header" = some (ak h)) (m "tails" = some (.ref ta)) (m "blocks" = some (.ref ba))) (aV ba H9 H10) (H10 ba = some (.list ((h :: bm (fun a=>∃ t∈au gf come h,Re gf (h : Int) a t) (come.take j)).map ak)))) rfl _ 0 _ _
    ⟨⟨e1,e2,e3,e4,rfl,rfl,rfl⟩,fun _ _ _ h=>h,h9b⟩ (fun j R_ hR_ hr_ vv m H10 hvv hI=>?_) fun m H10 hI=>?_
   ·refine bc fun GG=>?_
    obtain ⟨⟨e1,e2,e3,e4,e5,e6,e7⟩,s10,h10b⟩:=hI
    refine GG ?_
    rw [Nat.zero_add] at *
    rw [List.getElem?_map] at hvv
    refine bc fun GG=>?_
    obtain ⟨a,ha,rfl⟩:=Option.map_eq_some_iff.mp hvv
    refine GG ?_
    have han:=hcn a (List.mem_of_getElem? ha)
    have sH : Sub H H10:=fun x o hx=>s10 _ _ (nb5 _ _ (s5 _ _ hx)) (t9 _ _ (s5 _ _ hx))
    have h10t:=s10 _ _ (Ne.symm nbt) h9t
    repeat walk_at "step"
    refine cG (first:=a) (barred:=(h : Int)) hK hn (hB.sub sH) hl hgf han fun H11 fr rs s11 hfr h11r hrs hmem hbd=>?_
    repeat walk_at "step"
    have h11t:=s11 _ _ h10t
    have htl6 : (au gf come h).length<=6:=Nat.le_trans (cW _ _) hcl
    refine bA (ar h11t) (by refine aa (List.length_map ..) ?_; exact gE htl6) ?_
    refine ax (I:=fun j2 acc H12=>H12 = H11/\acc = (bm (fun t=>Re gf (h : Int) a t) ((au gf come h).take j2)).map ak) rfl _ 0 _ _ _ ⟨rfl,rfl⟩ (fun j2 vv acc hvv Ry_ hy_ Rn_ hn_ H12 hI=>?_) fun acc H12 hI=>?_
    ·refine bc fun GG=>?_
     clear s11 h11t; obtain ⟨rfl,rfl⟩:=hI
     refine GG ?_
     rw [Nat.zero_add] at *
     rw [List.getElem?_map] at hvv
     refine bc fun GG=>?_
     obtain ⟨t,ht,rfl⟩:=Option.map_eq_some_iff.mp hvv
     refine GG ?_
     (try rw [az ht] at hy_)
     (try rw [az ht] at hn_)
     repeat walk_at "step"
     refine bY h11r ?_
     repeat walk_at "step"
     cases hrc : rs.contains t with
     | true=>
      (try rw [cn (p:=fun t=>Re gf (h : Int) a t) (x:=t) ((hmem t).mp (List.contains_iff_mem.mp hrc)).2] at hy_)
      (try rw [cn (p:=fun t=>Re gf (h : Int) a t) (x:=t) ((hmem t).mp (List.contains_iff_mem.mp hrc)).2] at hn_)
      repeat walk_at "step"
      exact ⟨rfl,rfl,by simp⟩
     | false=>
      (try rw [bV (p:=fun t=>Re gf (h : Int) a t) (x:=t) fun z=>by rw [List.contains_iff_mem.mpr ((hmem t).mpr ⟨hbd t z,z⟩)] at hrc; exact nomatch hrc] at hy_)
      (try rw [bV (p:=fun t=>Re gf (h : Int) a t) (x:=t) fun z=>by rw [List.contains_iff_mem.mpr ((hmem t).mpr ⟨hbd t z,z⟩)] at hrc; exact nomatch hrc] at hn_)
      repeat walk_at "step"
      exact ⟨rfl,rfl,rfl⟩
    refine bc fun GG=>?_
    clear h11r h11t; obtain ⟨rfl,rfl⟩:=hI
    refine GG ?_
    have hll2 : 0 + ((au gf come h).map ak).length = (au gf come h).length:=by simp
    refine aa (hll2 ..) (aa (List.take_length ..) ?_)
    intro d2 hd2
    repeat walk_at "step"
    refine ⟨by simp,fun d3 hd3=>?_⟩
    refine di ⟨_,Sub.upd hd3 _ _ (ad _ _ _)⟩ (bx (ds:=bm (fun t=>Re gf (h : Int) a t) (au gf come h)) (es:=[]) (Sub.upd hd3 _ _ (ad _ _ _)) (ad _ _ _)) fun b hb=>?_
    rw [iK] at hb
    have s13 : Sub H10 (an (an H12 d2 (.list ((bm (fun t=>Re gf (h : Int) a t) (au gf come h)).map ak))) d3 (.list [])):=(s11.then hd2).then hd3
    generalize an (an H12 d2 (.list ((bm (fun t=>Re gf (h : Int) a t) (au gf come h)).map ak))) d3 (.list []) = H13 at s13
    have h13b:=s13 _ _ h10b
    have hcab : ca≠ba:=nb5 _ _ (s5 _ _ hc)
    have hst : H13 ca = H9 ca:=by exact aa (s13 _ _ (sH _ _ hc)) (aa (t9 _ _ (s5 _ _ hc)) rfl)
    have hpl6 : (bm (fun a=>∃ t∈au gf come h,Re gf (h : Int) a t) (come.take j)).length<=6:=by
     have h1:=cW (fun a=>∃ t∈au gf come h,Re gf (h : Int) a t) (come.take j)
     have h2:=List.length_take_le' j come
     exact jg hcl h2 h1
    (try rw [az ha] at hR_)
    repeat walk_at "step"
    cases b with
    | true=>
     (try rw [cn (p:=fun a=>∃ t∈au gf come h,Re gf (h : Int) a t) (x:=a) (hb.mp rfl)] at hR_)
     repeat walk_at "step"
     refine ⟨ba,_,rfl,h13b,rfl,?_⟩
     repeat walk_at "step"
     refine aO h13b (by refine aa (List.length_map ..) (aa (List.length_cons ..) ?_); exact tO hpl6) ?_
     repeat walk_at "step"
     exact ⟨by refine aa (aj hcab) ?_; exact hst,⟨e1,e2,e3,e4,e5,e6,e7⟩,fun x o h1 h2=>by refine aa (aj h1) ?_; exact s13 _ _ (s10 x o h1 h2),by refine aa (ad ..) ?_; simp⟩
    | false=>
     (try rw [bV (p:=fun a=>∃ t∈au gf come h,Re gf (h : Int) a t) (x:=a) fun z=>by cases hb.mpr z] at hR_)
     repeat walk_at "step"
     exact ⟨hst,⟨e1,e2,e3,e4,e5,e6,e7⟩,fun x o h1 h2=>s13 _ _ (s10 x o h1 h2),h13b⟩
   clear e1 e2 e3 e4
   refine bc fun GG=>?_
   obtain ⟨⟨e1,e2,e3,e4,e5,e6,e7⟩,s10,h10b⟩:=hI
   refine GG ?_
   rw [hll,List.take_length] at h10b
   have hbm : ∀ y,y∈h :: bm (fun a=>∃ t∈au gf come h,Re gf (h : Int) a t) come↔y∈aC gf come h:=fun y=>by
    unfold aC
    refine aa (propext (List.mem_cons ..)) (aa (propext (bu ..)) (aa (propext (bu ..)) ?_))
    constructor
    ·rintro (e | ⟨h1,h2⟩)
     ·repeat walk_at "step"
      exact ⟨by refine aa (e ..) ?_; exact hhc,.inl e⟩
     ·repeat walk_at "step"
      exact ⟨h1,.inr h2⟩
    ·rintro ⟨h1,e | h2⟩
     ·exact .inl e
     ·exact .inr ⟨h1,h2⟩
   have hbnd : (h :: bm (fun a=>∃ t∈au gf come h,Re gf (h : Int) a t) come).Nodup:=by
    refine aa (propext (List.nodup_cons ..)) ?_
    refine ⟨fun hm=>?_,(cu hcs).imp fun h=>Nat.ne_of_lt h⟩
    refine bc fun GG=>?_
    obtain ⟨_,t,_,hr⟩:=bu.mp hm
    refine GG ?_
    have : ∀ {b : Int} {f x : Nat},Re gf b f x->(f : Int)≠b:=fun h=>by
     induction h with
     | start h=>exact h
     | step _ _ _ ih=>exact ih
    exact this hr rfl
   have hbs : (aC gf come h).Pairwise (· < ·):=cu hcs
   have hbl : (h :: bm (fun a=>∃ t∈au gf come h,Re gf (h : Int) a t) come).length = (aC gf come h).length:=
    ((List.perm_ext_iff_of_nodup hbnd (hbs.imp fun h=>Nat.ne_of_lt h)).mpr hbm).length_eq
   have hbl6 : (aC gf come h).length<=6:=Nat.le_trans (cW _ _) hcl
   have h10f:=s10 _ _ (Ne.symm nbf) (t9 _ _ h5f)
   repeat walk_at "step"
   refine ⟨fa,_,rfl,h10f,rfl,?_⟩
   repeat walk_at "step"
   refine cF (.inl ⟨_,h10b,rfl⟩) (by refine aa (List.length_map ..) ?_; exact jp hbl hbl6) ?_
   refine aa (List.length_map ..) (aa (hbl ..) ?_)
   repeat walk_at "step"
   have em : (h :: bm (fun a=>∃ t∈au gf come h,Re gf (h : Int) a t) come).map ak = ((h :: bm (fun a=>∃ t∈au gf come h,Re gf (h : Int) a t) come).map fun (r : Nat)=>(r : Int)).map AV.int:=by refine aa (List.map_map ..) ?_; rfl
   rw [em] at h10b
   refine b0 h10b (by refine aa (List.length_map ..) ?_; exact qz hbl hbl6) fun sa ns hsa hperm hsort=>?_
   have ens:=eJ hbnd hperm hsort hbs hbm
   clear hperm hsort; subst ens
   have em2 : ((aC gf come h).map fun (r : Nat)=>(r : Int)).map AV.int = (aC gf come h).map ak:=by refine aa (List.map_map ..) ?_; rfl
   refine aa (em2 ..) ?_
   have h11s : an H10 sa (.list ((aC gf come h).map ak)) sa = some (.list ((aC gf come h).map ak)):=ad _ _ _
   have t11:=Sub.upd (o:=.list ((aC gf come h).map ak)) hsa
   have nsf : sa≠fa:=ai hsa h10f
   generalize an H10 sa (.list ((aC gf come h).map ak)) = H11 at h11s t11
   repeat walk_at "step"
   refine ⟨by simp,fun tt htt=>?_⟩
   have ntf : tt≠fa:=ai htt (t11 _ _ h10f)
   have htl6 : ts.length<=6:=by
    refine aa (htl ..) ?_
    have h1:=cW (fun h=>∃ t,t∈au gf come h) (come.take i)
    have h2:=List.length_take_le' i come
    exact jg hcl h2 h1
   refine aO (Sub.upd htt _ _ (t11 _ _ h10f)) (by refine aa (List.length_map ..) ?_; exact gF htl6) ?_
   repeat walk_at "step"
   have kk : ∀ x o v1 v2,x≠fa->H11 x = some o->an (an H11 tt v1) fa v2 x = some o:=fun x o v1 v2 h1 h2=>by
    refine aa (aj h1) (aa (aj (Ne.symm (ai htt h2))) ?_); exact h2
   have k5 : ∀ x o,H6 x = some o->H11 x = some o:=fun x o hx=>t11 _ _ (s10 _ _ (nb5 _ _ hx) (t9 _ _ hx))
   refine ⟨by exact aa (kk _ _ _ _ (hne _ _ hc) (k5 _ _ (s5 _ _ hc))) (aa (hst0 ..) rfl),⟨e1,e2,e3,e4⟩,fun x o hx=>kk _ _ _ _ (hne _ _ hx) (k5 _ _ (s5 _ _ hx)),ts ++ [tt],by refine aa (ad ..) ?_; simp,by simp [htl],fun j t h' h1 h2=>?_⟩
   rcases Nat.lt_or_ge j ts.length with hj | hj
   ·rw [List.getElem?_append_left hj] at h1
    rw [List.getElem?_append_left (by exact bM hj htl)] at h2
    refine bc fun GG=>?_
    obtain ⟨b,l,g1,g2,g3,g4,g5,g6⟩:=hts j t h' h1 h2
    refine GG ?_
    exact ⟨b,l,g1,g2,g3,kk _ _ _ _ g1 (k5 _ _ g4),kk _ _ _ _ g2 (k5 _ _ g5),kk _ _ _ _ g3 (k5 _ _ g6)⟩
   ·rw [List.getElem?_append_right hj] at h1
    have : j = ts.length:=by
     have:=(List.getElem?_eq_some_iff.mp h1).1
     simp at this; exact fB this hj
    clear hj; subst this
    rw [Nat.sub_self] at h1
    rw [List.getElem?_append_right (by exact xk htl),htl,Nat.sub_self] at h2
    cases h1; cases h2
    exact ⟨sa,ta,ntf,nsf,htaf,by exact aa (aj ntf) (aa (ad ..) rfl),kk _ _ _ _ nsf h11s,kk _ _ _ _ htaf (t11 _ _ (s10 _ _ (Ne.symm nbt) h9t))⟩
 refine bc fun GG=>?_
 obtain ⟨⟨e1,e2,e3,e4⟩,s5,ts,h5f,htl,hts⟩:=hI
 refine GG ?_
 have hll : 0 + (come.map ak).length = come.length:=by simp
 rw [hll,List.take_length] at htl hts
 have eh : bm (fun h=>∃ t,t∈au gf come h) come = ct gf come:=rfl
 rw [eh] at htl hts
 have hhl : (ct gf come).length<=6:=Nat.le_trans (cW _ _) hcl
 repeat walk_at "step"
 refine dH (ln:=fun h=>(aC gf come h).length) h5f htl hhl ((cu hcs).imp fun h=>Nat.ne_of_lt h) (fun h hh=>by have:=hcn h (bu.mp hh).1; exact uj this hn) (fun i t h h1 h2=>?_) fun d ts' hs' hd hp hsrt hl' hrel=>?_
 ·refine bc fun GG=>?_
  obtain ⟨b,l,_,_,_,g4,_⟩:=hts i t h h1 h2
  refine GG ?_
  exact ⟨_,g4⟩
 have hs'l : hs'.length<=6:=by refine aa (hp.length_eq ..) ?_; exact hhl
 have h6d : an H5 d (.list (ts'.map AV.ref)) d = some (.list (ts'.map AV.ref)):=ad _ _ _
 have t6:=Sub.upd (o:=.list (ts'.map AV.ref)) hd
 generalize an H5 d (.list (ts'.map AV.ref)) = H6 at h6d t6
 repeat walk_at "step"
 refine bA (ar h6d) (by refine aa (List.length_map ..) ?_; exact im hl' hs'l) ?_
 refine jm (I:=fun i acc m H7=>Sub H6 H7/\∃ us : List Addr,bC (acc = us.map AV.ref) (us.length = i) (∀ (j : Nat) (t : Addr) (h : Nat),us[j]? = some t->hs'[j]? = some h->uz H7 t h (aC gf come h) (au gf come h))) _ 0 _ _ _ ⟨Sub.rfl,[],rfl,rfl,by exact nofun⟩ (fun i vv acc hvv m H7 hI=>?_) fun acc m H7 hI=>?_
 ·refine bc fun GG=>?_
  obtain ⟨s7,us,rfl,hul,hus⟩:=hI
  refine GG ?_
  rw [Nat.zero_add] at *
  rw [List.getElem?_map] at hvv
  refine bc fun GG=>?_
  obtain ⟨t,ht,rfl⟩:=Option.map_eq_some_iff.mp hvv
  have hil:=(List.getElem?_eq_some_iff.mp ht).1
  obtain ⟨j,g1,g2⟩:=hrel i t _ ht (List.getElem?_eq_getElem (by exact bM hil hl'))
  obtain ⟨b,l,_,_,_,g4,g5,g6⟩:=hts j t _ g1 g2
  refine GG ?_
  refine j3 (fun _=>rfl) (s7 _ _ (t6 _ _ g4)) rfl ?_
  repeat walk_at "step"
  refine ⟨by simp,fun tn htn=>?_⟩
  refine ⟨by exact aa (s7.then htn _ _ h6d) (aa (h6d ..) rfl),s7.then htn,us ++ [tn],by simp,by simp [hul],fun j' t' h' h1 h2=>?_⟩
  rcases Nat.lt_or_ge j' us.length with hj | hj
  ·rw [List.getElem?_append_left hj] at h1
   refine bc fun GG=>?_
   obtain ⟨b',l',k1,k2,k3⟩:=hus j' t' h' h1 h2
   refine GG ?_
   exact ⟨b',l',Sub.upd htn _ _ k1,Sub.upd htn _ _ k2,Sub.upd htn _ _ k3⟩
  ·rw [List.getElem?_append_right hj] at h1
   have : j' = us.length:=by
    have:=(List.getElem?_eq_some_iff.mp h1).1
    simp at this; exact fB this hj
   clear hj; subst this
   rw [Nat.sub_self] at h1
   rw [hul,List.getElem?_eq_getElem (by exact bM hil hl')] at h2
   cases h1; cases h2
   exact ⟨b,l,ad _ _ _,s7.then htn _ _ (t6 _ _ g5),s7.then htn _ _ (t6 _ _ g6)⟩
 ·refine bc fun GG=>?_
  obtain ⟨s7,us,rfl,hul,hus⟩:=hI
  refine GG ?_
  intro rd hrd
  repeat walk_at "step"
  refine q _ rd us hs' ((s5.trans (t6.trans s7)).then hrd) (ad _ _ _) (by refine aa (hul ..) ?_; simp [hl']) hp hsrt fun i t h h1 h2=>?_
  refine bc fun GG=>?_
  obtain ⟨b',l',k1,k2,k3⟩:=hus i t h h1 h2
  refine GG ?_
  exact ⟨b',l',Sub.upd hrd _ _ k1,Sub.upd hrd _ _ k2,Sub.upd hrd _ _ k3⟩
end
end
section
structure TD (Hr H : ag) (td : Addr) (hs : List Nat) (adr : Nat->Addr) (rw_ : Nat->List Nat) : Prop where
 keep : ∀ x o,x≠td->Hr x = some o->H x = some o
 fresh : ∀ h∈hs,Hr (adr h) = none
 top : H td = some (.dict (hs.map fun (h : Nat)=>((h : Int),AV.ref (adr h))))
 nd : hs.Nodup
 inj : ∀ h∈hs,∀ h'∈hs,adr h = adr h'->h = h'
 row : ∀ h∈hs,H (adr h) = some (.list ((rw_ h).map ak))
theorem TD.sub {Hr H H' : ag} {td : Addr} {hs : List Nat} {adr : Nat->Addr} {rw_ : Nat->List Nat} (T : TD Hr H td hs adr rw_) (s : Sub H H') : TD Hr H' td hs adr rw_:=
 ⟨fun x o h1 h2=>s _ _ (T.keep x o h1 h2),T.fresh,s _ _ T.top,T.nd,T.inj,fun h hh=>s _ _ (T.row h hh)⟩
theorem TD.look {hs : List Nat} {adr : Nat->Addr} (x : Nat) : (hs.map fun (h : Nat)=>((h : Int),AV.ref (adr h))).lookup (x : Int) = if x∈hs then some (AV.ref (adr x)) else none:=by
 induction hs with
 | nil=>simp
 | cons h hs ih=>
  refine aa (List.map_cons ..) (aa (List.lookup_cons ..) (aa (ih ..) ?_))
  by_cases e : x = h
  ·subst e; simp
  ·refine aa (beq_eq_false_iff_ne.mpr (by exact qm e : ((x : Nat) : Int)≠(h : Int))) ?_
   simp only [List.mem_cons,e,false_or]
theorem TD.td_ne {Hr H : ag} {td : Addr} {hs : List Nat} {adr : Nat->Addr} {rw_ : Nat->List Nat} (T : TD Hr H td hs adr rw_) {h : Nat} (hh : h∈hs) : adr h≠td:=fun e=>by
 have h1:=T.row h hh
 rw [e,T.top] at h1
 cases h1
theorem TD.add {Hr H : ag} {td a : Addr} {hs : List Nat} {adr : Nat->Addr} {rw_ : Nat->List Nat} (T : TD Hr H td hs adr rw_) {g : Nat} (hg : g∉hs) (ha : H a = none) (hra : a≠td->Hr a = none) :
  TD Hr (an (an H a (.list [])) td (.dict ((hs.map fun (h : Nat)=>((h : Int),AV.ref (adr h))) ++ [((g : Int),AV.ref a)]))) td (hs ++ [g]) (fun h=>if h = g then a else adr h) (fun h=>if h = g then [] else rw_ h):=by
 have nat : a≠td:=ai ha T.top
 have hno : ∀ h∈hs,h≠g:=fun h hh e=>hg (by refine aa (Eq.symm (e ..)) ?_; exact hh)
 refine ⟨fun x o h1 h2=>by refine aa (aj h1) ?_; exact Sub.upd ha _ _ (T.keep x o h1 h2),fun h hh=>?_,?_,?_,fun h hh h' hh' e=>?_,fun h hh=>?_⟩
 ·rcases List.mem_append.mp hh with hh | hh
  ·refine aa (if_neg (hno h hh)) ?_; exact T.fresh h hh
  ·refine aa (List.mem_singleton.mp hh) (aa (if_pos rfl) ?_); exact hra nat
 ·refine aa (ad ..) (aa (List.map_append ..) (aa (List.map_singleton ..) (aa (if_pos rfl) ?_)))
  congr 3
  exact List.map_congr_left fun h hh=>by exact aa (if_neg (hno h hh)) rfl
 ·refine aa (propext (List.nodup_append ..)) ?_
  exact ⟨T.nd,by simp,fun x hx y hy e=>by rw [List.mem_singleton] at hy; subst hy; subst e; exact hg hx⟩
 ·try dsimp only at e
  have key : ∀ x∈hs,adr x≠a:=fun x hx e=>by have:=T.row x hx; rw [e,ha] at this; cases this
  rcases List.mem_append.mp hh with hh | hh<;>rcases List.mem_append.mp hh' with hh' | hh'
  ·rw [if_neg (hno h hh),if_neg (hno h' hh')] at e; exact T.inj h hh h' hh' e
  ·rw [List.mem_singleton.mp hh',if_neg (hno h hh),if_pos rfl] at e; exact absurd e (key h hh)
  ·rw [List.mem_singleton.mp hh,if_neg (hno h' hh'),if_pos rfl] at e; exact absurd e.symm (key h' hh')
  ·exact aa (List.mem_singleton.mp hh) (aa (List.mem_singleton.mp hh') rfl)
 ·try dsimp only
  rcases List.mem_append.mp hh with hh | hh
  ·refine aa (if_neg (hno h hh)) (aa (if_neg (hno h hh)) (aa (aj (T.td_ne hh)) ?_)); exact Sub.upd ha _ _ (T.row h hh)
  ·refine aa (List.mem_singleton.mp hh) (aa (if_pos rfl) (aa (if_pos rfl) (aa (aj nat) (aa (ad ..) ?_)))); rfl
theorem TD.app {Hr H : ag} {td : Addr} {hs : List Nat} {adr : Nat->Addr} {rw_ : Nat->List Nat} (T : TD Hr H td hs adr rw_) {g v : Nat} (hg : g∈hs) :
  TD Hr (an H (adr g) (.list ((rw_ g).map ak ++ [ak v]))) td hs adr (fun h=>if h = g then rw_ g ++ [v] else rw_ h):=by
 refine ⟨fun x o h1 h2=>?_,T.fresh,?_,T.nd,T.inj,fun h hh=>?_⟩
 ·refine aa (aj (Ne.symm (ai (T.fresh g hg) h2))) ?_; exact T.keep x o h1 h2
 ·refine aa (aj (Ne.symm (T.td_ne hg))) ?_; exact T.top
 ·try dsimp only
  by_cases e : h = g
  ·subst e; refine aa (if_pos rfl) (aa (ad ..) ?_); simp
  ·refine aa (if_neg e) (aa (aj (fun q=>e (T.inj h hh g hg q))) ?_); exact T.row h hh
def tK (H : ag) (t : Addr) (h : Nat) (bs tl : List Nat) : Prop:=∃ b l,bQ H t 101 (gk (ak h) (.ref b) (.ref l))/\H b = some (.set (bs.map fun (r : Nat)=>(r : Int)))/\H l = some (.list (tl.map ak))
theorem TD.len {Hr H : ag} {td : Addr} {hs : List Nat} {adr : Nat->Addr} {rw_ : Nat->List Nat} (T : TD Hr H td hs adr rw_) {n : Nat} (h : ∀ x∈hs,x < n) : hs.length<=n:=a9 T.nd h
theorem nP {gf bf : Nat->List Nat} {n : Nat} {come : List Nat} (hn : n<=6) (hgf : ∀ v,v < n->∀ u∈gf v,u < n) (hcs : come.Pairwise (· < ·)) (hcm : ∀ v,v∈come↔v < n/\bW gf 0 v) (hbf : ∀ v,v < n->∀ u,u∈bf v↔u < n/\v∈gf u/\bW gf 0 u) {h : Nat} (hh : h∈come) {tails : List Nat} (ht : ∀ t,t∈tails↔t∈au gf come h)
  {p : Int->Bool} (hp : ∀ v,v < n->(p v = true↔fR bf h tails v)) (hb : ∀ i,p i = true->0<=i/\i < n) : aK p = (aC gf come h).map fun (r : Nat)=>(r : Int):=by
 refine bP (bv _) ?_ fun y=>?_
 ·refine aa (propext (List.pairwise_map ..)) ?_
  exact (cu hcs : (aC gf come h).Pairwise (· < ·)).imp fun h=>by exact tM h
 ·refine aa (propext (br ..)) (aa (propext (List.mem_map ..)) ?_)
  constructor
  ·rintro ⟨_,h2⟩
   have h3:=hb y h2
   refine ⟨y.toNat,?_,by exact Ey h3⟩
   have e : y = ((y.toNat : Nat) : Int):=by exact EN h3
   rw [e] at h2
   exact (kg hgf hcm hbf hh ht (by exact En h3)).mp ((hp y.toNat (by exact En h3)).mp h2)
  ·rintro ⟨v,hv,rfl⟩
   have hvn:=((hcm v).mp (bu.mp hv).1).1
   exact ⟨dn (by exact oL) (by exact qr hvn hn),(hp v hvn).mpr ((kg hgf hcm hbf hh ht hvn).mpr hv)⟩
section
variable {c : Cx} {k : Nat} {H : ag} {Q : AV->ag->Prop}
theorem kM (hK : KF c.K) {f : Addr} {G : List cI} {come : List Nat} (hF : cA H f G) (hG : cm G) (hcs : come.Pairwise (· < ·)) (hcm : ∀ v,v∈come↔v < G.length/\bW (ah G) 0 v)
  (q : ∀ (H' : ag) (d : Addr) (ts : List Addr) (hs : List Nat),Sub H H'->H' d = some (.list (ts.map AV.ref))->ts.length = hs.length->hs.Perm (ct (ah G) come)->(hs.map (qQ (ah G) come)).Pairwise (· < ·)->(∀ (i : Nat) (t : Addr) (h : Nat),ts[i]? = some t->hs[i]? = some h->tK H' t h (aC (ah G) come h) (au (ah G) come h))->Q (.ref d) H') : AC c (k + 5) 181 [.ref f] H Q:=by
 refine aI (CI hK) rfl ?_
 dsimp only [mI,me,lR,on,lg,mr,nD,lZ]
 refine bc fun GG=>?_
 obtain ⟨bl,bs,p0,s0,⟨dx,hf1,hf2⟩,hbl,hlen,hblk⟩:=hF.is
 refine GG ?_
 have hsix:=hG.six
 have hpos:=hG.pos
 have hgf : ∀ v,v < G.length->∀ u∈ah G v,u < G.length:=fun v hv=>(aX hG hv).2
 repeat walk_at "step"
 refine fx hK hF hG fun H1 pa ps po1 par s1 hpa h1p D1 Dm1=>?_
 repeat walk_at "step"
 refine d7 fun td htd=>?_
 have htd0:=s1.none htd
 have s2:=s1.then (o:=.dict []) htd
 have h2t : an H1 td (.dict []) td = some (.dict []):=ad _ _ _
 have h2p:=Sub.upd (o:=.dict []) htd _ _ h1p
 generalize an H1 td (.dict []) = H2 at s2 h2t h2p
 clear htd h1p s1
 repeat walk_at "step"
 refine g0 hK (hF.sub s2) hG fun H3 ra po seen s3 hra h3r pst=>?_
 have D:=pst.dfs (n:=G.length) (fun v hv=>(aX hG hv).2) hpos
 clear pst
 have h3t:=s3 _ _ h2t
 have h3p:=s3 _ _ h2p
 have nrt : ra≠td:=ai hra h2t
 have npt : pa≠td:=aQ h2p h2t fun e=>by cases e
 have sH3:=s2.trans s3
 have nHt : ∀ x o,H x = some o->x≠td:=fun x o hx=>Ne.symm (ai htd0 hx)
 repeat walk_at "step"
 refine cP (ar h3r) ?_
 refine aD (I:=fun i m H5=>(bC (m "func" = some (.ref f)) (m "parents" = some (.ref pa)) (m "tails" = some (.ref td)))/\Dc fun (hs : List Nat) (adr : Nat->Addr) (rw_ : Nat->List Nat)=>bC (TD H3 H5 td hs adr rw_) (∀ h∈hs,(rw_ h).Nodup/\(∀ x,x∈rw_ h↔x∈po.reverse.take i/\h∈ah G x/\Dm (ah G) h x)/\∃ x,x∈rw_ h) (∀ h x,(x∈po.reverse.take i/\h∈ah G x/\Dm (ah G) h x)->h∈hs)) rfl _ 0 _ _
  ⟨⟨rfl,rfl,rfl⟩,[],fun _=>0,fun _=>[],⟨fun _ _ _ h=>h,by simp,h3t,List.nodup_nil,by simp,by simp⟩,by simp,by simp⟩ (fun i R_ hR_ hr_ vv m H5 hvv hI=>?_) fun m H5 hI=>?_
 ·refine bc fun GG=>?_
  obtain ⟨⟨e1,e2,e3⟩,hs,adr,rw_,T,hrw,hin⟩:=hI
  refine GG ?_
  rw [Nat.zero_add] at *
  rw [List.getElem?_map] at hvv
  refine bc fun GG=>?_
  obtain ⟨v,hv,rfl⟩:=Option.map_eq_some_iff.mp hvv
  refine GG ?_
  have hvp:=List.mem_reverse.mp (List.mem_of_getElem? hv)
  have hvn:=D.lt v hvp
  have hvr:=(D.mem v).mp hvp
  have hgl:=aX hG hvn
  have hbvl : v < bs.length:=by exact aU hvn hlen
  have hbv : bs[v]? = some bs[v]:=List.getElem?_eq_getElem hbvl
  have sH5 : Sub H H5:=fun x o hx=>T.keep _ _ (nHt x o hx) (sH3 _ _ hx)
  have hf1':=sH5 _ _ hf1
  have hf2':=sH5 _ _ hf2
  have hnd : po.reverse.Nodup:=fj D.nd
  have hvt : v∉po.reverse.take i:=fun hm=>by
   have:=List.Pairwise.sublist (List.take_sublist (i + 1) po.reverse) hnd
   rw [az hv,List.pairwise_append] at this
   exact this.2.2 v hm v (List.mem_singleton.mpr rfl) rfl
  repeat walk_at "step"
  refine bn (j:=v) (sH5 _ _ hbl) (by simp; exact bE hlen hsix) (aJ (by simp; exact aU hvn hlen)) (by refine aa (List.getElem?_map) (aa (hbv ..) ?_); rfl) ?_
  refine jL hK (fun i b B h1 h2=>(hblk i b B h1 h2).sub sH5) hvn hbv fun H6 d s6 hd h6d=>?_
  repeat walk_at "step"
  refine cP (ar h6d) ?_
  have h6d':=h6d
  have ndr : ra≠d:=Ne.symm (ai hd (T.keep _ _ nrt h3r))
  refine aD (I:=fun j m H7=>(c0 (m "func" = some (.ref f)) (m "parents" = some (.ref pa)) (m "tails" = some (.ref td)) (m "number" = some (ak v)))/\Dc fun (hs : List Nat) (adr : Nat->Addr) (rw_ : Nat->List Nat)=>fJ (TD H3 H7 td hs adr rw_) (H7 d = some (.list ((ah G v).map ak))) (∀ h∈hs,adr h≠d) (∀ h∈hs,(rw_ h).Nodup/\(∀ x,x∈rw_ h↔(x∈po.reverse.take i/\h∈ah G x/\Dm (ah G) h x)\/(x = v/\h∈(ah G v).take j/\Dm (ah G) h v))/\∃ x,x∈rw_ h) (∀ h x,((x∈po.reverse.take i/\h∈ah G x/\Dm (ah G) h x)\/(x = v/\h∈(ah G v).take j/\Dm (ah G) h v))->h∈hs)) rfl _ 0 _ _
   ⟨⟨e1,e2,e3,rfl⟩,hs,adr,rw_,T.sub s6,h6d,fun h hh e=>(by have:=T.row h hh; rw [e,hd] at this; cases this),by simpa using hrw,by simpa using hin⟩ (fun j R_ hR_ hr_ vv m H7 hvv hI=>?_) fun m H7 hI=>?_
  rotate_left
  ·refine bc fun GG=>?_
   obtain ⟨⟨e1,e2,e3,e4⟩,hs,adr,rw_,T,h7d,hda,hrw,hin⟩:=hI
   refine GG ?_
   have hll : 0 + ((ah G v).map ak).length = (ah G v).length:=by simp
   rw [hll,List.take_length] at hrw hin
   have hDn : ∀ h x,(x∈po.reverse.take (i + 1)/\h∈ah G x/\Dm (ah G) h x)↔((x∈po.reverse.take i/\h∈ah G x/\Dm (ah G) h x)\/(x = v/\h∈ah G v/\Dm (ah G) h v)):=fun h x=>by
    rw [bg hv]
    constructor
    ·rintro ⟨h1 | h1,h2⟩
     ·exact .inl ⟨h1,h2⟩
     ·subst h1; exact .inr ⟨rfl,h2⟩
    ·rintro (⟨h1,h2⟩ | ⟨h1,h2⟩)
     ·repeat walk_at "step"
      exact ⟨.inl h1,h2⟩
     ·subst h1; exact ⟨.inr rfl,h2⟩
   repeat walk_at "step"
   refine ⟨by exact aa (T.keep _ _ nrt h3r) (aa (h3r ..) rfl),⟨e1,e2,e3⟩,hs,adr,rw_,T,fun h hh=>⟨(hrw h hh).1,fun x=>by refine aa (propext (hDn ..)) ?_; exact (hrw h hh).2.1 x,(hrw h hh).2.2⟩,fun h x hx=>hin h x ((hDn h x).mp hx)⟩
  ·clear hs adr rw_ T hrw hin e1 e2 e3 sH5 hf1' hf2' s6 hd h6d
   refine bc fun GG=>?_
   obtain ⟨⟨e1,e2,e3,e4⟩,hs,adr,rw_,T,h7d,hda,hrw,hin⟩:=hI
   refine GG ?_
   rw [Nat.zero_add] at *
   rw [List.getElem?_map] at hvv
   refine bc fun GG=>?_
   obtain ⟨g,hg,rfl⟩:=Option.map_eq_some_iff.mp hvv
   refine GG ?_
   have hgm:=List.mem_of_getElem? hg
   have hgn:=hgl.2 g hgm
   have h7p:=T.keep _ _ npt h3p
   repeat walk_at "step"
   refine cf ?_ (fun _ _=>rfl)
   repeat walk_at "step"
   refine jB hK Dm1.tree ⟨ps,h7p,by have:=Dm1.len; exact sB this hsix,fun v hv=>Dm1.yes v hv⟩ hvr fun b hb=>?_
   rw [Dm1.ch v g hvr] at hb
   refine dG ?_
   have hDn : ∀ h x,((x∈po.reverse.take i/\h∈ah G x/\Dm (ah G) h x)\/(x = v/\h∈(ah G v).take (j + 1)/\Dm (ah G) h v))↔
     (((x∈po.reverse.take i/\h∈ah G x/\Dm (ah G) h x)\/(x = v/\h∈(ah G v).take j/\Dm (ah G) h v))\/(x = v/\h = g/\Dm (ah G) h v)):=fun h x=>by
    rw [bg hg]
    constructor
    ·rintro (h1 | ⟨h1,h2 | h2,h3⟩)
     ·exact .inl (.inl h1)
     ·exact .inl (.inr ⟨h1,h2,h3⟩)
     ·exact .inr ⟨h1,h2,h3⟩
    ·rintro ((h1 | ⟨h1,h2,h3⟩) | ⟨h1,h2,h3⟩)
     ·exact .inl h1
     ·exact .inr ⟨h1,.inl h2,h3⟩
     ·exact .inr ⟨h1,.inr h2,h3⟩
   cases b with
   | false=>
    have hnd' : ¬ Dm (ah G) g v:=fun h=>by cases hb.mpr h
    repeat walk_at "step"
    refine ⟨by exact aa (h7d ..) (aa (h6d' ..) rfl),⟨e1,e2,e3,e4⟩,hs,adr,rw_,T,h7d,hda,fun h hh=>⟨(hrw h hh).1,fun x=>?_,(hrw h hh).2.2⟩,fun h x hx=>hin h x (((hDn h x).mp hx).resolve_right fun z=>hnd' (by refine aa (Eq.symm (z.2.1 ..)) ?_; exact z.2.2))⟩
    refine aa (propext (hDn ..)) (aa (propext ((hrw h hh).2.1 x)) ?_)
    exact ⟨.inl,fun z=>z.resolve_right fun z=>hnd' (by refine aa (Eq.symm (z.2.1 ..)) ?_; exact z.2.2)⟩
   | true=>
    have hdm : Dm (ah G) g v:=hb.mp rfl
    have hhn : ∀ h∈hs,h < G.length:=fun h hh=>by
     refine bc fun GG=>?_
     obtain ⟨x,hx⟩:=(hrw h hh).2.2
     refine GG ?_
     rcases ((hrw h hh).2.1 x).mp hx with ⟨h1,h2,_⟩ | ⟨_,h2,_⟩
     ·exact hgf x (D.lt x (List.mem_reverse.mp (List.mem_of_mem_take h1))) h h2
     ·exact hgl.2 h (List.mem_of_mem_take h2)
    have hsl:=T.len hhn
    repeat walk_at "step"
    refine ⟨td,_,rfl,T.top,rfl,?_⟩
    repeat walk_at "step"
    refine ⟨by simp,fun a ha=>?_⟩
    refine gS (Sub.upd ha _ _ T.top) (by simp; exact kc hsix hsl) ?_
    refine aa (TD.look ..) ?_
    have had : a≠d:=ai ha h7d
    have hrw1 : ∀ h∈hs,(rw_ h).Nodup/\(∀ x,x∈rw_ h↔(x∈po.reverse.take i/\h∈ah G x/\Dm (ah G) h x)\/(x = v/\h∈(ah G v).take j/\Dm (ah G) h v))/\(h≠g->∃ x,x∈rw_ h):=fun h hh=>⟨(hrw h hh).1,(hrw h hh).2.1,fun _=>(hrw h hh).2.2⟩
    by_cases hgs : g∈hs
    rw [if_pos hgs]
    refine bc fun GG=>?_
    obtain ⟨adr',eadr⟩ : ∃ x,x = adr:=⟨_,rfl⟩
    refine GG ?_
    rw [<-eadr]
    repeat walk_at "step"
    have T8:=T.sub (Sub.upd (o:=.list []) ha)
    have h8d:=Sub.upd (o:=.list []) ha _ _ h7d
    generalize an H7 a (.list []) = H8 at T8 h8d ⊢
    refine bc fun GG=>?_
    obtain ⟨hs',ehs⟩ : ∃ x,x = hs:=⟨_,rfl⟩
    obtain ⟨rw',erw⟩ : ∃ x,x = rw_:=⟨_,rfl⟩
    refine GG ?_
    rw [<-ehs,<-eadr,<-erw] at T8
    rw [<-ehs] at hgs hsl hin
    rw [<-ehs,<-eadr] at hda
    rw [<-ehs,<-erw] at hrw1
    have hgs':=hgs
    have hsl':=hsl
    have hin':=hin
    have hda':=hda
    have hrw1':=hrw1
    rotate_left
    rw [if_neg hgs]
    repeat walk_at "step"
    have hra : a≠td->H3 a = none:=fun hne=>by
     cases hh : H3 a with
     | none=>rfl
     | some o=>rw [T.keep a o hne hh] at ha; cases ha
    have T8:=T.add hgs ha hra
    have h8d : an (an H7 a (.list [])) td (.dict ((hs.map fun (h : Nat)=>((h : Int),AV.ref (adr h))) ++ [((g : Int),AV.ref a)])) d = some (.list ((ah G v).map ak)):=by
     refine aa (aj (fun e=>by rw [e,T.top] at h7d; cases h7d)) (aa (aj (Ne.symm had)) ?_); exact h7d
    have hgs' : g∈hs ++ [g]:=by simp
    have hsl' : (hs ++ [g]).length<=G.length:=T8.len fun x hx=>by
     rcases List.mem_append.mp hx with hx | hx
     ·exact hhn x hx
     ·refine aa (List.mem_singleton.mp hx) ?_; exact hgn
    have hno : ∀ h∈hs,h≠g:=fun h hh e=>hgs (by refine aa (Eq.symm (e ..)) ?_; exact hh)
    have hin' : ∀ h x,((x∈po.reverse.take i/\h∈ah G x/\Dm (ah G) h x)\/(x = v/\h∈(ah G v).take j/\Dm (ah G) h v))->h∈hs ++ [g]:=fun h x hx=>List.mem_append_left _ (hin h x hx)
    have hda' : ∀ h∈hs ++ [g],(fun h=>if h = g then a else adr h) h≠d:=fun h hh=>by
     try dsimp only
     rcases List.mem_append.mp hh with hh | hh
     ·refine aa (if_neg (hno h hh)) ?_; exact hda h hh
     ·refine aa (List.mem_singleton.mp hh) (aa (if_pos rfl) ?_); exact had
    have hrw1' : ∀ h∈hs ++ [g],((fun h=>if h = g then [] else rw_ h) h).Nodup/\(∀ x,x∈(fun h=>if h = g then [] else rw_ h) h↔(x∈po.reverse.take i/\h∈ah G x/\Dm (ah G) h x)\/(x = v/\h∈(ah G v).take j/\Dm (ah G) h v))/\(h≠g->∃ x,x∈(fun h=>if h = g then [] else rw_ h) h):=fun h hh=>by
     try dsimp only
     rcases List.mem_append.mp hh with hh | hh
     ·refine aa (if_neg (hno h hh)) ?_; exact hrw1 h hh
     ·have e:=List.mem_singleton.mp hh
      subst e
      refine aa (if_pos rfl) ?_
      refine ⟨List.nodup_nil,fun x=>⟨fun z=>(by cases z),fun z=>absurd (hin h x z) hgs⟩,fun z=>absurd rfl z⟩
    have ea : (fun h=>if h = g then a else adr h) g = a:=if_pos rfl
    generalize an (an H7 a (.list [])) td (.dict ((hs.map fun (h : Nat)=>((h : Int),AV.ref (adr h))) ++ [((g : Int),AV.ref a)])) = H8 at T8 h8d ⊢
    generalize (fun h=>if h = g then a else adr h) = adr' at T8 hda' ea
    generalize (fun h=>if h = g then [] else rw_ h) = rw' at T8 hrw1'
    generalize hs ++ [g] = hs' at T8 hda' hrw1' hin' hgs' hsl'
    subst ea
    all_goals
     have h8r:=T8.row g hgs'
     refine bB h8r ?_
     repeat walk_at "step"
     cases hc : (rw' g).contains v with
     | true=>
      have hm:=List.contains_iff_mem.mp hc
      repeat walk_at "step"
      refine ⟨by exact aa (h8d ..) (aa (h6d' ..) rfl),⟨e1,e2,e3,e4⟩,hs',adr',rw',T8,h8d,hda',fun h hh=>⟨(hrw1' h hh).1,fun x=>?_,?_⟩,fun h x hx=>?_⟩
      ·refine aa (propext (hDn ..)) (aa (propext ((hrw1' h hh).2.1 x)) ?_)
       refine ⟨.inl,fun z=>z.elim id fun ⟨z1,z2,z3⟩=>?_⟩
       exact ((hrw1' h hh).2.1 x).mp (by refine aa (z1 ..) (aa (z2 ..) ?_); exact hm)
      ·by_cases e : h = g
       ·exact ⟨v,by refine aa (e ..) ?_; exact hm⟩
       ·exact (hrw1' h hh).2.2 e
      ·rcases (hDn h x).mp hx with z | ⟨_,z2,_⟩
       ·exact hin' h x z
       ·refine aa (z2 ..) ?_; exact hgs'
     | false=>
      have hm : v∉rw' g:=fun z=>by rw [List.contains_iff_mem.mpr z] at hc; cases hc
      have hrl : (rw' g).length<=G.length:=a9 (hrw1' g hgs').1 fun x hx=>by
       rcases ((hrw1' g hgs').2.1 x).mp hx with ⟨h1,_⟩ | ⟨h1,_⟩
       ·exact D.lt x (List.mem_reverse.mp (List.mem_of_mem_take h1))
       ·refine aa (h1 ..) ?_; exact hvn
      repeat walk_at "step"
      refine ⟨adr' g,_,rfl,h8r,rfl,?_⟩
      repeat walk_at "step"
      refine aO h8r (by refine aa (List.length_map ..) ?_; exact kc hsix hrl) ?_
      repeat walk_at "step"
      have T9:=T8.app (v:=v) hgs'
      have h9d : an H8 (adr' g) (.list ((rw' g).map ak ++ [ak v])) d = some (.list ((ah G v).map ak)):=by refine aa (aj (Ne.symm (hda' g hgs'))) ?_; exact h8d
      refine ⟨by exact aa (h9d ..) (aa (h6d' ..) rfl),⟨e1,e2,e3,e4⟩,hs',adr',_,T9,h9d,hda',fun h hh=>?_,fun h x hx=>?_⟩
      ·try dsimp only
       by_cases e : h = g
       ·refine aa (e ..) (aa (if_pos rfl) ?_)
        refine ⟨?_,fun x=>?_,⟨v,by simp⟩⟩
        ·refine aa (propext (List.nodup_append ..)) ?_
         exact ⟨(hrw1' g hgs').1,by simp,fun x hx y hy e=>hm (by refine aa (Eq.symm (List.mem_singleton.mp hy)) (aa (Eq.symm (e ..)) ?_); exact hx)⟩
        ·refine aa (propext (hDn ..)) (aa (propext (List.mem_append ..)) (aa (propext (List.mem_singleton ..)) (aa (propext ((hrw1' g hgs').2.1 x)) ?_)))
         exact ⟨fun z=>z.imp id fun z=>⟨z,rfl,hdm⟩,fun z=>z.imp id fun z=>z.1⟩
       ·refine aa (if_neg e) ?_
        refine ⟨(hrw1' h hh).1,fun x=>?_,(hrw1' h hh).2.2 e⟩
        refine aa (propext (hDn ..)) (aa (propext ((hrw1' h hh).2.1 x)) ?_)
        exact ⟨.inl,fun z=>z.resolve_right fun z=>e z.2.1⟩
      ·rcases (hDn h x).mp hx with z | ⟨_,z2,_⟩
       ·exact hin' h x z
       ·refine aa (z2 ..) ?_; exact hgs'
 refine bc fun GG=>?_
 obtain ⟨⟨e1,e2,e3⟩,hs,adr,rw_,T,hrw,hin⟩:=hI
 refine GG ?_
 have hll : 0 + (po.reverse.map ak).length = po.reverse.length:=by simp
 rw [hll,List.take_length] at hrw hin
 have hpc : ∀ v,v∈come↔v∈po:=fun v=>by
  refine aa (propext (hcm ..)) (aa (propext (D.mem ..)) ?_)
  exact ⟨fun h=>h.2,fun h=>⟨D.lt v ((D.mem v).mpr h),h⟩⟩
 have hDn : ∀ h x,(x∈po.reverse/\h∈ah G x/\Dm (ah G) h x)↔x∈au (ah G) come h:=fun h x=>by
  unfold au
  refine aa (propext (bu ..)) (aa (propext (List.mem_reverse ..)) (aa (propext (hpc ..)) ?_))
  exact ⟨fun z=>⟨z.1,z.2.1,z.2.2.2⟩,fun z=>⟨z.1,z.2.1,(D.mem x).mp z.1,z.2.2⟩⟩
 have hrw : ∀ h∈hs,(rw_ h).Nodup/\(∀ x,x∈rw_ h↔x∈au (ah G) come h)/\∃ x,x∈rw_ h:=fun h hh=>⟨(hrw h hh).1,fun x=>by rw [<-hDn]; exact (hrw h hh).2.1 x,(hrw h hh).2.2⟩
 have hhd : ∀ h,h∈hs↔h∈ct (ah G) come:=fun h=>by
  unfold ct
  refine aa (propext (bu ..)) ?_
  constructor
  ·intro hh
   refine bc fun GG=>?_
   obtain ⟨x,hx⟩:=(hrw h hh).2.2
   refine GG ?_
   have hx:=((hrw h hh).2.1 x).mp hx
   have hx':=(hDn h x).mpr hx
   have hxr:=(D.mem x).mp (List.mem_reverse.mp hx'.1)
   exact ⟨(hpc h).mpr ((D.mem h).mpr (hxr.step hx'.2.1)),x,hx⟩
  ·intro hzz
   refine bc fun GG=>?_
   obtain ⟨_,x,hx⟩:=hzz
   refine GG ?_
   exact hin h x ((hDn h x).mpr hx)
 clear hDn hin hll
 have hhc : ∀ h∈hs,h∈come:=fun h hh=>(bu.mp ((hhd h).mp hh)).1
 have hhn : ∀ h∈hs,h < G.length:=fun h hh=>((hcm h).mp (hhc h hh)).1
 have hsl:=T.len hhn
 have sH5 : Sub H H5:=fun x o hx=>T.keep _ _ (nHt x o hx) (sH3 _ _ hx)
 have h5p:=T.keep _ _ npt h3p
 clear sH3 h3t h3p h3r s2 h2t h2p s3 hra
 repeat walk_at "step"
 refine gu hK (hF.sub sH5) hG h5p Dm1.len fun H6 ba ls s6 hba hlsn hls R6=>?_
 have T6:=T.sub s6
 have sH6:=sH5.trans s6
 repeat walk_at "step"
 refine d7 fun la hla=>?_
 have hla0:=sH6.none hla
 have s7:=Sub.upd (o:=.dict []) hla
 have h7a : an H6 la (.dict []) la = some (.dict []):=ad _ _ _
 have T7:=T6.sub s7
 have R7:=R6.sub s7
 have nal : ∀ h∈hs,adr h≠la:=fun h hh=>Ne.symm (ai hla (T6.row h hh))
 have ntl : td≠la:=Ne.symm (ai hla T6.top)
 have nbl : ba≠la:=Ne.symm (ai hla R6.top)
 have nll : ∀ (t : Nat) (l : Addr),ls[t]? = some l->l≠la:=fun t l h=>Ne.symm (ai hla (R6.row t l h))
 have sH7:=sH6.trans s7
 generalize an H6 la (.dict []) = H7 at s7 h7a T7 R7 sH7
 clear hla T6 R6 sH6 s6 hba hlsn s7 T sH5 h5p
 repeat walk_at "step"
 refine ⟨by simp,fun za hza=>?_⟩
 have hza0:=sH7.none hza
 have s8:=Sub.upd (o:=.list []) hza
 have h8z : an H7 za (.list []) za = some (.list []):=ad _ _ _
 have h8a:=s8 _ _ h7a
 have T8:=T7.sub s8
 have R8:=R7.sub s8
 have naz : ∀ h∈hs,adr h≠za:=fun h hh=>Ne.symm (ai hza (T7.row h hh))
 have ntz : td≠za:=Ne.symm (ai hza T7.top)
 have nbz : ba≠za:=Ne.symm (ai hza R7.top)
 have nlz : ∀ (t : Nat) (l : Addr),ls[t]? = some l->l≠za:=fun t l h=>Ne.symm (ai hza (R7.row t l h))
 have nlaz : la≠za:=Ne.symm (ai hza h7a)
 have sH8:=sH7.trans s8
 generalize an H7 za (.list []) = H8 at s8 h8z h8a T8 R8 sH8
 clear hza T7 R7 sH7 s8 h7a
 have hbf : ∀ v,v < G.length->∀ u,u∈(ay G G.length v).filter (fun b=>decide (ps.getD b 0>=0))↔u < G.length/\v∈ah G u/\bW (ah G) 0 u:=fun v _ u=>by
  refine aa (propext (List.mem_filter ..)) (aa (propext (bT ..)) ?_)
  simp only [decide_eq_true_eq]
  constructor
  ·intro hzz
   refine bc fun GG=>?_
   obtain ⟨⟨h1,h2⟩,h3⟩:=hzz
   refine GG ?_
   refine ⟨h1,h2,?_⟩
   by_cases hr : bW (ah G) 0 u
   ·exact hr
   ·have:=Dm1.no u h1 hr
    rw [List.getD_eq_getElem?_getD,this] at h3
    exact absurd h3 (by decide)
  ·intro hzz
   refine bc fun GG=>?_
   obtain ⟨h1,h2,h3⟩:=hzz
   refine GG ?_
   refine ⟨⟨h1,h2⟩,?_⟩
   refine aa (List.getD_eq_getElem?_getD) (aa (Dm1.yes u h3) ?_)
   show (0 : Int)<=(par u : Int)
   exact dm
 have hbf6 : ∀ v,v < G.length->((ay G G.length v).filter (fun b=>decide (ps.getD b 0>=0))).length<=6/\∀ u∈(ay G G.length v).filter (fun b=>decide (ps.getD b 0>=0)),u < G.length:=fun v hv=>by
  refine ⟨?_,fun u hu=>((hbf v hv u).mp hu).1⟩
  have h1:=List.length_filter_le (fun b=>decide (ps.getD b 0>=0)) (ay G G.length v)
  have h2:=List.length_filter_le (fun b=>(ah G b).contains v) (List.range G.length)
  rw [List.length_range] at h2
  have h3 : (ay G G.length v).length<=G.length:=h2
  exact jg hsix h3 h1
 repeat walk_at "step"
 refine gn T8.top (by refine aa (List.length_map ..) ?_; exact qf hsix hsl) fun sd ns hsd hperm hsort=>?_
 have hhs : (ct (ah G) come).Pairwise (· < ·):=cu hcs
 have ens : ns = (ct (ah G) come).map fun (r : Nat)=>(r : Int):=by
  refine eJ T8.nd ?_ hsort hhs hhd
  rw [List.map_map] at hperm
  exact hperm
 subst ens
 have em : ((ct (ah G) come).map fun (r : Nat)=>(r : Int)).map AV.int = (ct (ah G) come).map ak:=by refine aa (List.map_map ..) ?_; rfl
 refine aa (em ..) ?_
 have h9s : an H8 sd (.list ((ct (ah G) come).map ak)) sd = some (.list ((ct (ah G) come).map ak)):=ad _ _ _
 have s9:=Sub.upd (o:=.list ((ct (ah G) come).map ak)) hsd
 have nsl : sd≠la:=ai hsd h8a
 have nsz : sd≠za:=ai hsd h8z
 have h9z:=s9 _ _ h8z
 have h9a:=s9 _ _ h8a
 have T9:=T8.sub s9
 have R9:=R8.sub s9
 have sH9:=sH8.trans s9
 generalize an H8 sd (.list ((ct (ah G) come).map ak)) = H9 at h9s s9 h9z h9a T9 R9 sH9
 clear hsd h8z h8a T8 R8 s9 sH8 hperm hsort em
 have hcl : (ct (ah G) come).length<=G.length:=a9 (hhs.imp fun h=>Nat.ne_of_lt h) fun h hh=>hhn h ((hhd h).mpr hh)
 repeat walk_at "step"
 refine cP (ar h9s) ?_
 refine aD (I:=fun i m H10=>c0 (pf (m "func" = some (.ref f)) (m "parents" = some (.ref pa)) (m "tails" = some (.ref td)) (m "before" = some (.ref ba)) (m "loops" = some (.ref la)) (m "sizes" = some (.ref za))) (∀ x o,x≠la->x≠za->H9 x = some o->H10 x = some o) (∃ es : List (Int × AV),bC (H10 la = some (.dict es)) (es.length<=i) (∀ h∈(ct (ah G) come).take i,∃ t b l dxl,es.lookup (h : Int) = some (.ref t)/\l≠la/\l≠za/\H10 t = some (.inst 101 dxl)/\H10 dxl = some (.attrs (gk (ak h) (.ref b) (.ref l)))/\H10 b = some (.set ((aC (ah G) come h).map fun (r : Nat)=>(r : Int)))/\H10 l = some (.list ((au (ah G) come h).map ak)))) (∃ zs : List Addr,bC (H10 za = some (.list (zs.map AV.ref))) (zs.length = i) (∀ (j : Nat) (z : Addr) (h : Nat),zs[j]? = some z->(ct (ah G) come)[j]? = some h->H10 z = some (.tuple [ak (aC (ah G) come h).length,ak h])))) rfl _ 0 _ _
  ⟨⟨e1,e2,e3,rfl,rfl,rfl⟩,fun _ _ _ _ h=>h,⟨[],h9a,Nat.le_refl _,by simp⟩,[],h9z,rfl,by simp⟩ (fun i R_ hR_ hr_ vv m H10 hvv hI=>?_) fun m H10 hI=>?_
 ·clear e1 e2 e3
  refine bc fun GG=>?_
  obtain ⟨⟨e1,e2,e3,e4,e5,e6⟩,k10,⟨es,h10a,hel,hes⟩,zs,h10z,hzl,hzs⟩:=hI
  refine GG ?_
  rw [Nat.zero_add] at *
  rw [List.getElem?_map] at hvv
  refine bc fun GG=>?_
  obtain ⟨h,hh,rfl⟩:=Option.map_eq_some_iff.mp hvv
  refine GG ?_
  have hil:=(List.getElem?_eq_some_iff.mp hh).1
  have hhm:=(hhd h).mpr (List.mem_of_getElem? hh)
  have hhlt:=hhn h hhm
  have hR10 : Rows H10 ba ls (fun v=>(ay G G.length v).filter (fun b=>decide (ps.getD b 0>=0))):=⟨k10 _ _ nbl nbz R9.top,R9.nd,R9.na,fun t l ht=>k10 _ _ (nll t l ht) (nlz t l ht) (R9.row t l ht)⟩
  have h10r:=k10 _ _ (nal h hhm) (naz h hhm) (T9.row h hhm)
  have h10t:=k10 _ _ ntl ntz T9.top
  have hrwh:=hrw h hhm
  have hrl : (rw_ h).length<=G.length:=a9 hrwh.1 fun x hx=>((hcm x).mp (bu.mp ((hrwh.2.1 x).mp hx)).1).1
  repeat walk_at "step"
  refine eC h10t (by exact aa (TD.look ..) (aa (if_pos hhm) rfl)) ?_
  refine mY hK hsix hR10 hls hbf6 hhlt h10r (fun t ht=>((hcm t).mp (bu.mp ((hrwh.2.1 t).mp ht)).1).1) (by exact wX hsix hrl) fun H11 b p s11 hb h11b hpb hpr=>?_
  have esb:=nP hsix hgf hcs hcm hbf (hhc h hhm) hrwh.2.1 hpb hpr
  rw [esb] at h11b
  have h11t:=s11 _ _ h10t
  have h11r:=s11 _ _ h10r
  repeat walk_at "step"
  refine eC h11t (by exact aa (TD.look ..) (aa (if_pos hhm) rfl)) ?_
  have em : (rw_ h).map ak = ((rw_ h).map fun (r : Nat)=>(r : Int)).map AV.int:=by refine aa (List.map_map ..) ?_; rfl
  rw [em] at h11r
  refine b0 h11r (by refine aa (List.length_map ..) ?_; exact qf hsix hrl) fun l ns hl' hperm hsort=>?_
  have htls : (au (ah G) come h).Pairwise (· < ·):=cu hcs
  have ens:=eJ hrwh.1 hperm hsort htls hrwh.2.1
  subst ens
  have em2 : ((au (ah G) come h).map fun (r : Nat)=>(r : Int)).map AV.int = (au (ah G) come h).map ak:=by refine aa (List.map_map ..) ?_; rfl
  refine aa (em2 ..) ?_
  have h12l : an H11 l (.list ((au (ah G) come h).map ak)) l = some (.list ((au (ah G) come h).map ak)):=ad _ _ _
  have s12:=s11.then (o:=.list ((au (ah G) come h).map ak)) hl'
  have h12b:=Sub.upd (o:=.list ((au (ah G) come h).map ak)) hl' _ _ h11b
  have nla' : l≠la:=ai hl' (s11 _ _ h10a)
  have nlz' : l≠za:=ai hl' (s11 _ _ h10z)
  generalize an H11 l (.list ((au (ah G) come h).map ak)) = H12 at h12l s12 h12b
  clear hl' s11 hb h11b h11t h11r em em2 hperm hsort
  intro t dxl ht hdxl hne
  refine jG hK (ad _ _ _) (by exact aa (aj (Ne.symm hne)) (aa (ad ..) rfl)) hne fun H13 hk13 h13d=>?_
  refine ⟨rfl,?_⟩
  have ⟨s13,_⟩:=d6 ht hdxl hne hk13 h13d
  have h13t : H13 t = some (.inst 101 dxl):=by exact aa (hk13 t hne) (aa (ad ..) rfl)
  have s14:=s12.trans s13
  have h13l:=s13 _ _ h12l
  have h13b:=s13 _ _ h12b
  have h13a:=s14 _ _ h10a
  have h13z:=s14 _ _ h10z
  repeat walk_at "step"
  refine cr h13a (by exact rp hil hcl hsix hel) ?_
  have k14 : ∀ x o,x≠la->H13 x = some o->an H13 la (.dict (cV es (h : Int) (.ref t))) x = some o:=fun x o h1 h2=>by refine aa (aj h1) ?_; exact h2
  have h14a : an H13 la (.dict (cV es (h : Int) (.ref t))) la = some (.dict (cV es (h : Int) (.ref t))):=ad _ _ _
  have n1:=aQ h13t h13a fun e=>by cases e
  have n2:=aQ h13d h13a fun e=>by cases e
  have n3:=aQ h13b h13a fun e=>by cases e
  have h14t:=k14 _ _ n1 h13t
  have h14d:=k14 _ _ n2 h13d
  have h14b:=k14 _ _ n3 h13b
  have h14l:=k14 _ _ nla' h13l
  have h14z:=k14 _ _ (Ne.symm nlaz) h13z
  generalize an H13 la (.dict (cV es (h : Int) (.ref t))) = H14 at k14 h14a h14t h14d h14b h14l h14z
  repeat walk_at "step"
  refine ⟨za,_,rfl,h14z,rfl,?_⟩
  repeat walk_at "step"
  refine eC h14a (by exact aa (cb ..) (aa (if_pos rfl) rfl)) ?_
  repeat walk_at "step"
  have hbl6 : (aC (ah G) come h).length<=6:=by
   have h1:=cW (fun a=>a = h\/∃ t∈au (ah G) come h,Re (ah G) (h : Int) a t) come
   have h2 : come.length<=G.length:=a9 (hcs.imp fun h=>Nat.ne_of_lt h) fun v hv=>((hcm v).mp hv).1
   unfold aC; exact jg hsix h2 h1
  refine cF (.inr (.inr ⟨_,h14b,rfl⟩)) (by refine aa (List.length_map ..) ?_; exact gF hbl6) ?_
  refine aa (List.length_map ..) ?_
  repeat walk_at "step"
  refine ⟨by simp,fun z hz=>?_⟩
  have nza : z≠la:=ai hz h14a
  have nzz : z≠za:=ai hz h14z
  refine aO (Sub.upd hz _ _ h14z) (by refine aa (List.length_map ..) ?_; exact AD hil hcl hsix hzl) ?_
  repeat walk_at "step"
  have kk : ∀ x o v1 v2,x≠za->H14 x = some o->an (an H14 z v1) za v2 x = some o:=fun x o v1 v2 h1 h2=>by
   refine aa (aj h1) (aa (aj (Ne.symm (ai hz h2))) ?_); exact h2
  have k10' : ∀ x o v1 v2,x≠la->x≠za->H10 x = some o->an (an H14 z v1) za v2 x = some o:=fun x o v1 v2 h1 h2 h3=>kk _ _ _ _ h2 (k14 _ _ h1 (s14 _ _ h3))
  have htk:=az hh
  have m1:=aQ h14t h14z fun e=>by cases e
  have m2:=aQ h14d h14z fun e=>by cases e
  have m3:=aQ h14b h14z fun e=>by cases e
  refine ⟨by exact aa (k10' _ _ _ _ nsl nsz (k10 _ _ nsl nsz h9s)) (aa (h9s ..) rfl),⟨e1,e2,e3,e4,e5,e6⟩,fun x o h1 h2 h3=>k10' _ _ _ _ h1 h2 (k10 x o h1 h2 h3),⟨_,kk _ _ _ _ nlaz h14a,by have:=eS es (h : Int) (.ref t); exact kF this hel,fun y hy=>?_⟩,zs ++ [z],by refine aa (ad ..) ?_; simp,by simp [hzl],fun j z' h' h1 h2=>?_⟩
  ·refine aa (cb ..) ?_
   by_cases e : y = h
   ·subst e
    refine aa (if_pos rfl) ?_
    exact ⟨t,b,l,dxl,rfl,nla',nlz',kk _ _ _ _ m1 h14t,kk _ _ _ _ m2 h14d,kk _ _ _ _ m3 h14b,kk _ _ _ _ nlz' h14l⟩
   ·refine aa (if_neg (by exact iO e)) ?_
    rw [htk] at hy
    refine bc fun GG=>?_
    obtain ⟨t',b',l',dx',g1,g2,g3,g4,g5,g6,g7⟩:=hes y ((List.mem_append.mp hy).resolve_right fun z=>e (List.mem_singleton.mp z))
    refine GG ?_
    exact ⟨t',b',l',dx',g1,g2,g3,k10' _ _ _ _ (aQ g4 h10a fun e=>by cases e) (aQ g4 h10z fun e=>by cases e) g4,k10' _ _ _ _ (aQ g5 h10a fun e=>by cases e) (aQ g5 h10z fun e=>by cases e) g5,
     k10' _ _ _ _ (aQ g6 h10a fun e=>by cases e) (aQ g6 h10z fun e=>by cases e) g6,k10' _ _ _ _ g2 g3 g7⟩
  ·rcases Nat.lt_or_ge j zs.length with hj | hj
   ·rw [List.getElem?_append_left hj] at h1
    have:=hzs j z' h' h1 h2
    exact k10' _ _ _ _ (aQ this h10a fun e=>by cases e) (aQ this h10z fun e=>by cases e) this
   ·rw [List.getElem?_append_right hj] at h1
    have : j = zs.length:=by
     have:=(List.getElem?_eq_some_iff.mp h1).1
     simp at this; exact fB this hj
    subst this
    rw [Nat.sub_self] at h1
    rw [hzl,hh] at h2
    cases h1; cases h2
    exact aa (aj nzz) (aa (ad ..) rfl)
 ·clear e1 e2 e3
  refine bc fun GG=>?_
  obtain ⟨⟨e1,e2,e3,e4,e5,e6⟩,k10,⟨es,h10a,hel,hes⟩,zs,h10z,hzl,hzs⟩:=hI
  refine GG ?_
  have hll : 0 + ((ct (ah G) come).map ak).length = (ct (ah G) come).length:=by simp
  rw [hll] at hel hes hzl
  rw [List.take_length] at hes
  have sH10 : Sub H H10:=fun x o hx=>k10 _ _ (Ne.symm (ai hla0 hx)) (Ne.symm (ai hza0 hx)) (sH9 _ _ hx)
  repeat walk_at "step"
  refine dH (ln:=fun h=>(aC (ah G) come h).length) h10z hzl (by exact oX hsix hcl) (hhs.imp fun h=>Nat.ne_of_lt h) (fun h hh=>by have:=hhn h ((hhd h).mpr hh); exact uj this hsix) (fun i t h h1 h2=>⟨_,hzs i t h h1 h2⟩) fun d ts' hs' hd hp hsrt hl' hrel=>?_
  have hs'l : hs'.length<=6:=by refine aa (hp.length_eq ..) ?_; exact oX hsix hcl
  have h11d : an H10 d (.list (ts'.map AV.ref)) d = some (.list (ts'.map AV.ref)):=ad _ _ _
  have t11:=Sub.upd (o:=.list (ts'.map AV.ref)) hd
  generalize an H10 d (.list (ts'.map AV.ref)) = H11 at h11d t11
  repeat walk_at "step"
  refine bA (ar h11d) (by refine aa (List.length_map ..) ?_; exact im hl' hs'l) ?_
  refine jm (I:=fun i acc m H12=>bC (H12 = H11) (m "loops" = some (.ref la)) (∃ us : List Addr,bC (acc = us.map AV.ref) (us.length = i) (∀ (j : Nat) (t : Addr) (h : Nat),us[j]? = some t->hs'[j]? = some h->tK H12 t h (aC (ah G) come h) (au (ah G) come h)))) _ 0 _ _ _ ⟨rfl,e5,[],rfl,rfl,by simp⟩ (fun i vv acc hvv m H12 hI=>?_) fun acc m H12 hI=>?_
  ·refine bc fun GG=>?_
   obtain ⟨rfl,hml,us,rfl,hul,hus⟩:=hI
   refine GG ?_
   rw [Nat.zero_add] at *
   rw [List.getElem?_map] at hvv
   refine bc fun GG=>?_
   obtain ⟨z,hz,rfl⟩:=Option.map_eq_some_iff.mp hvv
   have hil:=(List.getElem?_eq_some_iff.mp hz).1
   have hgil : i < hs'.length:=by exact bM hil hl'
   have hgi : hs'[i]? = some hs'[i]:=List.getElem?_eq_getElem hgil
   obtain ⟨j,g1,g2⟩:=hrel i z _ hz hgi
   have hzt:=hzs j z _ g1 g2
   obtain ⟨t,b,l,dxl,q1,_,_,q4,q5,q6,q7⟩:=hes _ (List.mem_of_getElem? g2)
   refine GG ?_
   refine j3 (fun _=>rfl) (t11 _ _ hzt) rfl ?_
   repeat walk_at "step"
   refine eC (t11 _ _ h10a) q1 ?_
   refine ⟨rfl,rfl,hml,us ++ [t],by simp,by simp [hul],fun j' t' h' h1 h2=>?_⟩
   rcases Nat.lt_or_ge j' us.length with hj | hj
   ·rw [List.getElem?_append_left hj] at h1
    exact hus j' t' h' h1 h2
   ·rw [List.getElem?_append_right hj] at h1
    have : j' = us.length:=by
     have:=(List.getElem?_eq_some_iff.mp h1).1
     simp at this; exact fB this hj
    subst this
    rw [Nat.sub_self] at h1
    rw [hul,hgi] at h2
    cases h1; cases h2
    exact ⟨b,l,⟨dxl,t11 _ _ q4,t11 _ _ q5⟩,t11 _ _ q6,t11 _ _ q7⟩
  ·refine bc fun GG=>?_
   obtain ⟨rfl,hml,us,rfl,hul,hus⟩:=hI
   refine GG ?_
   intro rd hrd
   repeat walk_at "step"
   refine q _ rd us hs' ((sH10.trans t11).then hrd) (ad _ _ _) (by refine aa (hul ..) ?_; simp [hl']) hp hsrt fun i t h h1 h2=>?_
   refine bc fun GG=>?_
   obtain ⟨b',l',k1,k2,k3⟩:=hus i t h h1 h2
   refine GG ?_
   exact ⟨b',l',k1.sub (Sub.upd hrd),Sub.upd hrd _ _ k2,Sub.upd hrd _ _ k3⟩
end
end
section
theorem pe {l l' : List Nat} (h : l.Nodup) (hs : ∀ x∈l,x∈l') : l.length<=l'.length:=by
 induction l generalizing l' with
 | nil=>exact Nat.zero_le _
 | cons x xs ih=>
  rw [List.nodup_cons] at h
  have hx:=hs x (.head _)
  have:=ih (l':=l'.erase x) h.2 fun y hy=>(List.mem_erase_of_ne (fun e : y = x=>h.1 (by refine aa (Eq.symm (e ..)) ?_; exact hy))).mpr (hs y (.tail _ hy))
  rw [List.length_erase_of_mem hx] at this
  have:=List.length_pos_of_mem hx
  simp only [List.length_cons]
  exact rN this ‹_›
theorem Ch.trans {par : Nat->Nat} {a b d : Nat} (h : Ch par a b) (h' : Ch par b d) : Ch par a d:=by
 induction h with
 | refl=>exact h'
 | up h _ ih=>exact .up h (ih h')
theorem kj {gf : Nat->List Nat} {n : Nat} {po come : List Nat} {par : Nat->Nat} {ps : List Int} (D : kY gf n po) (Dm1 : yk gf n po par ps) (hcs : come.Pairwise (· < ·)) (hcm : ∀ v,v∈come↔v < n/\bW gf 0 v) (hn : n<=6) {a x : Nat} (ha : a∈come) (h : fO (aL gf come) a x) : x = par a:=by
 have har:=((hcm a).mp ha).2
 have hr : ∀ v,bW gf 0 v->∀ y,y∈aL gf come v↔y∈come/\Ch par v y:=fun v hv y=>by
  refine aa (propext (bR ..)) (aa (propext (Dm1.ch v y hv)) ?_)
  exact ⟨fun z=>⟨z.1,hv,z.2⟩,fun z=>⟨z.1,z.2.2⟩⟩
 have hV : ∀ {v y},bW gf 0 v->Ch par v y->bW gf 0 y:=fun hv hc=>(hc.le Dm1.tree hv).1
 have hcome : ∀ v,bW gf 0 v->v∈come:=fun v hv=>(hcm v).mpr ⟨D.lt v ((D.mem v).mpr hv),hv⟩
 by_cases h0 : a = 0
 ·subst h0
  refine aa (Dm1.zero ..) ?_
  rcases h with ⟨h,_⟩ | ⟨h1,h2,_⟩
  ·exact h
  ·exact absurd ((hr 0 har x).mp h1).2.at0 h2
 ·have hup:=Dm1.tree.up a har h0
  have hpne : par a≠a:=fun e=>by have:=hup.2; rw [e] at this; exact q0 this
  have hpr : par a∈aL gf come a:=(hr a har _).mpr ⟨hcome _ hup.1,.up h0 (.refl _)⟩
  rcases h with ⟨_,h⟩ | ⟨h1,h2,h3⟩
  ·exact absurd (h _ hpr) hpne
  ·by_cases e : x = par a
   ·exact e
   ·exfalso
    have hxc:=((hr a har x).mp h1).2
    cases hxc with
    | refl=>exact h2 rfl
    | up _ t=>
     have hxr:=hV hup.1 t
     have hmax:=h3 (par a) hpr hpne
     have hx6 : x < 6:=by have:=((hcm x).mp (hcome x hxr)).1; exact ox this hn
     have hnd : (par a :: aL gf come x).Nodup:=by
      refine aa (propext (List.nodup_cons ..)) ?_
      refine ⟨fun hm=>?_,(hcs.imp fun h=>Nat.ne_of_lt h).sublist (by unfold aL; exact List.filter_sublist)⟩
      have h4:=(((hr x hxr _).mp hm).2.le Dm1.tree hxr).2
      have h5:=(t.le Dm1.tree hup.1).2
      exact e (Dm1.tree.inj _ _ hxr hup.1 (by exact tm h5 h4))
     have hle:=pe hnd (l':=aL gf come (par a)) fun y hy=>by
      rcases List.mem_cons.mp hy with e | hy
      ·refine aa (e ..) ?_; exact (hr _ hup.1 _).mpr ⟨hcome _ hup.1,.refl _⟩
      ·have:=(hr x hxr y).mp hy
       exact (hr _ hup.1 _).mpr ⟨this.1,t.trans this.2⟩
     rw [List.length_cons] at hle
     exact BK hmax hle hx6
end
section
section
variable {c : Cx} {k : Nat} {H : ag} {Q : AV->ag->Prop}
theorem vh (hK : KF c.K) {ns : List Int} (hro : c.roItems.map av = ns.map AV.int) (hl : ns.length<=63) (q : ∀ H',Q (.bool true) H') : AC c (k + 8) 273 [.ref c.ro] H Q:=by
 refine aI (CC hK) rfl ?_
 dsimp only [lC,mF,m5,mH,lq,og,mj,nE,nG,lT,jM]
 have hrl : c.roItems.length = ns.length:=by
  have:=congrArg List.length hro
  simpa using this
 try walk_at "step"
 try walk_at "step"
 try walk_at "step"
 try walk_at "step"
 try walk_at "step"
 try walk_at "step"
 try walk_at "step"
 refine j9 (fun _ _=>⟨_,rfl⟩) ?_
 repeat walk_at "step"
 refine ⟨rfl,by exact yN hrl hl,by simp,fun d0 hd0=>?_⟩
 have et : cC (c.roItems.map av) none (some 90) none = ns.map AV.int:=by
  exact aa (show (some (90 : Int)) = some ((90 : Nat) : Int) from rfl) (aa (eb ..) (aa (hro ..) (aa (List.take_of_length_le (by rw [List.length_map]; exact ya hl)) rfl)))
 refine aa (et ..) ?_
 have h1 : an H d0 (.list (ns.map AV.int)) d0 = some (.list (ns.map AV.int)):=ad _ _ _
 generalize an H d0 (.list (ns.map AV.int)) = H1 at h1
 repeat walk_at "step"
 refine bA (ar h1) (by refine aa (List.length_map ..) ?_; exact zl hl) ?_
 refine ax (I:=fun i acc H2=>H2 = H1/\acc = ((ns.take i).map fun x=>x.fmod 2147483647).map AV.int) rfl _ 0 _ _ _ ⟨rfl,rfl⟩ (fun j v acc hv Ry_ hy_ Rn_ hn_ H2 hI=>?_) fun acc H2 hI=>?_
 ·refine bc fun GG=>?_
  obtain ⟨rfl,rfl⟩:=hI
  refine GG ?_
  rw [Nat.zero_add] at *
  rw [List.getElem?_map] at hv
  refine bc fun GG=>?_
  obtain ⟨x,hx,rfl⟩:=Option.map_eq_some_iff.mp hv
  refine GG ?_
  (try rw [az hx] at hy_)
  (try rw [az hx] at hn_)
  repeat walk_at "step"
  refine hU ?_
  repeat walk_at "step"
  refine jP (by decide) ?_
  repeat walk_at "step"
  exact ⟨rfl,rfl,by simp⟩
 refine bc fun GG=>?_
 obtain ⟨rfl,rfl⟩:=hI
 refine GG ?_
 have hll : 0 + (ns.map AV.int).length = ns.length:=by simp
 refine aa (hll ..) (aa (List.take_length ..) ?_)
 intro cl hcl
 repeat walk_at "step"
 refine ⟨by simp,fun w hw=>?_⟩
 have ncw : cl≠w:=Ne.symm (ai hw (ad _ _ _))
 refine rT (cl:=cl) (cs:=ns.map fun x=>x.fmod 2147483647) (n:=0) (z:=1013) hK ⟨ad _ _ _,by exact aa (aj ncw) (aa (ad ..) rfl),by refine aa (List.length_map ..) ?_; exact wV hl,by decide,by decide⟩ fun H3 f G hF hG=>?_
 clear hw hcl h1 ncw et
 refine bc fun GG=>?_
 obtain ⟨bl,bs,p0,s0,⟨dx,hf1,hf2⟩,hbl,hlen,hblk⟩:=hF.is
 refine GG ?_
 have hsix:=hG.six
 have hpos:=hG.pos
 have hgf : ∀ v,v < G.length->(ah G v).length<=6/\∀ u∈ah G v,u < G.length:=fun v hv=>⟨by have:=(aX hG hv).1; exact ut this,(aX hG hv).2⟩
 repeat walk_at "step"
 refine cF (.inl ⟨_,hbl,rfl⟩) (by simp; exact jp hlen hsix) ?_
 refine aa (List.length_map ..) (aa (hlen ..) ?_)
 repeat walk_at "step"
 refine bA (ar hbl) (by simp; exact im hlen hsix) ?_
 refine ax (I:=fun i acc H4=>∃ ls : List Addr,fJ (acc = ls.map AV.ref) (ls.Nodup) (ls.length = i) (Sub H3 H4) (∀ (t : Nat) (l : Addr),ls[t]? = some l->H4 l = some (.list ((ah G t).map ak)))) rfl _ 0 _ _ _
  ⟨[],rfl,List.nodup_nil,rfl,Sub.rfl,by simp⟩ (fun j v acc hv Ry_ hy_ Rn_ hn_ H4 hI=>?_) fun acc H4 hI=>?_
 ·refine bc fun GG=>?_
  obtain ⟨ls,rfl,hnd,hll,s4,hls⟩:=hI
  refine GG ?_
  rw [Nat.zero_add] at *
  rw [List.getElem?_map] at hv
  refine bc fun GG=>?_
  obtain ⟨b,hb,rfl⟩:=Option.map_eq_some_iff.mp hv
  have hj : j < G.length:=by refine aa (Eq.symm (hlen ..)) ?_; exact (List.getElem?_eq_some_iff.mp hb).1
  obtain ⟨st,sl,e,⟨dxb,hb1,hb2⟩,_,_,al,hend,_⟩:=hblk j b G[j] hb (List.getElem?_eq_getElem hj)
  refine GG ?_
  have eg : ah G j = G[j].kind.goals:=by unfold ah; exact aa (List.getElem?_eq_getElem hj) rfl
  repeat walk_at "step"
  refine j6 hK ⟨dxb,s4 _ _ hb1,s4 _ _ hb2⟩ (hend.sub s4) fun H5 d s5 hd h5d=>?_
  repeat walk_at "step"
  refine ⟨by exact aa (s5 _ _ (s4 _ _ hbl)) (aa (hbl ..) rfl),ls ++ [d],by simp,?_,by simp [hll],s4.trans s5,fun t l ht=>?_⟩
  ·refine aa (propext (List.nodup_append ..)) ?_
   refine ⟨hnd,by simp,fun x hx y hy e=>?_⟩
   rw [List.mem_singleton] at hy; subst hy; subst e
   refine bc fun GG=>?_
   obtain ⟨t,ht⟩:=List.getElem?_of_mem hx
   refine GG ?_
   rw [hls t x ht] at hd; cases hd
  ·rcases Nat.lt_or_ge t ls.length with h | h
   ·rw [List.getElem?_append_left h] at ht
    exact s5 _ _ (hls t l ht)
   ·rw [List.getElem?_append_right h] at ht
    have : t = ls.length:=by
     have:=(List.getElem?_eq_some_iff.mp ht).1
     simp at this; exact fB this h
    subst this
    rw [Nat.sub_self] at ht
    cases ht
    refine aa (hll ..) (aa (eg ..) ?_); exact h5d
 refine bc fun GG=>?_
 obtain ⟨ls,rfl,hnd,hll',s4,hls⟩:=hI
 refine GG ?_
 have hls' : ls.length = G.length:=by refine aa (hll' ..) ?_; simp [hlen]
 intro ga hga
 have B5 : Rows (an H4 ga (.list (ls.map AV.ref))) ga ls (ah G):=⟨ad _ _ _,hnd,(fun hm=>by
  refine bc fun GG=>?_
  obtain ⟨t,ht⟩:=List.getElem?_of_mem hm
  refine GG ?_
  rw [hls t ga ht] at hga; cases hga),fun t l ht=>Sub.upd hga _ _ (hls t l ht)⟩
 have s5:=s4.then (o:=.list (ls.map AV.ref)) hga
 generalize an H4 ga (.list (ls.map AV.ref)) = H5 at B5 s5
 clear hga hls s4 hnd hll'
 have F5:=hF.sub s5
 clear hF s5 hblk hf1 hf2 hbl
 repeat walk_at "step"
 refine f6 hK F5 hG fun H6 pa lp s6 hpa hlp hlpl RP=>?_
 have F6:=F5.sub s6
 have B6:=B5.sub s6
 clear F5 B5 s6 hpa hlp
 repeat walk_at "step"
 refine bS fun rg hrg=>?_
 have h7r : an H6 rg (.range (G.length : Int)) rg = some (.range (G.length : Int)):=ad _ _ _
 have s7:=Sub.upd (o:=.range (G.length : Int)) hrg
 have F7:=F6.sub s7
 have B7:=B6.sub s7
 have RP7:=RP.sub s7
 generalize an H6 rg (.range (G.length : Int)) = H7 at h7r s7 F7 B7 RP7
 clear F6 B6 RP s7 hrg
 repeat walk_at "step"
 refine bA (bU h7r (by exact dm) (by omega)) (by simp; exact gE hsix) ?_
 refine ax (I:=fun i acc H8=>Sub H7 H8/\∃ xs : List Addr,bC (acc = xs.map AV.ref) (xs.length = i) (∀ (t : Nat) (l : Addr),xs[t]? = some l->H8 l = some (.list ((ay G G.length t).map ak)))) rfl _ 0 _ _ _ ⟨Sub.rfl,[],rfl,rfl,by simp⟩ (fun j v acc hv Ry_ hy_ Rn_ hn_ H8 hI=>?_) fun acc H8 hI=>?_
 ·refine bc fun GG=>?_
  obtain ⟨s8,xs,rfl,hxl,hxs⟩:=hI
  refine GG ?_
  rw [Nat.zero_add] at *
  have hj : j < G.length:=by
   have:=(List.getElem?_eq_some_iff.mp hv).1
   simpa using this
  have hvj : v = ak j:=by
   rw [List.getElem?_map,List.getElem?_range (by simpa using hj)] at hv
   simpa using hv.symm
  subst hvj
  clear hv
  repeat walk_at "step"
  refine bS fun rg2 hrg2=>?_
  have h9r : an H8 rg2 (.range (G.length : Int)) rg2 = some (.range (G.length : Int)):=ad _ _ _
  have s9:=s8.then (o:=.range (G.length : Int)) hrg2
  have t9:=Sub.upd (o:=.range (G.length : Int)) hrg2
  generalize an H8 rg2 (.range (G.length : Int)) = H9 at h9r s9 t9
  repeat walk_at "step"
  refine bA (bU h9r (by exact dm) (by omega)) (by simp; exact gE hsix) ?_
  refine ax (I:=fun i acc H10=>H10 = H9/\acc = (ay G i j).map ak) rfl _ 0 _ _ _ ⟨rfl,rfl⟩ (fun i v acc hv Ry_ hy_ Rn_ hn_ H10 hI=>?_) fun acc H10 hI=>?_
  ·refine bc fun GG=>?_
   obtain ⟨rfl,rfl⟩:=hI
   refine GG ?_
   rw [Nat.zero_add] at *
   have hi : i < G.length:=by
    have:=(List.getElem?_eq_some_iff.mp hv).1
    simpa using this
   have hvi : v = ak i:=by
    rw [List.getElem?_map,List.getElem?_range (by simpa using hi)] at hv
    simpa using hv.symm
   subst hvi
   clear hv
   have hil : i < ls.length:=by exact aU hi hls'
   have lk : ls[i]? = some ls[i]:=List.getElem?_eq_getElem hil
   have hrow:=s9 _ _ (B7.row i _ lk)
   have ep : ay G (i + 1) j = ay G i j ++ if (ah G i).contains j = true then [i] else []:=by
    unfold ay
    refine aa (List.range_succ ..) (aa (List.filter_append ..) ?_)
    congr 1
    exact aa (List.filter_cons ..) (aa (List.filter_nil ..) rfl)
   (try rw [ep] at hy_)
   (try rw [ep] at hn_)
   repeat walk_at "step"
   refine bn (j:=i) (s9 _ _ B7.top) (by simp; exact bE hls' hsix) (aJ (by simp; exact dr hil)) (by refine aa (List.getElem?_map) (aa (lk ..) ?_); rfl) ?_
   refine bY hrow ?_
   repeat walk_at "step"
   cases hcn : (ah G i).contains j with
   | true=>
    (try rw [hcn] at hy_)
    (try rw [hcn] at hn_)
    repeat walk_at "step"
    exact ⟨rfl,rfl,by simp⟩
   | false=>
    (try rw [hcn] at hy_)
    (try rw [hcn] at hn_)
    repeat walk_at "step"
    exact ⟨rfl,rfl,by simp⟩
  refine bc fun GG=>?_
  obtain ⟨rfl,rfl⟩:=hI
  refine GG ?_
  have hl2 : 0 + ((List.range ((G.length : Int)).toNat).map fun (i : Nat)=>AV.int (i : Int)).length = G.length:=by simp
  refine aa (hl2 ..) ?_
  intro d hd
  repeat walk_at "step"
  refine ⟨by exact aa (s9.then hd _ _ h7r) (aa (h7r ..) rfl),s9.then hd,xs ++ [d],by simp,by simp [hxl],fun t l ht=>?_⟩
  rcases Nat.lt_or_ge t xs.length with h | h
  ·rw [List.getElem?_append_left h] at ht
   exact Sub.upd hd _ _ (t9 _ _ (hxs t l ht))
  ·rw [List.getElem?_append_right h] at ht
   have : t = xs.length:=by
    have:=(List.getElem?_eq_some_iff.mp ht).1
    simp at this; exact fB this h
   subst this
   rw [Nat.sub_self] at ht
   cases ht
   exact aa (ad ..) (aa (hxl ..) rfl)
 refine bc fun GG=>?_
 obtain ⟨s8,xs,rfl,hxl,hxs⟩:=hI
 refine GG ?_
 have hxl : xs.length = G.length:=by refine aa (hxl ..) ?_; simp
 intro da hda
 have h9d : an H8 da (.list (xs.map AV.ref)) da = some (.list (xs.map AV.ref)):=ad _ _ _
 have s9:=s8.then (o:=.list (xs.map AV.ref)) hda
 have hxs : ∀ (t : Nat) (l : Addr),xs[t]? = some l->an H8 da (.list (xs.map AV.ref)) l = some (.list ((ay G G.length t).map ak)):=fun t l h=>Sub.upd hda _ _ (hxs t l h)
 have F9:=F7.sub s9
 have B9:=B7.sub s9
 have RP9:=RP7.sub s9
 generalize an H8 da (.list (xs.map AV.ref)) = H9 at h9d hxs F9 B9 RP9
 clear F7 B7 RP7 s8 s9 hda h7r
 have hsh : cJ H9 20 (.ref pa) (.ref da) ((List.range G.length).map (ay G G.length) = (List.range G.length).map (ay G G.length)):=
  dt RP9.top h9d (by simp; exact jl hlpl) (by simp; exact jl hxl) fun j x0 y0 d0 e0 hx0 hy0 hd0 he0=>by
   rw [List.getElem?_map] at hx0 hy0 hd0 he0
   refine bc fun GG=>?_
   obtain ⟨x,hx,rfl⟩:=Option.map_eq_some_iff.mp hx0
   obtain ⟨y,hy,rfl⟩:=Option.map_eq_some_iff.mp hy0
   obtain ⟨d,hd,rfl⟩:=Option.map_eq_some_iff.mp hd0
   obtain ⟨e,he,rfl⟩:=Option.map_eq_some_iff.mp he0
   refine GG ?_
   have hjd:=(List.getElem?_eq_some_iff.mp hd).2
   have hje:=(List.getElem?_eq_some_iff.mp he).2
   rw [List.getElem_range] at hjd hje
   subst hjd; subst hje
   exact bx (RP9.row _ _ hx) (hxs _ _ hy)
 refine di ⟨_,RP9.top⟩ hsh fun b hb=>?_
 have hb : b = false:=by
  cases b with
  | false=>rfl
  | true=>exact absurd rfl (hb.mp rfl)
 subst hb
 clear hsh hxs RP9 h9d hlpl hxl
 repeat walk_at "step"
 refine cG (first:=0) (barred:=-1) hK hsix B9 hls' hgf hpos fun H10 ca come s10 hca h10c hcs hcm hcn=>?_
 have F10:=F9.sub s10
 have B10:=B9.sub s10
 clear F9 B9 s10 hca
 have hcn' : ∀ v∈come,v < G.length:=fun v hv=>((hcm v).mp hv).1
 have hcl : come.length<=6:=Nat.le_trans (a9 (hcs.imp fun h=>Nat.ne_of_lt h) hcn') hsix
 repeat walk_at "step"
 refine rX hK hsix hpos B10 hls' hgf h10c hcs hcn' fun H11 oa s11 hoa hO=>?_
 have F11:=F10.sub s11
 have B11:=B10.sub s11
 have h11c:=s11 _ _ h10c
 clear F10 B10 s11 hoa h10c
 repeat walk_at "step"
 refine cf ?_ (fun _ _=>rfl)
 repeat walk_at "step"
 refine iq hK F11 hG B11 hls' h11c hcs hcm hO fun H12 s12=>?_
 refine dG ?_
 have F12:=F11.sub s12
 have B12:=B11.sub s12
 have h12c:=s12 _ _ h11c
 have hO12 : j7 H12 oa come (aL (ah G) come):=by
  refine bc fun GG=>?_
  obtain ⟨es,g1,g2,g3⟩:=hO.is
  refine GG ?_
  exact ⟨es,s12 _ _ g1,g2,fun a ha=>by obtain ⟨l,k1,k2,k3⟩:=g3 a ha; exact ⟨l,k1,k2,s12 _ _ k3⟩⟩
 clear F11 B11 s12 hO h11c
 repeat walk_at "step"
 refine bS fun rg hrg=>?_
 have h13r : an H12 rg (.range (G.length : Int)) rg = some (.range (G.length : Int)):=ad _ _ _
 have s13:=Sub.upd (o:=.range (G.length : Int)) hrg
 have ovs : ∀ {Ha Hb : ag},Sub Ha Hb->j7 Ha oa come (aL (ah G) come)->j7 Hb oa come (aL (ah G) come):=fun s O=>by
  refine bc fun GG=>?_
  obtain ⟨es,g1,g2,g3⟩:=O.is
  refine GG ?_
  exact ⟨es,s _ _ g1,g2,fun a ha=>by obtain ⟨l,k1,k2,k3⟩:=g3 a ha; exact ⟨l,k1,k2,s _ _ k3⟩⟩
 have F13:=F12.sub s13
 have B13:=B12.sub s13
 have h13c:=s13 _ _ h12c
 have hO13:=ovs s13 hO12
 generalize an H12 rg (.range (G.length : Int)) = H13 at h13r F13 B13 h13c hO13
 clear F12 B12 h12c hO12 s13 hrg
 repeat walk_at "step"
 refine bA (bU h13r (by exact dm) (by omega)) (by simp; exact gE hsix) ?_
 refine ax (I:=fun i acc H14=>Sub H13 H14/\∃ ds : List Int,bC (acc = ds.map AV.int) (ds.length = i) (∀ v,v < i->(v∈come/\∃ x : Nat,ds[v]? = some (x : Int)/\fO (aL (ah G) come) v x)\/(v∉come/\ds[v]? = some (-1)))) rfl _ 0 _ _ _ ⟨Sub.rfl,[],rfl,rfl,fun v hv=>absurd hv (Nat.not_lt_zero _)⟩ (fun j v acc hv Ry_ hy_ Rn_ hn_ H14 hI=>?_) fun acc H14 hI=>?_
 ·refine bc fun GG=>?_
  obtain ⟨s14,ds,rfl,hdl,hds⟩:=hI
  refine GG ?_
  rw [Nat.zero_add] at *
  have hj : j < G.length:=by
   have:=(List.getElem?_eq_some_iff.mp hv).1
   simpa using this
  have hvj : v = ak j:=by
   rw [List.getElem?_map,List.getElem?_range (by simpa using hj)] at hv
   simpa using hv.symm
  subst hvj
  clear hv
  have fin : ∀ (H15 : ag) (z : Int),Sub H14 H15->((j∈come/\∃ x : Nat,z = (x : Int)/\fO (aL (ah G) come) j x)\/(j∉come/\z = -1))->
    H15 rg = H13 rg/\Sub H13 H15/\∃ ds' : List Int,bC (ds.map AV.int ++ [AV.int z] = ds'.map AV.int) (ds'.length = j + 1) (∀ v,v < j + 1->(v∈come/\∃ x : Nat,ds'[v]? = some (x : Int)/\fO (aL (ah G) come) v x)\/(v∉come/\ds'[v]? = some (-1))):=fun H15 z s15 hz=>by
   refine ⟨by exact aa (s15 _ _ (s14 _ _ h13r)) (aa (h13r ..) rfl),s14.trans s15,ds ++ [z],by simp,by simp [hdl],fun v hv=>?_⟩
   by_cases e : v = j
   ·subst e
    have ez : (ds ++ [z])[v]? = some z:=by refine aa (List.getElem?_append_right (by exact ri hdl)) (aa (hdl ..) (aa (Nat.sub_self ..) ?_)); rfl
    rcases hz with ⟨h1,x,h2,h3⟩ | ⟨h1,h2⟩
    ·exact .inl ⟨h1,x,by exact aa (ez ..) (aa (h2 ..) rfl),h3⟩
    ·exact .inr ⟨h1,by exact aa (ez ..) (aa (h2 ..) rfl)⟩
   ·have : v < ds.length:=by exact yW hv hdl e
    refine aa (List.getElem?_append_left this) ?_
    exact hds v (by exact bM this hdl)
  repeat walk_at "step"
  refine bY (s14 _ _ h13c) ?_
  repeat walk_at "step"
  cases hcj : come.contains j with
  | true=>
   have hjc:=List.contains_iff_mem.mp hcj
   repeat walk_at "step"
   refine ip hK (ovs s14 hO13) hjc (fun y hy=>(bR.mp hy).1) (fun y hy=>⟨Nat.le_trans (List.length_filter_le _ _) hcl,by have:=hcn' y hy; exact ox this hsix⟩) fun H15 x s15 hx=>?_
   repeat walk_at "step"
   exact fin H15 x s15 (.inl ⟨hjc,x,rfl,hx⟩)
  | false=>
   have hjc : j∉come:=fun h=>by rw [List.contains_iff_mem.mpr h] at hcj; cases hcj
   repeat walk_at "step"
   exact fin H14 (-1) Sub.rfl (.inr ⟨hjc,rfl⟩)
 refine bc fun GG=>?_
 obtain ⟨s14,ds,rfl,hdl,hds⟩:=hI
 refine GG ?_
 have hl2 : 0 + ((List.range ((G.length : Int)).toNat).map fun (i : Nat)=>AV.int (i : Int)).length = G.length:=by simp
 rw [hl2] at hdl hds
 intro da hda
 have h15d : an H14 da (.list (ds.map AV.int)) da = some (.list (ds.map AV.int)):=ad _ _ _
 have s15:=s14.then (o:=.list (ds.map AV.int)) hda
 have F15:=F13.sub s15
 have B15:=B13.sub s15
 have h15c:=s15 _ _ h13c
 have hO15:=ovs s15 hO13
 generalize an H14 da (.list (ds.map AV.int)) = H15 at h15d F15 B15 h15c hO15
 clear F13 B13 h13c hO13 s15 s14 hda h13r
 repeat walk_at "step"
 refine fx hK F15 hG fun H16 pa ps po par s16 hpa h16p D Dm1=>?_
 have eds : ps = ds:=by
  refine List.ext_getElem? fun v=>?_
  by_cases hv : v < G.length
  ·rcases hds v hv with ⟨h1,x,h2,h3⟩ | ⟨h1,h2⟩
   ·exact aa (h2 ..) (aa (Dm1.yes v ((hcm v).mp h1).2) (aa (kj D Dm1 hcs hcm hsix h1 h3) rfl))
   ·exact aa (h2 ..) (aa (Dm1.no v hv fun h=>h1 ((hcm v).mpr ⟨hv,h⟩)) rfl)
  ·exact aa (List.getElem?_eq_none (by have:=Dm1.len; exact tT this hv)) (aa (List.getElem?_eq_none (by exact tT hdl hv)) rfl)
 have F16:=F15.sub s16
 have B16:=B15.sub s16
 have h16c:=s16 _ _ h15c
 have hO16:=ovs s16 hO15
 repeat walk_at "step"
 refine di ⟨_,h16p⟩ (cO (ds:=ps) (es:=ds) h16p (s16 _ _ h15d)) fun b hb=>?_
 have hb : b = false:=by
  cases b with
  | false=>rfl
  | true=>exact absurd eds (hb.mp rfl)
 subst hb
 repeat walk_at "step"
 refine cf ?_ (fun _ _=>rfl)
 repeat walk_at "step"
 refine i9 hK F16 hG B16 hls' h16c (fun v hv=>(hcm v).mp hv) fun H17 s17=>?_
 refine dG ?_
 have F17:=F16.sub s17
 have B17:=B16.sub s17
 have h17c:=s17 _ _ h16c
 have hO17:=ovs s17 hO16
 clear F15 B15 h15c hO15 F16 B16 h16c hO16 s16 s17 h15d h16p eds hds
 repeat walk_at "step"
 refine kM hK F17 hG hcs hcm fun H18 d ts hs s18 h18d htl hp1 hc1 hts=>?_
 have hhl : (ct (ah G) come).length<=6:=Nat.le_trans (cW _ _) hcl
 have hsl : hs.length<=6:=by refine aa (hp1.length_eq ..) ?_; exact hhl
 have B18:=B17.sub s18
 have h18c:=s18 _ _ h17c
 have hO18:=ovs s18 hO17
 clear F17 B17 h17c hO17 s18
 repeat walk_at "step"
 refine bA (ar h18d) (by refine aa (List.length_map ..) ?_; exact im htl hsl) ?_
 refine ax (I:=fun i acc H19=>Sub H18 H19/\∃ us : List Addr,bC (acc = us.map AV.ref) (us.length = i) (∀ (j : Nat) (t : Addr) (h : Nat),us[j]? = some t->hs[j]? = some h->uz H19 t h (aC (ah G) come h) (au (ah G) come h))) rfl _ 0 _ _ _ ⟨Sub.rfl,[],rfl,rfl,by simp⟩ (fun j v acc hv Ry_ hy_ Rn_ hn_ H19 hI=>?_) fun acc H19 hI=>?_
 ·refine bc fun GG=>?_
  obtain ⟨s19,us,rfl,hul,hus⟩:=hI
  refine GG ?_
  rw [Nat.zero_add] at *
  rw [List.getElem?_map] at hv
  refine bc fun GG=>?_
  obtain ⟨t,ht,rfl⟩:=Option.map_eq_some_iff.mp hv
  have hjl:=(List.getElem?_eq_some_iff.mp ht).1
  have hgjl : j < hs.length:=by exact bM hjl htl
  have hgj : hs[j]? = some hs[j]:=List.getElem?_eq_getElem hgjl
  obtain ⟨b,tl,⟨dxl,k1,k2⟩,k3,k4⟩:=hts j t _ ht hgj
  refine GG ?_
  generalize hs[j] = h at hgj k1 k2 k3 k4
  have k1:=s19 _ _ k1
  have k2:=s19 _ _ k2
  have k3:=s19 _ _ k3
  have k4:=s19 _ _ k4
  repeat walk_at "step"
  refine cj k3 fun sb hsb=>?_
  have em : ((aC (ah G) come h).map fun (r : Nat)=>(r : Int)).map AV.int = (aC (ah G) come h).map ak:=by refine aa (List.map_map ..) ?_; rfl
  refine aa (em ..) ?_
  have k1:=Sub.upd (o:=.list ((aC (ah G) come h).map ak)) hsb _ _ k1
  have k2:=Sub.upd (o:=.list ((aC (ah G) come h).map ak)) hsb _ _ k2
  have k4:=Sub.upd (o:=.list ((aC (ah G) come h).map ak)) hsb _ _ k4
  have k5 : an H19 sb (.list ((aC (ah G) come h).map ak)) sb = some (.list ((aC (ah G) come h).map ak)):=ad _ _ _
  have s20:=s19.then (o:=.list ((aC (ah G) come h).map ak)) hsb
  have t20:=Sub.upd (o:=.list ((aC (ah G) come h).map ak)) hsb
  generalize an H19 sb (.list ((aC (ah G) come h).map ak)) = H20 at k1 k2 k4 k5 s20 t20
  repeat walk_at "step"
  refine ⟨by simp,fun tn htn=>?_⟩
  repeat walk_at "step"
  refine ⟨by exact aa (s20.then htn _ _ h18d) (aa (h18d ..) rfl),s20.then htn,us ++ [tn],by simp,by simp [hul],fun j' t' h' h1 h2=>?_⟩
  rcases Nat.lt_or_ge j' us.length with hj | hj
  ·rw [List.getElem?_append_left hj] at h1
   refine bc fun GG=>?_
   obtain ⟨b',l',q1,q2,q3⟩:=hus j' t' h' h1 h2
   refine GG ?_
   exact ⟨b',l',t20.then htn _ _ q1,t20.then htn _ _ q2,t20.then htn _ _ q3⟩
  ·rw [List.getElem?_append_right hj] at h1
   have : j' = us.length:=by
    have:=(List.getElem?_eq_some_iff.mp h1).1
    simp at this; exact fB this hj
   subst this
   rw [Nat.sub_self] at h1
   rw [hul,hgj] at h2
   cases h1; cases h2
   exact ⟨sb,tl,ad _ _ _,Sub.upd htn _ _ k5,Sub.upd htn _ _ k4⟩
 refine bc fun GG=>?_
 obtain ⟨s19,us,rfl,hul,hus⟩:=hI
 refine GG ?_
 have hul : us.length = hs.length:=by refine aa (hul ..) ?_; simp [htl]
 intro ta hta
 have h20t : an H19 ta (.list (us.map AV.ref)) ta = some (.list (us.map AV.ref)):=ad _ _ _
 have s20:=s19.then (o:=.list (us.map AV.ref)) hta
 have t20:=Sub.upd (o:=.list (us.map AV.ref)) hta
 have B20:=B18.sub s20
 have h20c:=s20 _ _ h18c
 have hO20:=ovs s20 hO18
 generalize an H19 ta (.list (us.map AV.ref)) = H20 at h20t s20 t20 B20 h20c hO20
 clear B18 h18c hO18 s19 hta hts h18d
 repeat walk_at "step"
 refine jR hK hsix B20 hls' hgf h20c hcs hcn' hO20 fun H21 dl ts2 hs2 s21 h21 htl2 hp2 hc2 hts2=>?_
 have ehs : hs2 = hs:=pI (hp2.trans hp1.symm) hc2 hc1
 subst ehs
 have hsh : cJ H21 20 (.ref ta) (.ref dl) (hs2.map (fun h=>(h,aC (ah G) come h,au (ah G) come h)) = hs2.map (fun h=>(h,aC (ah G) come h,au (ah G) come h))):=
  dt (s21 _ _ h20t) h21 (by simp; exact jl hul) (by simp; exact jl htl2) fun j x0 y0 d0 e0 hx0 hy0 hd0 he0=>by
   rw [List.getElem?_map] at hx0 hy0 hd0 he0
   refine bc fun GG=>?_
   obtain ⟨x,hx,rfl⟩:=Option.map_eq_some_iff.mp hx0
   obtain ⟨y,hy,rfl⟩:=Option.map_eq_some_iff.mp hy0
   obtain ⟨d,hd,rfl⟩:=Option.map_eq_some_iff.mp hd0
   obtain ⟨e,he,rfl⟩:=Option.map_eq_some_iff.mp he0
   refine GG ?_
   rw [hd] at he
   cases he
   refine bc fun GG=>?_
   obtain ⟨b1,l1,p1,p2,p3⟩:=hus j x d hx hd
   obtain ⟨b2,l2,r1,r2,r3⟩:=hts2 j y d hy hd
   refine GG ?_
   refine (lM (s21 _ _ (t20 _ _ p1)) r1 jq (bx (s21 _ _ (t20 _ _ p2)) r2) (bx (s21 _ _ (t20 _ _ p3)) r3)).congr ?_
   simp
 refine j8 ⟨_,s21 _ _ h20t⟩ hsh fun b hb=>?_
 have hb : b = true:=hb.mpr rfl
 subst hb
 repeat walk_at "step"
 exact q H21
end
end
theorem law_run {w : World} {K : Frag} {mg mb : Str->Option Value} {s : Shared} {p : Program} {loose : List Str} {mean : ExcName->Option Value} {l fa : Addr} {vs : List Value} {ns : List Int} {prog : Program} (KX : K.In s.heap) (hK : KF K) (hgl : nsIn K mainGlobals "law" = some (some (.ref 273))) (T : Top p loose mean mg mb s.heap) (hm : mg "law" = some (.ref fa))
  (hL : s.heap.IsList l vs.toArray) (hI : IntsAre vs ns) (hn : ns.length<=63) (hg : s.gens = #[]) :
  codeAny (model prog w) callerA (.call (.ref fa) ⟨[.ref l],[]⟩) (fun r s'=>r = .ok (.ret (.bool true))/\(∀ b o,s.heap.get? b = some o->s'.heap.get? b = some o)/\s'.os = s.os/\s'.gens = #[]) s:=by
 have hfa : fa = 273:=by
  have:=mg_of KX T.g hgl
  rw [hm] at this
  injection this with this
  injection this
 subst hfa
 have h:=vh (c:=⟨prog,w,K,mg,mb,s.heap,s.os,l,vs,KX,T.g,T.b,T.builtins,T.nolimit,hL⟩) (k:=0) (H:=fun _=>none) (Q:=fun v _=>v = .bool true) hK (fG hI) hn (fun _=>rfl)
 refine codeAny_mono (h callerA s.heap.get? s [.ref l] ⟨rfl,by decide,by decide⟩ ⟨fun _ _ h=>h,fun _ _ h=>h,fun _ _ h=>(by cases h),fun _ _ h=>(by cases h),hg,rfl⟩ rfl) fun r s' hr=>?_
 cases r with
 | error e=>exact hr.elim
 | ok f=>
  cases f with
  | ret v=>
   obtain ⟨H',R',hv⟩:=hr
   exact ⟨by rw [jD hv],R'.keep,R'.os,R'.gens⟩
  | _=>exact hr.elim
theorem rV : same (WData.bool true) (WData.bool true) = true:=by decide +kernel
theorem vp : WShape.has [] (.bool true) .bool = true:=by decide +kernel
theorem sg (as ds : List WData) : PySem.Challenge.rw_nm0016_01.row.claim.post as (.bool true) ds = true:=by
 show (WShape.has [] (.bool true) .bool && (WTm.eq .res (.lit (.bool true))).holds [] { args:=as,res:=some (.bool true),after:=ds }) = true
 rw [vp]
 simp only [WTm.holds,WTm.value,rV,Bool.true_and]
theorem core.tw10049122206358605792 : True:=trivial
theorem core.tw10204273853576897857 : True:=trivial
theorem core.tw10224360840118963430 : True:=trivial
theorem core.tw10249592036188079128 : True:=trivial
theorem core.tw10261820053809229445 : True:=trivial
theorem core.tw10302435104427656729 : True:=trivial
theorem core.tw10309085395608714220 : True:=trivial
theorem core.tw10432970932316607113 : True:=trivial
theorem core.tw104889286660574942 : True:=trivial
theorem core.tw10606387729944813975 : True:=trivial
theorem core.tw10624113869223614476 : True:=trivial
theorem core.tw10746737336877050708 : True:=trivial
theorem core.tw10763978308546930579 : True:=trivial
theorem core.tw10772570537617439352 : True:=trivial
theorem core.tw10862382917748819813 : True:=trivial
theorem core.tw10916054147364214475 : True:=trivial
theorem core.tw10923394741768522282 : True:=trivial
theorem core.tw10948428838744181969 : True:=trivial
theorem core.tw11016440155836721604 : True:=trivial
theorem core.tw11046762005591291393 : True:=trivial
theorem core.tw11143394727647337486 : True:=trivial
theorem core.tw11283503589549122435 : True:=trivial
theorem core.tw11403322986919704335 : True:=trivial
theorem core.tw11468165453452967028 : True:=trivial
theorem core.tw11507623367858752870 : True:=trivial
theorem core.tw11510918689587906331 : True:=trivial
theorem core.tw11676359070966932750 : True:=trivial
theorem core.tw11797572445599282411 : True:=trivial
theorem core.tw11798769273467881641 : True:=trivial
theorem core.tw11815975552939243413 : True:=trivial
theorem core.tw11876440478045042316 : True:=trivial
theorem core.tw11944985047512435256 : True:=trivial
theorem core.tw11962134483875102330 : True:=trivial
theorem core.tw11965678676896487408 : True:=trivial
theorem core.tw12067882698908019733 : True:=trivial
theorem core.tw12113311694347984659 : True:=trivial
theorem core.tw12395522534647141246 : True:=trivial
theorem core.tw1244750024581383290 : True:=trivial
theorem core.tw12462273129704840966 : True:=trivial
theorem core.tw12477466821062102429 : True:=trivial
theorem core.tw12545545703723313026 : True:=trivial
theorem core.tw12589091429166575234 : True:=trivial
theorem core.tw12597368649434474169 : True:=trivial
theorem core.tw12762166179490204401 : True:=trivial
theorem core.tw12778858452623771514 : True:=trivial
theorem core.tw12802407705830074207 : True:=trivial
theorem core.tw13051763374683824602 : True:=trivial
theorem core.tw13069250345739707864 : True:=trivial
theorem core.tw1317318019316351251 : True:=trivial
theorem core.tw13183521527567345932 : True:=trivial
theorem core.tw13195155036777514472 : True:=trivial
theorem core.tw13246764017499302452 : True:=trivial
theorem core.tw13293090862765382720 : True:=trivial
theorem core.tw13410164332819525104 : True:=trivial
theorem core.tw13472270668343080521 : True:=trivial
theorem core.tw13509898508042802754 : True:=trivial
theorem core.tw13550992265264873152 : True:=trivial
theorem core.tw13630588643310155639 : True:=trivial
theorem core.tw13732708313983657529 : True:=trivial
theorem core.tw13767024053025511904 : True:=trivial
theorem core.tw13792781822525461134 : True:=trivial
theorem core.tw1380547788803612503 : True:=trivial
theorem core.tw13845557525906187334 : True:=trivial
theorem core.tw13863460959568510414 : True:=trivial
theorem core.tw14006508895817445287 : True:=trivial
theorem core.tw14060741842424865979 : True:=trivial
theorem core.tw140640854431783811 : True:=trivial
theorem core.tw14305296767000436891 : True:=trivial
theorem core.tw14306664055957023218 : True:=trivial
theorem core.tw14396251407550182512 : True:=trivial
theorem core.tw14443234774277117686 : True:=trivial
theorem core.tw1444493824159630156 : True:=trivial
theorem core.tw14473447975431719473 : True:=trivial
theorem core.tw14572916401846278922 : True:=trivial
theorem core.tw14720426257500914624 : True:=trivial
theorem core.tw1493173100341254314 : True:=trivial
theorem core.tw14946407619626681526 : True:=trivial
theorem core.tw14961085865811423947 : True:=trivial
theorem core.tw15052082476097562387 : True:=trivial
theorem core.tw15217727574289221249 : True:=trivial
theorem core.tw15312111127289359801 : True:=trivial
theorem core.tw15423173404783017597 : True:=trivial
theorem core.tw15627418837217694022 : True:=trivial
theorem core.tw15649024473956946092 : True:=trivial
theorem core.tw15693476911269330211 : True:=trivial
theorem core.tw15706384997851072030 : True:=trivial
theorem core.tw15776866687896521629 : True:=trivial
theorem core.tw15781438292810385379 : True:=trivial
theorem core.tw15962553698313031077 : True:=trivial
theorem core.tw15974770434805098543 : True:=trivial
theorem core.tw15990284953989293202 : True:=trivial
theorem core.tw16030892461612492691 : True:=trivial
theorem core.tw16275389821224366774 : True:=trivial
theorem core.tw1627632400837561059 : True:=trivial
theorem core.tw16372071147675540489 : True:=trivial
theorem core.tw16442527305422697972 : True:=trivial
theorem core.tw16480693138309746807 : True:=trivial
theorem core.tw16641385307845392136 : True:=trivial
theorem core.tw16820015653507034951 : True:=trivial
theorem core.tw16937413979866860718 : True:=trivial
theorem core.tw17092507149219294896 : True:=trivial
theorem core.tw17100377655517684544 : True:=trivial
theorem core.tw17161107894211559320 : True:=trivial
theorem core.tw17303567306155679255 : True:=trivial
theorem core.tw17314109004634205553 : True:=trivial
theorem core.tw17357987663816993116 : True:=trivial
theorem core.tw17440361959084801653 : True:=trivial
theorem core.tw17494379128874976530 : True:=trivial
theorem core.tw17530885066373689763 : True:=trivial
theorem core.tw17702899676070730226 : True:=trivial
theorem core.tw17805718197549441075 : True:=trivial
theorem core.tw1786477491429959196 : True:=trivial
theorem core.tw17951054576106973473 : True:=trivial
theorem core.tw18146860059879598536 : True:=trivial
theorem core.tw18173536504036807895 : True:=trivial
theorem core.tw18343557690571294350 : True:=trivial
theorem core.tw18414779700217491303 : True:=trivial
theorem core.tw1878201954910067727 : True:=trivial
theorem core.tw1930895741848064642 : True:=trivial
theorem core.tw1940959894689180577 : True:=trivial
theorem core.tw1942810731872033405 : True:=trivial
theorem core.tw1944012979907783413 : True:=trivial
theorem core.tw198032898922750992 : True:=trivial
theorem core.tw1990152197848752726 : True:=trivial
theorem core.tw2024234331916360881 : True:=trivial
theorem core.tw2054154788919417630 : True:=trivial
theorem core.tw211064556265040263 : True:=trivial
theorem core.tw2139803084004549999 : True:=trivial
theorem core.tw215214886402058695 : True:=trivial
theorem core.tw2377360551392445258 : True:=trivial
theorem core.tw2498172733858115846 : True:=trivial
theorem core.tw258233378868311936 : True:=trivial
theorem core.tw2662414285963934297 : True:=trivial
theorem core.tw2720593983204940307 : True:=trivial
theorem core.tw2741193812800411951 : True:=trivial
theorem core.tw2782624519275293422 : True:=trivial
theorem core.tw2794261787216237744 : True:=trivial
theorem core.tw3049039846653406991 : True:=trivial
theorem core.tw3059090827378897585 : True:=trivial
theorem core.tw3121241813119491033 : True:=trivial
theorem core.tw3208291992559303298 : True:=trivial
theorem core.tw3350180732592356963 : True:=trivial
theorem core.tw3431356594755137225 : True:=trivial
theorem core.tw3441693648263067685 : True:=trivial
theorem core.tw3465396518471573814 : True:=trivial
theorem core.tw3544293042028450075 : True:=trivial
theorem core.tw3583788385509805853 : True:=trivial
theorem core.tw3803159782261780071 : True:=trivial
theorem core.tw3851132559041957935 : True:=trivial
theorem core.tw394648777493315150 : True:=trivial
theorem core.tw396347153069073754 : True:=trivial
theorem core.tw4015953807317474082 : True:=trivial
theorem core.tw4048323837848254447 : True:=trivial
theorem core.tw4125988392439573290 : True:=trivial
theorem core.tw4203645457731992280 : True:=trivial
theorem core.tw4231173081018764789 : True:=trivial
theorem core.tw435187890894096261 : True:=trivial
theorem core.tw4393408643073464778 : True:=trivial
theorem core.tw44048401167379536 : True:=trivial
theorem core.tw4431893868045946463 : True:=trivial
theorem core.tw4444544767841391627 : True:=trivial
theorem core.tw4474066057246472379 : True:=trivial
theorem core.tw448675812597370685 : True:=trivial
theorem core.tw4491106818824429727 : True:=trivial
theorem core.tw450633282253439403 : True:=trivial
theorem core.tw454115687166515949 : True:=trivial
theorem core.tw463603161914233574 : True:=trivial
theorem core.tw466907273635250971 : True:=trivial
theorem core.tw4672163335933802665 : True:=trivial
theorem core.tw4749030555619550186 : True:=trivial
theorem core.tw478081758502990878 : True:=trivial
theorem core.tw4781719603536944834 : True:=trivial
theorem core.tw4886892684845474122 : True:=trivial
theorem core.tw4954765762980564977 : True:=trivial
theorem core.tw4970809479168651746 : True:=trivial
theorem core.tw5161844133086693373 : True:=trivial
theorem core.tw5195377422463690873 : True:=trivial
theorem core.tw5269928424375079785 : True:=trivial
theorem core.tw5289867670381689147 : True:=trivial
theorem core.tw5290831951963342949 : True:=trivial
theorem core.tw5375821393079000745 : True:=trivial
theorem core.tw547173992472487933 : True:=trivial
theorem core.tw5500771608712711976 : True:=trivial
theorem core.tw5519436570351249511 : True:=trivial
theorem core.tw5608538756783121964 : True:=trivial
theorem core.tw5633431306062564567 : True:=trivial
theorem core.tw5689283801784062046 : True:=trivial
theorem core.tw5750714316828207533 : True:=trivial
theorem core.tw5821282957513525424 : True:=trivial
theorem core.tw5857439206750606036 : True:=trivial
theorem core.tw591370495084368172 : True:=trivial
theorem core.tw5915880568657506904 : True:=trivial
theorem core.tw5959555148096563306 : True:=trivial
theorem core.tw5962972262994285265 : True:=trivial
theorem core.tw5970240932203409684 : True:=trivial
theorem core.tw6028454213651384053 : True:=trivial
theorem core.tw6117315672272679043 : True:=trivial
theorem core.tw6195698734515462681 : True:=trivial
theorem core.tw6243168772045532202 : True:=trivial
theorem core.tw6308083416495292281 : True:=trivial
theorem core.tw6324919982323434904 : True:=trivial
theorem core.tw6329439108201360722 : True:=trivial
theorem core.tw6601120445056070284 : True:=trivial
theorem core.tw6854925519463645645 : True:=trivial
theorem core.tw6985295288330506497 : True:=trivial
theorem core.tw7003238227474012337 : True:=trivial
theorem core.tw7033523004761056413 : True:=trivial
theorem core.tw7056643075758744639 : True:=trivial
theorem core.tw7091353616853510043 : True:=trivial
theorem core.tw713171199821834825 : True:=trivial
theorem core.tw7150277680904063942 : True:=trivial
theorem core.tw7210102003811551 : True:=trivial
theorem core.tw72486070090622160 : True:=trivial
theorem core.tw7338506855797360169 : True:=trivial
theorem core.tw7396257459991145129 : True:=trivial
theorem core.tw7400916526341901772 : True:=trivial
theorem core.tw7546511349370786015 : True:=trivial
theorem core.tw7553281612460030148 : True:=trivial
theorem core.tw7652411548759855891 : True:=trivial
theorem core.tw8002565781985698662 : True:=trivial
theorem core.tw8050541909475047894 : True:=trivial
theorem core.tw8162441569240819768 : True:=trivial
theorem core.tw8169744207503848327 : True:=trivial
theorem core.tw820546562185861425 : True:=trivial
theorem core.tw8206679548526584443 : True:=trivial
theorem core.tw8239642834275342569 : True:=trivial
theorem core.tw8314638346855542781 : True:=trivial
theorem core.tw8368295578916033039 : True:=trivial
theorem core.tw8377806614474157819 : True:=trivial
theorem core.tw8478578770095507170 : True:=trivial
theorem core.tw8496804438084337722 : True:=trivial
theorem core.tw8545575655794415304 : True:=trivial
theorem core.tw8639838891833805722 : True:=trivial
theorem core.tw8647867546791897264 : True:=trivial
theorem core.tw8675911919631782945 : True:=trivial
theorem core.tw8705729148521957083 : True:=trivial
theorem core.tw8913225364066017344 : True:=trivial
theorem core.tw910012529807758385 : True:=trivial
theorem core.tw9259901359180076790 : True:=trivial
theorem core.tw9305077459654206983 : True:=trivial
theorem core.tw9330253641128948230 : True:=trivial
theorem core.tw9410298710569922852 : True:=trivial
theorem core.tw9417477475221830588 : True:=trivial
theorem core.tw9495262507266517358 : True:=trivial
theorem core.tw9617955663982023747 : True:=trivial
theorem core.tw9673068733744582021 : True:=trivial
theorem core.tw9718138096701185236 : True:=trivial
theorem core.tw9772132954842849480 : True:=trivial
theorem core.tw9820834853484435038 : True:=trivial
theorem core.tw9862033525642612862 : True:=trivial
theorem core.tw9888488306368295634 : True:=trivial
set_option Elab.async true
theorem core : PySem.Challenge.rw_nm0016_01.Holds:=by
 w_on; o_law; k_head
 (case hw=>w_witness2)
 w_strict (
  k_fill
  intro w s₀ s₁ mg mb G Y fa o pm cd doc dV kV ho hd hcd hD hmg hg args vals as hpre hlay hrd hwl hlo
  have KX:=kIn_of Y
  clear hD hcd hd
  have X:=(Ground.X G).1
  have V:=(Ground.X G).2
  refine Ground.open G ?_
  intro T B D TE TW
  have TA:=at_of_top T
  wrow_args hpre hlay hrd hwl hlo
  refine enter_call ?_
  rename_i hL _ _ _ hI _ hc _
  refine codeAny_mono (law_run KX ?kf ?gl T hmg hL hI (by omega) hg) ?_
  (case gl=>kernel_rfl)
  (case kf=>exact ⟨
   .cons (⟨by kernel_rfl,by kernel_rfl,by kernel_rfl,by kernel_rfl,by kernel_rfl,by kernel_rfl,(fun vs h=>by obtain ⟨v0,v1,v2,v3,v4,rfl⟩:=zQ h; kernel_rfl),by kernel_rfl,by kernel_rfl,by kernel_rfl,by kernel_rfl,by kernel_rfl⟩) (.cons (⟨by kernel_rfl,by kernel_rfl,by kernel_rfl,by kernel_rfl,by kernel_rfl,by kernel_rfl,(fun vs h=>by obtain ⟨v0,v1,rfl⟩:=gT h; kernel_rfl),by kernel_rfl,by kernel_rfl,by kernel_rfl,by kernel_rfl,by kernel_rfl⟩) (.cons (⟨by kernel_rfl,by kernel_rfl,by kernel_rfl,by kernel_rfl,by kernel_rfl,by kernel_rfl,(fun vs h=>by obtain ⟨v0,v1,rfl⟩:=gT h; kernel_rfl),by kernel_rfl,by kernel_rfl,by kernel_rfl,by kernel_rfl,by kernel_rfl⟩) (.cons (⟨by kernel_rfl,by kernel_rfl,by kernel_rfl,by kernel_rfl,by kernel_rfl,by kernel_rfl,(fun vs h=>by obtain ⟨v0,rfl⟩:=fq h; kernel_rfl),by kernel_rfl,by kernel_rfl,by kernel_rfl,by kernel_rfl,by kernel_rfl⟩) (.cons (⟨by kernel_rfl,by kernel_rfl,by kernel_rfl,by kernel_rfl,by kernel_rfl,by kernel_rfl,(fun vs h=>by obtain ⟨v0,v1,v2,v3,rfl⟩:=rL h; kernel_rfl),by kernel_rfl,by kernel_rfl,by kernel_rfl,by kernel_rfl,by kernel_rfl⟩) (.cons (⟨by kernel_rfl,by kernel_rfl,by kernel_rfl,by kernel_rfl,by kernel_rfl,by kernel_rfl,(fun vs h=>by obtain ⟨v0,rfl⟩:=fq h; kernel_rfl),by kernel_rfl,by kernel_rfl,by kernel_rfl,by kernel_rfl,by kernel_rfl⟩) (.cons (⟨by kernel_rfl,by kernel_rfl,by kernel_rfl,by kernel_rfl,by kernel_rfl,by kernel_rfl,(fun vs h=>by obtain ⟨v0,rfl⟩:=fq h; kernel_rfl),by kernel_rfl,by kernel_rfl,by kernel_rfl,by kernel_rfl,by kernel_rfl⟩) (.cons (⟨by kernel_rfl,by kernel_rfl,by kernel_rfl,by kernel_rfl,by kernel_rfl,by kernel_rfl,(fun vs h=>by obtain ⟨v0,rfl⟩:=fq h; kernel_rfl),by kernel_rfl,by kernel_rfl,by kernel_rfl,by kernel_rfl,by kernel_rfl⟩) (.cons (⟨by kernel_rfl,by kernel_rfl,by kernel_rfl,by kernel_rfl,by kernel_rfl,by kernel_rfl,(fun vs h=>by obtain ⟨v0,rfl⟩:=fq h; kernel_rfl),by kernel_rfl,by kernel_rfl,by kernel_rfl,by kernel_rfl,by kernel_rfl⟩) (.cons (⟨by kernel_rfl,by kernel_rfl,by kernel_rfl,by kernel_rfl,by kernel_rfl,by kernel_rfl,(fun vs h=>by obtain ⟨v0,v1,v2,v3,rfl⟩:=rL h; kernel_rfl),by kernel_rfl,by kernel_rfl,by kernel_rfl,by kernel_rfl,by kernel_rfl⟩) (.cons (⟨by kernel_rfl,by kernel_rfl,by kernel_rfl,by kernel_rfl,by kernel_rfl,by kernel_rfl,(fun vs h=>by obtain ⟨v0,rfl⟩:=fq h; kernel_rfl),by kernel_rfl,by kernel_rfl,by kernel_rfl,by kernel_rfl,by kernel_rfl⟩) (.cons (⟨by kernel_rfl,by kernel_rfl,by kernel_rfl,by kernel_rfl,by kernel_rfl,by kernel_rfl,(fun vs h=>by obtain ⟨v0,v1,v2,rfl⟩:=pn h; kernel_rfl),by kernel_rfl,by kernel_rfl,by kernel_rfl,by kernel_rfl,by kernel_rfl⟩) (.cons (⟨by kernel_rfl,by kernel_rfl,by kernel_rfl,by kernel_rfl,by kernel_rfl,by kernel_rfl,(fun vs h=>by obtain ⟨v0,rfl⟩:=fq h; kernel_rfl),by kernel_rfl,by kernel_rfl,by kernel_rfl,by kernel_rfl,by kernel_rfl⟩) (.cons (⟨by kernel_rfl,by kernel_rfl,by kernel_rfl,by kernel_rfl,by kernel_rfl,by kernel_rfl,(fun vs h=>by obtain ⟨v0,rfl⟩:=fq h; kernel_rfl),by kernel_rfl,by kernel_rfl,by kernel_rfl,by kernel_rfl,by kernel_rfl⟩) (.cons (⟨by kernel_rfl,by kernel_rfl,by kernel_rfl,by kernel_rfl,by kernel_rfl,by kernel_rfl,(fun vs h=>by obtain ⟨v0,v1,rfl⟩:=gT h; kernel_rfl),by kernel_rfl,by kernel_rfl,by kernel_rfl,by kernel_rfl,by kernel_rfl⟩) (.cons (⟨by kernel_rfl,by kernel_rfl,by kernel_rfl,by kernel_rfl,by kernel_rfl,by kernel_rfl,(fun vs h=>by obtain ⟨v0,v1,v2,rfl⟩:=pn h; kernel_rfl),by kernel_rfl,by kernel_rfl,by kernel_rfl,by kernel_rfl,by kernel_rfl⟩) (.cons (⟨by kernel_rfl,by kernel_rfl,by kernel_rfl,by kernel_rfl,by kernel_rfl,by kernel_rfl,(fun vs h=>by obtain ⟨v0,rfl⟩:=fq h; kernel_rfl),by kernel_rfl,by kernel_rfl,by kernel_rfl,by kernel_rfl,by kernel_rfl⟩) (.cons (⟨by kernel_rfl,by kernel_rfl,by kernel_rfl,by kernel_rfl,by kernel_rfl,by kernel_rfl,(fun vs h=>by obtain ⟨v0,v1,rfl⟩:=gT h; kernel_rfl),by kernel_rfl,by kernel_rfl,by kernel_rfl,by kernel_rfl,by kernel_rfl⟩) (.cons (⟨by kernel_rfl,by kernel_rfl,by kernel_rfl,by kernel_rfl,by kernel_rfl,by kernel_rfl,(fun vs h=>by rw [xV h]; kernel_rfl),by kernel_rfl,by kernel_rfl,by kernel_rfl,by kernel_rfl,by kernel_rfl⟩) (.cons (⟨by kernel_rfl,by kernel_rfl,by kernel_rfl,by kernel_rfl,by kernel_rfl,by kernel_rfl,(fun vs h=>by obtain ⟨v0,v1,rfl⟩:=gT h; kernel_rfl),by kernel_rfl,by kernel_rfl,by kernel_rfl,by kernel_rfl,by kernel_rfl⟩) (.cons (⟨by kernel_rfl,by kernel_rfl,by kernel_rfl,by kernel_rfl,by kernel_rfl,by kernel_rfl,(fun vs h=>by obtain ⟨v0,v1,rfl⟩:=gT h; kernel_rfl),by kernel_rfl,by kernel_rfl,by kernel_rfl,by kernel_rfl,by kernel_rfl⟩) (.cons (⟨by kernel_rfl,by kernel_rfl,by kernel_rfl,by kernel_rfl,by kernel_rfl,by kernel_rfl,(fun vs h=>by obtain ⟨v0,rfl⟩:=fq h; kernel_rfl),by kernel_rfl,by kernel_rfl,by kernel_rfl,by kernel_rfl,by kernel_rfl⟩) (.cons (⟨by kernel_rfl,by kernel_rfl,by kernel_rfl,by kernel_rfl,by kernel_rfl,by kernel_rfl,(fun vs h=>by obtain ⟨v0,rfl⟩:=fq h; kernel_rfl),by kernel_rfl,by kernel_rfl,by kernel_rfl,by kernel_rfl,by kernel_rfl⟩) (.cons (⟨by kernel_rfl,by kernel_rfl,by kernel_rfl,by kernel_rfl,by kernel_rfl,by kernel_rfl,(fun vs h=>by obtain ⟨v0,rfl⟩:=fq h; kernel_rfl),by kernel_rfl,by kernel_rfl,by kernel_rfl,by kernel_rfl,by kernel_rfl⟩) (.cons (⟨by kernel_rfl,by kernel_rfl,by kernel_rfl,by kernel_rfl,by kernel_rfl,by kernel_rfl,(fun vs h=>by obtain ⟨v0,v1,v2,rfl⟩:=pn h; kernel_rfl),by kernel_rfl,by kernel_rfl,by kernel_rfl,by kernel_rfl,by kernel_rfl⟩) (.cons (⟨by kernel_rfl,by kernel_rfl,by kernel_rfl,by kernel_rfl,by kernel_rfl,by kernel_rfl,(fun vs h=>by obtain ⟨v0,v1,rfl⟩:=gT h; kernel_rfl),by kernel_rfl,by kernel_rfl,by kernel_rfl,by kernel_rfl,by kernel_rfl⟩) (.cons (⟨by kernel_rfl,by kernel_rfl,by kernel_rfl,by kernel_rfl,by kernel_rfl,by kernel_rfl,(fun vs h=>by obtain ⟨v0,v1,v2,v3,v4,rfl⟩:=zQ h; kernel_rfl),by kernel_rfl,by kernel_rfl,by kernel_rfl,by kernel_rfl,by kernel_rfl⟩) (.cons (⟨by kernel_rfl,by kernel_rfl,by kernel_rfl,by kernel_rfl,by kernel_rfl,by kernel_rfl,(fun vs h=>by obtain ⟨v0,v1,v2,rfl⟩:=pn h; kernel_rfl),by kernel_rfl,by kernel_rfl,by kernel_rfl,by kernel_rfl,by kernel_rfl⟩) (.cons (⟨by kernel_rfl,by kernel_rfl,by kernel_rfl,by kernel_rfl,by kernel_rfl,by kernel_rfl,(fun vs h=>by obtain ⟨v0,v1,rfl⟩:=gT h; kernel_rfl),by kernel_rfl,by kernel_rfl,by kernel_rfl,by kernel_rfl,by kernel_rfl⟩) (.cons (⟨by kernel_rfl,by kernel_rfl,by kernel_rfl,by kernel_rfl,by kernel_rfl,by kernel_rfl,(fun vs h=>by obtain ⟨v0,v1,rfl⟩:=gT h; kernel_rfl),by kernel_rfl,by kernel_rfl,by kernel_rfl,by kernel_rfl,by kernel_rfl⟩) (.cons (⟨by kernel_rfl,by kernel_rfl,by kernel_rfl,by kernel_rfl,by kernel_rfl,by kernel_rfl,(fun vs h=>by obtain ⟨v0,v1,v2,rfl⟩:=pn h; kernel_rfl),by kernel_rfl,by kernel_rfl,by kernel_rfl,by kernel_rfl,by kernel_rfl⟩) (.cons (⟨by kernel_rfl,by kernel_rfl,by kernel_rfl,by kernel_rfl,by kernel_rfl,by kernel_rfl,(fun vs h=>by obtain ⟨v0,v1,v2,v3,rfl⟩:=rL h; kernel_rfl),by kernel_rfl,by kernel_rfl,by kernel_rfl,by kernel_rfl,by kernel_rfl⟩) (.cons (⟨by kernel_rfl,by kernel_rfl,by kernel_rfl,by kernel_rfl,by kernel_rfl,by kernel_rfl,(fun vs h=>by obtain ⟨v0,rfl⟩:=fq h; kernel_rfl),by kernel_rfl,by kernel_rfl,by kernel_rfl,by kernel_rfl,by kernel_rfl⟩) (trivial))))))))))))))))))))))))))))))))),
    .cons (⟨by kernel_rfl,by kernel_rfl,by kernel_rfl⟩) (.cons (⟨by kernel_rfl,by kernel_rfl,by kernel_rfl⟩) (.cons (⟨by kernel_rfl,by kernel_rfl,by kernel_rfl⟩) (.cons (⟨by kernel_rfl,by kernel_rfl,by kernel_rfl⟩) (.cons (⟨by kernel_rfl,by kernel_rfl,by kernel_rfl⟩) (.cons (⟨by kernel_rfl,by kernel_rfl,by kernel_rfl⟩) (.cons (⟨by kernel_rfl,by kernel_rfl,by kernel_rfl⟩) (.cons (⟨by kernel_rfl,by kernel_rfl,by kernel_rfl⟩) (.cons (⟨by kernel_rfl,by kernel_rfl,by kernel_rfl⟩) (.cons (⟨by kernel_rfl,by kernel_rfl,by kernel_rfl⟩) (.cons (⟨by kernel_rfl,by kernel_rfl,by kernel_rfl⟩) (.cons (⟨by kernel_rfl,by kernel_rfl,by kernel_rfl⟩) (.cons (⟨by kernel_rfl,by kernel_rfl,by kernel_rfl⟩) (.cons (⟨by kernel_rfl,by kernel_rfl,by kernel_rfl⟩) (.cons (⟨by kernel_rfl,by kernel_rfl,by kernel_rfl⟩) (.cons (⟨by kernel_rfl,by kernel_rfl,by kernel_rfl⟩) (.cons (⟨by kernel_rfl,by kernel_rfl,by kernel_rfl⟩) (.cons (⟨by kernel_rfl,by kernel_rfl,by kernel_rfl⟩) (.cons (⟨by kernel_rfl,by kernel_rfl,by kernel_rfl⟩) (.cons (⟨by kernel_rfl,by kernel_rfl,by kernel_rfl⟩) (.cons (⟨by kernel_rfl,by kernel_rfl,by kernel_rfl⟩) (.cons (⟨by kernel_rfl,by kernel_rfl,by kernel_rfl⟩) (.cons (⟨by kernel_rfl,by kernel_rfl,by kernel_rfl⟩) (.cons (⟨by kernel_rfl,by kernel_rfl,by kernel_rfl⟩) (.cons (⟨by kernel_rfl,by kernel_rfl,by kernel_rfl⟩) (.cons (⟨by kernel_rfl,by kernel_rfl,by kernel_rfl⟩) (.cons (⟨by kernel_rfl,by kernel_rfl,by kernel_rfl⟩) (.cons (⟨by kernel_rfl,by kernel_rfl,by kernel_rfl⟩) (trivial)))))))))))))))))))))))))))),
    .cons (⟨by kernel_rfl,by decide,by kernel_rfl,by kernel_rfl,rfl⟩) (.cons (⟨by kernel_rfl,by decide,by kernel_rfl,by kernel_rfl,rfl⟩) (.cons (⟨by kernel_rfl,by decide,by kernel_rfl,by kernel_rfl,rfl⟩) (.cons (⟨by kernel_rfl,by decide,by kernel_rfl,by kernel_rfl,rfl⟩) (.cons (⟨by kernel_rfl,by decide,by kernel_rfl,by kernel_rfl,rfl⟩) (.cons (⟨by kernel_rfl,by decide,by kernel_rfl,by kernel_rfl,rfl⟩) (.cons (⟨by kernel_rfl,by decide,by kernel_rfl,by kernel_rfl,rfl⟩) (.cons (⟨by kernel_rfl,by decide,by kernel_rfl,by kernel_rfl,rfl⟩) (trivial)))))))),
    .cons (⟨by kernel_rfl,by kernel_rfl,by kernel_rfl,by kernel_rfl,by kernel_rfl,by kernel_rfl⟩) (.cons (⟨by kernel_rfl,by kernel_rfl,by kernel_rfl,by kernel_rfl,by kernel_rfl,by kernel_rfl⟩) (.cons (⟨by kernel_rfl,by kernel_rfl,by kernel_rfl,by kernel_rfl,by kernel_rfl,by kernel_rfl⟩) (.cons (⟨by kernel_rfl,by kernel_rfl,by kernel_rfl,by kernel_rfl,by kernel_rfl,by kernel_rfl⟩) (trivial)))),
    .cons (by kernel_rfl) (.cons (by kernel_rfl) (.cons (by kernel_rfl) (.cons (by kernel_rfl) (.cons (by kernel_rfl) (.cons (by kernel_rfl) (.cons (by kernel_rfl) (.cons (by kernel_rfl) (.cons (by kernel_rfl) (.cons (by kernel_rfl) (.cons (by kernel_rfl) (.cons (by kernel_rfl) (.cons (by kernel_rfl) (.cons (by kernel_rfl) (.cons (by kernel_rfl) (.cons (by kernel_rfl) (.cons (by kernel_rfl) (.cons (by kernel_rfl) (.cons (by kernel_rfl) (trivial)))))))))))))))))))
   ⟩)
  rintro r s' ⟨rfl,hk,hos,hgn⟩
  refine GoodW.toG ⟨.inl ⟨_,.bool true,[],rfl,?_,.bool true,?_,?_⟩,hk,hos,hgn⟩
  ·exact fun _=>rfl
  ·exact sg _ _
  ·exact fun _=>⟨List.nodup_nil,fun a ha=>by cases ha⟩)
end Mine
theorem PySem.Challenge.cw_nm0016_01_holds : PySem.Challenge.rw_nm0016_01.Holds :=
 Mine.core
