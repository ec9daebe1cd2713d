/- FnHandles: what the functions that it reaches compute, as plain functions, part 2. No condition. -/
import Derived.Test.YtmlpcjbkbnkajaaGreatM1
noncomputable section
namespace Go.Proofs.YtmlpcjbkbnkajaaGreat
open Go.Am
set_option maxRecDepth 100000
set_option linter.unusedVariables false
def Zhp(c0:Zg)(f1:Zl):Option (Zg×Int×Unit):=
 (Zaq c0).bind fun t13=>
 (bif(!t13.1)then some (false,())else(Zdl f1)).bind fun t17=>
 bif((!t13.1)|| (!t17.1))|| (!(f1.1==4))then
  (Qp c0).bind fun t25=>
  some (t25.1,(7:Int),())
 else
  (Qp c0).bind fun t27=>
  (Zcm t27.1.1 f1.2.1).bind fun t13_1=>
  bif !t13_1.1 then
   (Qp c0).bind fun t33=>
   some (t33.1,(5:Int),())
  else
   (Wi t27.1 f1.2.1).bind fun t17_1=>
   bif t17_1.1.1 !=0 then
    bif t17_1.1.1 !=0 then
     (Qp c0).bind fun t33_1=>
     some (t33_1.1,t17_1.1.1,())
    else
     some (t17_1.2.1,(0:Int),())
   else
    (Xn t17_1.2.1.2.2.2.1 f1.2.1).bind fun t14_2=>
    Zi (0<=t14_2.1/\t14_2.1<t17_1.2.1.2.2.2.1.length)<|
    (Zm8 (t17_1.2.1.2.2.2.1.getD t14_2.1.toNat Zh).2.2.2.1 f1.2.2.2.2.2.2.2.1).bind fun t14_3=>
    (Zjd (t17_1.2.1.2.2.2.1.getD t14_2.1.toNat Zh).2.2.2.2.1).bind fun t20=>
    (bif(decide (t14_3.1>t20.1))then some ((0:Int),())else(Zjd t17_1.2.1.2.2.2.2.2.1)).bind fun t28=>
    bif(decide (t14_3.1>t20.1))|| (decide (t14_3.1>t28.1))then
     (Qp c0).bind fun t33_2=>
     some (t33_2.1,(3:Int),())
    else
     Zo3 1 (
      (Zkw (t17_1.2.1.2.2.2.1.getD t14_2.1.toNat Zh).2.2.2.1 f1.2.2.2.2.2.1 f1.2.2.2.2.2.2.2.1).bind fun t41=>
      bif t41.2.1 !=0 then
       bif t41.2.1 !=0 then
        (Qp c0).bind fun t33_3=>
        some (t33_3.1,t41.2.1,())
       else
        some (t17_1.2.1,(0:Int),())
      else
       (Zgp (t17_1.2.1.2.2.2.1.getD t14_2.1.toNat Zh).2.2.2.2.1 t14_3.1).bind fun t13_2=>
       let out10:List Zd:=t17_1.2.1.2.2.2.1.set t14_2.1.toNat ((t17_1.2.1.2.2.2.1.getD t14_2.1.toNat Zh).1,((t17_1.2.1.2.2.2.1.getD t14_2.1.toNat Zh).2.1,((t17_1.2.1.2.2.2.1.getD t14_2.1.toNat Zh).2.2.1,((t17_1.2.1.2.2.2.1.getD t14_2.1.toNat Zh).2.2.2.1,(t13_2.1,(t17_1.2.1.2.2.2.1.getD t14_2.1.toNat Zh).2.2.2.2.2)))))
       (Zgp t17_1.2.1.2.2.2.2.2.1 t14_3.1).bind fun t25_1=>
       let t60:Bool:=(out10.getD t14_2.1.toNat Zh).2.2.2.1.1 !=4
       let out10_1:List Zd:=out10.set t14_2.1.toNat ((out10.getD t14_2.1.toNat Zh).1,((out10.getD t14_2.1.toNat Zh).2.1,((out10.getD t14_2.1.toNat Zh).2.2.1,(t41.1,(out10.getD t14_2.1.toNat Zh).2.2.2.2))))
       bif(t41.1.1==4)&&t60 then
        let t13_3:Int:=IntKind.i64.wrap (f1.2.2.2.2.2.2.2.1- (out10_1.getD t14_2.1.toNat Zh).2.2.2.2.1.2.2.2.2.1)
        (Zea (out10_1.getD t14_2.1.toNat Zh).2.2.2.2.1 t13_3).bind fun t21_1=>
        let out10_2:List Zd:=out10_1.set t14_2.1.toNat ((out10_1.getD t14_2.1.toNat Zh).1,((out10_1.getD t14_2.1.toNat Zh).2.1,((out10_1.getD t14_2.1.toNat Zh).2.2.1,((out10_1.getD t14_2.1.toNat Zh).2.2.2.1,(t21_1.1,(out10_1.getD t14_2.1.toNat Zh).2.2.2.2.2)))))
        (Zea t25_1.1 t13_3).bind fun t33_4=>
        (Xn out10_2 f1.2.1).bind fun t14_4=>
        Zi (0<=t14_4.1/\t14_4.1<out10_2.length)<|
        (Zd9 t17_1.2.1.1 f1.2.1).bind fun t13_4=>
        let t19_3:Bool:=t13_4.1|| (out10_2.getD t14_4.1.toNat Zh).2.2.2.2.2.2.2.2.2.2.2.2.2.1
        (bif t19_3 then some (false,())else(Zfr (out10_2.getD t14_4.1.toNat Zh))).bind fun t24=>
        bif t19_3|| (!t24.1)then
         some ((t17_1.2.1.1,(t17_1.2.1.2.1,(t17_1.2.1.2.2.1,(out10_2,(t17_1.2.1.2.2.2.2.1,(t33_4.1,t17_1.2.1.2.2.2.2.2.2)))))),(0:Int),())
        else
         let out10_3:List Zd:=out10_2.set t14_4.1.toNat ((out10_2.getD t14_4.1.toNat Zh).1,((out10_2.getD t14_4.1.toNat Zh).2.1,((out10_2.getD t14_4.1.toNat Zh).2.2.1,((out10_2.getD t14_4.1.toNat Zh).2.2.2.1,((out10_2.getD t14_4.1.toNat Zh).2.2.2.2.1,((out10_2.getD t14_4.1.toNat Zh).2.2.2.2.2.1,((out10_2.getD t14_4.1.toNat Zh).2.2.2.2.2.2.1,((out10_2.getD t14_4.1.toNat Zh).2.2.2.2.2.2.2.1,((out10_2.getD t14_4.1.toNat Zh).2.2.2.2.2.2.2.2.1,((out10_2.getD t14_4.1.toNat Zh).2.2.2.2.2.2.2.2.2.1,((out10_2.getD t14_4.1.toNat Zh).2.2.2.2.2.2.2.2.2.2.1,((out10_2.getD t14_4.1.toNat Zh).2.2.2.2.2.2.2.2.2.2.2.1,((out10_2.getD t14_4.1.toNat Zh).2.2.2.2.2.2.2.2.2.2.2.2.1,(true,(out10_2.getD t14_4.1.toNat Zh).2.2.2.2.2.2.2.2.2.2.2.2.2.2))))))))))))))
         Option.bind (Z3 (t17_1.2.1.1,(t17_1.2.1.2.1,(t17_1.2.1.2.2.1,(out10_3,(t17_1.2.1.2.2.2.2.1,(t33_4.1,t17_1.2.1.2.2.2.2.2.2)))))) f1.2.1) fun t33_5=>
         bif t33_5.1 then
          (Z3 t33_5.2.1 f1.2.1).bind fun t36=>
          bif t36.1 then
           (Qj t36.2.1.2.2.2.2.2.2.2.2.2.1).bind fun t39=>
           let t10_1:Zg:=(t36.2.1.1,(t36.2.1.2.1,(t36.2.1.2.2.1,(t36.2.1.2.2.2.1,(t36.2.1.2.2.2.2.1,(t36.2.1.2.2.2.2.2.1,(t36.2.1.2.2.2.2.2.2.1,(t36.2.1.2.2.2.2.2.2.2.1,(t36.2.1.2.2.2.2.2.2.2.2.1,(t39.1,t36.2.1.2.2.2.2.2.2.2.2.2.2))))))))))
           some (t10_1,(0:Int),())
          else
           (Qj t36.2.1.2.2.2.2.2.2.2.2.1).bind fun t39_1=>
           let t10_2:Zg:=(t36.2.1.1,(t36.2.1.2.1,(t36.2.1.2.2.1,(t36.2.1.2.2.2.1,(t36.2.1.2.2.2.2.1,(t36.2.1.2.2.2.2.2.1,(t36.2.1.2.2.2.2.2.2.1,(t36.2.1.2.2.2.2.2.2.2.1,(t36.2.1.2.2.2.2.2.2.2.2.1,(t39_1.1,t36.2.1.2.2.2.2.2.2.2.2.2.2))))))))))
           some (t10_2,(0:Int),())
         else
          (Z3 t33_5.2.1 f1.2.1).bind fun t36_1=>
          bif t36_1.1 then
           (Qj t36_1.2.1.2.2.2.2.2.2.2.2.2.1).bind fun t39_2=>
           let t10_3:Zg:=(t36_1.2.1.1,(t36_1.2.1.2.1,(t36_1.2.1.2.2.1,(t36_1.2.1.2.2.2.1,(t36_1.2.1.2.2.2.2.1,(t36_1.2.1.2.2.2.2.2.1,(t36_1.2.1.2.2.2.2.2.2.1,(t36_1.2.1.2.2.2.2.2.2.2.1,(t39_2.1,t36_1.2.1.2.2.2.2.2.2.2.2.2)))))))))
           some (t10_3,(0:Int),())
          else
           (Qj t36_1.2.1.2.2.2.2.2.2.2.2.1).bind fun t39_3=>
           let t10_4:Zg:=(t36_1.2.1.1,(t36_1.2.1.2.1,(t36_1.2.1.2.2.1,(t36_1.2.1.2.2.2.1,(t36_1.2.1.2.2.2.2.1,(t36_1.2.1.2.2.2.2.2.1,(t36_1.2.1.2.2.2.2.2.2.1,(t36_1.2.1.2.2.2.2.2.2.2.1,(t39_3.1,t36_1.2.1.2.2.2.2.2.2.2.2.2)))))))))
           some (t10_4,(0:Int),())
       else
        (Xn out10_1 f1.2.1).bind fun t14_5=>
        Zi (0<=t14_5.1/\t14_5.1<out10_1.length)<|
        (Zd9 t17_1.2.1.1 f1.2.1).bind fun t13_5=>
        let t19_4:Bool:=t13_5.1|| (out10_1.getD t14_5.1.toNat Zh).2.2.2.2.2.2.2.2.2.2.2.2.2.1
        (bif t19_4 then some (false,())else(Zfr (out10_1.getD t14_5.1.toNat Zh))).bind fun t24_1=>
        bif t19_4|| (!t24_1.1)then
         some ((t17_1.2.1.1,(t17_1.2.1.2.1,(t17_1.2.1.2.2.1,(out10_1,(t17_1.2.1.2.2.2.2.1,(t25_1.1,t17_1.2.1.2.2.2.2.2.2)))))),(0:Int),())
        else
         let out10_4:List Zd:=out10_1.set t14_5.1.toNat ((out10_1.getD t14_5.1.toNat Zh).1,((out10_1.getD t14_5.1.toNat Zh).2.1,((out10_1.getD t14_5.1.toNat Zh).2.2.1,((out10_1.getD t14_5.1.toNat Zh).2.2.2.1,((out10_1.getD t14_5.1.toNat Zh).2.2.2.2.1,((out10_1.getD t14_5.1.toNat Zh).2.2.2.2.2.1,((out10_1.getD t14_5.1.toNat Zh).2.2.2.2.2.2.1,((out10_1.getD t14_5.1.toNat Zh).2.2.2.2.2.2.2.1,((out10_1.getD t14_5.1.toNat Zh).2.2.2.2.2.2.2.2.1,((out10_1.getD t14_5.1.toNat Zh).2.2.2.2.2.2.2.2.2.1,((out10_1.getD t14_5.1.toNat Zh).2.2.2.2.2.2.2.2.2.2.1,((out10_1.getD t14_5.1.toNat Zh).2.2.2.2.2.2.2.2.2.2.2.1,((out10_1.getD t14_5.1.toNat Zh).2.2.2.2.2.2.2.2.2.2.2.2.1,(true,(out10_1.getD t14_5.1.toNat Zh).2.2.2.2.2.2.2.2.2.2.2.2.2.2))))))))))))))
         Option.bind (Z3 (t17_1.2.1.1,(t17_1.2.1.2.1,(t17_1.2.1.2.2.1,(out10_4,(t17_1.2.1.2.2.2.2.1,(t25_1.1,t17_1.2.1.2.2.2.2.2.2)))))) f1.2.1) fun t33_6=>
         bif t33_6.1 then
          (Z3 t33_6.2.1 f1.2.1).bind fun t36_2=>
          bif t36_2.1 then
           (Qj t36_2.2.1.2.2.2.2.2.2.2.2.2.1).bind fun t39_4=>
           let t10_5:Zg:=(t36_2.2.1.1,(t36_2.2.1.2.1,(t36_2.2.1.2.2.1,(t36_2.2.1.2.2.2.1,(t36_2.2.1.2.2.2.2.1,(t36_2.2.1.2.2.2.2.2.1,(t36_2.2.1.2.2.2.2.2.2.1,(t36_2.2.1.2.2.2.2.2.2.2.1,(t36_2.2.1.2.2.2.2.2.2.2.2.1,(t39_4.1,t36_2.2.1.2.2.2.2.2.2.2.2.2.2))))))))))
           some (t10_5,(0:Int),())
          else
           (Qj t36_2.2.1.2.2.2.2.2.2.2.2.1).bind fun t39_5=>
           let t10_6:Zg:=(t36_2.2.1.1,(t36_2.2.1.2.1,(t36_2.2.1.2.2.1,(t36_2.2.1.2.2.2.1,(t36_2.2.1.2.2.2.2.1,(t36_2.2.1.2.2.2.2.2.1,(t36_2.2.1.2.2.2.2.2.2.1,(t36_2.2.1.2.2.2.2.2.2.2.1,(t36_2.2.1.2.2.2.2.2.2.2.2.1,(t39_5.1,t36_2.2.1.2.2.2.2.2.2.2.2.2.2))))))))))
           some (t10_6,(0:Int),())
         else
          (Z3 t33_6.2.1 f1.2.1).bind fun t36_3=>
          bif t36_3.1 then
           (Qj t36_3.2.1.2.2.2.2.2.2.2.2.2.1).bind fun t39_6=>
           let t10_7:Zg:=(t36_3.2.1.1,(t36_3.2.1.2.1,(t36_3.2.1.2.2.1,(t36_3.2.1.2.2.2.1,(t36_3.2.1.2.2.2.2.1,(t36_3.2.1.2.2.2.2.2.1,(t36_3.2.1.2.2.2.2.2.2.1,(t36_3.2.1.2.2.2.2.2.2.2.1,(t39_6.1,t36_3.2.1.2.2.2.2.2.2.2.2.2)))))))))
           some (t10_7,(0:Int),())
          else
           (Qj t36_3.2.1.2.2.2.2.2.2.2.2.1).bind fun t39_7=>
           let t10_8:Zg:=(t36_3.2.1.1,(t36_3.2.1.2.1,(t36_3.2.1.2.2.1,(t36_3.2.1.2.2.2.1,(t36_3.2.1.2.2.2.2.1,(t36_3.2.1.2.2.2.2.2.1,(t36_3.2.1.2.2.2.2.2.2.1,(t36_3.2.1.2.2.2.2.2.2.2.1,(t39_7.1,t36_3.2.1.2.2.2.2.2.2.2.2.2)))))))))
           some (t10_8,(0:Int),())
     )
abbrev Z3f:List PE:=[.box 2 65 (Vj) (.u false),.box 3 65 (Vj) (.u false),.val 5 (.int .i64) (.u false)]
def Zif(a2:Yj)(b3:Yj)(i5:Int):Nat:=((a2.2.2.2.1.length:Int)-i5).toNat+1
def Zen:Nat->Yj->Yj->Int->Option (Bool×Unit)|0,_,_,_=>none|N+1,a2,b3,i5=>bif decide (i5< (a2.2.2.2.1.length:Int))then Zi (0<=i5/\i5<a2.2.2.2.1.length)<|Zi (0<=i5/\i5<b3.2.2.2.1.length)<|bif(a2.2.2.2.1.getD i5.toNat (0:Int)) !=(b3.2.2.2.1.getD i5.toNat (0:Int))then some (false,()) else Zen N a2 b3 (IntKind.i64.wrap (i5+1)) else some (true,())
def Znx(a0:Yj)(b1:Yj):Option (Bool×Unit):=bif(((a0.1 !=b1.1)|| (a0.2.1 !=b1.2.1))|| (a0.2.2.1 !=b1.2.2.1))|| ((a0.2.2.2.1.length:Int) !=(b1.2.2.2.1.length:Int))then some (false,()) else Zen (Zif a0 b1 (0:Int)) a0 b1 (0:Int)
abbrev Z03:List PE:=[.val 0 (.slice 167 (Zw)) (.u false),.val 1 (.slice 167 (Zw)) (.u false),.val 5 (.int .i64) (.u false)]
def Zgr(a0_1:List Ze)(b1_1:List Ze)(i5:Int):Nat:=((a0_1.length:Int)-i5).toNat+1
def Zdf:Nat->List Ze->List Ze->Int->Option (Bool×Unit)|0,_,_,_=>none|N+1,a0_1,b1_1,i5=>bif decide (i5< (a0_1.length:Int))then Zi (0<=i5/\i5<a0_1.length)<|Zi (0<=i5/\i5<b1_1.length)<|bif !(eqV (Zw) (a0_1.getD i5.toNat Zy) (b1_1.getD i5.toNat Zy))then some (false,()) else Zdf N a0_1 b1_1 (IntKind.i64.wrap (i5+1)) else some (true,())
def Zdz(a0:List Ze)(b1:List Ze):Option (Bool×Unit):=bif(a0.length:Int) !=(b1.length:Int)then some (false,()) else Zdf (Zgr a0 b1 (0:Int)) a0 b1 (0:Int)
def Zk2(a0:Zo)(b1:Zo):Option (Bool×Unit):=
 (bif(a0.1==b1.1)then(Znx a0.2.1 b1.2.1)else some (false,())).bind fun t15=>
 (bif((a0.1==b1.1)&&t15.1)then(Zdz a0.2.2.1 b1.2.2.1)else some (false,())).bind fun t22=>
 let t23:Bool:=((a0.1==b1.1)&&t15.1)&&t22.1
 (bif t23 then(Zdz a0.2.2.2.1 b1.2.2.2.1)else some (false,())).bind fun t29=>
 (bif(t23&&t29.1)then(Zdz a0.2.2.2.2.1 b1.2.2.2.2.1)else some (false,())).bind fun t36=>
 some ((((((t23&&t29.1)&&t36.1)&& (a0.2.2.2.2.2.1==b1.2.2.2.2.2.1))&& (a0.2.2.2.2.2.2.1==b1.2.2.2.2.2.2.1))&& (a0.2.2.2.2.2.2.2.1==b1.2.2.2.2.2.2.2.1))&& (a0.2.2.2.2.2.2.2.2.1==b1.2.2.2.2.2.2.2.2.1),())
abbrev Zzs:List PE:=[.box 2 58 (Qw) (.u false),.box 3 58 (Qw) (.u false),.val 5 (.int .i64) (.u false)]
def Zfa(a2:Zq)(b3:Zq)(i5:Int):Nat:=((a2.2.1.length:Int)-i5).toNat+1
def Zcb:Nat->Zq->Zq->Int->Option (Bool×Unit)|0,_,_,_=>none|N+1,a2,b3,i5=>bif decide (i5< (a2.2.1.length:Int))then Zi (0<=i5/\i5<a2.2.1.length)<|Zi (0<=i5/\i5<b3.2.1.length)<|bif !(eqV (Zhj) (a2.2.1.getD i5.toNat Qc) (b3.2.1.getD i5.toNat Qc))then some (false,()) else Zcb N a2 b3 (IntKind.i64.wrap (i5+1)) else some (true,())
def Zk1(a0:Zq)(b1:Zq):Option (Bool×Unit):=bif(a0.1 !=b1.1)|| ((a0.2.1.length:Int) !=(b1.2.1.length:Int))then some (false,()) else Zcb (Zfa a0 b1 (0:Int)) a0 b1 (0:Int)
def Zhc(a0:Zr)(b1:Zr):Option (Bool×Unit):=(bif(a0.1==b1.1)then(Zk1 a0.2.1 b1.2.1)else some (false,())).bind fun t15=>some (((((a0.1==b1.1)&&t15.1)&& (a0.2.2.1==b1.2.2.1))&& (a0.2.2.2.1==b1.2.2.2.1))&& (a0.2.2.2.2.1==b1.2.2.2.2.1),())
def Zk3(a0:Zd)(b1:Zd):Option (Bool×Unit):=
 (bif(a0.1==b1.1)then(Zk2 a0.2.1 b1.2.1)else some (false,())).bind fun t15=>
 let t23:Bool:=((a0.1==b1.1)&&t15.1)&& (eqV (Qu) a0.2.2.1 b1.2.2.1)
 (bif t23 then(Zhc a0.2.2.2.1 b1.2.2.2.1)else some (false,())).bind fun t29=>
 some (((((((((((t23&&t29.1)&& (eqV (Yf) a0.2.2.2.2.1 b1.2.2.2.2.1))&& (eqV (Yz) a0.2.2.2.2.2.1 b1.2.2.2.2.2.1))&& (a0.2.2.2.2.2.2.1==b1.2.2.2.2.2.2.1))&& (a0.2.2.2.2.2.2.2.1==b1.2.2.2.2.2.2.2.1))&& (a0.2.2.2.2.2.2.2.2.1==b1.2.2.2.2.2.2.2.2.1))&& (a0.2.2.2.2.2.2.2.2.2.1==b1.2.2.2.2.2.2.2.2.2.1))&& (a0.2.2.2.2.2.2.2.2.2.2.1==b1.2.2.2.2.2.2.2.2.2.2.1))&& (a0.2.2.2.2.2.2.2.2.2.2.2.1==b1.2.2.2.2.2.2.2.2.2.2.2.1))&& (a0.2.2.2.2.2.2.2.2.2.2.2.2.1==b1.2.2.2.2.2.2.2.2.2.2.2.2.1))&& (a0.2.2.2.2.2.2.2.2.2.2.2.2.2.1==b1.2.2.2.2.2.2.2.2.2.2.2.2.2.1),())
abbrev Z04:List PE:=[.val 0 (.slice 72 (Zu)) (.u false),.val 1 (.slice 72 (Zu)) (.u false),.val 5 (.int .i64) (.u false)]
def Zgs(a0_1:List Zd)(b1_1:List Zd)(i5:Int):Nat:=((a0_1.length:Int)-i5).toNat+1
def Zdg:Nat->List Zd->List Zd->Int->Option (Bool×Unit)|0,_,_,_=>none|N+1,a0_1,b1_1,i5=>bif decide (i5< (a0_1.length:Int))then Zi (0<=i5/\i5<a0_1.length)<|Zi (0<=i5/\i5<b1_1.length)<|(Zk3 (a0_1.getD i5.toNat Zh) (b1_1.getD i5.toNat Zh)).bind fun t25=>bif !t25.1 then some (false,()) else Zdg N a0_1 b1_1 (IntKind.i64.wrap (i5+1)) else some (true,())
def Zmh(a0:List Zd)(b1:List Zd):Option (Bool×Unit):=bif(a0.length:Int) !=(b1.length:Int)then some (false,()) else Zdg (Zgs a0 b1 (0:Int)) a0 b1 (0:Int)
abbrev Zwj:List PE:=[.val 0 (.slice 130 (Y1)) (.u false),.val 1 (.slice 130 (Y1)) (.u false),.val 5 (.int .i64) (.u false),.val 6 (.int .i64) (.u false)]
def Wv(a0_2:List Z8)(b1_2:List Z8)(i5_1:Int)(k6:Int):Nat:=(((a0_2.getD i5_1.toNat Qg).2.1.length:Int)-k6).toNat+1
def Zai(K1: (List Z8×List Z8×Int×Unit)->Option (Bool×Unit)):Nat->List Z8->List Z8->Int->Int->Option (Bool×Unit)|0,_,_,_,_=>none|N+1,a0_2,b1_2,i5_1,k6=>Zi (0<=i5_1/\i5_1<a0_2.length)<|bif decide (k6< ((a0_2.getD i5_1.toNat Qg).2.1.length:Int))then Zi (0<=i5_1/\i5_1<a0_2.length)<|Zi (0<=k6/\k6< (a0_2.getD i5_1.toNat Qg).2.1.length)<|Zi (0<=i5_1/\i5_1<b1_2.length)<|Zi (0<=k6/\k6< (b1_2.getD i5_1.toNat Qg).2.1.length)<|bif !(eqV (Zx) ((a0_2.getD i5_1.toNat Qg).2.1.getD k6.toNat Zcj) ((b1_2.getD i5_1.toNat Qg).2.1.getD k6.toNat Zcj))then some (false,()) else Zai K1 N a0_2 b1_2 i5_1 (IntKind.i64.wrap (k6+1)) else K1 (a0_2,b1_2,IntKind.i64.wrap (i5_1+1),())
abbrev Zwi:List PE:=[.val 0 (.slice 130 (Y1)) (.u false),.val 1 (.slice 130 (Y1)) (.u false),.val 5 (.int .i64) (.u false)]
def Zdp(a0_1:List Z8)(b1_1:List Z8)(i5:Int):Nat:=((a0_1.length:Int)-i5).toNat+1
def Zah:Nat->List Z8->List Z8->Int->Option (Bool×Unit)
 |0,_,_,_=>none
 |N+1,a0_1,b1_1,i5=>
  bif decide (i5< (a0_1.length:Int))then
   Zi (0<=i5/\i5<a0_1.length)<|
   Zi (0<=i5/\i5<b1_1.length)<|
   let t28:Bool:=(a0_1.getD i5.toNat Qg).1 !=(b1_1.getD i5.toNat Qg).1
   Zi ((t28=false->(0<=i5/\i5<a0_1.length)))<|
   Zi ((t28=false->(0<=i5/\i5<b1_1.length)))<|
   bif t28|| (((a0_1.getD i5.toNat Qg).2.1.length:Int) !=((b1_1.getD i5.toNat Qg).2.1.length:Int))then
    some (false,())
   else
    Zai (fun v=>Zah N v.1 v.2.1 v.2.2.1) (Wv a0_1 b1_1 i5 (0:Int)) a0_1 b1_1 i5 (0:Int)
  else
   some (true,())
def Zhh(a0:List Z8)(b1:List Z8):Option (Bool×Unit):=bif(a0.length:Int) !=(b1.length:Int)then some (false,()) else Zah (Zdp a0 b1 (0:Int)) a0 b1 (0:Int)
def Ym(a0:Zg)(b1:Zg):Option (Bool×Unit):=
 let t23:Bool:=((a0.1==b1.1)&& (eqV (Zks) a0.2.1 b1.2.1))&& (eqV (Zks) a0.2.2.1 b1.2.2.1)
 (bif t23 then(Zmh a0.2.2.2.1 b1.2.2.2.1)else some (false,())).bind fun t29=>
 let t107:Bool:=(((((((((((t23&&t29.1)&& (eqV (Qu) a0.2.2.2.2.1 b1.2.2.2.2.1))&& (eqV (Yf) a0.2.2.2.2.2.1 b1.2.2.2.2.2.1))&& (eqV (Zcs) a0.2.2.2.2.2.2.1 b1.2.2.2.2.2.2.1))&& (eqV (Zcs) a0.2.2.2.2.2.2.2.1 b1.2.2.2.2.2.2.2.1))&& (eqV (Qu) a0.2.2.2.2.2.2.2.2.1 b1.2.2.2.2.2.2.2.2.1))&& (eqV (Qu) a0.2.2.2.2.2.2.2.2.2.1 b1.2.2.2.2.2.2.2.2.2.1))&& (a0.2.2.2.2.2.2.2.2.2.2.1==b1.2.2.2.2.2.2.2.2.2.2.1))&& (a0.2.2.2.2.2.2.2.2.2.2.2.1==b1.2.2.2.2.2.2.2.2.2.2.2.1))&& (a0.2.2.2.2.2.2.2.2.2.2.2.2.1==b1.2.2.2.2.2.2.2.2.2.2.2.2.1))&& (a0.2.2.2.2.2.2.2.2.2.2.2.2.2.1==b1.2.2.2.2.2.2.2.2.2.2.2.2.2.1))&& (a0.2.2.2.2.2.2.2.2.2.2.2.2.2.2.1==b1.2.2.2.2.2.2.2.2.2.2.2.2.2.2.1)
 (bif t107 then(Zhh a0.2.2.2.2.2.2.2.2.2.2.2.2.2.2.2.1 b1.2.2.2.2.2.2.2.2.2.2.2.2.2.2.2.1)else some (false,())).bind fun t113=>
 some (((t107&&t113.1)&& (a0.2.2.2.2.2.2.2.2.2.2.2.2.2.2.2.2.1==b1.2.2.2.2.2.2.2.2.2.2.2.2.2.2.2.2.1))&& (a0.2.2.2.2.2.2.2.2.2.2.2.2.2.2.2.2.2.1==b1.2.2.2.2.2.2.2.2.2.2.2.2.2.2.2.2.2.1),())
def Zg7(code0:List Int):Option ((Zg×Zl×Unit)×(Unit)):=(Zjo code0 (5:Int)).bind fun t8=>some ((t8.1.1,(t8.1.2.1,())),())
def Zwb(s0:Zo):Option (Bool×Unit):=(Zm6 s0).bind fun t4=>(bif t4.1 then(Z2 s0.1 (0:Int) (2:Int))else some (false,())).bind fun t8=>some (t4.1&&t8.1,())
abbrev Z0n:List PE:=[.val 1 (.int .i64) (.u false),.box 2 68 (Z4) (.u false),.box 4 68 (Z4) (.u true),.box 6 65 (Vj) (.p (.u false) (.p (.u false) (.p (.u false) (.p (.u true) (.u false)))))]
def Zmy(code1_1:Int)(s2:Zo)(t4:Zo)(r6:Yj):Option (Zo×Bool×Unit):=some (((4:Int),(r6,(([]:List Ze),(([]:List Ze),(([]:List Ze),(s2.2.2.2.2.2.2.2.1,((0:Int),(s2.2.2.2.2.2.2.2.1,(code1_1,()))))))))),true,())
def Zl9(s0:Zo)(code1:Int):Option (Zo×Bool×Unit):=(Zwb s0).bind fun t8=>(bif(!t8.1)then some (false,())else(Xd code1)).bind fun t12=>bif(!t8.1)|| (!t12.1)then (Zj0 s0).bind fun t16=>some (t16.1,false,()) else Zwo (Zi (0<=s0.2.1.1/\s0.2.1.1<=s0.2.1.1/\s0.2.1.1<=Qo)<|Zo3 1 (Zmy code1 s0 Zak (s0.2.1.1,(s0.2.2.2.2.2.2.2.1,(s0.2.2.2.2.2.2.2.1,(List.replicate s0.2.1.1.toNat (0:Int),())))))) (Zi (0<=s0.2.1.1/\s0.2.1.1<=s0.2.1.1/\s0.2.1.1<=Qo)<|Zmy code1 s0 Zak (s0.2.1.1,(s0.2.2.2.2.2.2.2.1,(s0.2.2.2.2.2.2.2.1,(List.replicate s0.2.1.1.toNat (0:Int),())))))
def Zjx(c0:Zg)(f1:Zl):Option (Zg×Int×Unit):=
 (Zaq c0).bind fun t13=>
 (bif(!t13.1)then some (false,())else(Zdl f1)).bind fun t17=>
 bif((!t13.1)|| (!t17.1))|| (!(f1.1==5))then
  (Qp c0).bind fun t25=>
  some (t25.1,(7:Int),())
 else
  (Qp c0).bind fun t27=>
  (Zlc t27.1.1 f1.2.1).bind fun t13_1=>
  bif !t13_1.1 then
   (Qp c0).bind fun t33=>
   some (t33.1,(5:Int),())
  else
   (Wi t27.1 f1.2.1).bind fun t17_1=>
   bif t17_1.1.1 !=0 then
    bif t17_1.1.1 !=0 then
     (Qp c0).bind fun t33_1=>
     some (t33_1.1,t17_1.1.1,())
    else
     some (t17_1.2.1,(0:Int),())
   else
    (Xn t17_1.2.1.2.2.2.1 f1.2.1).bind fun t14_2=>
    Zi (0<=t14_2.1/\t14_2.1<t17_1.2.1.2.2.2.1.length)<|
    Zo3 1 (
     (Zl9 (t17_1.2.1.2.2.2.1.getD t14_2.1.toNat Zh).2.1 f1.2.2.2.2.2.1).bind fun t26=>
     bif t26.2.1 then
      let out10:List Zd:=t17_1.2.1.2.2.2.1.set t14_2.1.toNat ((t17_1.2.1.2.2.2.1.getD t14_2.1.toNat Zh).1,(t26.1,(t17_1.2.1.2.2.2.1.getD t14_2.1.toNat Zh).2.2))
      let out10_1:List Zd:=out10.set t14_2.1.toNat ((out10.getD t14_2.1.toNat Zh).1,((out10.getD t14_2.1.toNat Zh).2.1,((out10.getD t14_2.1.toNat Zh).2.2.1,((out10.getD t14_2.1.toNat Zh).2.2.2.1,((out10.getD t14_2.1.toNat Zh).2.2.2.2.1,((out10.getD t14_2.1.toNat Zh).2.2.2.2.2.1,((out10.getD t14_2.1.toNat Zh).2.2.2.2.2.2.1,((out10.getD t14_2.1.toNat Zh).2.2.2.2.2.2.2.1,(true,(out10.getD t14_2.1.toNat Zh).2.2.2.2.2.2.2.2.2)))))))))
      (Xn out10_1 f1.2.1).bind fun t14_3=>
      Zi (0<=t14_3.1/\t14_3.1<out10_1.length)<|
      (Zd9 t17_1.2.1.1 f1.2.1).bind fun t13_3=>
      let t19_1:Bool:=t13_3.1|| (out10_1.getD t14_3.1.toNat Zh).2.2.2.2.2.2.2.2.2.2.2.2.2.1
      (bif t19_1 then some (false,())else(Zfr (out10_1.getD t14_3.1.toNat Zh))).bind fun t24=>
      bif t19_1|| (!t24.1)then
       some ((t17_1.2.1.1,(t17_1.2.1.2.1,(t17_1.2.1.2.2.1,(out10_1,t17_1.2.1.2.2.2.2)))),(0:Int),())
      else
       let out10_2:List Zd:=out10_1.set t14_3.1.toNat ((out10_1.getD t14_3.1.toNat Zh).1,((out10_1.getD t14_3.1.toNat Zh).2.1,((out10_1.getD t14_3.1.toNat Zh).2.2.1,((out10_1.getD t14_3.1.toNat Zh).2.2.2.1,((out10_1.getD t14_3.1.toNat Zh).2.2.2.2.1,((out10_1.getD t14_3.1.toNat Zh).2.2.2.2.2.1,((out10_1.getD t14_3.1.toNat Zh).2.2.2.2.2.2.1,((out10_1.getD t14_3.1.toNat Zh).2.2.2.2.2.2.2.1,((out10_1.getD t14_3.1.toNat Zh).2.2.2.2.2.2.2.2.1,((out10_1.getD t14_3.1.toNat Zh).2.2.2.2.2.2.2.2.2.1,((out10_1.getD t14_3.1.toNat Zh).2.2.2.2.2.2.2.2.2.2.1,((out10_1.getD t14_3.1.toNat Zh).2.2.2.2.2.2.2.2.2.2.2.1,((out10_1.getD t14_3.1.toNat Zh).2.2.2.2.2.2.2.2.2.2.2.2.1,(true,(out10_1.getD t14_3.1.toNat Zh).2.2.2.2.2.2.2.2.2.2.2.2.2.2))))))))))))))
       (Z3 (t17_1.2.1.1,(t17_1.2.1.2.1,(t17_1.2.1.2.2.1,(out10_2,t17_1.2.1.2.2.2.2)))) f1.2.1).bind fun t33_2=>
       bif t33_2.1 then
        (Z3 t33_2.2.1 f1.2.1).bind fun t36=>
        bif t36.1 then
         (Qj t36.2.1.2.2.2.2.2.2.2.2.2.1).bind fun t39=>
         let t10_1:Zg:=(t36.2.1.1,(t36.2.1.2.1,(t36.2.1.2.2.1,(t36.2.1.2.2.2.1,(t36.2.1.2.2.2.2.1,(t36.2.1.2.2.2.2.2.1,(t36.2.1.2.2.2.2.2.2.1,(t36.2.1.2.2.2.2.2.2.2.1,(t36.2.1.2.2.2.2.2.2.2.2.1,(t39.1,t36.2.1.2.2.2.2.2.2.2.2.2.2))))))))))
         some (t10_1,(0:Int),())
        else
         (Qj t36.2.1.2.2.2.2.2.2.2.2.1).bind fun t39_1=>
         let t10_2:Zg:=(t36.2.1.1,(t36.2.1.2.1,(t36.2.1.2.2.1,(t36.2.1.2.2.2.1,(t36.2.1.2.2.2.2.1,(t36.2.1.2.2.2.2.2.1,(t36.2.1.2.2.2.2.2.2.1,(t36.2.1.2.2.2.2.2.2.2.1,(t36.2.1.2.2.2.2.2.2.2.2.1,(t39_1.1,t36.2.1.2.2.2.2.2.2.2.2.2.2))))))))))
         some (t10_2,(0:Int),())
       else
        (Z3 t33_2.2.1 f1.2.1).bind fun t36_1=>
        bif t36_1.1 then
         (Qj t36_1.2.1.2.2.2.2.2.2.2.2.2.1).bind fun t39_2=>
         let t10_3:Zg:=(t36_1.2.1.1,(t36_1.2.1.2.1,(t36_1.2.1.2.2.1,(t36_1.2.1.2.2.2.1,(t36_1.2.1.2.2.2.2.1,(t36_1.2.1.2.2.2.2.2.1,(t36_1.2.1.2.2.2.2.2.2.1,(t36_1.2.1.2.2.2.2.2.2.2.1,(t39_2.1,t36_1.2.1.2.2.2.2.2.2.2.2.2)))))))))
         some (t10_3,(0:Int),())
        else
         (Qj t36_1.2.1.2.2.2.2.2.2.2.2.1).bind fun t39_3=>
         let t10_4:Zg:=(t36_1.2.1.1,(t36_1.2.1.2.1,(t36_1.2.1.2.2.1,(t36_1.2.1.2.2.2.1,(t36_1.2.1.2.2.2.2.1,(t36_1.2.1.2.2.2.2.2.1,(t36_1.2.1.2.2.2.2.2.2.1,(t36_1.2.1.2.2.2.2.2.2.2.1,(t39_3.1,t36_1.2.1.2.2.2.2.2.2.2.2.2)))))))))
         some (t10_4,(0:Int),())
     else
      (Xn t17_1.2.1.2.2.2.1 f1.2.1).bind fun t14_4=>
      Zi (0<=t14_4.1/\t14_4.1<t17_1.2.1.2.2.2.1.length)<|
      (Zd9 t17_1.2.1.1 f1.2.1).bind fun t13_4=>
      let t19_2:Bool:=t13_4.1|| (t17_1.2.1.2.2.2.1.getD t14_4.1.toNat Zh).2.2.2.2.2.2.2.2.2.2.2.2.2.1
      (bif t19_2 then some (false,())else(Zfr (t17_1.2.1.2.2.2.1.getD t14_4.1.toNat Zh))).bind fun t24_1=>
      bif t19_2|| (!t24_1.1)then
       some (t17_1.2.1,(0:Int),())
      else
       let out10_3:List Zd:=t17_1.2.1.2.2.2.1.set t14_4.1.toNat ((t17_1.2.1.2.2.2.1.getD t14_4.1.toNat Zh).1,((t17_1.2.1.2.2.2.1.getD t14_4.1.toNat Zh).2.1,((t17_1.2.1.2.2.2.1.getD t14_4.1.toNat Zh).2.2.1,((t17_1.2.1.2.2.2.1.getD t14_4.1.toNat Zh).2.2.2.1,((t17_1.2.1.2.2.2.1.getD t14_4.1.toNat Zh).2.2.2.2.1,((t17_1.2.1.2.2.2.1.getD t14_4.1.toNat Zh).2.2.2.2.2.1,((t17_1.2.1.2.2.2.1.getD t14_4.1.toNat Zh).2.2.2.2.2.2.1,((t17_1.2.1.2.2.2.1.getD t14_4.1.toNat Zh).2.2.2.2.2.2.2.1,((t17_1.2.1.2.2.2.1.getD t14_4.1.toNat Zh).2.2.2.2.2.2.2.2.1,((t17_1.2.1.2.2.2.1.getD t14_4.1.toNat Zh).2.2.2.2.2.2.2.2.2.1,((t17_1.2.1.2.2.2.1.getD t14_4.1.toNat Zh).2.2.2.2.2.2.2.2.2.2.1,((t17_1.2.1.2.2.2.1.getD t14_4.1.toNat Zh).2.2.2.2.2.2.2.2.2.2.2.1,((t17_1.2.1.2.2.2.1.getD t14_4.1.toNat Zh).2.2.2.2.2.2.2.2.2.2.2.2.1,(true,(t17_1.2.1.2.2.2.1.getD t14_4.1.toNat Zh).2.2.2.2.2.2.2.2.2.2.2.2.2.2))))))))))))))
       (Z3 (t17_1.2.1.1,(t17_1.2.1.2.1,(t17_1.2.1.2.2.1,(out10_3,t17_1.2.1.2.2.2.2)))) f1.2.1).bind fun t33_3=>
       bif t33_3.1 then
        (Z3 t33_3.2.1 f1.2.1).bind fun t36_2=>
        bif t36_2.1 then
         (Qj t36_2.2.1.2.2.2.2.2.2.2.2.2.1).bind fun t39_4=>
         let t10_5:Zg:=(t36_2.2.1.1,(t36_2.2.1.2.1,(t36_2.2.1.2.2.1,(t36_2.2.1.2.2.2.1,(t36_2.2.1.2.2.2.2.1,(t36_2.2.1.2.2.2.2.2.1,(t36_2.2.1.2.2.2.2.2.2.1,(t36_2.2.1.2.2.2.2.2.2.2.1,(t36_2.2.1.2.2.2.2.2.2.2.2.1,(t39_4.1,t36_2.2.1.2.2.2.2.2.2.2.2.2.2))))))))))
         some (t10_5,(0:Int),())
        else
         (Qj t36_2.2.1.2.2.2.2.2.2.2.2.1).bind fun t39_5=>
         let t10_6:Zg:=(t36_2.2.1.1,(t36_2.2.1.2.1,(t36_2.2.1.2.2.1,(t36_2.2.1.2.2.2.1,(t36_2.2.1.2.2.2.2.1,(t36_2.2.1.2.2.2.2.2.1,(t36_2.2.1.2.2.2.2.2.2.1,(t36_2.2.1.2.2.2.2.2.2.2.1,(t36_2.2.1.2.2.2.2.2.2.2.2.1,(t39_5.1,t36_2.2.1.2.2.2.2.2.2.2.2.2.2))))))))))
         some (t10_6,(0:Int),())
       else
        (Z3 t33_3.2.1 f1.2.1).bind fun t36_3=>
        bif t36_3.1 then
         (Qj t36_3.2.1.2.2.2.2.2.2.2.2.2.1).bind fun t39_6=>
         let t10_7:Zg:=(t36_3.2.1.1,(t36_3.2.1.2.1,(t36_3.2.1.2.2.1,(t36_3.2.1.2.2.2.1,(t36_3.2.1.2.2.2.2.1,(t36_3.2.1.2.2.2.2.2.1,(t36_3.2.1.2.2.2.2.2.2.1,(t36_3.2.1.2.2.2.2.2.2.2.1,(t39_6.1,t36_3.2.1.2.2.2.2.2.2.2.2.2)))))))))
         some (t10_7,(0:Int),())
        else
         (Qj t36_3.2.1.2.2.2.2.2.2.2.2.1).bind fun t39_7=>
         let t10_8:Zg:=(t36_3.2.1.1,(t36_3.2.1.2.1,(t36_3.2.1.2.2.1,(t36_3.2.1.2.2.2.1,(t36_3.2.1.2.2.2.2.1,(t36_3.2.1.2.2.2.2.2.1,(t36_3.2.1.2.2.2.2.2.2.1,(t36_3.2.1.2.2.2.2.2.2.2.1,(t39_7.1,t36_3.2.1.2.2.2.2.2.2.2.2.2)))))))))
         some (t10_8,(0:Int),())
    )
def Zf3(code0:List Int):Option ((Zg×Zl×Unit)×(Unit)):=(Zqt code0).bind fun t8=>(Ya t8.1 ([(16:Int),(17:Int),(18:Int),(20:Int),(21:Int),(22:Int)])).bind fun t13=>(Zjo code0 t13.1.1).bind fun t14=>some ((t14.1.1,(t14.1.2.1,())),())
def Zjz(c0:Q0)(limit1:Int):Option (Q0×Unit):=(Zm5 c0).bind fun t6=>bif(t6.1&& (decide (limit1>c0.1)))&& (decide (limit1<=(4611686018427387903:Int)))then some ((limit1,(c0.2.1,((-1:Int),c0.2.2.2))),()) else some (c0,())
def Zjc(c0:Zg)(uni1:Bool):Option ((Bool)×(Zg×Unit)):=bif uni1 then some (true,(c0,())) else some (false,(c0,()))
def Zjy(c0:Zbm)(limit1:Int):Option (Zbm×Unit):=(Zpa c0).bind fun t6=>bif(t6.1&& (decide (limit1>c0.1)))&& (decide (limit1<=(1152921504606846976:Int)))then some ((limit1,(c0.2.1,((-1:Int),c0.2.2.2))),()) else some (c0,())
def Zho(c0:Zg)(f1:Zl):Option (Zg×Int×Unit):=(Zaq c0).bind fun t13_1=>(bif(!t13_1.1)then some (false,())else(Zdl f1)).bind fun t17=>bif((!t13_1.1)|| (!t17.1))|| (!(((f1.1 !=8)&& (f1.1 !=4))&& (f1.1 !=5)))then (Qp c0).bind fun t25=>some (t25.1,(7:Int),()) else (Qp c0).bind fun t27=>bif f1.1==16 then (Zjz t27.1.2.2.2.2.1 f1.2.2.2.2.2.2.1).bind fun t18_2=>some ((t27.1.1,(t27.1.2.1,(t27.1.2.2.1,(t27.1.2.2.2.1,(t18_2.1,t27.1.2.2.2.2.2))))),(0:Int),()) else bif f1.1==18 then (Zjc t27.1 f1.2.2.2.2.2.2.2.2.1).bind fun t26=>bif t26.1 then (Zjy t26.2.1.2.2.2.2.2.2.2.1 f1.2.2.2.2.2.2.1).bind fun t33=>some ((t26.2.1.1,(t26.2.1.2.1,(t26.2.1.2.2.1,(t26.2.1.2.2.2.1,(t26.2.1.2.2.2.2.1,(t26.2.1.2.2.2.2.2.1,(t26.2.1.2.2.2.2.2.2.1,(t33.1,t26.2.1.2.2.2.2.2.2.2.2)))))))),(0:Int),()) else (Zjy t26.2.1.2.2.2.2.2.2.1 f1.2.2.2.2.2.2.1).bind fun t33_1=>some ((t26.2.1.1,(t26.2.1.2.1,(t26.2.1.2.2.1,(t26.2.1.2.2.2.1,(t26.2.1.2.2.2.2.1,(t26.2.1.2.2.2.2.2.1,(t33_1.1,t26.2.1.2.2.2.2.2.2.2))))))),(0:Int),()) else bif f1.1==17 then (Zlc t27.1.1 f1.2.1).bind fun t13_2=>bif !t13_2.1 then (Qp c0).bind fun t33_2=>some (t33_2.1,(5:Int),()) else (Wi t27.1 f1.2.1).bind fun t17_1=>bif t17_1.1.1 !=0 then bif t17_1.1.1 !=0 then (Qp c0).bind fun t33_3=>some (t33_3.1,t17_1.1.1,()) else some (t17_1.2.1,(0:Int),()) else (Xn t17_1.2.1.2.2.2.1 f1.2.1).bind fun t14_3=>Zi (0<=t14_3.1/\t14_3.1<t17_1.2.1.2.2.2.1.length)<|(Zjz (t17_1.2.1.2.2.2.1.getD t14_3.1.toNat Zh).2.2.1 f1.2.2.2.2.2.2.1).bind fun t55=>some ((t17_1.2.1.1,(t17_1.2.1.2.1,(t17_1.2.1.2.2.1,(t17_1.2.1.2.2.2.1.set t14_3.1.toNat ((t17_1.2.1.2.2.2.1.getD t14_3.1.toNat Zh).1,((t17_1.2.1.2.2.2.1.getD t14_3.1.toNat Zh).2.1,(t55.1,(t17_1.2.1.2.2.2.1.getD t14_3.1.toNat Zh).2.2.2))),t17_1.2.1.2.2.2.2)))),(0:Int),()) else bif f1.1==21 then (Zcm t27.1.1 f1.2.1).bind fun t13_3=>bif !t13_3.1 then (Qp c0).bind fun t33_4=>some (t33_4.1,(5:Int),()) else (Wi t27.1 f1.2.1).bind fun t17_2=>bif t17_2.1.1 !=0 then (Qp c0).bind fun t33_5=>some (t33_5.1,t17_2.1.1,()) else some (t17_2.2.1,(0:Int),()) else some (t27.1,(0:Int),())
def Zzu(c0:Qx):Option ((Zl×Unit)×(Qx×Unit)):=(Zmr c0).bind fun t5=>(Qm t5.2.1 (14:Int)).bind fun t7=>bif t7.1.1==0 then (Ya t7.2.1 ([(-1:Int),(0:Int),(6:Int),(9:Int),(19:Int),(24:Int)])).bind fun t12=>some (((t12.1.1,t5.1.1.2),()),(t12.2.1,())) else bif t7.1.1==1 then (Ya t7.2.1 ([(-1:Int),(1:Int),(1152921504606846976:Int),(1152921504606846977:Int),(4611686018427387903:Int),(4611686018427387904:Int)])).bind fun t18=>some (((t5.1.1.1,(t5.1.1.2.1,(t5.1.1.2.2.1,(t5.1.1.2.2.2.1,(t5.1.1.2.2.2.2.1,(t5.1.1.2.2.2.2.2.1,(t18.1.1,t5.1.1.2.2.2.2.2.2.2))))))),()),(t18.2.1,())) else bif t7.1.1==2 then (Ya t7.2.1 ([(-1:Int),(70:Int),(4611686018427387900:Int),(4611686018427387903:Int)])).bind fun t24=>some (((t5.1.1.1,(t5.1.1.2.1,(t24.1.1,t5.1.1.2.2.2))),()),(t24.2.1,())) else bif t7.1.1==3 then (Ya t7.2.1 ([(-1:Int),(64:Int),(4611686018427387903:Int),(4611686018427387904:Int)])).bind fun t30=>some (((t5.1.1.1,(t30.1.1,t5.1.1.2.2)),()),(t30.2.1,())) else some ((t5.1.1,()),(t7.2.1,()))
def Zf2(code0:List Int):Option ((Zg×Zl×Unit)×(Unit)):=(Zqt code0).bind fun t7=>(Zlz t7.1).bind fun t9=>(Zzu t9.2.1).bind fun t12=>some ((t9.1.1,(t12.1.1,())),())
def Zhn(c0:Zg)(f1:Zl):Option (Zg×Int×Unit):=bif f1.1==8 then (Zjw c0 f1).bind fun t12=>some (t12.1,t12.2.1,()) else bif f1.1==4 then (Zhp c0 f1).bind fun t19=>some (t19.1,t19.2.1,()) else bif f1.1==5 then (Zjx c0 f1).bind fun t26=>some (t26.1,t26.2.1,()) else (Zho c0 f1).bind fun t31=>some (t31.1,t31.2.1,())
def Ztz(c0:Zg)(f1:Zl):Option (Bool×Unit):=(Zhn c0 f1).bind fun t10=>some (t10.2.1 !=0,())
def Zpk(code0:List Int):Option (Bool×Unit):=
 (Qod code0).bind fun t34=>
 bif t34.1 then
  some (true,())
 else
  (Zg6 code0).bind fun t37=>
  (Zjw t37.1.1 t37.1.2.1).bind fun t43=>
  (Vv t37.1.1 t37.1.2.1).bind fun t49=>
  (Zf4 code0).bind fun t54=>
  (Zhp t54.1.1 t54.1.2.1).bind fun t60=>
  (Va t54.1.1 t54.1.2.1).bind fun t66=>
  (bif(t43.2.1 !=t49.1.2.1)then some (false,())else(Ym t43.1 t49.1.1)).bind fun t75=>
  let t82:Bool:=((t43.2.1 !=t49.1.2.1)|| (!t75.1))|| (t60.2.1 !=t66.1.2.1)
  (bif t82 then some (false,())else(Ym t60.1 t66.1.1)).bind fun t86=>
  (bif(t43.2.1 !=0)then(bif(t82|| (!t86.1))then some (false,())else(Ym t49.1.1 t37.1.1))else some (false,())).bind fun t95=>
  let t98:Bool:=(t82|| (!t86.1))|| ((t43.2.1 !=0)&& (!t95.1))
  (bif(t60.2.1 !=0)then(bif t98 then some (false,())else(Ym t66.1.1 t54.1.1))else some (false,())).bind fun t105=>
  let t108:Bool:=t98|| ((t60.2.1 !=0)&& (!t105.1))
  (bif(t43.2.1==0)then(bif t108 then some (false,())else(Zaq t49.1.1))else some (false,())).bind fun t114=>
  let t117:Bool:=t108|| ((t43.2.1==0)&& (!t114.1))
  (bif(t60.2.1==0)then(bif t117 then some (false,())else(Zaq t66.1.1))else some (false,())).bind fun t123=>
  bif t117|| ((t60.2.1==0)&& (!t123.1))then
   some (false,())
  else
   (Zg7 code0).bind fun t129=>
   (Zjx t129.1.1 t129.1.2.1).bind fun t135=>
   (Vw t129.1.1 t129.1.2.1).bind fun t141=>
   (Zf3 code0).bind fun t146=>
   (Zho t146.1.1 t146.1.2.1).bind fun t152=>
   (J9 t146.1.1 t146.1.2.1).bind fun t158=>
   (bif(t135.2.1 !=t141.1.2.1)then some (false,())else(Ym t135.1 t141.1.1)).bind fun t167=>
   let t174:Bool:=((t135.2.1 !=t141.1.2.1)|| (!t167.1))|| (t152.2.1 !=t158.2.1)
   (bif t174 then some (false,())else(Ym t152.1 t158.1)).bind fun t178=>
   (bif(t135.2.1==0)then(bif(t174|| (!t178.1))then some (false,())else(Zaq t141.1.1))else some (false,())).bind fun t186=>
   let t189:Bool:=(t174|| (!t178.1))|| ((t135.2.1==0)&& (!t186.1))
   (bif(t152.2.1==0)then(bif t189 then some (false,())else(Zaq t158.1))else some (false,())).bind fun t195=>
   bif t189|| ((t152.2.1==0)&& (!t195.1))then
    some (false,())
   else
    (Zf2 code0).bind fun t201=>
    (Zhn t201.1.1 t201.1.2.1).bind fun t207=>
    (J8 t201.1.1 t201.1.2.1).bind fun t213=>
    (bif(t207.2.1==t213.1.2.1)then(Ym t207.1 t213.1.1)else some (false,())).bind fun t222=>
    (bif(t207.2.1==0)then some (false,())else(bif((t207.2.1==t213.1.2.1)&&t222.1)then(Ym t207.1 t201.1.1)else some (false,()))).bind fun t230=>
    let t232:Bool:=((t207.2.1==t213.1.2.1)&&t222.1)&& ((t207.2.1==0)||t230.1)
    (bif t232 then(Ztz t201.1.1 t201.1.2.1)else some (false,())).bind fun t236=>
    some (t232&& (t236.1==(t213.1.2.1 !=0)),())
end Go.Proofs.YtmlpcjbkbnkajaaGreat
