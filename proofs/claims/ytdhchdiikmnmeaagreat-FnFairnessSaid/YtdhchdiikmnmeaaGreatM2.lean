/- FnFairness: what the functions that it reaches compute, as plain functions, part 2. No condition. -/
import Derived.Test.YtdhchdiikmnmeaaGreatM1
noncomputable section
namespace Go.Proofs.YtdhchdiikmnmeaaGreat
open Go.Am
set_option maxRecDepth 100000
set_option linter.unusedVariables false
abbrev Z1x:List PE:=[.box 2 37 (Zq) (.u false),.box 3 87 (Zu) (.u false),.box 4 37 (Zq) (.u true),.box 5 37 (Zq) (.u true),.val 6 (.int .i64) (.u false)]
def Zhq(c2:Ze)(f3:Zf)(t4:Ze)(out5:Ze)(i6:Int):Option (Ze×Unit):=
 (Zl5 c2).bind fun t15=>
 (bif(!t15.1)then some (false,())else(Zbg f3)).bind fun t19=>
 bif(!t15.1)|| (t19.1&& (decide (i6< (0:Int))))then
  some (out5,())
 else
  bif f3.1==16 then
   (Zif c2.2.2.2.2.2.1 c2.2.2.2.2.2.2.2.2.2.2.2.2.2.2.2.2.1 c2.2.1.2.2.2.2.2.2.2.1).bind fun t47=>
   some ((out5.1,(out5.2.1,(out5.2.2.1,(out5.2.2.2.1,(out5.2.2.2.2.1,(t47.1,(out5.2.2.2.2.2.2.1,(out5.2.2.2.2.2.2.2.1,(out5.2.2.2.2.2.2.2.2.1,(out5.2.2.2.2.2.2.2.2.2.1,(false,out5.2.2.2.2.2.2.2.2.2.2.2))))))))))),())
  else
   bif f3.1==18 then
    bif f3.2.2.2.2.2.2.2.2.1 then
     (Zgj c2.2.2.2.2.2.2.2.2.2.1).bind fun t59=>
     some ((out5.1,(out5.2.1,(out5.2.2.1,(out5.2.2.2.1,(out5.2.2.2.2.1,(out5.2.2.2.2.2.1,(out5.2.2.2.2.2.2.1,(out5.2.2.2.2.2.2.2.1,(out5.2.2.2.2.2.2.2.2.1,(t59.1,(out5.2.2.2.2.2.2.2.2.2.2.1,(out5.2.2.2.2.2.2.2.2.2.2.2.1,(false,out5.2.2.2.2.2.2.2.2.2.2.2.2.2))))))))))))),())
    else
     (Zgj c2.2.2.2.2.2.2.2.2.1).bind fun t67=>
     some ((out5.1,(out5.2.1,(out5.2.2.1,(out5.2.2.2.1,(out5.2.2.2.2.1,(out5.2.2.2.2.2.1,(out5.2.2.2.2.2.2.1,(out5.2.2.2.2.2.2.2.1,(t67.1,(out5.2.2.2.2.2.2.2.2.2.1,(out5.2.2.2.2.2.2.2.2.2.2.1,(false,out5.2.2.2.2.2.2.2.2.2.2.2.2)))))))))))),())
   else
    bif f3.1==20 then
     (Zlm c2.2.2.2.2.1).bind fun t76=>
     some ((out5.1,(out5.2.1,(out5.2.2.1,(out5.2.2.2.1,(t76.1,out5.2.2.2.2.2))))),())
    else
     bif f3.1==22 then
      (Zo6 out5 f3.2.2.2.2.2.2.2.2.1).bind fun t82=>
      bif t82.1 then
       some ((t82.2.1.1,(t82.2.1.2.1,(t82.2.1.2.2.1,(t82.2.1.2.2.2.1,(t82.2.1.2.2.2.2.1,(t82.2.1.2.2.2.2.2.1,(t82.2.1.2.2.2.2.2.2.1,((t82.2.1.2.2.2.2.2.2.2.1.1,(t82.2.1.2.2.2.2.2.2.2.1.2.1,((-1:Int),t82.2.1.2.2.2.2.2.2.2.1.2.2.2))),t82.2.1.2.2.2.2.2.2.2.2)))))))),())
      else
       some ((t82.2.1.1,(t82.2.1.2.1,(t82.2.1.2.2.1,(t82.2.1.2.2.2.1,(t82.2.1.2.2.2.2.1,(t82.2.1.2.2.2.2.2.1,((t82.2.1.2.2.2.2.2.2.1.1,(t82.2.1.2.2.2.2.2.2.1.2.1,((-1:Int),t82.2.1.2.2.2.2.2.2.1.2.2.2))),t82.2.1.2.2.2.2.2.2.2))))))),())
     else
      (Zbg f3).bind fun t29=>
      bif t29.1 then
       Zi (0<=i6/\i6<out5.2.2.2.1.length)<|
       bif f3.1==4 then
        some ((out5.1,(out5.2.1,(out5.2.2.1,(out5.2.2.2.1.set i6.toNat ((out5.2.2.2.1.getD i6.toNat Zn).1,((out5.2.2.2.1.getD i6.toNat Zn).2.1,((out5.2.2.2.1.getD i6.toNat Zn).2.2.1,((out5.2.2.2.1.getD i6.toNat Zn).2.2.2.1,((out5.2.2.2.1.getD i6.toNat Zn).2.2.2.2.1,((out5.2.2.2.1.getD i6.toNat Zn).2.2.2.2.2.1,((out5.2.2.2.1.getD i6.toNat Zn).2.2.2.2.2.2.1,((out5.2.2.2.1.getD i6.toNat Zn).2.2.2.2.2.2.2.1,(false,(out5.2.2.2.1.getD i6.toNat Zn).2.2.2.2.2.2.2.2.2))))))))),out5.2.2.2.2)))),())
       else
        bif f3.1==5 then
         some ((out5.1,(out5.2.1,(out5.2.2.1,(out5.2.2.2.1.set i6.toNat ((out5.2.2.2.1.getD i6.toNat Zn).1,((out5.2.2.2.1.getD i6.toNat Zn).2.1,((out5.2.2.2.1.getD i6.toNat Zn).2.2.1,((out5.2.2.2.1.getD i6.toNat Zn).2.2.2.1,((out5.2.2.2.1.getD i6.toNat Zn).2.2.2.2.1,((out5.2.2.2.1.getD i6.toNat Zn).2.2.2.2.2.1,((out5.2.2.2.1.getD i6.toNat Zn).2.2.2.2.2.2.1,((out5.2.2.2.1.getD i6.toNat Zn).2.2.2.2.2.2.2.1,((out5.2.2.2.1.getD i6.toNat Zn).2.2.2.2.2.2.2.2.1,(false,(out5.2.2.2.1.getD i6.toNat Zn).2.2.2.2.2.2.2.2.2.2)))))))))),out5.2.2.2.2)))),())
        else
         bif f3.1==17 then
          (Zif (out5.2.2.2.1.getD i6.toNat Zn).2.2.2.2.1 out5.2.2.2.2.2.2.2.2.2.2.2.2.2.2.2.2.1 out5.2.1.2.2.2.2.2.2.2.1).bind fun t34=>
          Qf (
           Q3 1 (
            let out5_3:List Zh:=out5.2.2.2.1.set i6.toNat ((out5.2.2.2.1.getD i6.toNat Zn).1,((out5.2.2.2.1.getD i6.toNat Zn).2.1,((out5.2.2.2.1.getD i6.toNat Zn).2.2.1,((out5.2.2.2.1.getD i6.toNat Zn).2.2.2.1,(t34.1,(out5.2.2.2.1.getD i6.toNat Zn).2.2.2.2.2)))))
            let out5_4:List Zh:=out5_3.set i6.toNat ((out5_3.getD i6.toNat Zn).1,((out5_3.getD i6.toNat Zn).2.1,((out5_3.getD i6.toNat Zn).2.2.1,((out5_3.getD i6.toNat Zn).2.2.2.1,((out5_3.getD i6.toNat Zn).2.2.2.2.1,((out5_3.getD i6.toNat Zn).2.2.2.2.2.1,((out5_3.getD i6.toNat Zn).2.2.2.2.2.2.1,((out5_3.getD i6.toNat Zn).2.2.2.2.2.2.2.1,((out5_3.getD i6.toNat Zn).2.2.2.2.2.2.2.2.1,((out5_3.getD i6.toNat Zn).2.2.2.2.2.2.2.2.2.1,(false,(out5_3.getD i6.toNat Zn).2.2.2.2.2.2.2.2.2.2.2)))))))))))
            some ((out5.1,(out5.2.1,(out5.2.2.1,(out5_4,out5.2.2.2.2)))),())
           )
          ) (
           let out5_3:List Zh:=out5.2.2.2.1.set i6.toNat ((out5.2.2.2.1.getD i6.toNat Zn).1,((out5.2.2.2.1.getD i6.toNat Zn).2.1,((out5.2.2.2.1.getD i6.toNat Zn).2.2.1,((out5.2.2.2.1.getD i6.toNat Zn).2.2.2.1,(t34.1,(out5.2.2.2.1.getD i6.toNat Zn).2.2.2.2.2)))))
           let out5_4:List Zh:=out5_3.set i6.toNat ((out5_3.getD i6.toNat Zn).1,((out5_3.getD i6.toNat Zn).2.1,((out5_3.getD i6.toNat Zn).2.2.1,((out5_3.getD i6.toNat Zn).2.2.2.1,((out5_3.getD i6.toNat Zn).2.2.2.2.1,((out5_3.getD i6.toNat Zn).2.2.2.2.2.1,((out5_3.getD i6.toNat Zn).2.2.2.2.2.2.1,((out5_3.getD i6.toNat Zn).2.2.2.2.2.2.2.1,((out5_3.getD i6.toNat Zn).2.2.2.2.2.2.2.2.1,((out5_3.getD i6.toNat Zn).2.2.2.2.2.2.2.2.2.1,(false,(out5_3.getD i6.toNat Zn).2.2.2.2.2.2.2.2.2.2.2)))))))))))
           some ((out5.1,(out5.2.1,(out5.2.2.1,(out5_4,out5.2.2.2.2)))),())
          )
         else
          bif f3.1==21 then
           (Zlm (out5.2.2.2.1.getD i6.toNat Zn).2.2.1).bind fun t49=>
           some ((out5.1,(out5.2.1,(out5.2.2.1,(out5.2.2.2.1.set i6.toNat ((out5.2.2.2.1.getD i6.toNat Zn).1,((out5.2.2.2.1.getD i6.toNat Zn).2.1,(t49.1,(out5.2.2.2.1.getD i6.toNat Zn).2.2.2))),out5.2.2.2.2)))),())
          else
           some (out5,())
      else
       some (out5,())
def Zm0(c0:Ze)(f1:Zf):Option (Ze×Unit):=Qf ((Zb2 c0).bind fun t8_1=>Q3 1 ((Jx c0.2.2.2.1 f1.2.1).bind fun t13_1=>Zhq c0 f1 Ji t8_1.1 t13_1.1)) ((Zb2 c0).bind fun t8_1=>(Jx c0.2.2.2.1 f1.2.1).bind fun t13_1=>Zhq c0 f1 Ji t8_1.1 t13_1.1)
abbrev Zvw:List PE:=[.val 0 (.slice 3 (.int .i64)) (.u false),.val 1 (.int .i64) (.u false),.val 7 (.int .i64) (.u false),.val 8 (.int .i64) (.u false)]
def Vn(s0_1:List Int)(v1_1:Int)(t7_1:Int)(t8:Int):Nat:=(t7_1-t8).toNat+1
def V3:Nat->List Int->Int->Int->Int->Option (Int×Unit)|0,_,_,_,_=>none|N+1,s0_1,v1_1,t7_1,t8=>bif decide (t8<t7_1)then Zi (0<=t8/\t8<s0_1.length)<|bif v1_1==(s0_1.getD t8.toNat (0:Int))then some (t8,()) else V3 N s0_1 v1_1 t7_1 (IntKind.i64.wrap (t8+1)) else some ((-1:Int),())
def Zmj(s0:List Int)(v1:Int):Option (Int×Unit):=V3 (Vn s0 v1 (s0.length:Int) (0:Int)) s0 v1 (s0.length:Int) (0:Int)
def Zdg(s0:List Int)(v1:Int):Option (Bool×Unit):=(Zmj s0 v1).bind fun t7=>some (decide (t7.1>=(0:Int)),())
abbrev Qei:List PE:=[.val 1 (.slice 3 (.int .i64)) (.u false),.val 5 (.slice 153 (Z7)) (.u true),.val 11 (.slice 75 (Zy)) (.u false),.val 12 (.int .i64) (.u false),.val 13 (.int .i64) (.u false)]
def Zgz(skipped1_1:List Int)(out5:List Zk)(t11:List Zh)(t12_1:Int)(t13:Int):Nat:=(t12_1-t13).toNat+1
def Zgk:Nat->List Int->List Zk->List Zh->Int->Int->Option (List Zk×Unit)
 |0,_,_,_,_,_=>none
 |N+1,skipped1_1,out5,t11,t12_1,t13=>
  bif decide (t13<t12_1)then
   Zi (0<=t13/\t13<t11.length)<|
   (bif(t11.getD t13.toNat Zn).2.2.2.2.2.2.1 then(Zz (t11.getD t13.toNat Zn).2.1.1 (0:Int) (2:Int))else some (false,())).bind fun t23=>
   let t37:Bool:=((t11.getD t13.toNat Zn).2.2.2.2.2.2.1&&t23.1)&& ((decide (((t11.getD t13.toNat Zn).2.1.2.2.1.length:Int)>(0:Int)))|| ((t11.getD t13.toNat Zn).2.1.2.2.2.2.2.2.1==1))
   (bif t37 then(Zdg skipped1_1 (t11.getD t13.toNat Zn).1)else some (false,())).bind fun t43=>
   bif t37&& (!t43.1)then
    let t52:List Zk:=[((t11.getD t13.toNat Zn).1,((t11.getD t13.toNat Zn).2.2.2.2.2.1,()))]
    Zi (out5.length+t52.length<=Qg)<|
    Zgk N skipped1_1 (out5++t52) t11 t12_1 (IntKind.i64.wrap (t13+1))
   else
    Zgk N skipped1_1 out5 t11 t12_1 (IntKind.i64.wrap (t13+1))
  else
   some (out5,())
def Zt3(c0:Ze)(skipped1:List Int):Option (List Zk×Unit):=Zgk (Zgz skipped1 ([]:List Zk) c0.2.2.2.1 (c0.2.2.2.1.length:Int) (0:Int)) skipped1 ([]:List Zk) c0.2.2.2.1 (c0.2.2.2.1.length:Int) (0:Int)
abbrev Zx4:List PE:=[.val 0 (.slice 153 (Z7)) (.u false),.val 5 (.slice 153 (Z7)) (.u false),.val 6 (.int .i64) (.u false),.val 7 (.int .i64) (.u false)]
def Wm(l0_1:List Zk)(t5:List Zk)(t6_1:Int)(t7:Int):Nat:=(t6_1-t7).toNat+1
def Ve:Nat->List Zk->List Zk->Int->Int->Option (Bool×Unit)|0,_,_,_,_=>none|N+1,l0_1,t5,t6_1,t7=>bif decide (t7<t6_1)then Zi (0<=t7/\t7<t5.length)<|(Xo (t5.getD t7.toNat Z5).1).bind fun t14=>(bif(!t14.1)then some (false,())else(Zj2 (t5.getD t7.toNat Z5).2.1)).bind fun t19=>Zi ((((!t14.1)|| (!t19.1))=false->((decide (t7>(0:Int)))=true->(0<=(IntKind.i64.wrap (t7-1))/\(IntKind.i64.wrap (t7-1))<l0_1.length))))<|bif((!t14.1)|| (!t19.1))|| ((decide (t7>(0:Int)))&& (decide ((l0_1.getD (IntKind.i64.wrap (t7-1)).toNat Z5).1>=(t5.getD t7.toNat Z5).1)))then some (false,()) else Ve N l0_1 t5 t6_1 (IntKind.i64.wrap (t7+1)) else some (true,())
def Zfb(l0:List Zk):Option (Bool×Unit):=Ve (Wm l0 l0 (l0.length:Int) (0:Int)) l0 l0 (l0.length:Int) (0:Int)
abbrev Qh8:List PE:=[.val 3 (.int .i64) (.u false),.val 4 (.slice 153 (Z7)) (.u true),.val 22 (.slice 153 (Z7)) (.u false),.val 23 (.int .i64) (.u false),.val 24 (.int .i64) (.u false)]
def Zd5(least3_1:Int)(out4_1:List Zk)(t22:List Zk)(t23_1:Int)(t24:Int):Nat:=(t23_1-t24).toNat+1
def Zch:Nat->Int->List Zk->List Zk->Int->Int->Option (List Zk×Unit)|0,_,_,_,_,_=>none|N+1,least3_1,out4_1,t22,t23_1,t24=>bif decide (t24<t23_1)then Zi (0<=t24/\t24<t22.length)<|bif(t22.getD t24.toNat Z5).2.1.1==least3_1 then Zi (out4_1.length+ ([(t22.getD t24.toNat Z5)]).length<=Qg)<|Zch N least3_1 (out4_1++ ([(t22.getD t24.toNat Z5)])) t22 t23_1 (IntKind.i64.wrap (t24+1)) else Zch N least3_1 out4_1 t22 t23_1 (IntKind.i64.wrap (t24+1)) else some (out4_1,())
abbrev Qh7:List PE:=[.val 0 (.slice 153 (Z7)) (.u false),.val 3 (.int .i64) (.u false),.val 4 (.slice 153 (Z7)) (.u true),.val 10 (.slice 153 (Z7)) (.u false),.val 11 (.int .i64) (.u false),.val 12 (.int .i64) (.u false)]
def Zhr(l0_1:List Zk)(least3:Int)(out4:List Zk)(t10:List Zk)(t11_1:Int)(t12:Int):Nat:=(t11_1-t12).toNat+1
def Zij:Nat->List Zk->Int->List Zk->List Zk->Int->Int->Option (List Zk×Unit)|0,_,_,_,_,_,_=>none|N+1,l0_1,least3,out4,t10,t11_1,t12=>bif decide (t12<t11_1)then Zi (0<=t12/\t12<t10.length)<|Zij N l0_1 (min least3 (t10.getD t12.toNat Z5).2.1.1) out4 t10 t11_1 (IntKind.i64.wrap (t12+1)) else Zch (Zd5 least3 out4 l0_1 (l0_1.length:Int) (0:Int)) least3 out4 l0_1 (l0_1.length:Int) (0:Int)
def Zv9(l0:List Zk):Option (List Zk×Unit):=Zij (Zhr l0 (7:Int) ([]:List Zk) l0 (l0.length:Int) (0:Int)) l0 (7:Int) ([]:List Zk) l0 (l0.length:Int) (0:Int)
abbrev Z69:List PE:=[.val 0 (.slice 153 (Z7)) (.u false),.val 1 (.int .i64) (.u false),.val 15 (.slice 153 (Z7)) (.u false),.val 16 (.int .i64) (.u false),.val 17 (.int .i64) (.u false)]
def Zee(l0_1:List Zk)(last1_1:Int)(t15:List Zk)(t16_1:Int)(t17:Int):Nat:=(t16_1-t17).toNat+1
def Zdb:Nat->List Zk->Int->List Zk->Int->Int->Option (Int×Unit)|0,_,_,_,_,_=>none|N+1,l0_1,last1_1,t15,t16_1,t17=>bif decide (t17<t16_1)then Zi (0<=t17/\t17<t15.length)<|bif decide ((t15.getD t17.toNat Z5).1>last1_1)then some ((t15.getD t17.toNat Z5).1,()) else Zdb N l0_1 last1_1 t15 t16_1 (IntKind.i64.wrap (t17+1)) else Zi (0<=(0:Int)/\(0:Int)<l0_1.length)<|some ((l0_1.getD (0:Int).toNat Z5).1,())
def Zp4(l0:List Zk)(last1:Int):Option (Int×Unit):=(bif((l0.length:Int)==(0:Int))then some (false,())else(Zfb l0)).bind fun t12=>bif((l0.length:Int)==(0:Int))|| (!t12.1)then some ((-1:Int),()) else Zdb (Zee l0 last1 l0 (l0.length:Int) (0:Int)) l0 last1 l0 (l0.length:Int) (0:Int)
abbrev Z31:List PE:=[.val 1 (.int .i64) (.u false),.val 5 (.slice 153 (Z7)) (.u true),.bor 18 5 [],.val 19 (.int .i64) (.u false),.val 20 (.int .i64) (.u false)]
def Zda(last1_1:Int)(first5:List Zk)(t19_1:Int)(t20:Int):Nat:=(t19_1-t20).toNat+1
def Zbh:Nat->Int->List Zk->Int->Int->Option (Int×Unit)|0,_,_,_,_=>none|N+1,last1_1,first5,t19_1,t20=>bif decide (t20<t19_1)then Zi (0<=t20/\t20<first5.length)<|bif !(first5.getD t20.toNat Z5).2.1.2.1 then some ((first5.getD t20.toNat Z5).1,()) else Zbh N last1_1 first5 t19_1 (IntKind.i64.wrap (t20+1)) else (Zp4 first5 last1_1).bind fun t33=>some (t33.1,())
def Zok(l0:List Zk)(last1:Int):Option (Int×Unit):=(bif((l0.length:Int)==(0:Int))then some (false,())else(Zfb l0)).bind fun t13=>bif((l0.length:Int)==(0:Int))|| (!t13.1)then some ((-1:Int),()) else (Zv9 l0).bind fun t17=>Zbh (Zda last1 t17.1 (t17.1.length:Int) (0:Int)) last1 t17.1 (t17.1.length:Int) (0:Int)
def Zj1(c0:Qr):Option (Int×Unit):=(Zb0 c0).bind fun t4=>bif !t4.1 then some ((0:Int),()) else some (IntKind.i64.wrap (c0.1-c0.2.1),())
def Zn0(s0:Zo):Option (Bool×Unit):=(Znx s0).bind fun t4=>(bif t4.1 then(Zz s0.1 (0:Int) (2:Int))else some (false,())).bind fun t8=>some (t4.1&&t8.1,())
abbrev Qam:List PE:=[.val 1 (.int .i64) (.u false),.box 3 63 (W8) (.u false),.val 8 (.slice 5 (.int .u8)) (.u true),.val 35 (.int .i64) (.u false),.val 36 (.int .i64) (.u false)]
def Zk7(offset1_1:Int)(r3:Xz)(out8:List Int)(t35:Int)(t36:Int):Nat:=(t35-t36).toNat+1
def Zie:Nat->Int->Xz->List Int->Int->Int->Option (List UInt8×Bool×Unit)
 |0,_,_,_,_,_=>none
 |N+1,offset1_1,r3,out8,t35,t36=>
  bif decide (t36<t35)then
   Zi (r3.1≠0)<|
   let t47:Int:=Int.tmod (IntKind.i64.wrap (offset1_1+t36)) r3.1
   Zi (0<=t47/\t47<r3.2.2.2.1.length)<|
   let t51:List Int:=[(IntKind.u8.wrap (r3.2.2.2.1.getD t47.toNat (0:Int)))]
   Zi (out8.length+t51.length<=Qg)<|
   Zie N offset1_1 r3 (out8++t51) t35 (IntKind.i64.wrap (t36+1))
  else
   some (Jd out8,true,())
def Zks(r0:Xz)(offset1:Int)(n2:Int):Option (List UInt8×Bool×Unit):=
 (Zph r0).bind fun t11=>
 let t16:Bool:=(!t11.1)|| (decide (n2< (0:Int)))
 (bif t16 then some (false,())else(Zz offset1 r0.2.1 r0.2.2.1)).bind fun t23=>
 bif(t16|| (!t23.1))|| (decide (n2>(IntKind.i64.wrap (r0.2.2.1-offset1))))then
  some (([]:List UInt8),false,())
 else
  Zie (Zk7 offset1 r0 ([]:List Int) n2 (0:Int)) offset1 r0 ([]:List Int) n2 (0:Int)
abbrev Z68:List PE:=[.box 3 66 (Z0) (.u false),.box 6 107 (Y9) (.u false),.box 8 200 (Zt) (.u false),.val 9 (.int .i64) (.u false)]
def Zgx(s3:Zo)(t6:Z9)(r8:Zc)(n9:Int):Option (Z9×Bool×Unit):=bif decide (n9<=(0:Int))then some (Zc2,false,()) else (Zks s3.2.1 r8.1 n9).bind fun t70=>some ((r8.1,(t70.1,((s3.2.2.2.2.2.2.1==1)&& ((IntKind.i64.wrap (r8.1+n9))==s3.2.2.2.2.2.1),()))),true,())
def Zp3(s0:Zo)(most1:Int)(limit2:Int):Option (Z9×Bool×Unit):=
 (Zn0 s0).bind fun t13=>
 bif !t13.1 then
  some (Zc2,false,())
 else
  bif(s0.2.2.1.length:Int)==(0:Int)then
   (Zmb (s0.2.2.2.2.2.2.1==1)).bind fun t26=>
   some ((IntKind.i64.wrap ((max s0.2.2.2.2.2.1 (0:Int))*t26.1),(([]:List UInt8),(s0.2.2.2.2.2.2.1==1,()))),s0.2.2.2.2.2.2.1==1,())
  else
   Zi (0<=(0:Int)/\(0:Int)<s0.2.2.1.length)<|
   let t45:Int:=min (IntKind.i64.wrap ((s0.2.2.1.getD (0:Int).toNat Zw).2.1- (s0.2.2.1.getD (0:Int).toNat Zw).1)) most1
   bif decide (limit2<=(s0.2.2.1.getD (0:Int).toNat Zw).1)then
    some (Zc2,false,())
   else
    bif decide (limit2< (IntKind.i64.wrap ((s0.2.2.1.getD (0:Int).toNat Zw).1+t45)))then
     Zgx s0 Zc2 (s0.2.2.1.getD (0:Int).toNat Zw) (IntKind.i64.wrap (limit2- (s0.2.2.1.getD (0:Int).toNat Zw).1))
    else
     Zgx s0 Zc2 (s0.2.2.1.getD (0:Int).toNat Zw) t45
def Zgi(id0:Int)(p1:Z9):Option (Zf×Unit):=some (((8:Int),(id0,(p1.1,(p1.2.1,(p1.2.2.1,((0:Int),((0:Int),((0:Int),(false,()))))))))),())
abbrev Qan:List PE:=[.val 1 (.int .i64) (.u false),.val 2 (.int .i64) (.u false),.box 6 107 (Y9) (.u false),.box 9 75 (Zy) (.u false),.val 10 (.int .i64) (.u false),.val 11 (.int .i64) (.u false)]
def Zk8(id1_1:Int)(room2_1:Int)(t6:Z9)(s9:Zh)(limit10:Int)(most11:Int):Nat:=(most11-1).toNat+2
def Zev:Nat->Int->Int->Z9->Zh->Int->Int->Option (Z9×Bool×Unit)|0,_,_,_,_,_,_=>none|N+1,id1_1,room2_1,t6,s9,limit10,most11=>bif decide (most11>=(1:Int))then (Zp3 s9.2.1 most11 limit10).bind fun t66=>(bif t66.2.1 then(Zgi id1_1 t66.1)else some (Qq,())).bind fun t73=>(bif t66.2.1 then(Zia t73.1)else some ((0:Int),())).bind fun t74=>(bif t66.2.1 then(Zz t74.1 (1:Int) room2_1)else some (false,())).bind fun t76=>bif t66.2.1&&t76.1 then some (t66.1,true,()) else Zev N id1_1 room2_1 t6 s9 limit10 (IntKind.i64.wrap (most11-1)) else some (Zc2,false,())
def Zr1(c0:Ze)(id1:Int)(room2:Int):Option (Z9×Bool×Unit):=
 (Jx c0.2.2.2.1 id1).bind fun t17=>
 (Zl5 c0).bind fun t19=>
 let t24:Bool:=(!t19.1)|| (decide (t17.1< (0:Int)))
 Zi ((t24=false->(0<=t17.1/\t17.1<c0.2.2.2.1.length)))<|
 bif(t24|| (!(c0.2.2.2.1.getD t17.1.toNat Zn).2.2.2.2.2.2.1))|| (decide (room2< (3:Int)))then
  some (Zc2,false,())
 else
  Zi (0<=t17.1/\t17.1<c0.2.2.2.1.length)<|
  (Zj1 c0.2.2.2.2.1).bind fun t52=>
  let t54:Int:=min (c0.2.2.2.1.getD t17.1.toNat Zn).2.2.1.1 (IntKind.i64.wrap ((c0.2.2.2.1.getD t17.1.toNat Zn).2.1.2.2.2.2.2.2.2.1+t52.1))
  Zev (Zk8 id1 room2 Zc2 (c0.2.2.2.1.getD t17.1.toNat Zn) t54 (min (60:Int) room2)) id1 room2 Zc2 (c0.2.2.2.1.getD t17.1.toNat Zn) t54 (min (60:Int) room2)
def Zm1(c0:Qr):Option (Qr×Unit):=(Zb0 c0).bind fun t4=>bif((t4.1&& (c0.2.1==c0.1))&& (c0.2.2.1==(-1:Int)))&& (c0.2.2.2.1 !=c0.1)then some ((c0.1,(c0.2.1,(c0.1,c0.2.2.2))),()) else some (c0,())
def Zr6(s0:Zo)(p1:Z9):Option (Bool×Unit):=bif((decide (p1.1< (0:Int)))|| (decide (p1.1>s0.2.1.2.2.1)))|| (decide ((p1.2.1.length:Int)>(IntKind.i64.wrap (s0.2.1.2.2.1-p1.1))))then some (false,()) else some ((!p1.2.2.1)|| ((IntKind.i64.wrap (p1.1+ (p1.2.1.length:Int)))==s0.2.2.2.2.2.1),())
abbrev Zz1:List PE:=[.val 1 (.slice 200 (Zt)) (.u false),.val 5 (.slice 200 (Zt)) (.u true),.box 7 200 (Zt) (.u false),.val 22 (.slice 200 (Zt)) (.u false),.val 23 (.int .i64) (.u false),.val 24 (.int .i64) (.u false),.val 28 (.slice 200 (Zt)) (.u false),.val 29 (.int .i64) (.u false),.val 30 (.int .i64) (.u false)]
def Zgd(b1_2:List Zc)(out5_1:List Zc)(x7:Zc)(t22_1:List Zc)(t23_2:Int)(t24_1:Int)(t28:List Zc)(t29_1:Int)(t30:Int):Nat:=(t29_1-t30).toNat+1
def Jm(K1: (List Zc×List Zc×List Zc×Int×Int×Unit)->Option (List Zc×Unit)):Nat->List Zc->List Zc->Zc->List Zc->Int->Int->List Zc->Int->Int->Option (List Zc×Unit)
 |0,_,_,_,_,_,_,_,_,_=>none
 |N+1,b1_2,out5_1,x7,t22_1,t23_2,t24_1,t28,t29_1,t30=>
  bif decide (t30<t29_1)then
   Zi (0<=t30/\t30<t28.length)<|
   let t38:Int:=max x7.1 (t28.getD t30.toNat Zw).1
   let t43:Int:=min x7.2.1 (t28.getD t30.toNat Zw).2.1
   bif decide (t38<t43)then
    Zi (out5_1.length+ ([(t38,(t43,()))]).length<=Qg)<|
    Jm K1 N b1_2 (out5_1++ ([(t38,(t43,()))])) x7 t22_1 t23_2 t24_1 t28 t29_1 (IntKind.i64.wrap (t30+1))
   else
    Jm K1 N b1_2 out5_1 x7 t22_1 t23_2 t24_1 t28 t29_1 (IntKind.i64.wrap (t30+1))
  else
   K1 (b1_2,out5_1,t22_1,t23_2,IntKind.i64.wrap (t24_1+1),())
abbrev Zz0:List PE:=[.val 1 (.slice 200 (Zt)) (.u false),.val 5 (.slice 200 (Zt)) (.u true),.val 22 (.slice 200 (Zt)) (.u false),.val 23 (.int .i64) (.u false),.val 24 (.int .i64) (.u false)]
def Zar(b1_1:List Zc)(out5:List Zc)(t22:List Zc)(t23_1:Int)(t24:Int):Nat:=(t23_1-t24).toNat+1
def V0:Nat->List Zc->List Zc->List Zc->Int->Int->Option (List Zc×Unit)|0,_,_,_,_,_=>none|N+1,b1_1,out5,t22,t23_1,t24=>bif decide (t24<t23_1)then Zi (0<=t24/\t24<t22.length)<|Jm (fun v=>V0 N v.1 v.2.1 v.2.2.1 v.2.2.2.1 v.2.2.2.2.1) (Zgd b1_1 out5 (t22.getD t24.toNat Zw) t22 t23_1 t24 b1_1 (b1_1.length:Int) (0:Int)) b1_1 out5 (t22.getD t24.toNat Zw) t22 t23_1 t24 b1_1 (b1_1.length:Int) (0:Int) else some (out5,())
def Zgw(a0:List Zc)(b1:List Zc):Option (List Zc×Unit):=(Kt a0).bind fun t14=>(bif(!t14.1)then some (false,())else(Kt b1)).bind fun t18=>bif(!t14.1)|| (!t18.1)then some (([]:List Zc),()) else V0 (Zar b1 ([]:List Zc) a0 (a0.length:Int) (0:Int)) b1 ([]:List Zc) a0 (a0.length:Int) (0:Int)
abbrev Zlz:List PE:=[.val 0 (.slice 200 (Zt)) (.u false),.val 1 (.slice 200 (Zt)) (.u false),.val 12 (.int .i64) (.u false),.val 13 (.int .i64) (.u false)]
def Kg(s1_0_1:List Zc)(s2_1_1:List Zc)(t12_1:Int)(t13:Int):Nat:=(t12_1-t13).toNat+1
def Yw:Nat->List Zc->List Zc->Int->Int->Option (Bool×Unit)|0,_,_,_,_=>none|N+1,s1_0_1,s2_1_1,t12_1,t13=>bif decide (t13<t12_1)then Zi (0<=t13/\t13<s1_0_1.length)<|Zi (0<=t13/\t13<s2_1_1.length)<|bif !(eqV (Zt) (s1_0_1.getD t13.toNat Zw) (s2_1_1.getD t13.toNat Zw))then some (false,()) else Yw N s1_0_1 s2_1_1 t12_1 (IntKind.i64.wrap (t13+1)) else some (true,())
def Vs(s1_0:List Zc)(s2_1:List Zc):Option (Bool×Unit):=bif(s1_0.length:Int) !=(s2_1.length:Int)then some (false,()) else Yw (Kg s1_0 s2_1 (s1_0.length:Int) (0:Int)) s1_0 s2_1 (s1_0.length:Int) (0:Int)
def Zh9(a0:List Zc)(b1:List Zc):Option (Bool×Unit):=(Vs a0 b1).bind fun t7=>some (t7.1,())
abbrev Z1z:List PE:=[.box 3 200 (Zt) (.u false),.val 5 (.slice 200 (Zt)) (.u true),.box 7 200 (Zt) (.u false),.val 19 (.slice 200 (Zt)) (.u false),.val 20 (.int .i64) (.u false),.val 21 (.int .i64) (.u false)]
def Zd2(K1: (Zc×List Zc×List Zc×Int×Int×Unit)->Option (List Zc×Unit))(r3_1:Zc)(out5_1:List Zc)(x7:Zc)(t19_1:List Zc)(t20_2:Int)(t21_1:Int):Option (List Zc×Unit):=
 bif decide ((max x7.1 r3_1.2.1)<x7.2.1)then
  let t61:List Zc:=[(max x7.1 r3_1.2.1,(x7.2.1,()))]
  Zi (out5_1.length+t61.length<=Qg)<|
  K1 (r3_1,out5_1++t61,t19_1,t20_2,IntKind.i64.wrap (t21_1+1),())
 else
  K1 (r3_1,out5_1,t19_1,t20_2,IntKind.i64.wrap (t21_1+1),())
abbrev Z10:List PE:=[.box 3 200 (Zt) (.u false),.val 5 (.slice 200 (Zt)) (.u true),.val 19 (.slice 200 (Zt)) (.u false),.val 20 (.int .i64) (.u false),.val 21 (.int .i64) (.u false)]
def Zb1(r3:Zc)(out5:List Zc)(t19:List Zc)(t20_1:Int)(t21:Int):Nat:=(t20_1-t21).toNat+1
def Kv:Nat->Zc->List Zc->List Zc->Int->Int->Option (List Zc×Unit)
 |0,_,_,_,_,_=>none
 |N+1,r3,out5,t19,t20_1,t21=>
  bif decide (t21<t20_1)then
   Zi (0<=t21/\t21<t19.length)<|
   bif decide ((t19.getD t21.toNat Zw).1< (min (t19.getD t21.toNat Zw).2.1 r3.1))then
    let t42:List Zc:=[((t19.getD t21.toNat Zw).1,(min (t19.getD t21.toNat Zw).2.1 r3.1,()))]
    Zi (out5.length+t42.length<=Qg)<|
    Zd2 (fun v=>Kv N v.1 v.2.1 v.2.2.1 v.2.2.2.1 v.2.2.2.2.1) r3 (out5++t42) (t19.getD t21.toNat Zw) t19 t20_1 t21
   else
    Zd2 (fun v=>Kv N v.1 v.2.1 v.2.2.1 v.2.2.2.1 v.2.2.2.2.1) r3 out5 (t19.getD t21.toNat Zw) t19 t20_1 t21
  else
   some (out5,())
def Zm3(l0:List Zc)(r1:Zc):Option (List Zc×Unit):=(Kt l0).bind fun t9=>(bif(!t9.1)then some (false,())else(Zp9 r1)).bind fun t13=>bif(!t9.1)|| (!t13.1)then (Km l0).bind fun t17=>some (t17.1,()) else Kv (Zb1 r1 ([]:List Zc) l0 (l0.length:Int) (0:Int)) r1 ([]:List Zc) l0 (l0.length:Int) (0:Int)
abbrev Z7b:List PE:=[.box 4 66 (Z0) (.u true),.box 6 66 (Z0) (.p (.u false) (.p (.u true) (.p (.u true) (.p (.u true) (.p (.u true) (.u false))))))]
def Zlo(t4_1:Zo)(out6_1:Zo):Option (Zo×Bool×Unit):=(Zma out6_1).bind fun t81=>some ((t81.1,out6_1.2),true,())
abbrev Z7a:List PE:=[.box 3 107 (Y9) (.u false),.box 4 66 (Z0) (.u true),.box 6 66 (Z0) (.p (.u false) (.p (.u true) (.p (.u true) (.p (.u true) (.p (.u true) (.u false))))))]
def Zgy(p3:Z9)(t4:Zo)(out6:Zo):Option (Zo×Bool×Unit):=bif p3.2.2.1 then Zlo t4 (out6.1,(out6.2.1,(out6.2.2.1,(out6.2.2.2.1,(out6.2.2.2.2.1,(out6.2.2.2.2.2.1,((2:Int),out6.2.2.2.2.2.2.2))))))) else Zlo t4 out6
abbrev Z7c:List PE:=[.box 2 66 (Z0) (.u false),.box 3 107 (Y9) (.u false),.box 4 66 (Z0) (.u true),.box 6 66 (Z0) (.u true),.box 7 200 (Zt) (.u false),.val 59 (.bool) (.u false)]
def Zlp(s2:Zo)(p3_1:Z9)(t4_2:Zo)(out6_2:Zo)(r7:Zc)(t59:Bool):Option (Zo×Bool×Unit):=bif t59 then some (out6_2,false,()) else (Zm3 s2.2.2.1 r7).bind fun t64=>(Zkq s2.2.2.2.1 r7).bind fun t68=>Zgy p3_1 t4_2 (out6_2.1,(out6_2.2.1,(t64.1,(t68.1,(out6_2.2.2.2.2.1,(out6_2.2.2.2.2.2.1,(out6_2.2.2.2.2.2.2.1,(max s2.2.2.2.2.2.2.2.1 r7.2.1,out6_2.2.2.2.2.2.2.2.2))))))))
def Zl8(s0:Zo)(p1:Z9):Option (Zo×Bool×Unit):=
 (Zj4 s0).bind fun t9=>
 (Zn0 s0).bind fun t11=>
 (bif(!t11.1)then some (false,())else(Zr6 s0 p1)).bind fun t16=>
 bif(((!t11.1)|| (!t16.1))|| (p1.2.2.1&& (s0.2.2.2.2.2.2.1 !=1)))|| ((p1.2.1==([]:List UInt8))&& (!p1.2.2.1))then
  some (t9.1,false,())
 else
  bif !(p1.2.1==([]:List UInt8))then
   let t49:Int:=IntKind.i64.wrap (p1.1+ (p1.2.1.length:Int))
   Qf (
    Q3 1 (
     (Zgw s0.2.2.1 ([(p1.1,(t49,()))])).bind fun t55=>
     (Zh9 t55.1 ([(p1.1,(t49,()))])).bind fun t58=>
     Zlp s0 p1 We t9.1 (p1.1,(t49,())) (!t58.1)
    )
   ) (
    (Zgw s0.2.2.1 ([(p1.1,(t49,()))])).bind fun t55=>
    (Zh9 t55.1 ([(p1.1,(t49,()))])).bind fun t58=>
    Zlp s0 p1 We t9.1 (p1.1,(t49,())) (!t58.1)
   )
  else
   Zgy p1 We t9.1
def Zl9(c0:Qr)(n1:Int):Option (Qr×Bool×Unit):=(Zb0 c0).bind fun t7=>(bif(!t7.1)then some (false,())else(Zz n1 (0:Int) (IntKind.i64.wrap (c0.1-c0.2.1)))).bind fun t16=>bif(!t7.1)|| (!t16.1)then some (c0,false,()) else some ((c0.1,(IntKind.i64.wrap (c0.2.1+n1),c0.2.2)),true,())
abbrev Z67:List PE:=[.val 1 (.int .i64) (.u false),.box 3 37 (Zq) (.u false),.box 6 37 (Zq) (.u true),.box 8 37 (Zq) (.u true),.elp 10 8 [3] [],.box 11 66 (Z0) (.u true),.val 12 (.bool) (.u false)]
def Yk(id1_2:Int)(c3_1:Ze)(t6_1:Ze)(out8_1:Ze)(s10:Int)(send11:Zo)(one12:Bool):Option (Ze×Bool×Unit):=
 let t61:Int:=IntKind.i64.wrap (send11.2.2.2.2.2.2.2.1- (out8_1.2.2.2.1.getD s10.toNat Zn).2.1.2.2.2.2.2.2.2.1)
 (Zl9 (out8_1.2.2.2.1.getD s10.toNat Zn).2.2.1 t61).bind fun t68=>
 (Zl9 c3_1.2.2.2.2.1 t61).bind fun t75=>
 bif((!one12)|| (!t68.2.1))|| (!t75.2.1)then
  (Zb2 c3_1).bind fun t89=>
  some (t89.1,false,())
 else
  let out8_2:List Zh:=out8_1.2.2.2.1.set s10.toNat ((out8_1.2.2.2.1.getD s10.toNat Zn).1,(send11,(out8_1.2.2.2.1.getD s10.toNat Zn).2.2))
  some ((out8_1.1,(out8_1.2.1,(out8_1.2.2.1,(out8_2.set s10.toNat ((out8_2.getD s10.toNat Zn).1,((out8_2.getD s10.toNat Zn).2.1,(t68.1,(out8_2.getD s10.toNat Zn).2.2.2))),(t75.1,(out8_1.2.2.2.2.2.1,(out8_1.2.2.2.2.2.2.1,(out8_1.2.2.2.2.2.2.2.1,(out8_1.2.2.2.2.2.2.2.2.1,(out8_1.2.2.2.2.2.2.2.2.2.1,(out8_1.2.2.2.2.2.2.2.2.2.2.1,(out8_1.2.2.2.2.2.2.2.2.2.2.2.1,(out8_1.2.2.2.2.2.2.2.2.2.2.2.2.1,(id1_2,out8_1.2.2.2.2.2.2.2.2.2.2.2.2.2.2)))))))))))))),true,())
abbrev Z66:List PE:=[.val 1 (.int .i64) (.u false),.box 3 37 (Zq) (.u false),.box 5 107 (Y9) (.u false),.box 6 37 (Zq) (.u true),.box 8 37 (Zq) (.u true),.val 9 (.int .i64) (.u false)]
def Zln(id1_1:Int)(c3:Ze)(p5:Z9)(t6:Ze)(out8:Ze)(i9:Int):Option (Ze×Bool×Unit):=
 (Zl5 c3).bind fun t25=>
 let t30:Bool:=(!t25.1)|| (decide (i9< (0:Int)))
 Zi ((t30=false->(0<=i9/\i9<c3.2.2.2.1.length)))<|
 bif t30|| (!(c3.2.2.2.1.getD i9.toNat Zn).2.2.2.2.2.2.1)then
  some (out8,false,())
 else
  Zi (0<=i9/\i9<out8.2.2.2.1.length)<|
  Qf (
   (Zl8 (out8.2.2.2.1.getD i9.toNat Zn).2.1 p5).bind fun t51=>
   Qf (
    Qf (
     Qf (
      Yk id1_1 c3 t6 out8 i9 t51.1 t51.2.1
     ) (
      Q3 1 (
       Yk id1_1 c3 t6 out8 i9 t51.1 t51.2.1
      )
     )
    ) (
    Qf (
     Q3 1 (
      Yk id1_1 c3 t6 out8 i9 t51.1 t51.2.1
     )
    ) (
     Qf (
      Q3 1 (
       Yk id1_1 c3 t6 out8 i9 t51.1 t51.2.1
      )
     ) (
      Yk id1_1 c3 t6 out8 i9 t51.1 t51.2.1
     )
    )
    )
   ) (
    Qf (
     Q3 1 (
      Yk id1_1 c3 t6 out8 i9 t51.1 t51.2.1
     )
    ) (
     Yk id1_1 c3 t6 out8 i9 t51.1 t51.2.1
    )
   )
  ) (
   (Zl8 (out8.2.2.2.1.getD i9.toNat Zn).2.1 p5).bind fun t51=>
   Qf (
    Q3 1 (
     Yk id1_1 c3 t6 out8 i9 t51.1 t51.2.1
    )
   ) (
    Yk id1_1 c3 t6 out8 i9 t51.1 t51.2.1
   )
  )
def Zp1(c0:Ze)(id1:Int)(p2:Z9):Option (Ze×Bool×Unit):=Qf ((Zb2 c0).bind fun t19=>Q3 1 ((Jx c0.2.2.2.1 id1).bind fun t23=>Zln id1 c0 p2 Ji t19.1 t23.1)) ((Zb2 c0).bind fun t19=>(Jx c0.2.2.2.1 id1).bind fun t23=>Zln id1 c0 p2 Ji t19.1 t23.1)
abbrev Zyb:List PE:=[.val 3 (.str) (.u false),.val 6 (.slice 87 (Zu)) (.u false),.val 7 (.int .i64) (.u false),.val 8 (.int .i64) (.u false)]
def Zfd(out3_1:List UInt8)(t6:List Zf)(t7_1:Int)(t8:Int):Nat:=(t7_1-t8).toNat+1
def Za1:Nat->List UInt8->List Zf->Int->Int->Option (List UInt8×Unit)|0,_,_,_,_=>none|N+1,out3_1,t6,t7_1,t8=>bif decide (t8<t7_1)then Zi (0<=t8/\t8<t6.length)<|(Zmz (t6.getD t8.toNat Qq)).bind fun t13=>bif !t13.1 then some (([]:List UInt8),()) else (Zh7 (t6.getD t8.toNat Qq)).bind fun t17=>Zi (out3_1.length+t17.1.length<=Zf9)<|bif decide (((out3_1++t17.1).length:Int)>(400:Int))then some (([]:List UInt8),()) else Za1 N (out3_1++t17.1) t6 t7_1 (IntKind.i64.wrap (t8+1)) else some (out3_1,())
def Zjh(l0:List Zf):Option (List UInt8×Unit):=Za1 (Zfd ([]:List UInt8) l0 (l0.length:Int) (0:Int)) ([]:List UInt8) l0 (l0.length:Int) (0:Int)
abbrev Z3v:List PE:=[.box 6 37 (Zq) (.u true),.box 7 37 (Zq) (.u true),.val 8 (.slice 87 (Zu)) (.u true)]
def Vq(t6_1:Ze)(out7_1:Ze)(frames8_1:List Zf):Option ((List UInt8×Int×Ze×Unit)×(Unit)):=bif(frames8_1.length:Int)==(0:Int)then some ((([]:List UInt8),((-1:Int),(out7_1,()))),()) else Zi (out7_1.2.2.2.2.2.2.2.2.2.2.2.2.2.2.2.1.length+ ([(out7_1.2.2.2.2.2.2.2.2.2.2.2.2.2.2.1,(frames8_1,()))]).length<=Qg)<|(Zjh frames8_1).bind fun t140=>some ((t140.1,(IntKind.i64.wrap ((IntKind.i64.wrap (out7_1.2.2.2.2.2.2.2.2.2.2.2.2.2.2.1+1))-1),((out7_1.1,(out7_1.2.1,(out7_1.2.2.1,(out7_1.2.2.2.1,(out7_1.2.2.2.2.1,(out7_1.2.2.2.2.2.1,(out7_1.2.2.2.2.2.2.1,(out7_1.2.2.2.2.2.2.2.1,(out7_1.2.2.2.2.2.2.2.2.1,(out7_1.2.2.2.2.2.2.2.2.2.1,(out7_1.2.2.2.2.2.2.2.2.2.2.1,(out7_1.2.2.2.2.2.2.2.2.2.2.2.1,(out7_1.2.2.2.2.2.2.2.2.2.2.2.2.1,(out7_1.2.2.2.2.2.2.2.2.2.2.2.2.2.1,(IntKind.i64.wrap (out7_1.2.2.2.2.2.2.2.2.2.2.2.2.2.2.1+1),(out7_1.2.2.2.2.2.2.2.2.2.2.2.2.2.2.2.1++ ([(out7_1.2.2.2.2.2.2.2.2.2.2.2.2.2.2.1,(frames8_1,()))]),out7_1.2.2.2.2.2.2.2.2.2.2.2.2.2.2.2.2)))))))))))))))),()))),())
abbrev Z3x:List PE:=[.box 6 37 (Zq) (.u true),.box 7 37 (Zq) (.u true),.val 8 (.slice 87 (Zu)) (.u true),.val 9 (.slice 3 (.int .i64)) (.u true),.val 10 (.int .i64) (.u false),.val 62 (.int .i64) (.u false)]
def Zc9(t6_2:Ze)(out7_2:Ze)(frames8_2:List Zf)(skipped9_1:List Int)(room10_1:Int)(t62:Int):Nat:=((200:Int)-t62).toNat+1+0*frames8_2.length
def Jn:Nat->Ze->Ze->List Zf->List Int->Int->Int->Option ((List UInt8×Int×Ze×Unit)×(Unit))|0,_,_,_,_,_,_=>none|N+1,t6_2,out7_2,frames8_2,skipped9_1,room10_1,t62=>bif decide (t62< (200:Int))then (Zt3 out7_2 skipped9_1).bind fun t66=>(Zok t66.1 out7_2.2.2.2.2.2.2.2.2.2.2.2.2.2.1).bind fun t69=>bif decide (t69.1< (0:Int))then Vq t6_2 out7_2 frames8_2 else (Zr1 out7_2 t69.1 room10_1).bind fun t76=>bif !t76.2.1 then (Jx out7_2.2.2.2.1 t69.1).bind fun t14=>Zi (0<=t14.1/\t14.1<out7_2.2.2.2.1.length)<|(Zm1 (out7_2.2.2.2.1.getD t14.1.toNat Zn).2.2.1).bind fun t88=>(Zm1 out7_2.2.2.2.2.1).bind fun t91=>Zi (skipped9_1.length+ ([t69.1]).length<=Qg)<|Jn N t6_2 (out7_2.1,(out7_2.2.1,(out7_2.2.2.1,(out7_2.2.2.2.1.set t14.1.toNat ((out7_2.2.2.2.1.getD t14.1.toNat Zn).1,((out7_2.2.2.2.1.getD t14.1.toNat Zn).2.1,(t88.1,(out7_2.2.2.2.1.getD t14.1.toNat Zn).2.2.2))),(t91.1,out7_2.2.2.2.2.2))))) frames8_2 (skipped9_1++ ([t69.1])) room10_1 (IntKind.i64.wrap (t62+1)) else (Zp1 out7_2 t69.1 t76.1).bind fun t103=>bif !t103.2.1 then Vq t6_2 out7_2 frames8_2 else (Zgi t69.1 t76.1).bind fun t112=>Zi (frames8_2.length+ ([t112.1]).length<=Qg)<|(Zgi t69.1 t76.1).bind fun t118=>(Zia t118.1).bind fun t119=>Jn N t6_2 t103.1 (frames8_2++ ([t112.1])) skipped9_1 (IntKind.i64.wrap (room10_1-t119.1)) (IntKind.i64.wrap (t62+1)) else Vq t6_2 out7_2 frames8_2
abbrev Z3w:List PE:=[.box 6 37 (Zq) (.u true),.box 7 37 (Zq) (.u true),.val 8 (.slice 87 (Zu)) (.u true),.val 9 (.slice 3 (.int .i64)) (.u true),.val 10 (.int .i64) (.u false),.val 40 (.slice 87 (Zu)) (.u true),.val 41 (.int .i64) (.u false),.val 42 (.int .i64) (.u false)]
def Zc8(t6:Ze)(out7:Ze)(frames8:List Zf)(skipped9:List Int)(room10:Int)(t40_1:List Zf)(t41_1:Int)(t42:Int):Nat:=(t41_1-t42).toNat+1
def Yp:Nat->Ze->Ze->List Zf->List Int->Int->List Zf->Int->Int->Option ((List UInt8×Int×Ze×Unit)×(Unit))|0,_,_,_,_,_,_,_,_=>none|N+1,t6,out7,frames8,skipped9,room10,t40_1,t41_1,t42=>bif decide (t42<t41_1)then Zi (0<=t42/\t42<t40_1.length)<|(Zia (t40_1.getD t42.toNat Qq)).bind fun t47=>bif decide (t47.1<=room10)then Zi (frames8.length+ ([(t40_1.getD t42.toNat Qq)]).length<=Qg)<|(Zm0 out7 (t40_1.getD t42.toNat Qq)).bind fun t60=>Yp N t6 t60.1 (frames8++ ([(t40_1.getD t42.toNat Qq)])) skipped9 (IntKind.i64.wrap (room10-t47.1)) t40_1 t41_1 (IntKind.i64.wrap (t42+1)) else Yp N t6 out7 frames8 skipped9 room10 t40_1 t41_1 (IntKind.i64.wrap (t42+1)) else Jn (Zc9 t6 out7 frames8 skipped9 room10 (0:Int)) t6 out7 frames8 skipped9 room10 (0:Int)
def Zoi(c0:Ze)(budget1:Int):Option ((List UInt8×Int×Ze×Unit)×(Unit)):=(Zb2 c0).bind fun t21=>(Zsw c0).bind fun t23=>(bif(!t23.1)then some (false,())else(Zz budget1 (1:Int) (400:Int))).bind fun t27=>bif((!t23.1)|| (!t27.1))|| (c0.2.2.2.2.2.2.2.2.2.2.2.2.2.2.1==1000000)then some ((([]:List UInt8),((-1:Int),(t21.1,()))),()) else (Zjg c0).bind fun t40=>Yp (Zc8 Ji t21.1 ([]:List Zf) ([]:List Int) budget1 t40.1 (t40.1.length:Int) (0:Int)) Ji t21.1 ([]:List Zf) ([]:List Int) budget1 t40.1 (t40.1.length:Int) (0:Int)
def Zo7(p0:Z8)(t1:Int):Option (Bool×Unit):=some (p0.1==t1,())
abbrev Wf:List PE:=[.val 0 (.slice 59 (Yx)) (.u false),.val 1 (.clo 116 (.pair (.sptr 3 (.int .i64)) (.unit))) (.u false),.val 7 (.int .i64) (.u false),.val 8 (.int .i64) (.u false)]
def Qh(s0_1:List Z8)(f1_1:Int×Unit)(t7_1:Int)(t8:Int):Nat:=(t7_1-t8).toNat+1
def Qa:Nat->List Z8->(Int×Unit)->Int->Int->Option (Int×Unit)|0,_,_,_,_=>none|N+1,s0_1,f1_1,t7_1,t8=>bif decide (t8<t7_1)then Zi (0<=t8/\t8<s0_1.length)<|(Zo7 (s0_1.getD t8.toNat Qj) f1_1.1).bind fun t16=>bif t16.1 then some (t8,()) else Qa N s0_1 f1_1 t7_1 (IntKind.i64.wrap (t8+1)) else some ((-1:Int),())
def Xc(s0:List Z8)(f1:Int×Unit):Option (Int×Unit):=Qa (Qh s0 f1 (s0.length:Int) (0:Int)) s0 f1 (s0.length:Int) (0:Int)
def Zrh(c0:Ze)(number1:Int):Option (Int×Unit):=(Xc c0.2.2.2.2.2.2.2.2.2.2.2.2.2.2.2.1 (number1,())).bind fun t8=>some (t8.1,())
def Zr0(c0:Ze)(number1:Int):Option (Z8×Bool×Unit):=(Zrh c0 number1).bind fun t9=>bif decide (t9.1< (0:Int))then some (((0:Int),(([]:List Zf),())),false,()) else Zi (0<=t9.1/\t9.1<=(IntKind.i64.wrap (t9.1+1))/\(IntKind.i64.wrap (t9.1+1))<=c0.2.2.2.2.2.2.2.2.2.2.2.2.2.2.2.1.length)<|(Zii ((c0.2.2.2.2.2.2.2.2.2.2.2.2.2.2.2.1.drop t9.1.toNat).take ((IntKind.i64.wrap (t9.1+1)).toNat-t9.1.toNat))).bind fun t19=>Zi (0<=(0:Int)/\(0:Int)<t19.1.length)<|some (t19.1.getD (0:Int).toNat Qj,true,())
abbrev Qeg:List PE:=[.val 3 (.slice 3 (.int .i64)) (.u true),.val 7 (.slice 87 (Zu)) (.u false),.val 8 (.int .i64) (.u false),.val 9 (.int .i64) (.u false)]
def Zl7(out3:List Int)(t7:List Zf)(t8_1:Int)(t9:Int):Nat:=(t8_1-t9).toNat+1
def Zds:Nat->List Int->List Zf->Int->Int->Option (List Int×Unit)|0,_,_,_,_=>none|N+1,out3,t7,t8_1,t9=>bif decide (t9<t8_1)then Zi (0<=t9/\t9<t7.length)<|bif(t7.getD t9.toNat Qq).1==8 then Zi (out3.length+ ([(t7.getD t9.toNat Qq).2.1]).length<=Qg)<|Zds N (out3++ ([(t7.getD t9.toNat Qq).2.1])) t7 t8_1 (IntKind.i64.wrap (t9+1)) else Zds N out3 t7 t8_1 (IntKind.i64.wrap (t9+1)) else some (out3,())
def Zm2(l0:List Zf):Option (List Int×Unit):=Zds (Zl7 ([]:List Int) l0 (l0.length:Int) (0:Int)) ([]:List Int) l0 (l0.length:Int) (0:Int)
abbrev Z3u:List PE:=[.val 1 (.int .i64) (.u false),.box 3 37 (Zq) (.u false),.val 7 (.slice 3 (.int .i64)) (.u true),.val 15 (.int .i64) (.u false),.val 16 (.int .i64) (.u false)]
def Zc7(budget1_1:Int)(c3:Ze)(out7:List Int)(t15_1:Int)(t16:Int):Nat:=(t15_1-t16).toNat+1
def Zfc:Nat->Int->Ze->List Int->Int->Int->Option (List Int×Unit)|0,_,_,_,_,_=>none|N+1,budget1_1,c3,out7,t15_1,t16=>bif decide (t16<t15_1)then (Zoi c3 budget1_1).bind fun t21=>bif t21.1.2.1==(-1:Int)then some (out7,()) else (Zr0 t21.1.2.2.1 t21.1.2.1).bind fun t30=>(Zm2 t30.1.2.1).bind fun t36=>Zi (out7.length+t36.1.length<=Qg)<|Zfc N budget1_1 t21.1.2.2.1 (out7++t36.1) t15_1 (IntKind.i64.wrap (t16+1)) else some (out7,())
def Zgh(c0:Ze)(budget1:Int)(most2:Int):Option (List Int×Unit):=Zfc (Zc7 budget1 c0 ([]:List Int) (min most2 (30:Int)) (0:Int)) budget1 c0 ([]:List Int) (min most2 (30:Int)) (0:Int)
def Zr4(c0:Ze)(id1:Int):Option (Zh×Bool×Unit):=(Jx c0.2.2.2.1 id1).bind fun t10=>bif decide (t10.1< (0:Int))then some (Zn,false,()) else Zi (0<=t10.1/\t10.1<c0.2.2.2.1.length)<|(Zj5 (c0.2.2.2.1.getD t10.1.toNat Zn)).bind fun t19=>some (t19.1,true,())
abbrev Zyd:List PE:=[.box 2 37 (Zq) (.u false),.val 5 (.bool) (.u false),.val 6 (.int .i64) (.u false),.val 12 (.slice 3 (.int .i64)) (.u true),.val 13 (.int .i64) (.u false),.val 14 (.int .i64) (.u false)]
def Zff(c2:Ze)(first5:Bool)(before6:Int)(t12_1:List Int)(t13_1:Int)(t14:Int):Nat:=(t13_1-t14).toNat+1
def Za2:Nat->Ze->Bool->Int->List Int->Int->Int->Option (Bool×Unit)|0,_,_,_,_,_,_=>none|N+1,c2,first5,before6,t12_1,t13_1,t14=>bif decide (t14<t13_1)then Zi (0<=t14/\t14<t12_1.length)<|(Zr4 c2 (t12_1.getD t14.toNat (0:Int))).bind fun t21=>bif(!t21.2.1)|| ((!first5)&& (decide (t21.1.2.2.2.2.2.1.1<before6)))then some (false,()) else Za2 N c2 false t21.1.2.2.2.2.2.1.1 t12_1 t13_1 (IntKind.i64.wrap (t14+1)) else some (true,())
def Zfe(c0:Ze)(l1:List Zf):Option (Bool×Unit):=(Zm2 l1).bind fun t12=>Za2 (Zff c0 true (0:Int) t12.1 (t12.1.length:Int) (0:Int)) c0 true (0:Int) t12.1 (t12.1.length:Int) (0:Int)
abbrev Zzd:List PE:=[.val 1 (.slice 87 (Zu)) (.u false),.box 2 37 (Zq) (.u false),.val 5 (.int .i64) (.u false),.val 6 (.int .i64) (.u false)]
def Zba(K1: (List Zf×Ze×Int×Int×Unit)->Option (Bool×Unit))(l1_2:List Zf)(c2_1:Ze)(last5_2:Int)(i6_1:Int):Option (Bool×Unit):=K1 (l1_2,c2_1,last5_2,IntKind.i64.wrap (i6_1+1),())
abbrev Zze:List PE:=[.val 1 (.slice 87 (Zu)) (.u false),.box 2 37 (Zq) (.u false),.val 5 (.int .i64) (.u false),.val 6 (.int .i64) (.u false),.box 7 75 (Zy) (.u true),.val 8 (.bool) (.u false)]
def Xd(K1: (List Zf×Ze×Int×Int×Unit)->Option (Bool×Unit))(l1_3:List Zf)(c2_2:Ze)(last5_3:Int)(i6_2:Int)(s7:Zh)(is8:Bool):Option (Bool×Unit):=bif(!is8)|| (decide (s7.2.2.2.2.2.1.1<last5_3))then some (false,()) else Zba K1 l1_3 c2_2 s7.2.2.2.2.2.1.1 i6_2
abbrev Zzf:List PE:=[.val 1 (.slice 87 (Zu)) (.u false),.box 2 37 (Zq) (.u false),.val 5 (.int .i64) (.u false),.val 6 (.int .i64) (.u false)]
def Zft(l1_1:List Zf)(c2:Ze)(last5_1:Int)(i6:Int):Nat:=((l1_1.length:Int)-i6).toNat+1
def Qk:Nat->List Zf->Ze->Int->Int->Option (Bool×Unit)|0,_,_,_,_=>none|N+1,l1_1,c2,last5_1,i6=>bif decide (i6< (l1_1.length:Int))then Zi (0<=i6/\i6<l1_1.length)<|bif(l1_1.getD i6.toNat Qq).1 !=8 then Zba (fun v=>Qk N v.1 v.2.1 v.2.2.1 v.2.2.2.1) l1_1 c2 last5_1 i6 else Zi (0<=i6/\i6<l1_1.length)<|Qf ((Qw c2 (l1_1.getD i6.toNat Qq).2.1).bind fun t28=>Qf (Qf (Qf (Xd (fun v=>Qk N v.1 v.2.1 v.2.2.1 v.2.2.2.1) l1_1 c2 last5_1 i6 t28.1 t28.2.1) (Q3 1 (Xd (fun v=>Qk N v.1 v.2.1 v.2.2.1 v.2.2.2.1) l1_1 c2 last5_1 i6 t28.1 t28.2.1))) (Qf (Q3 1 (Xd (fun v=>Qk N v.1 v.2.1 v.2.2.1 v.2.2.2.1) l1_1 c2 last5_1 i6 t28.1 t28.2.1)) (Qf (Q3 1 (Xd (fun v=>Qk N v.1 v.2.1 v.2.2.1 v.2.2.2.1) l1_1 c2 last5_1 i6 t28.1 t28.2.1)) (Xd (fun v=>Qk N v.1 v.2.1 v.2.2.1 v.2.2.2.1) l1_1 c2 last5_1 i6 t28.1 t28.2.1)))) (Qf (Q3 1 (Xd (fun v=>Qk N v.1 v.2.1 v.2.2.1 v.2.2.2.1) l1_1 c2 last5_1 i6 t28.1 t28.2.1)) (Xd (fun v=>Qk N v.1 v.2.1 v.2.2.1 v.2.2.2.1) l1_1 c2 last5_1 i6 t28.1 t28.2.1))) ((Qw c2 (l1_1.getD i6.toNat Qq).2.1).bind fun t28=>Qf (Q3 1 (Xd (fun v=>Qk N v.1 v.2.1 v.2.2.1 v.2.2.2.1) l1_1 c2 last5_1 i6 t28.1 t28.2.1)) (Xd (fun v=>Qk N v.1 v.2.1 v.2.2.1 v.2.2.2.1) l1_1 c2 last5_1 i6 t28.1 t28.2.1)) else some (true,())
def Zjr(c0:Ze)(l1:List Zf):Option (Bool×Unit):=Qk (Zft l1 c0 (-9223372036854775808:Int) (0:Int)) l1 c0 (-9223372036854775808:Int) (0:Int)
abbrev Z11:List PE:=[.val 1 (.int .i64) (.u false),.val 5 (.int .i64) (.u false),.val 8 (.slice 87 (Zu)) (.u false),.val 9 (.int .i64) (.u false),.val 10 (.int .i64) (.u false)]
def Znz(id1_1:Int)(sum5:Int)(t8:List Zf)(t9_1:Int)(t10:Int):Nat:=(t9_1-t10).toNat+1
def Zaa:Nat->Int->Int->List Zf->Int->Int->Option (Int×Unit)|0,_,_,_,_,_=>none|N+1,id1_1,sum5,t8,t9_1,t10=>bif decide (t10<t9_1)then Zi (0<=t10/\t10<t8.length)<|bif((t8.getD t10.toNat Qq).1==8)&& ((t8.getD t10.toNat Qq).2.1==id1_1)then Zaa N id1_1 (IntKind.i64.wrap (sum5+ ((t8.getD t10.toNat Qq).2.2.2.1.length:Int))) t8 t9_1 (IntKind.i64.wrap (t10+1)) else Zaa N id1_1 sum5 t8 t9_1 (IntKind.i64.wrap (t10+1)) else some (sum5,())
def Zrf(l0:List Zf)(id1:Int):Option (Int×Unit):=Zaa (Znz id1 (0:Int) l0 (l0.length:Int) (0:Int)) id1 (0:Int) l0 (l0.length:Int) (0:Int)
abbrev Z2x:List PE:=[.val 0 (.slice 87 (Zu)) (.u false),.val 1 (.int .i64) (.u false),.val 5 (.int .i64) (.u false),.val 6 (.int .i64) (.u false)]
def Zh1(K1: (List Zf×Int×Int×Int×Unit)->Option (Int×Unit))(l0_2:List Zf)(id1_2:Int)(n5_1:Int)(i6_1:Int):Option (Int×Unit):=K1 (l0_2,id1_2,n5_1,IntKind.i64.wrap (i6_1+1),())
abbrev Z2y:List PE:=[.val 0 (.slice 87 (Zu)) (.u false),.val 1 (.int .i64) (.u false),.val 5 (.int .i64) (.u false),.val 6 (.int .i64) (.u false)]
def Zoc(l0_1:List Zf)(id1_1:Int)(n5:Int)(i6:Int):Nat:=((l0_1.length:Int)-i6).toNat+1
def Zaf:Nat->List Zf->Int->Int->Int->Option (Int×Unit)
 |0,_,_,_,_=>none
 |N+1,l0_1,id1_1,n5,i6=>
  bif decide (i6< (l0_1.length:Int))then
   Zi (0<=i6/\i6<l0_1.length)<|
   let t18:Bool:=(l0_1.getD i6.toNat Qq).1==8
   Zi ((t18=true->(0<=i6/\i6<l0_1.length)))<|
   bif t18&& ((l0_1.getD i6.toNat Qq).2.1==id1_1)then
    Zi (0<=i6/\i6<l0_1.length)<|
    Zh1 (fun v=>Zaf N v.1 v.2.1 v.2.2.1 v.2.2.2.1) l0_1 id1_1 (IntKind.i64.wrap (n5+ ((l0_1.getD i6.toNat Qq).2.2.2.1.length:Int))) i6
   else
    Zh1 (fun v=>Zaf N v.1 v.2.1 v.2.2.1 v.2.2.2.1) l0_1 id1_1 n5 i6
  else
   some (n5,())
def Zrr(l0:List Zf)(id1:Int):Option (Int×Unit):=Zaf (Zoc l0 id1 (0:Int) (0:Int)) l0 id1 (0:Int) (0:Int)
abbrev Qfy:List PE:=[.val 0 (.slice 87 (Zu)) (.u false),.val 3 (.slice 3 (.int .i64)) (.u true),.val 4 (.int .i64) (.u false)]
def Zoz(K1: (List Zf×List Int×Int×Unit)->Option (List Int×Unit))(l0_2:List Zf)(out3_1:List Int)(i4_1:Int):Option (List Int×Unit):=K1 (l0_2,out3_1,IntKind.i64.wrap (i4_1+1),())
abbrev Qfz:List PE:=[.val 0 (.slice 87 (Zu)) (.u false),.val 3 (.slice 3 (.int .i64)) (.u true),.val 4 (.int .i64) (.u false)]
def Zmn(l0_1:List Zf)(out3:List Int)(i4:Int):Nat:=((l0_1.length:Int)-i4).toNat+1
def Zdu:Nat->List Zf->List Int->Int->Option (List Int×Unit)|0,_,_,_=>none|N+1,l0_1,out3,i4=>bif decide (i4< (l0_1.length:Int))then Zi (0<=i4/\i4<l0_1.length)<|bif(l0_1.getD i4.toNat Qq).1==8 then Zi (0<=i4/\i4<l0_1.length)<|Zi (out3.length+ ([(l0_1.getD i4.toNat Qq).2.1]).length<=Qg)<|Zoz (fun v=>Zdu N v.1 v.2.1 v.2.2.1) l0_1 (out3++ ([(l0_1.getD i4.toNat Qq).2.1])) i4 else Zoz (fun v=>Zdu N v.1 v.2.1 v.2.2.1) l0_1 out3 i4 else some (out3,())
def Zqx(l0:List Zf):Option (List Int×Unit):=Zdu (Zmn l0 ([]:List Int) (0:Int)) l0 ([]:List Int) (0:Int)
abbrev Qau:List PE:=[.val 0 (.slice 3 (.int .i64)) (.u false),.val 1 (.slice 3 (.int .i64)) (.u false),.val 5 (.int .i64) (.u false)]
def Zla(a0_1:List Int)(b1_1:List Int)(i5:Int):Nat:=((a0_1.length:Int)-i5).toNat+1
def Zm5:Nat->List Int->List Int->Int->Option (Bool×Unit)|0,_,_,_=>none|N+1,a0_1,b1_1,i5=>bif decide (i5< (a0_1.length:Int))then Zi (0<=i5/\i5<a0_1.length)<|Zi (0<=i5/\i5<b1_1.length)<|bif(a0_1.getD i5.toNat (0:Int)) !=(b1_1.getD i5.toNat (0:Int))then some (false,()) else Zm5 N a0_1 b1_1 (IntKind.i64.wrap (i5+1)) else some (true,())
def Zn2(a0:List Int)(b1:List Int):Option (Bool×Unit):=bif(a0.length:Int) !=(b1.length:Int)then some (false,()) else Zm5 (Zla a0 b1 (0:Int)) a0 b1 (0:Int)
abbrev Qeh:List PE:=[.val 1 (.int .i64) (.u false),.val 5 (.int .i64) (.u false),.val 8 (.slice 3 (.int .i64)) (.u false),.val 9 (.int .i64) (.u false),.val 10 (.int .i64) (.u false)]
def Zsv(id1_1:Int)(count5:Int)(t8:List Int)(t9_1:Int)(t10:Int):Nat:=(t9_1-t10).toNat+1
def Zj3:Nat->Int->Int->List Int->Int->Int->Option (Int×Unit)|0,_,_,_,_,_=>none|N+1,id1_1,count5,t8,t9_1,t10=>bif decide (t10<t9_1)then Zi (0<=t10/\t10<t8.length)<|(Zmb ((t8.getD t10.toNat (0:Int))==id1_1)).bind fun t18=>Zj3 N id1_1 (IntKind.i64.wrap (count5+t18.1)) t8 t9_1 (IntKind.i64.wrap (t10+1)) else some (count5,())
def Zm4(order0:List Int)(id1:Int):Option (Int×Unit):=Zj3 (Zsv id1 (0:Int) order0 (order0.length:Int) (0:Int)) id1 (0:Int) order0 (order0.length:Int) (0:Int)
abbrev Qao:List PE:=[.val 0 (.slice 3 (.int .i64)) (.u false),.val 5 (.int .i64) (.u false),.val 6 (.int .i64) (.u false),.val 22 (.slice 3 (.int .i64)) (.u false),.val 23 (.int .i64) (.u false),.val 24 (.int .i64) (.u false)]
def Zk9(order0_1:List Int)(least5:Int)(most6:Int)(t22:List Int)(t23_1:Int)(t24:Int):Nat:=(t23_1-t24).toNat+1
def Zew:Nat->List Int->Int->Int->List Int->Int->Int->Option (Int×Unit)|0,_,_,_,_,_,_=>none|N+1,order0_1,least5,most6,t22,t23_1,t24=>bif decide (t24<t23_1)then Zi (0<=t24/\t24<t22.length)<|(Zm4 order0_1 (t22.getD t24.toNat (0:Int))).bind fun t31=>(Zm4 order0_1 (t22.getD t24.toNat (0:Int))).bind fun t36=>Zew N order0_1 (min least5 t31.1) (max most6 t36.1) t22 t23_1 (IntKind.i64.wrap (t24+1)) else some (IntKind.i64.wrap (most6-least5),())
def Zr3(order0:List Int)(ids1:List Int):Option (Int×Unit):=bif(ids1.length:Int)==(0:Int)then some ((0:Int),()) else Zi (0<=(0:Int)/\(0:Int)<ids1.length)<|Zi (0<=(0:Int)/\(0:Int)<ids1.length)<|(Zm4 order0 (ids1.getD (0:Int).toNat (0:Int))).bind fun t16=>(Zm4 order0 (ids1.getD (0:Int).toNat (0:Int))).bind fun t21=>Zew (Zk9 order0 t16.1 t21.1 ids1 (ids1.length:Int) (0:Int)) order0 t16.1 t21.1 ids1 (ids1.length:Int) (0:Int)
abbrev Qf0:List PE:=[.val 0 (.slice 3 (.int .i64)) (.u false),.val 1 (.int .i64) (.u false),.val 5 (.int .i64) (.u false),.val 6 (.int .i64) (.u false)]
def Zke(K1: (List Int×Int×Int×Int×Unit)->Option (Int×Unit))(order0_2:List Int)(id1_2:Int)(n5_1:Int)(i6_1:Int):Option (Int×Unit):=K1 (order0_2,id1_2,n5_1,IntKind.i64.wrap (i6_1+1),())
abbrev Qf1:List PE:=[.val 0 (.slice 3 (.int .i64)) (.u false),.val 1 (.int .i64) (.u false),.val 5 (.int .i64) (.u false),.val 6 (.int .i64) (.u false)]
def Zs4(order0_1:List Int)(id1_1:Int)(n5:Int)(i6:Int):Nat:=((order0_1.length:Int)-i6).toNat+1
def Zgt:Nat->List Int->Int->Int->Int->Option (Int×Unit)|0,_,_,_,_=>none|N+1,order0_1,id1_1,n5,i6=>bif decide (i6< (order0_1.length:Int))then Zi (0<=i6/\i6<order0_1.length)<|bif(order0_1.getD i6.toNat (0:Int))==id1_1 then Zke (fun v=>Zgt N v.1 v.2.1 v.2.2.1 v.2.2.2.1) order0_1 id1_1 (IntKind.i64.wrap (n5+1)) i6 else Zke (fun v=>Zgt N v.1 v.2.1 v.2.2.1 v.2.2.2.1) order0_1 id1_1 n5 i6 else some (n5,())
def Z03(order0:List Int)(id1:Int):Option (Int×Unit):=Zgt (Zs4 order0 id1 (0:Int) (0:Int)) order0 id1 (0:Int) (0:Int)
abbrev Qck:List PE:=[.val 0 (.slice 3 (.int .i64)) (.u false),.val 1 (.slice 3 (.int .i64)) (.u false),.val 5 (.int .i64) (.u false),.val 6 (.int .i64) (.u false),.val 7 (.int .i64) (.u false),.val 8 (.int .i64) (.u false)]
def Zi0(K1: (List Int×List Int×Int×Int×Int×Unit)->Option (Int×Unit))(order0_2:List Int)(ids1_2:List Int)(low5_1:Int)(high6_1:Int)(i7_1:Int)(n8:Int):Option (Int×Unit):=K1 (order0_2,ids1_2,low5_1,max high6_1 n8,IntKind.i64.wrap (i7_1+1),())
abbrev Qcl:List PE:=[.val 0 (.slice 3 (.int .i64)) (.u false),.val 1 (.slice 3 (.int .i64)) (.u false),.val 5 (.int .i64) (.u false),.val 6 (.int .i64) (.u false),.val 7 (.int .i64) (.u false)]
def Zlh(order0_1:List Int)(ids1_1:List Int)(low5:Int)(high6:Int)(i7:Int):Nat:=((ids1_1.length:Int)-i7).toNat+1
def Wc:Nat->List Int->List Int->Int->Int->Int->Option (Int×Unit)|0,_,_,_,_,_=>none|N+1,order0_1,ids1_1,low5,high6,i7=>bif decide (i7< (ids1_1.length:Int))then Zi (0<=i7/\i7<ids1_1.length)<|(Z03 order0_1 (ids1_1.getD i7.toNat (0:Int))).bind fun t20=>bif(i7==0)|| (decide (t20.1<low5))then Zi0 (fun v=>Wc N v.1 v.2.1 v.2.2.1 v.2.2.2.1 v.2.2.2.2.1) order0_1 ids1_1 t20.1 high6 i7 t20.1 else Zi0 (fun v=>Wc N v.1 v.2.1 v.2.2.1 v.2.2.2.1 v.2.2.2.2.1) order0_1 ids1_1 low5 high6 i7 t20.1 else some (IntKind.i64.wrap (high6-low5),())
def Zsd(order0:List Int)(ids1:List Int):Option (Int×Unit):=Wc (Zlh order0 ids1 (0:Int) (0:Int) (0:Int)) order0 ids1 (0:Int) (0:Int) (0:Int)
abbrev Z46:List PE:=[.val 1 (.int .i64) (.u false),.val 2 (.int .i64) (.u false),.val 7 (.slice 3 (.int .i64)) (.u true),.box 8 37 (Zq) (.u false),.val 9 (.int .i64) (.u false)]
def Zdi(budget1_1:Int)(most2_1:Int)(out7:List Int)(x8:Ze)(i9:Int):Nat:=(most2_1-i9).toNat+1
def Zfn:Nat->Int->Int->List Int->Ze->Int->Option (List Int×Unit)|0,_,_,_,_,_=>none|N+1,budget1_1,most2_1,out7,x8,i9=>bif(decide (i9<most2_1))&& (decide (i9< (30:Int)))then (Zak x8 budget1_1).bind fun t30=>bif t30.1.2.1==(-1:Int)then some (out7,()) else (Wi t30.1.2.2.1 t30.1.2.1).bind fun t40=>(Zqx t40.1.2.1).bind fun t46=>Zi (out7.length+t46.1.length<=Qg)<|Zfn N budget1_1 most2_1 (out7++t46.1) t30.1.2.2.1 (IntKind.i64.wrap (i9+1)) else some (out7,())
def Zgq(c0:Ze)(budget1:Int)(most2:Int):Option (List Int×Unit):=(Z6 c0).bind fun t17=>Zfn (Zdi budget1 most2 ([]:List Int) t17.1 (0:Int)) budget1 most2 ([]:List Int) t17.1 (0:Int)
def Zhv(code0:List Int):Option ((Ze×Int×Unit)×(Unit)):=(Zjw code0).bind fun t7=>(Zpq t7.1).bind fun t9=>(Jt t9.2.1 ([(0:Int),(1:Int),(3:Int),(6:Int),(10:Int),(20:Int),(40:Int),(400:Int),(401:Int)])).bind fun t13=>some ((t9.1.1,(t13.1.1,())),())
abbrev Z39:List PE:=[.box 13 37 (Zq) (.u false),.val 16 (.int .i64) (.u false),.box 18 59 (Yx) (.u true),.val 19 (.bool) (.u false)]
def Jo(e13:Ze)(k16:Int)(p18:Z8)(is19:Bool):Option (Bool×Unit):=
 let t163:Bool:=(decide (k16>=(0:Int)))&& (decide ((p18.2.1.length:Int)>(0:Int)))
 (bif t163 then(bif(!is19)then some (false,())else(Zfe e13 p18.2.1))else some (false,())).bind fun t168=>
 some ((!is19)|| (t163&&t168.1),())
abbrev Z4a:List PE:=[.box 13 37 (Zq) (.u false),.val 16 (.int .i64) (.u false),.box 17 37 (Zq) (.u false),.box 18 59 (Yx) (.u true),.val 19 (.bool) (.u false),.val 20 (.int .i64) (.u false)]
def Zdc(e13_1:Ze)(k16_1:Int)(y17:Ze)(p18_1:Z8)(is19_1:Bool)(i20:Int):Nat:=((y17.2.2.2.1.length:Int)-i20).toNat+1
def Zbi:Nat->Ze->Int->Ze->Z8->Bool->Int->Option (Bool×Unit)
 |0,_,_,_,_,_,_=>none
 |N+1,e13_1,k16_1,y17,p18_1,is19_1,i20=>
  bif decide (i20< (y17.2.2.2.1.length:Int))then
   Zi (0<=i20/\i20<y17.2.2.2.1.length)<|
   let t140:Bool:=((y17.2.2.2.1.getD i20.toNat Zn).2.2.2.2.2.2.1&& (decide ((y17.2.2.2.1.getD i20.toNat Zn).2.1.1< (3:Int))))&& (decide (((y17.2.2.2.1.getD i20.toNat Zn).2.1.2.2.1.length:Int)>(0:Int)))
   (bif t140 then(Zj1 (y17.2.2.2.1.getD i20.toNat Zn).2.2.1)else some ((0:Int),())).bind fun t144=>
   (bif(t140&& (decide (t144.1>(0:Int))))then(Zj1 y17.2.2.2.2.1)else some ((0:Int),())).bind fun t150=>
   bif(t140&& (decide (t144.1>(0:Int))))&& (decide (t150.1>(0:Int)))then
    some (false,())
   else
    Zbi N e13_1 k16_1 y17 p18_1 is19_1 (IntKind.i64.wrap (i20+1))
  else
   Jo e13_1 k16_1 p18_1 is19_1
def Zom(code0:List Int):Option (Bool×Unit):=
 (Qrh code0).bind fun t23=>
 bif t23.1 then
  some (true,())
 else
  (Zeh code0).bind fun t26=>
  (Zg9 code0).bind fun t31=>
  (Zlt code0).bind fun t36=>
  (Zhu code0).bind fun t41=>
  (Zgh t41.1.1 t41.1.2.1 t41.1.2.2.1).bind fun t48=>
  (Zfe t26.1.1 t26.1.2.1).bind fun t51=>
  (Zjr t26.1.1 t26.1.2.1).bind fun t54=>
  (bif(!(t51.1==t54.1))then some ((0:Int),())else(Zrf t31.1 t31.2.1)).bind fun t59=>
  (bif(!(t51.1==t54.1))then some ((0:Int),())else(Zrr t31.1 t31.2.1)).bind fun t62=>
  let t64:Bool:=(!(t51.1==t54.1))|| (t59.1 !=t62.1)
  (bif t64 then some (([]:List Int),())else(Zm2 t31.1)).bind fun t67=>
  (bif t64 then some (([]:List Int),())else(Zqx t31.1)).bind fun t69=>
  (bif t64 then some (false,())else(Zn2 t67.1 t69.1)).bind fun t70=>
  (bif(t64|| (!t70.1))then some ((0:Int),())else(Zr3 t36.1 t36.2.1)).bind fun t76=>
  (bif(t64|| (!t70.1))then some ((0:Int),())else(Zsd t36.1 t36.2.1)).bind fun t79=>
  let t81:Bool:=(t64|| (!t70.1))|| (t76.1 !=t79.1)
  (bif t81 then some (([]:List Int),())else(Zgq t41.1.1 t41.1.2.1 t41.1.2.2.1)).bind fun t87=>
  (bif t81 then some (false,())else(Zn2 t48.1 t87.1)).bind fun t88=>
  bif t81|| (!t88.1)then
   some (false,())
  else
   (Zhv code0).bind fun t93=>
   (Zak t93.1.1 t93.1.2.1).bind fun t99=>
   (Wi t99.1.2.2.1 t99.1.2.1).bind fun t106=>
   bif t106.2.1&& (t93.1.2.1==400)then
    Zbi (Zdc t93.1.1 t99.1.2.1 t99.1.2.2.1 t106.1 t106.2.1 (0:Int)) t93.1.1 t99.1.2.1 t99.1.2.2.1 t106.1 t106.2.1 (0:Int)
   else
    Jo t93.1.1 t99.1.2.1 t106.1 t106.2.1
end Go.Proofs.YtdhchdiikmnmeaaGreat
