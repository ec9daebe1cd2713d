/- No condition. -/
import Derived.Test.YtcnklikmapfnmaaGreatDoorK2
import Derived.Test.YtcnklikmapfnmaaGreatDoorP2
import Derived.KernelRfl
import Derived.Test.YtcnklikmapfnmaaGreatDoorCards
import Derived.ProofKit
import Derived.LaidMore
import Derived.OpenShut
import Derived.Stop.Joined
import Derived.SevenTiedAt
import Derived.Lib.LaidTab
import Derived.Stop.LaidErr
import Derived.LaidHandle
import Derived.Lay
import Derived.Lib.ItoaLen
set_option linter.all false
namespace Go.Proofs.YtcnklikmapfnmaaGreatDoor
open Go.Am Go.ChangeShapes Go.WideShapes Go.ChangeAt Go.RowKit
theorem Qz6(code:List Int)(h:code.length<=1048576):T (zo code) λr=>Qa 25 r.1/\ej r.1.1 r.1.2.1 r.1.2.2.1=some (r.1,true,())/\r.2.1.length<=20/\ ∀e∈r.2.1,YT e:=by
 obtain⟨c,e,hc⟩:=Qix code h;have lp:∀(x t:Zf),∀(N m:Nat)(c:Qg)(l:List Zv),m<N->Ys c->l.length+m<=20->(∀e∈l,YT e)->T (kK N t x l (m:Int) c) λr=>r.1=x/\r.2.1.length<=20/\ ∀e∈r.2.1,YT e:=by
  intro x t N
  induction N with
  |zero=>omega
  |succ N ih=>
   intro m c l hm hc hl hf;unfold kK;refine T.ite (λhd=>?_) λ_=>T.pure ⟨rfl,Ag,hf⟩;have hd:=pE hd;refine(Pl c hc).bind λt ht=>T.guard Aj ?_;rw[show IntKind.i64.wrap ((m:Int)-1)=((m-1:Nat):Int) by grind[Zs]]
   grind
 unfold zo;rw[e,pA];refine(He _ _ hc).bind λt1 h1=>(Qur _ h1).bind λt2 h2=>(Qur _ h2.1).bind λt3 h3=>?_;obtain⟨t4,e4,a1,a2,a3,a4⟩:=Q0d t1.1.1 h2.2 h3.2;obtain⟨r0,f1,-,h4⟩:=FQ t1.1.1 t2.1.1 t3.1.1;rw[e4]at f1;cases f1;rw[e4,pA];refine(bw _ _ h3.1).bind λt5 h5=>?_;have b1:=h5.2.1;have b2:=h5.2.2 Aa
 rw[Zs];obtain⟨m,hm⟩:=Int.eq_ofNat_of_zero_le (show 0<=2+t5.1.1 by omega);rw[hm];refine(lp _ _ _ m _ [] (by simp[qg]) h5.1 Ae Ac).mono λr hr=>⟨hr.1▸h4,?_,hr.2⟩
 grind
theorem Qsz(code:List Int):KY code=some (true,()):=by
 have hbig:Im code=some (decide ((code.length:Int)>1048576),()):=rfl;unfold KY;rw[hbig,pA];by_cases hc:(code.length:Int)>1048576
 ·simp_all
 rw[Zm hc,pH];have hc:code.length<=1048576:=Aa
 obtain⟨⟨c,l,u⟩,eh,A,en,hl,he⟩:=Qz6 code hc;simp only at A en hl he;have ho:∀e∈l,e.2.2.2.1.length<=1048576:=λe h=>by have:=(he e h).t;omega
 obtain⟨g1,g2⟩:=HM l Aa ho;rw[GY _ _ he,List.nil_append]at g1 g2;have gl:=PP l he;obtain⟨d1,d2⟩:=yc (Bd l) Aa;rw[Qde l [] he,List.nil_append]at d1 d2;obtain⟨r1,r2,r3⟩:=RT A Aa Aa (l:=l) Aa he;rw[List.take_of_length_le (show l.length<=60 by omega)]at r1 r2 r3;have rp:kp c.1 c.2.1 c.2.2.1 (Bd l)=some ((XR l c,OY l c,true,()),()):=by
  obtain⟨r,q1,q2,-⟩:=FQ c.1 c.2.1 c.2.2.1;simp_all[kp]
 have ld:IntKind.i64.wrap (Int.tdiv (l.length:Int) (2:Int))=((l.length/2:Nat):Int):=by
  rw[show Int.tdiv (l.length:Int) (2:Int)=((l.length/2:Nat):Int)from rfl,Zs]
 have tk:(l.drop (0:Int).toNat).take ((((l.length/2:Nat):Int)).toNat- (0:Int).toNat)=l.take (l.length/2):=by
  rfl
 have hl2:(l.take (l.length/2)).length=l.length/2:=Ai
 obtain⟨-,s2,-⟩:=RT A Aa Aa (l:=l.take (l.length/2)) Aa λe h=>he e (List.mem_of_mem_take h);rw[List.take_of_length_le (show(l.take (l.length/2)).length<=60 by omega),Z9d]at s2;have ol:=D8 l c;have ox:=Qke l 25 c A Aa Aa he;rw[eh,pA];simp only;rw[g2,pA,d2,pA,g1,pA];simp only[beq_self_eq_true,bne_self_eq_false,pI,Bool.or_self,pH];rw[rp,pA,r1,pA,ld];simp only[tk];rw[Zb Ah,Zb,s2,pA,Xm,Zb];rw[show ∀m:Option (Bool×Unit),ae m m=m from X5];simp only;unfold xE gH;obtain⟨z1,z2,z3⟩:=Qzs r3;obtain⟨w1,w2,w3⟩:=Q0j (XR l c) Aa ox;have te:((XR l c).drop (0:Int).toNat).take (((((XR l c).take (l.length/2)).length:Int)).toNat- (0:Int).toNat)=(XR l c).take (l.length/2):=by
  simp_all
 have ll:((XR l c).take (l.length/2)).length<=(XR l c).length:=Ai
 simp only[pI,pH,H5 (XR l c),pA,Bool.or_self,Quw r3 (show 70000<=1000000 by omega),z2,z3,bne_self_eq_false,Zm (show ¬(((XR l c).take (l.length/2)).length:Int)>((XR l c).length:Int) by omega)];rw[Zb (λ_=>Aa),te];simp only[H5 ((XR l c).take (l.length/2)),pA,pI,Bool.or_self,pH,w2,w3,bne_self_eq_false];obtain⟨⟨sv,o,p,t,u2⟩,e2,k2⟩:=Qru code hc;simp only at k2;obtain⟨out,y,b,e3,e4,k3,k4⟩:=Qte sv o p t k2;obtain⟨⟨ev,u3⟩,e5,k5,k6⟩:=Qrt code hc;simp only at k5 k6;obtain⟨g3,g4⟩:=HM ev Aa k6;obtain⟨⟨dt,u4⟩,e6,k7⟩:=Qi2 code hc;simp only at k7;obtain⟨d3,d4⟩:=yc dt k7;obtain⟨⟨⟨dc,u6⟩,u7⟩,e7,k8⟩:T (xJ code) λr=>Qa 30000 r.1.1:=by
  unfold xJ;exact(TX code hc).bind λt ht=>(Qxi _ ht).bind λf hf=>T.pure hf.2
 simp only at k8;obtain⟨x1,x2,x3⟩:=Qzs k8;obtain⟨⟨⟨da,db,u8⟩,u9⟩,e8,k9,k10⟩:=Qrs code hc;simp only at k9 k10;obtain⟨y1,y2,y3⟩:=Q1v da db Aa Aa;obtain⟨⟨od,u10⟩,e9,k11,k12⟩:=Qi3 code hc;simp only at k11 k12;obtain⟨v1,v2,v3⟩:=Q0j od Aa k12;simp only[e2,e3,e4,e5,e6,d3,d4,e7,e8,e9,pA,beq_self_eq_true,pG,H5 out,Quw k4 (show 70000<=1000000 by omega),Bool.and_self,g3,g4,x2,x3,y2,y3,v2,v3]
theorem Qo0:∀xs:dJ VT.args,Cz VT.args xs->KY xs.1=some (true,()):=λxs _=>Qsz xs.1
theorem Z69:ownKnob Tryz.prog.godebug=none:=Ab
theorem Z36(os:Os)(args:Array Value):laidMetH Tryz.prog Rows.fnReplaysRow.laid ((World.laidAll Tryz.prog os Rows.fnReplaysRow.laid).forCall (λ_ _=>0) ⟨#[],args,[]⟩).memory:=by
 rw[MakeChecks.laidMetH_plain _ _ _ Ab];exact laidMet_laidAll _ Ab Ab
theorem Z7a{W:World}(h:laidMetH Tryz.prog Rows.fnReplaysRow.laid W)(hs:W.ShapedOpen Tryz.prog):glob.G W:=by
 rw[MakeChecks.laidMetH_plain _ _ _ Ab]at h;have t0 : W.var? Tryz.prog "loop.example/g01633/impl.eventWords" = some (WM.map fun z => Value.string ⟨⟨z⟩⟩).toArray :=
  Qca (g := 0) (t := 187) (e := 9) (n := 13) (rest := Rows.fnReplaysRow.laid.drop 1) Ab Ab Ab Ab Ab Ab (show laidMet Tryz.prog (("loop.example/g01633/impl.eventWords", Cm WM) :: Rows.fnReplaysRow.laid.drop 1) W from h)
 have t1 : Go.Lib.TabIs Tryz.prog W "internal/strconv.uint64pow10" .u64 Go.Lib.pow10Tab :=
  Go.Lib.tabIs_of_head (g := 6) (t := 413) (e := 375) (n := 20) (rest := Rows.fnReplaysRow.laid.drop 2) Ab Ab Ab Ab Ab Ab (show laidMet Tryz.prog (("internal/strconv.uint64pow10", Go.Lib.tabData .u64 Go.Lib.pow10Tab) :: Rows.fnReplaysRow.laid.drop 2) W from h.tail)
 obtain⟨m2,t2⟩:=cell_of_shapedOpen_int (P:=Tryz.prog) (g:=1) (t:=3) (zero:= #[.int .i64 0]) hs (pE Ab) Ab rfl Ab Ab Tryz.underlying3;have star : "*" ++ "errors.errorString" = "*errors.errorString" := by decide
 obtain ⟨_, _, t3, _⟩ := laid_sentinel (g := 4) (ti := 191) (tp := 417) (te := 419) (ts := 9) (nm := "*errors.errorString") (r := Rows.fnReplaysRow.laid.drop 7) (show laidMet Tryz.prog (("strconv.ErrSyntax", Rows.laid_strconv_ErrSyntax) :: Rows.fnReplaysRow.laid.drop 7) W from h.tail.tail.tail.tail.tail.tail) Ab Ab Tryz.underlying191
  (fun u hu => typeName_ptr_named (nm := "errors.errorString") (by rw [star]; kernel_rfl) Ab Ah u (by rw [star]; exact hu)) Tryz.underlying417 Tryz.underlying419 rfl rfl Tryz.underlying9 Ab Ab
 intro p hp;simp only[List.mem_cons,List.not_mem_nil,or_false]at hp;rcases hp with rfl|rfl|rfl|rfl
 ·exact⟨_,t0,rfl⟩
 ·exact⟨_,t1,rfl⟩
 ·exact var?_of_cell Ab t2
 ·exact⟨_,t3,_,_,rfl⟩
end Go.Proofs.YtcnklikmapfnmaaGreatDoor
