/- No condition. -/
import Derived.Test.YtglbkfajafconaaGreatDoorRows
import Derived.KernelRfl
set_option linter.all false
namespace Go.Proofs.YtglbkfajafconaaGreatDoor
open Go
def cvB(P:Program):Nat->List FuncId->List FuncId->Nat->List FuncId
 |0,_,s,_=>s.reverse
 |_+1,[],s,_=>s.reverse
 |n+1,f::t,s,m=>bif m.testBit f then cvB P n t s m else cvB P n ((P.funcs[f]?).elim [] P.leadsTo++t) (f::s) (m|||2^f)
theorem cvE(P:Program):∀n t s m,(∀i,Nat.testBit m i=s.contains i)->P.closureVia n t s=cvB P n t s m
 |0,_,_,_,_=>by simp[cvB,Program.closureVia]
 |_+1,[],_,_,_=>by simp[cvB,Program.closureVia]
 |n+1,f::t,s,m,h=>by
  have h1:=cvE P n t s m h
  have h2:=cvE P n ((P.funcs[f]?).elim [] P.leadsTo++t) (f::s) (m|||2^f) λi=>by
   rw[Nat.testBit_or,h i,Nat.testBit_two_pow,List.contains_cons,Bool.or_comm];congr 1;by_cases e:f=i<;>simp[e];exact λq=>e q.symm
  unfold Program.closureVia cvB;rw[h f];cases s.contains f
  ·exact h2
  ·exact h1
theorem clE(P:Program)(f:FuncId):P.closure f=cvB P (1+(P.funcs.toList.map λg=>(P.leadsTo g).length+1).sum) [f] [] 0:=cvE P _ _ _ _ λi=>by simp
end Go.Proofs.YtglbkfajafconaaGreatDoor
