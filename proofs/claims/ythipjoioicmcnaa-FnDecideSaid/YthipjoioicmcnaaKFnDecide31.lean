-- texts of this session, merged by a program of it (wip/gen/pack.py)
import Derived.Test.YthipjoioicmcnaaKFnDecide29
set_option linter.unusedVariables false
set_option linter.unusedSimpArgs false
set_option maxHeartbeats 80000000
set_option maxRecDepth 100000
namespace Go.Proofs.Ythipjoioicmcnaa.Pure
open Go.RowKit Go.Proofs.Ythipjoioicmcnaa.G Go.Proofs.YthipjoioicmcnaaW.PrintWords Go.Proofs.YthipjoioicmcnaaW.PrintLast Go.Proofs.YthipjoioicmcnaaW.PrintMore
def vG (n:Int) (ps:List Int):Bool:=ps.all fun p=>decide (0≤p∧p≤n - 1)
def w3 (l:List bL) (ps:List Int) (q:Nat):Int:=if q < ps.length then (aC l (rd ps (q:Int))).f1 else 0
def mL (o w kk b x0 x1 x2:Int):Bool :=
 if o=0 then iA w.toNat kk else if o=1 then decide (0≤kk∧kk≤7) else if o=2 then x0 == w else if 3≤o∧o≤12 then x0 == w && x1 == w else if 13≤o∧o≤15 then x0 == x1 && w == 1 else
 if o=16 then wrap64 (x0 + x1) == w else if o=17 then decide (0≤kk∧kk≤wrap64 (x0 - w)) else if o=18 then x0 == 1 && (x1 == w && x2 == w) else decide (0≤kk∧kk≤7) && (decide (1≤b∧b≤8) && (x0 == 1 && w == 1))
def nG (l:List bL) (x:bL):Bool:=decide (1≤x.f1∧x.f1≤8) && (decide (0≤x.f0∧x.f0≤20) && (gO x.f0 x.f2 x.f3 x.f4 x.f5 && (vG (l.length:Int) (np x) && mL x.f0 x.f1 x.f2 x.f4 (w3 l (np x) 0) (w3 l (np x) 1) (w3 l (np x) 2))))
end Go.Proofs.Ythipjoioicmcnaa.Pure
