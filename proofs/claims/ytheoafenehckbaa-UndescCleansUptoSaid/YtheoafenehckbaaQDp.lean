/- How deep a file's messages stand. -/
import Derived.Test.YtheoafenehckbaaQRk
namespace Go.Proofs.Ytheoafenehckbaa.Dp
open Go.RowKit GUndescBack YtheoafenehckbaaW.PrintWords YtheoafenehckbaaW.PrintLast YtheoafenehckbaaW.PrintMore Rk
theorem sz_f2 (y:S76):SizeOf.sizeOf y.f2 < SizeOf.sizeOf y:=by
 cases y
 simp only [S76.mk.sizeOf_spec]
 omega
def LenOk (l:List S76):Prop:=l.length≤maxLen∧∀ y∈l,good76 y
def hL:List S76→Nat
 | []=>0
 | y :: r=>max (1+hL y.f2) (hL r)
termination_by l=>SizeOf.sizeOf l
decreasing_by
 · have:=sz_f2 y
   simp only [List.cons.sizeOf_spec]
   omega
 · simp only [List.cons.sizeOf_spec]
   omega
theorem hL_nil:hL []=0:=by rw [hL]
theorem hL_cons (y:S76) (r:List S76):hL (y :: r)=max (1+hL y.f2) (hL r):=by rw [hL]
def dp (l:List S76):Int:=if hL l≤64 then (hL l:Int) else 100
theorem dp_le (l:List S76):(dp l > 64)↔¬ hL l≤64:=by
 unfold dp
 split <;> omega
end Go.Proofs.Ytheoafenehckbaa.Dp
