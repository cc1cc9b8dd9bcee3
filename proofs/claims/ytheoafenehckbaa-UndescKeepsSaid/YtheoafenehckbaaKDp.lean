/- How deep a file's messages stand. -/
import Derived.Test.YtheoafenehckbaaKRk
namespace Go.Proofs.Ytheoafenehckbaa.Dp
open Go.RowKit GUndescBack YtheoafenehckbaaW.PrintWords YtheoafenehckbaaW.PrintLast YtheoafenehckbaaW.PrintMore Rk
theorem sz_f2 (y:S76):SizeOf.sizeOf y.f2 < SizeOf.sizeOf y:=by
 cases y
 simp only [S76.mk.sizeOf_spec]
 omega
def LenOk (l:List S76):Prop:=l.length≤maxLen∧∀ y∈l,good76 y
theorem lenOk_in {l:List S76} {y:S76} (h:LenOk l) (hy:y∈l):LenOk y.f2:=by
 have g:=h.2 y hy
 rw [good76] at g
 exact g.2.2.1
theorem lenOk_wrap {l:List S76} (h:LenOk l) {i:Nat} (hi:i < l.length):wrap64 ((i:Int)+1)=((i+1:Nat):Int):=by
 have:=h.1
 unfold maxLen at this
 unfold wrap64
 omega
theorem rd_at {l:List S76} {i:Nat} (hi:i < l.length):jkz l (i:Int)=l[i]:=by simp [jkz,hi]
def hL:List S76→Nat
 | []=>0
 | y :: r=>max (1+hL y.f2) (hL r)
termination_by l=>SizeOf.sizeOf l
decreasing_by
 · have:=sz_f2 y
   simp only [List.cons.sizeOf_spec]
   omega
 · simp only [List.cons.sizeOf_spec]
   omega
theorem hL_nil:hL []=0:=by rw [hL]
theorem hL_cons (y:S76) (r:List S76):hL (y :: r)=max (1+hL y.f2) (hL r):=by rw [hL]
theorem mx_int (x y:Int):mx x y=max x y:=by
 unfold mx
 split <;> omega
def dp (l:List S76):Int:=if hL l≤64 then (hL l:Int) else 100
theorem dp_le (l:List S76):(dp l > 64)↔¬ hL l≤64:=by
 unfold dp
 split <;> omega
end Go.Proofs.Ytheoafenehckbaa.Dp
