/- The structs of the rows as data: bounds, bulk, what a reading is. -/
import Derived.Test.YtheoafenehckbaaKGUndescBackx0
import Derived.Test.YtheoafenehckbaaKRdz
namespace Go.Proofs.Ytheoafenehckbaa.Rk
open GUndescBack
open Go.RowKit YtheoafenehckbaaW.PrintWords YtheoafenehckbaaW.PrintLast YtheoafenehckbaaW.PrintMore
set_option maxRecDepth 100000
set_option linter.unusedVariables false
def good88 (y:S88):Prop:=(y.f0.size≤maxLen)∧((Lit.int .i64 y.f1).wf=true)∧((Lit.int .i64 y.f2).wf=true)∧((Lit.int .i64 y.f3).wf=true)∧(y.f4.size≤maxLen)∧(y.f5.size≤maxLen)∧(y.f6.size≤maxLen)∧(True)∧((Lit.int .i64 y.f8).wf=true)∧(y.f9.size≤maxLen)∧(True)∧(y.f11.length≤maxLen∧∀ y_∈y.f11,(Lit.int .u8 y_).wf=true)∧(y.f12.length≤maxLen∧∀ y_∈y.f12,(Lit.int .u8 y_).wf=true)
def len88 (y:S88):Prop:=(y.f0.size≤reachBytes)∧(True)∧(True)∧(True)∧(y.f4.size≤reachBytes)∧(y.f5.size≤reachBytes)∧(y.f6.size≤reachBytes)∧(True)∧(True)∧(y.f9.size≤reachBytes)∧(True)∧(y.f11.length*1≤reachBytes∧∀ y_∈y.f11,True)∧(y.f12.length*1≤reachBytes∧∀ y_∈y.f12,True)
def bk88 (y:S88):Nat:=((y.f0.size+1)+((1)+((1)+((1)+((y.f4.size+1)+((y.f5.size+1)+((y.f6.size+1)+((1)+((1)+((y.f9.size+1)+((1)+(((y.f11.map fun y_=>1).sum+1)+(((y.f12.map fun y_=>1).sum+1))))))))))))))+1
def good93 (y:S93):Prop:=(y.f0.size≤maxLen)∧((Lit.int .i64 y.f1).wf=true)∧(y.f2.length≤maxLen∧∀ y_∈y.f2,(Lit.int .u8 y_).wf=true)∧(y.f3.length≤maxLen∧∀ y_∈y.f3,(Lit.int .u8 y_).wf=true)
def len93 (y:S93):Prop:=(y.f0.size≤reachBytes)∧(True)∧(y.f2.length*1≤reachBytes∧∀ y_∈y.f2,True)∧(y.f3.length*1≤reachBytes∧∀ y_∈y.f3,True)
def bk93 (y:S93):Nat:=((y.f0.size+1)+((1)+(((y.f2.map fun y_=>1).sum+1)+(((y.f3.map fun y_=>1).sum+1)))))+1
def good82 (y:S82):Prop:=(y.f0.size≤maxLen)∧(y.f1.length≤maxLen∧∀ y_∈y.f1,good93 y_)∧(y.f2.length≤maxLen∧∀ y_∈y.f2,(Lit.int .u8 y_).wf=true)∧(y.f3.length≤maxLen∧∀ y_∈y.f3,(Lit.int .u8 y_).wf=true)
def len82 (y:S82):Prop:=(y.f0.size≤reachBytes)∧(y.f1.length*72≤reachBytes∧∀ y_∈y.f1,len93 y_)∧(y.f2.length*1≤reachBytes∧∀ y_∈y.f2,True)∧(y.f3.length*1≤reachBytes∧∀ y_∈y.f3,True)
def bk82 (y:S82):Nat:=((y.f0.size+1)+(((y.f1.map bk93).sum+1)+(((y.f2.map fun y_=>1).sum+1)+(((y.f3.map fun y_=>1).sum+1)))))+1
def good115 (y:S115):Prop:=((Lit.int .i64 y.f0).wf=true)∧((Lit.int .i64 y.f1).wf=true)
def len115 (y:S115):Prop:=(True)∧(True)
def bk115 (y:S115):Nat:=((1)+((1)))+1
def good91 (y:S91):Prop:=(y.f0.size≤maxLen)∧(y.f1.length≤maxLen∧∀ y_∈y.f1,(Lit.int .u8 y_).wf=true)∧(y.f2.length≤maxLen∧∀ y_∈y.f2,(Lit.int .u8 y_).wf=true)
def len91 (y:S91):Prop:=(y.f0.size≤reachBytes)∧(y.f1.length*1≤reachBytes∧∀ y_∈y.f1,True)∧(y.f2.length*1≤reachBytes∧∀ y_∈y.f2,True)
def bk91 (y:S91):Nat:=((y.f0.size+1)+(((y.f1.map fun y_=>1).sum+1)+(((y.f2.map fun y_=>1).sum+1))))+1
def good76 (y:S76):Prop:=(y.f0.size≤maxLen)∧(y.f1.length≤maxLen∧∀ y_∈y.f1,good88 y_)∧(y.f2.length≤maxLen∧∀ y_∈y.f2,good76 y_)∧(y.f3.length≤maxLen∧∀ y_∈y.f3,good82 y_)∧(y.f4.length≤maxLen∧∀ y_∈y.f4,good115 y_)∧(y.f5.length≤maxLen∧∀ y_∈y.f5,good88 y_)∧(y.f6.length≤maxLen∧∀ y_∈y.f6,good91 y_)∧(y.f7.length≤maxLen∧∀ y_∈y.f7,good115 y_)∧(y.f8.length≤maxLen∧∀ y_∈y.f8,y_.size≤maxLen)∧(y.f9.length≤maxLen∧∀ y_∈y.f9,(Lit.int .u8 y_).wf=true)∧(y.f10.length≤maxLen∧∀ y_∈y.f10,(Lit.int .u8 y_).wf=true)
termination_by SizeOf.sizeOf y
decreasing_by (have h_:=List.sizeOf_lt_of_mem (by assumption:y_∈y.f2);cases y;simp only [S76.mk.sizeOf_spec] at h_ ⊢;omega)
def len76 (y:S76):Prop:=True
def bk76 (y:S76):Nat:=((y.f0.size+1)+(((y.f1.map bk88).sum+1)+(((y.f2.attach.map fun z_=>bk76 z_.1).sum+1)+(((y.f3.map bk82).sum+1)+(((y.f4.map bk115).sum+1)+(((y.f5.map bk88).sum+1)+(((y.f6.map bk91).sum+1)+(((y.f7.map bk115).sum+1)+(((y.f8.map fun y_=>y_.size+1).sum+1)+(((y.f9.map fun y_=>1).sum+1)+(((y.f10.map fun y_=>1).sum+1))))))))))))+1
termination_by SizeOf.sizeOf y
decreasing_by (have h_:=List.sizeOf_lt_of_mem z_.2;cases y;simp only [S76.mk.sizeOf_spec] at h_ ⊢;omega)
theorem bk76_eq (y:S76):bk76 y=((y.f0.size+1)+(((y.f1.map bk88).sum+1)+(((y.f2.map bk76).sum+1)+(((y.f3.map bk82).sum+1)+(((y.f4.map bk115).sum+1)+(((y.f5.map bk88).sum+1)+(((y.f6.map bk91).sum+1)+(((y.f7.map bk115).sum+1)+(((y.f8.map fun y_=>y_.size+1).sum+1)+(((y.f9.map fun y_=>1).sum+1)+(((y.f10.map fun y_=>1).sum+1))))))))))))+1:=by rw [bk76,List.attach_map_val (l:=y.f2) (f:=bk76)]
def good53 (y:S53):Prop:=(y.f0.size≤maxLen)∧(y.f1.size≤maxLen)∧(y.f2.size≤maxLen)∧(True)∧(True)∧(y.f5.length≤maxLen∧∀ y_∈y.f5,(Lit.int .u8 y_).wf=true)∧(y.f6.length≤maxLen∧∀ y_∈y.f6,(Lit.int .u8 y_).wf=true)
def len53 (y:S53):Prop:=(y.f0.size≤reachBytes)∧(y.f1.size≤reachBytes)∧(y.f2.size≤reachBytes)∧(True)∧(True)∧(y.f5.length*1≤reachBytes∧∀ y_∈y.f5,True)∧(y.f6.length*1≤reachBytes∧∀ y_∈y.f6,True)
def bk53 (y:S53):Nat:=((y.f0.size+1)+((y.f1.size+1)+((y.f2.size+1)+((1)+((1)+(((y.f5.map fun y_=>1).sum+1)+(((y.f6.map fun y_=>1).sum+1))))))))+1
def good51 (y:S51):Prop:=(y.f0.size≤maxLen)∧(y.f1.length≤maxLen∧∀ y_∈y.f1,good53 y_)∧(y.f2.length≤maxLen∧∀ y_∈y.f2,(Lit.int .u8 y_).wf=true)∧(y.f3.length≤maxLen∧∀ y_∈y.f3,(Lit.int .u8 y_).wf=true)
def len51 (y:S51):Prop:=(y.f0.size≤reachBytes)∧(y.f1.length*104≤reachBytes∧∀ y_∈y.f1,len53 y_)∧(y.f2.length*1≤reachBytes∧∀ y_∈y.f2,True)∧(y.f3.length*1≤reachBytes∧∀ y_∈y.f3,True)
def bk51 (y:S51):Nat:=((y.f0.size+1)+(((y.f1.map bk53).sum+1)+(((y.f2.map fun y_=>1).sum+1)+(((y.f3.map fun y_=>1).sum+1)))))+1
def good30 (y:S30):Prop:=(y.f0.size≤maxLen)∧(y.f1.size≤maxLen)∧(y.f2.length≤maxLen∧∀ y_∈y.f2,y_.size≤maxLen)∧(y.f3.length≤maxLen∧∀ y_∈y.f3,(Lit.int .i64 y_).wf=true)∧(y.f4.length≤maxLen∧∀ y_∈y.f4,good76 y_)∧(y.f5.length≤maxLen∧∀ y_∈y.f5,good82 y_)∧(y.f6.length≤maxLen∧∀ y_∈y.f6,good51 y_)∧(y.f7.length≤maxLen∧∀ y_∈y.f7,good88 y_)∧(y.f8.size≤maxLen)∧(y.f9.length≤maxLen∧∀ y_∈y.f9,(Lit.int .u8 y_).wf=true)∧(y.f10.length≤maxLen∧∀ y_∈y.f10,(Lit.int .u8 y_).wf=true)
def len30 (y:S30):Prop:=(y.f0.size≤reachBytes)∧(y.f1.size≤reachBytes)∧(y.f2.length*16≤reachBytes∧∀ y_∈y.f2,y_.size≤reachBytes)∧(y.f3.length*8≤reachBytes∧∀ y_∈y.f3,True)∧(y.f4.length*256≤reachBytes∧∀ y_∈y.f4,len76 y_)∧(y.f5.length*88≤reachBytes∧∀ y_∈y.f5,len82 y_)∧(y.f6.length*88≤reachBytes∧∀ y_∈y.f6,len51 y_)∧(y.f7.length*176≤reachBytes∧∀ y_∈y.f7,len88 y_)∧(y.f8.size≤reachBytes)∧(y.f9.length*1≤reachBytes∧∀ y_∈y.f9,True)∧(y.f10.length*1≤reachBytes∧∀ y_∈y.f10,True)
def bk30 (y:S30):Nat:=((y.f0.size+1)+((y.f1.size+1)+(((y.f2.map fun y_=>y_.size+1).sum+1)+(((y.f3.map fun y_=>1).sum+1)+(((y.f4.map bk76).sum+1)+(((y.f5.map bk82).sum+1)+(((y.f6.map bk51).sum+1)+(((y.f7.map bk88).sum+1)+((y.f8.size+1)+(((y.f9.map fun y_=>1).sum+1)+(((y.f10.map fun y_=>1).sum+1))))))))))))+1
end Go.Proofs.Ytheoafenehckbaa.Rk
