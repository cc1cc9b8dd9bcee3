/- What is read is well formed. -/
import Derived.Test.YtheoafenehckbaaKUy
import Derived.WalkLawsBesides
namespace Go.Proofs.Ytheoafenehckbaa.Ur
open Wb Dp Rk Sp Go.RowKit GUndescBack YtheoafenehckbaaW.PrintWords YtheoafenehckbaaW.PrintLast YtheoafenehckbaaW.PrintMore Vb Fx Wr Wt Wj Wp Uq
set_option linter.unusedVariables false
set_option linter.unusedSimpArgs false
def IOneof (s:S91):Prop:=Bytes s.f1∧s.f2=[]
def IValue (s:S93):Prop:=I64 s.f1∧Bytes s.f2∧s.f3=[]
def IRange (s:S115):Prop:=I64 s.f0∧I64 s.f1
def IMethod (s:S53):Prop:=Bytes s.f5∧s.f6=[]
def IField (s:S88):Prop:=I64 s.f1∧(0≤s.f2∧s.f2 < 2147483648)∧(0≤s.f3∧s.f3 < 2147483648)∧(s.f7=false→s.f6=⟨#[]⟩)∧Bytes s.f11∧(0≤s.f8∧s.f8≤2147483648)∧s.f12=[]
def IEnum (s:S82):Prop:=(∀ y∈s.f1,WfValue y)∧Bytes s.f2∧s.f3=[]
def IService (s:S51):Prop:=(∀ y∈s.f1,WfMethod y)∧Bytes s.f2∧s.f3=[]
def IMessage (n:Nat) (s:S76):Prop:=(∀ y∈s.f1,WfField y)∧(∀ y∈s.f2,WfMessage y)∧(∀ y∈s.f3,WfEnum y)∧(∀ y∈s.f4,WfRange y)∧(∀ y∈s.f5,WfField y)∧Bytes s.f9∧(∀ y∈s.f6,WfOneof y)∧(∀ y∈s.f7,WfRange y)∧s.f10=[]∧hL s.f2≤n
def IFile (n:Nat) (s:S30):Prop:=(∀ y∈s.f4,WfMessage y)∧(∀ y∈s.f5,WfEnum y)∧(∀ y∈s.f6,WfService y)∧(∀ y∈s.f7,WfField y)∧Bytes s.f9∧(∀ y∈s.f3,0≤y∧y < 2147483648)∧s.f10=[]∧hL s.f4≤n
end Go.Proofs.Ytheoafenehckbaa.Ur
