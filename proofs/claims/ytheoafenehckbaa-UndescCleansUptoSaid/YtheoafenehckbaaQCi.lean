/- Cleaning twice is cleaning once (plain). -/
import Derived.Test.YtheoafenehckbaaQCx
import Derived.LoopN
import Derived.RegionTactic
namespace Go.Proofs.Ytheoafenehckbaa.Ur
open Go.RowKit GUndescBack YtheoafenehckbaaW.PrintWords YtheoafenehckbaaW.PrintLast YtheoafenehckbaaW.PrintMore Rk
set_option linter.unusedVariables false
set_option linter.unusedSimpArgs false
theorem clField_2:clField ∘ clField=clField:=rfl
theorem clEnum_2:clEnum ∘ clEnum=clEnum:=by
 funext x
 show (⟨x.f0,(x.f1.map clValue).map clValue,x.f2,[]⟩:S82)=⟨x.f0,x.f1.map clValue,x.f2,[]⟩
 rw [List.map_map]
 rfl
theorem clService_2:clService ∘ clService=clService:=by
 funext x
 show (⟨x.f0,(x.f1.map clMethod).map clMethod,x.f2,[]⟩:S51)=⟨x.f0,x.f1.map clMethod,x.f2,[]⟩
 rw [List.map_map]
 rfl
theorem clMs_2 (n:Nat):∀ l,clMs n (clMs n l)=clMs n l:=by
 induction n with
 | zero=>intro l;rfl
 | succ n ih=>
  intro l
  rw [clMs_succ,clMs_succ,List.map_map]
  congr 1
  funext x
  show (⟨x.f0,(x.f1.map clField).map clField,clMs n (clMs n x.f2),(x.f3.map clEnum).map clEnum,x.f4,(x.f5.map clField).map clField,(x.f6.map clOneof).map clOneof,x.f7,x.f8,x.f9,[]⟩:S76)=clMx n x
  rw [ih,List.map_map,List.map_map,List.map_map,List.map_map,clField_2,clEnum_2]
  rfl
theorem clFile_2 (x:S30):clFile (clFile x)=clFile x:=by
 show (⟨x.f0,x.f1,x.f2,x.f3,clMs 64 (clMs 64 x.f4),(x.f5.map clEnum).map clEnum,(x.f6.map clService).map clService,(x.f7.map clField).map clField,x.f8,x.f9,[]⟩:S30)=clFile x
 rw [clMs_2,List.map_map,List.map_map,List.map_map,clField_2,clEnum_2,clService_2]
 rfl
end Go.Proofs.Ytheoafenehckbaa.Ur
