/- Written by gprint.py of this session: the kit's printer, with functions that are proved by hand put in. -/
import Derived.Test.YtheoafenehckbaaProg
import Derived.Below
import Derived.Deep.Draws
import Derived.Deep.AppendLies
import Derived.Maps.AppendAt
import Derived.OwnWalk
import Derived.Laws.BytesArg
import Derived.Laws.MakeOwn
import Derived.Laws.OwnMore
import Derived.Deep.OwnRows
import Derived.Tactics
import Derived.Lib.ConvBytes
import Derived.Laws.Slices
import Derived.WalkKit
import Derived.KernelRfl
import Derived.RowKit3
import Derived.Deep.LoopGhost
import Derived.Deep.QuietTactic
import Derived.BigQuiet
import Derived.WideLaws
import Derived.Deep.DeepCutAuto
import Derived.Deep.CutBlock
import Derived.Deep.RegionHeld3
import Derived.Laws.Rows
import Derived.Lib.AppendStr
import Derived.ArgAppend
import Derived.Laws.IdiomCopy
import Derived.OrdersHeld
import Derived.Laws.BitsLemmas
import Derived.RowKit
import Derived.Test.YtheoafenehckbaaQA2
import Derived.Test.YtheoafenehckbaaQSw
import Derived.Test.YtheoafenehckbaaQW
namespace Go.Proofs.Ytheoafenehckbaa.GUndescBack
open Tk Cl Fl Pt
open Go.RowKit YtheoafenehckbaaW.PrintWords YtheoafenehckbaaW.PrintLast YtheoafenehckbaaW.PrintMore
attribute [local go_sem] max2_int min2_int max_two min_two max_three min_three max_four min_four
set_option linter.unusedVariables false
set_option linter.unusedSimpArgs false
def errW:Option Int→Value
 | none=>.nilIface
 | some c=>.iface 0 (.int .i64 c)
theorem errW_none:errW none = .nilIface:=rfl
theorem errW_some (c:Int):errW (some c) = .iface 0 (.int .i64 c):=rfl
theorem info5:(Try.prog.info? 5).map (fun i=>(i.zero,i.size,i.bytes))=some (some (.int .u8 0),1,1):=by kernel_rfl
def rd_L3 (xs:List (List Int)) (i:Int):(List Int):=xs.getD i.toNat ([]:List Int)
structure S97 where
 f0:Int
 f1:Int
 f2:Int
 f3:(List Int)
def z97:S97:=⟨(0:Int),(0:Int),(0:Int),([]:List Int)⟩
def k97:Kd S97:=Kd.iso (Kd.pair (Kd.int .i64) (Kd.pair (Kd.int .i64) (Kd.pair (Kd.int .u64) (Kd.slice 5 (Kd.int .u8))))) (fun x:S97=>(x.f0,x.f1,x.f2,x.f3))
theorem k97_open {w:World} {x:S97} {cs:List Value} (h:k97.K w x cs):∃ A3 c3,cs=[.int .i64 x.f0,.int .i64 x.f1,.int .u64 x.f2,.slice A3 x.f3.length c3]∧x.f3.length≤c3∧(Kd.int .u8).C w A3 x.f3.length x.f3:=by
 obtain ⟨_,_,rfl,rfl,⟨_,_,rfl,rfl,⟨_,_,rfl,rfl,⟨A3,c3,rfl,l3,g3⟩⟩⟩⟩:=h
 exact ⟨A3,c3,rfl,l3,g3⟩
theorem k97_mkM (w:World) (base:Nat) (ok:Nat→Prop) (x:S97) {v3:Value} (g3:(Kd.int .u8).R 5 w base ok v3 x.f3):k97.M w base ok x [.int .i64 x.f0,.int .i64 x.f1,.int .u64 x.f2,v3]:=⟨[.int .i64 x.f0],[.int .i64 x.f1,.int .u64 x.f2,v3],rfl,rfl,⟨[.int .i64 x.f1],[.int .u64 x.f2,v3],rfl,rfl,⟨[.int .u64 x.f2],[v3],rfl,rfl,⟨v3,rfl,g3⟩⟩⟩⟩
theorem k97_openF {W:World} {ok:Nat→Prop} {x:S97} {cs:List Value} (h:Kd.FK k97 W ok x cs):∃ A3 c3,cs=[.int .i64 x.f0,.int .i64 x.f1,.int .u64 x.f2,.slice A3 x.f3.length c3]∧x.f3.length≤c3∧Kd.F (Kd.int .u8) W ok A3 x.f3.length x.f3:=by
 obtain ⟨A3,c3,rfl,l3,_⟩:=k97_open (Kd.FK_now h)
 exact ⟨A3,c3,rfl,l3,(fun W' hW=>by obtain ⟨A3_,c3_,he,l3_,g3_⟩:=k97_open (h W' hW);injection (Option.some.inj (show some (Value.slice A3 x.f3.length c3)=some (Value.slice A3_ x.f3.length c3_) from congrArg (fun l=>l[3]?) he)) with ha_ _ _;rw [ha_];exact g3_)⟩
def rd_T97 (xs:List S97) (i:Int):S97:=xs.getD i.toNat z97
def rd_L5 (xs:List (List S97)) (i:Int):(List S97):=xs.getD i.toNat ([]:List S97)
structure S88 where
 f0:ByteArray
 f1:Int
 f2:Int
 f3:Int
 f4:ByteArray
 f5:ByteArray
 f6:ByteArray
 f7:Bool
 f8:Int
 f9:ByteArray
 f10:Bool
 f11:(List Int)
 f12:(List Int)
def z88:S88:=⟨(⟨#[]⟩:ByteArray),(0:Int),(0:Int),(0:Int),(⟨#[]⟩:ByteArray),(⟨#[]⟩:ByteArray),(⟨#[]⟩:ByteArray),false,(0:Int),(⟨#[]⟩:ByteArray),false,([]:List Int),([]:List Int)⟩
def k88:Kd S88:=Kd.iso (Kd.pair Kd.string (Kd.pair (Kd.int .i64) (Kd.pair (Kd.int .i64) (Kd.pair (Kd.int .i64) (Kd.pair Kd.string (Kd.pair Kd.string (Kd.pair Kd.string (Kd.pair Kd.bool (Kd.pair (Kd.int .i64) (Kd.pair Kd.string (Kd.pair Kd.bool (Kd.pair (Kd.slice 5 (Kd.int .u8)) (Kd.slice 5 (Kd.int .u8)))))))))))))) (fun x:S88=>(x.f0,x.f1,x.f2,x.f3,x.f4,x.f5,x.f6,x.f7,x.f8,x.f9,x.f10,x.f11,x.f12))
theorem k88_open {w:World} {x:S88} {cs:List Value} (h:k88.K w x cs):∃ A11 c11 A12 c12,cs=[.string x.f0,.int .i64 x.f1,.int .i64 x.f2,.int .i64 x.f3,.string x.f4,.string x.f5,.string x.f6,.bool x.f7,.int .i64 x.f8,.string x.f9,.bool x.f10,.slice A11 x.f11.length c11,.slice A12 x.f12.length c12]∧x.f11.length≤c11∧(Kd.int .u8).C w A11 x.f11.length x.f11∧x.f12.length≤c12∧(Kd.int .u8).C w A12 x.f12.length x.f12:=by
 obtain ⟨_,_,rfl,rfl,⟨_,_,rfl,rfl,⟨_,_,rfl,rfl,⟨_,_,rfl,rfl,⟨_,_,rfl,rfl,⟨_,_,rfl,rfl,⟨_,_,rfl,rfl,⟨_,_,rfl,rfl,⟨_,_,rfl,rfl,⟨_,_,rfl,rfl,⟨_,_,rfl,rfl,⟨_,_,rfl,⟨A11,c11,rfl,l11,g11⟩,⟨A12,c12,rfl,l12,g12⟩⟩⟩⟩⟩⟩⟩⟩⟩⟩⟩⟩⟩:=h
 exact ⟨A11,c11,A12,c12,rfl,l11,g11,l12,g12⟩
theorem k88_mk (w:World) (x:S88) {A11:Option Addr} {c11:Nat} (l11:x.f11.length≤c11) (g11:(Kd.int .u8).C w A11 x.f11.length x.f11) {A12:Option Addr} {c12:Nat} (l12:x.f12.length≤c12) (g12:(Kd.int .u8).C w A12 x.f12.length x.f12):k88.K w x [.string x.f0,.int .i64 x.f1,.int .i64 x.f2,.int .i64 x.f3,.string x.f4,.string x.f5,.string x.f6,.bool x.f7,.int .i64 x.f8,.string x.f9,.bool x.f10,.slice A11 x.f11.length c11,.slice A12 x.f12.length c12]:=⟨[.string x.f0],[.int .i64 x.f1,.int .i64 x.f2,.int .i64 x.f3,.string x.f4,.string x.f5,.string x.f6,.bool x.f7,.int .i64 x.f8,.string x.f9,.bool x.f10,.slice A11 x.f11.length c11,.slice A12 x.f12.length c12],rfl,rfl,⟨[.int .i64 x.f1],[.int .i64 x.f2,.int .i64 x.f3,.string x.f4,.string x.f5,.string x.f6,.bool x.f7,.int .i64 x.f8,.string x.f9,.bool x.f10,.slice A11 x.f11.length c11,.slice A12 x.f12.length c12],rfl,rfl,⟨[.int .i64 x.f2],[.int .i64 x.f3,.string x.f4,.string x.f5,.string x.f6,.bool x.f7,.int .i64 x.f8,.string x.f9,.bool x.f10,.slice A11 x.f11.length c11,.slice A12 x.f12.length c12],rfl,rfl,⟨[.int .i64 x.f3],[.string x.f4,.string x.f5,.string x.f6,.bool x.f7,.int .i64 x.f8,.string x.f9,.bool x.f10,.slice A11 x.f11.length c11,.slice A12 x.f12.length c12],rfl,rfl,⟨[.string x.f4],[.string x.f5,.string x.f6,.bool x.f7,.int .i64 x.f8,.string x.f9,.bool x.f10,.slice A11 x.f11.length c11,.slice A12 x.f12.length c12],rfl,rfl,⟨[.string x.f5],[.string x.f6,.bool x.f7,.int .i64 x.f8,.string x.f9,.bool x.f10,.slice A11 x.f11.length c11,.slice A12 x.f12.length c12],rfl,rfl,⟨[.string x.f6],[.bool x.f7,.int .i64 x.f8,.string x.f9,.bool x.f10,.slice A11 x.f11.length c11,.slice A12 x.f12.length c12],rfl,rfl,⟨[.bool x.f7],[.int .i64 x.f8,.string x.f9,.bool x.f10,.slice A11 x.f11.length c11,.slice A12 x.f12.length c12],rfl,rfl,⟨[.int .i64 x.f8],[.string x.f9,.bool x.f10,.slice A11 x.f11.length c11,.slice A12 x.f12.length c12],rfl,rfl,⟨[.string x.f9],[.bool x.f10,.slice A11 x.f11.length c11,.slice A12 x.f12.length c12],rfl,rfl,⟨[.bool x.f10],[.slice A11 x.f11.length c11,.slice A12 x.f12.length c12],rfl,rfl,⟨[.slice A11 x.f11.length c11],[.slice A12 x.f12.length c12],rfl,⟨A11,c11,rfl,l11,g11⟩,⟨A12,c12,rfl,l12,g12⟩⟩⟩⟩⟩⟩⟩⟩⟩⟩⟩⟩⟩
theorem k88_openF {W:World} {ok:Nat→Prop} {x:S88} {cs:List Value} (h:Kd.FK k88 W ok x cs):∃ A11 c11 A12 c12,cs=[.string x.f0,.int .i64 x.f1,.int .i64 x.f2,.int .i64 x.f3,.string x.f4,.string x.f5,.string x.f6,.bool x.f7,.int .i64 x.f8,.string x.f9,.bool x.f10,.slice A11 x.f11.length c11,.slice A12 x.f12.length c12]∧x.f11.length≤c11∧Kd.F (Kd.int .u8) W ok A11 x.f11.length x.f11∧x.f12.length≤c12∧Kd.F (Kd.int .u8) W ok A12 x.f12.length x.f12:=by
 obtain ⟨A11,c11,A12,c12,rfl,l11,_,l12,_⟩:=k88_open (Kd.FK_now h)
 exact ⟨A11,c11,A12,c12,rfl,l11,(fun W' hW=>by obtain ⟨A11_,c11_,A12_,c12_,he,l11_,g11_,l12_,g12_⟩:=k88_open (h W' hW);injection (Option.some.inj (show some (Value.slice A11 x.f11.length c11)=some (Value.slice A11_ x.f11.length c11_) from congrArg (fun l=>l[11]?) he)) with ha_ _ _;rw [ha_];exact g11_),l12,(fun W' hW=>by obtain ⟨A11_,c11_,A12_,c12_,he,l11_,g11_,l12_,g12_⟩:=k88_open (h W' hW);injection (Option.some.inj (show some (Value.slice A12 x.f12.length c12)=some (Value.slice A12_ x.f12.length c12_) from congrArg (fun l=>l[12]?) he)) with ha_ _ _;rw [ha_];exact g12_)⟩
theorem k88_mkF (W:World) (ok:Nat→Prop) (x:S88) {A11:Option Addr} {c11:Nat} (l11:x.f11.length≤c11) (g11:Kd.F (Kd.int .u8) W ok A11 x.f11.length x.f11) {A12:Option Addr} {c12:Nat} (l12:x.f12.length≤c12) (g12:Kd.F (Kd.int .u8) W ok A12 x.f12.length x.f12):Kd.FK k88 W ok x [.string x.f0,.int .i64 x.f1,.int .i64 x.f2,.int .i64 x.f3,.string x.f4,.string x.f5,.string x.f6,.bool x.f7,.int .i64 x.f8,.string x.f9,.bool x.f10,.slice A11 x.f11.length c11,.slice A12 x.f12.length c12]:=fun W2 hW=>k88_mk W2 x l11 (g11 W2 hW) l12 (g12 W2 hW)
def rd_T88 (xs:List S88) (i:Int):S88:=xs.getD i.toNat z88
def rd_L9 (xs:List (List S88)) (i:Int):(List S88):=xs.getD i.toNat ([]:List S88)
structure S93 where
 f0:ByteArray
 f1:Int
 f2:(List Int)
 f3:(List Int)
def z93:S93:=⟨(⟨#[]⟩:ByteArray),(0:Int),([]:List Int),([]:List Int)⟩
def k93:Kd S93:=Kd.iso (Kd.pair Kd.string (Kd.pair (Kd.int .i64) (Kd.pair (Kd.slice 5 (Kd.int .u8)) (Kd.slice 5 (Kd.int .u8))))) (fun x:S93=>(x.f0,x.f1,x.f2,x.f3))
theorem k93_open {w:World} {x:S93} {cs:List Value} (h:k93.K w x cs):∃ A2 c2 A3 c3,cs=[.string x.f0,.int .i64 x.f1,.slice A2 x.f2.length c2,.slice A3 x.f3.length c3]∧x.f2.length≤c2∧(Kd.int .u8).C w A2 x.f2.length x.f2∧x.f3.length≤c3∧(Kd.int .u8).C w A3 x.f3.length x.f3:=by
 obtain ⟨_,_,rfl,rfl,⟨_,_,rfl,rfl,⟨_,_,rfl,⟨A2,c2,rfl,l2,g2⟩,⟨A3,c3,rfl,l3,g3⟩⟩⟩⟩:=h
 exact ⟨A2,c2,A3,c3,rfl,l2,g2,l3,g3⟩
theorem k93_mk (w:World) (x:S93) {A2:Option Addr} {c2:Nat} (l2:x.f2.length≤c2) (g2:(Kd.int .u8).C w A2 x.f2.length x.f2) {A3:Option Addr} {c3:Nat} (l3:x.f3.length≤c3) (g3:(Kd.int .u8).C w A3 x.f3.length x.f3):k93.K w x [.string x.f0,.int .i64 x.f1,.slice A2 x.f2.length c2,.slice A3 x.f3.length c3]:=⟨[.string x.f0],[.int .i64 x.f1,.slice A2 x.f2.length c2,.slice A3 x.f3.length c3],rfl,rfl,⟨[.int .i64 x.f1],[.slice A2 x.f2.length c2,.slice A3 x.f3.length c3],rfl,rfl,⟨[.slice A2 x.f2.length c2],[.slice A3 x.f3.length c3],rfl,⟨A2,c2,rfl,l2,g2⟩,⟨A3,c3,rfl,l3,g3⟩⟩⟩⟩
theorem k93_openF {W:World} {ok:Nat→Prop} {x:S93} {cs:List Value} (h:Kd.FK k93 W ok x cs):∃ A2 c2 A3 c3,cs=[.string x.f0,.int .i64 x.f1,.slice A2 x.f2.length c2,.slice A3 x.f3.length c3]∧x.f2.length≤c2∧Kd.F (Kd.int .u8) W ok A2 x.f2.length x.f2∧x.f3.length≤c3∧Kd.F (Kd.int .u8) W ok A3 x.f3.length x.f3:=by
 obtain ⟨A2,c2,A3,c3,rfl,l2,_,l3,_⟩:=k93_open (Kd.FK_now h)
 exact ⟨A2,c2,A3,c3,rfl,l2,(fun W' hW=>by obtain ⟨A2_,c2_,A3_,c3_,he,l2_,g2_,l3_,g3_⟩:=k93_open (h W' hW);injection (Option.some.inj (show some (Value.slice A2 x.f2.length c2)=some (Value.slice A2_ x.f2.length c2_) from congrArg (fun l=>l[2]?) he)) with ha_ _ _;rw [ha_];exact g2_),l3,(fun W' hW=>by obtain ⟨A2_,c2_,A3_,c3_,he,l2_,g2_,l3_,g3_⟩:=k93_open (h W' hW);injection (Option.some.inj (show some (Value.slice A3 x.f3.length c3)=some (Value.slice A3_ x.f3.length c3_) from congrArg (fun l=>l[3]?) he)) with ha_ _ _;rw [ha_];exact g3_)⟩
theorem k93_mkF (W:World) (ok:Nat→Prop) (x:S93) {A2:Option Addr} {c2:Nat} (l2:x.f2.length≤c2) (g2:Kd.F (Kd.int .u8) W ok A2 x.f2.length x.f2) {A3:Option Addr} {c3:Nat} (l3:x.f3.length≤c3) (g3:Kd.F (Kd.int .u8) W ok A3 x.f3.length x.f3):Kd.FK k93 W ok x [.string x.f0,.int .i64 x.f1,.slice A2 x.f2.length c2,.slice A3 x.f3.length c3]:=fun W2 hW=>k93_mk W2 x l2 (g2 W2 hW) l3 (g3 W2 hW)
def rd_T93 (xs:List S93) (i:Int):S93:=xs.getD i.toNat z93
def rd_L11 (xs:List (List S93)) (i:Int):(List S93):=xs.getD i.toNat ([]:List S93)
structure S82 where
 f0:ByteArray
 f1:(List S93)
 f2:(List Int)
 f3:(List Int)
def z82:S82:=⟨(⟨#[]⟩:ByteArray),([]:List S93),([]:List Int),([]:List Int)⟩
def k82:Kd S82:=Kd.iso (Kd.pair Kd.string (Kd.pair (Kd.slice 93 k93) (Kd.pair (Kd.slice 5 (Kd.int .u8)) (Kd.slice 5 (Kd.int .u8))))) (fun x:S82=>(x.f0,x.f1,x.f2,x.f3))
theorem k82_open {w:World} {x:S82} {cs:List Value} (h:k82.K w x cs):∃ A1 c1 A2 c2 A3 c3,cs=[.string x.f0,.slice A1 x.f1.length c1,.slice A2 x.f2.length c2,.slice A3 x.f3.length c3]∧x.f1.length≤c1∧k93.C w A1 x.f1.length x.f1∧x.f2.length≤c2∧(Kd.int .u8).C w A2 x.f2.length x.f2∧x.f3.length≤c3∧(Kd.int .u8).C w A3 x.f3.length x.f3:=by
 obtain ⟨_,_,rfl,rfl,⟨_,_,rfl,⟨A1,c1,rfl,l1,g1⟩,⟨_,_,rfl,⟨A2,c2,rfl,l2,g2⟩,⟨A3,c3,rfl,l3,g3⟩⟩⟩⟩:=h
 exact ⟨A1,c1,A2,c2,A3,c3,rfl,l1,g1,l2,g2,l3,g3⟩
theorem k82_mk (w:World) (x:S82) {A1:Option Addr} {c1:Nat} (l1:x.f1.length≤c1) (g1:k93.C w A1 x.f1.length x.f1) {A2:Option Addr} {c2:Nat} (l2:x.f2.length≤c2) (g2:(Kd.int .u8).C w A2 x.f2.length x.f2) {A3:Option Addr} {c3:Nat} (l3:x.f3.length≤c3) (g3:(Kd.int .u8).C w A3 x.f3.length x.f3):k82.K w x [.string x.f0,.slice A1 x.f1.length c1,.slice A2 x.f2.length c2,.slice A3 x.f3.length c3]:=⟨[.string x.f0],[.slice A1 x.f1.length c1,.slice A2 x.f2.length c2,.slice A3 x.f3.length c3],rfl,rfl,⟨[.slice A1 x.f1.length c1],[.slice A2 x.f2.length c2,.slice A3 x.f3.length c3],rfl,⟨A1,c1,rfl,l1,g1⟩,⟨[.slice A2 x.f2.length c2],[.slice A3 x.f3.length c3],rfl,⟨A2,c2,rfl,l2,g2⟩,⟨A3,c3,rfl,l3,g3⟩⟩⟩⟩
theorem k82_openF {W:World} {ok:Nat→Prop} {x:S82} {cs:List Value} (h:Kd.FK k82 W ok x cs):∃ A1 c1 A2 c2 A3 c3,cs=[.string x.f0,.slice A1 x.f1.length c1,.slice A2 x.f2.length c2,.slice A3 x.f3.length c3]∧x.f1.length≤c1∧Kd.F k93 W ok A1 x.f1.length x.f1∧x.f2.length≤c2∧Kd.F (Kd.int .u8) W ok A2 x.f2.length x.f2∧x.f3.length≤c3∧Kd.F (Kd.int .u8) W ok A3 x.f3.length x.f3:=by
 obtain ⟨A1,c1,A2,c2,A3,c3,rfl,l1,_,l2,_,l3,_⟩:=k82_open (Kd.FK_now h)
 exact ⟨A1,c1,A2,c2,A3,c3,rfl,l1,(fun W' hW=>by obtain ⟨A1_,c1_,A2_,c2_,A3_,c3_,he,l1_,g1_,l2_,g2_,l3_,g3_⟩:=k82_open (h W' hW);injection (Option.some.inj (show some (Value.slice A1 x.f1.length c1)=some (Value.slice A1_ x.f1.length c1_) from congrArg (fun l=>l[1]?) he)) with ha_ _ _;rw [ha_];exact g1_),l2,(fun W' hW=>by obtain ⟨A1_,c1_,A2_,c2_,A3_,c3_,he,l1_,g1_,l2_,g2_,l3_,g3_⟩:=k82_open (h W' hW);injection (Option.some.inj (show some (Value.slice A2 x.f2.length c2)=some (Value.slice A2_ x.f2.length c2_) from congrArg (fun l=>l[2]?) he)) with ha_ _ _;rw [ha_];exact g2_),l3,(fun W' hW=>by obtain ⟨A1_,c1_,A2_,c2_,A3_,c3_,he,l1_,g1_,l2_,g2_,l3_,g3_⟩:=k82_open (h W' hW);injection (Option.some.inj (show some (Value.slice A3 x.f3.length c3)=some (Value.slice A3_ x.f3.length c3_) from congrArg (fun l=>l[3]?) he)) with ha_ _ _;rw [ha_];exact g3_)⟩
theorem k82_mkF (W:World) (ok:Nat→Prop) (x:S82) {A1:Option Addr} {c1:Nat} (l1:x.f1.length≤c1) (g1:Kd.F k93 W ok A1 x.f1.length x.f1) {A2:Option Addr} {c2:Nat} (l2:x.f2.length≤c2) (g2:Kd.F (Kd.int .u8) W ok A2 x.f2.length x.f2) {A3:Option Addr} {c3:Nat} (l3:x.f3.length≤c3) (g3:Kd.F (Kd.int .u8) W ok A3 x.f3.length x.f3):Kd.FK k82 W ok x [.string x.f0,.slice A1 x.f1.length c1,.slice A2 x.f2.length c2,.slice A3 x.f3.length c3]:=fun W2 hW=>k82_mk W2 x l1 (g1 W2 hW) l2 (g2 W2 hW) l3 (g3 W2 hW)
def rd_T82 (xs:List S82) (i:Int):S82:=xs.getD i.toNat z82
def rd_L13 (xs:List (List S82)) (i:Int):(List S82):=xs.getD i.toNat ([]:List S82)
structure S115 where
 f0:Int
 f1:Int
def z115:S115:=⟨(0:Int),(0:Int)⟩
def k115:Kd S115:=Kd.iso (Kd.pair (Kd.int .i64) (Kd.int .i64)) (fun x:S115=>(x.f0,x.f1))
theorem k115_open {w:World} {x:S115} {cs:List Value} (h:k115.K w x cs):cs=[.int .i64 x.f0,.int .i64 x.f1]:=by
 obtain ⟨_,_,rfl,rfl,rfl⟩:=h
 exact rfl
def rd_T115 (xs:List S115) (i:Int):S115:=xs.getD i.toNat z115
def rd_L15 (xs:List (List S115)) (i:Int):(List S115):=xs.getD i.toNat ([]:List S115)
structure S91 where
 f0:ByteArray
 f1:(List Int)
 f2:(List Int)
def z91:S91:=⟨(⟨#[]⟩:ByteArray),([]:List Int),([]:List Int)⟩
def k91:Kd S91:=Kd.iso (Kd.pair Kd.string (Kd.pair (Kd.slice 5 (Kd.int .u8)) (Kd.slice 5 (Kd.int .u8)))) (fun x:S91=>(x.f0,x.f1,x.f2))
theorem k91_open {w:World} {x:S91} {cs:List Value} (h:k91.K w x cs):∃ A1 c1 A2 c2,cs=[.string x.f0,.slice A1 x.f1.length c1,.slice A2 x.f2.length c2]∧x.f1.length≤c1∧(Kd.int .u8).C w A1 x.f1.length x.f1∧x.f2.length≤c2∧(Kd.int .u8).C w A2 x.f2.length x.f2:=by
 obtain ⟨_,_,rfl,rfl,⟨_,_,rfl,⟨A1,c1,rfl,l1,g1⟩,⟨A2,c2,rfl,l2,g2⟩⟩⟩:=h
 exact ⟨A1,c1,A2,c2,rfl,l1,g1,l2,g2⟩
theorem k91_mk (w:World) (x:S91) {A1:Option Addr} {c1:Nat} (l1:x.f1.length≤c1) (g1:(Kd.int .u8).C w A1 x.f1.length x.f1) {A2:Option Addr} {c2:Nat} (l2:x.f2.length≤c2) (g2:(Kd.int .u8).C w A2 x.f2.length x.f2):k91.K w x [.string x.f0,.slice A1 x.f1.length c1,.slice A2 x.f2.length c2]:=⟨[.string x.f0],[.slice A1 x.f1.length c1,.slice A2 x.f2.length c2],rfl,rfl,⟨[.slice A1 x.f1.length c1],[.slice A2 x.f2.length c2],rfl,⟨A1,c1,rfl,l1,g1⟩,⟨A2,c2,rfl,l2,g2⟩⟩⟩
theorem k91_openF {W:World} {ok:Nat→Prop} {x:S91} {cs:List Value} (h:Kd.FK k91 W ok x cs):∃ A1 c1 A2 c2,cs=[.string x.f0,.slice A1 x.f1.length c1,.slice A2 x.f2.length c2]∧x.f1.length≤c1∧Kd.F (Kd.int .u8) W ok A1 x.f1.length x.f1∧x.f2.length≤c2∧Kd.F (Kd.int .u8) W ok A2 x.f2.length x.f2:=by
 obtain ⟨A1,c1,A2,c2,rfl,l1,_,l2,_⟩:=k91_open (Kd.FK_now h)
 exact ⟨A1,c1,A2,c2,rfl,l1,(fun W' hW=>by obtain ⟨A1_,c1_,A2_,c2_,he,l1_,g1_,l2_,g2_⟩:=k91_open (h W' hW);injection (Option.some.inj (show some (Value.slice A1 x.f1.length c1)=some (Value.slice A1_ x.f1.length c1_) from congrArg (fun l=>l[1]?) he)) with ha_ _ _;rw [ha_];exact g1_),l2,(fun W' hW=>by obtain ⟨A1_,c1_,A2_,c2_,he,l1_,g1_,l2_,g2_⟩:=k91_open (h W' hW);injection (Option.some.inj (show some (Value.slice A2 x.f2.length c2)=some (Value.slice A2_ x.f2.length c2_) from congrArg (fun l=>l[2]?) he)) with ha_ _ _;rw [ha_];exact g2_)⟩
theorem k91_mkF (W:World) (ok:Nat→Prop) (x:S91) {A1:Option Addr} {c1:Nat} (l1:x.f1.length≤c1) (g1:Kd.F (Kd.int .u8) W ok A1 x.f1.length x.f1) {A2:Option Addr} {c2:Nat} (l2:x.f2.length≤c2) (g2:Kd.F (Kd.int .u8) W ok A2 x.f2.length x.f2):Kd.FK k91 W ok x [.string x.f0,.slice A1 x.f1.length c1,.slice A2 x.f2.length c2]:=fun W2 hW=>k91_mk W2 x l1 (g1 W2 hW) l2 (g2 W2 hW)
def rd_T91 (xs:List S91) (i:Int):S91:=xs.getD i.toNat z91
def rd_L17 (xs:List (List S91)) (i:Int):(List S91):=xs.getD i.toNat ([]:List S91)
def rd_L18 (xs:List (List ByteArray)) (i:Int):(List ByteArray):=xs.getD i.toNat ([]:List ByteArray)
structure S76 where
 f0:ByteArray
 f1:(List S88)
 f2:(List S76)
 f3:(List S82)
 f4:(List S115)
 f5:(List S88)
 f6:(List S91)
 f7:(List S115)
 f8:(List ByteArray)
 f9:(List Int)
 f10:(List Int)
def z76:S76:=⟨(⟨#[]⟩:ByteArray),([]:List S88),([]:List S76),([]:List S82),([]:List S115),([]:List S88),([]:List S91),([]:List S115),([]:List ByteArray),([]:List Int),([]:List Int)⟩
def F76 (d:Kd S76):Kd S76:=Kd.iso (Kd.pair Kd.string (Kd.pair (Kd.slice 88 k88) (Kd.pair (Kd.slice 76 d) (Kd.pair (Kd.slice 82 k82) (Kd.pair (Kd.slice 115 k115) (Kd.pair (Kd.slice 88 k88) (Kd.pair (Kd.slice 91 k91) (Kd.pair (Kd.slice 115 k115) (Kd.pair (Kd.slice 9 Kd.string) (Kd.pair (Kd.slice 5 (Kd.int .u8)) (Kd.slice 5 (Kd.int .u8)))))))))))) (fun x:S76=>(x.f0,x.f1,x.f2,x.f3,x.f4,x.f5,x.f6,x.f7,x.f8,x.f9,x.f10))
theorem mono76:Kd.Mono F76:=Kd.mono_iso _ (Kd.mono_pair (Kd.mono_const _) (Kd.mono_pair (Kd.mono_const _) (Kd.mono_pair (Kd.mono_slice 76 Kd.mono_id) (Kd.mono_pair (Kd.mono_const _) (Kd.mono_pair (Kd.mono_const _) (Kd.mono_pair (Kd.mono_const _) (Kd.mono_pair (Kd.mono_const _) (Kd.mono_pair (Kd.mono_const _) (Kd.mono_pair (Kd.mono_const _) (Kd.mono_pair (Kd.mono_const _) (Kd.mono_const _)))))))))))
theorem sub76:Kd.Sub F76 [5,9,76,82,88,91,93,115]:=Kd.sub_iso _ (Kd.sub_pair (Kd.sub_const _ (by decide)) (Kd.sub_pair (Kd.sub_const _ (by decide)) (Kd.sub_pair (Kd.sub_slice 76 (by decide) Kd.sub_id) (Kd.sub_pair (Kd.sub_const _ (by decide)) (Kd.sub_pair (Kd.sub_const _ (by decide)) (Kd.sub_pair (Kd.sub_const _ (by decide)) (Kd.sub_pair (Kd.sub_const _ (by decide)) (Kd.sub_pair (Kd.sub_const _ (by decide)) (Kd.sub_pair (Kd.sub_const _ (by decide)) (Kd.sub_pair (Kd.sub_const _ (by decide)) (Kd.sub_const _ (by decide))))))))))))
theorem sz76:∀ n,(Kd.upto F76 11 [5,9,76,82,88,91,93,115] n).sz=11:=Kd.upto_sz (fun _=>rfl)
def k76:Kd S76:=Kd.fix F76 11 [5,9,76,82,88,91,93,115] sz76 (Kd.upto_E sub76)
theorem k76_open {w:World} {x:S76} {cs:List Value} (h:k76.K w x cs):∃ A1 c1 A2 c2 A3 c3 A4 c4 A5 c5 A6 c6 A7 c7 A8 c8 A9 c9 A10 c10,cs=[.string x.f0,.slice A1 x.f1.length c1,.slice A2 x.f2.length c2,.slice A3 x.f3.length c3,.slice A4 x.f4.length c4,.slice A5 x.f5.length c5,.slice A6 x.f6.length c6,.slice A7 x.f7.length c7,.slice A8 x.f8.length c8,.slice A9 x.f9.length c9,.slice A10 x.f10.length c10]∧x.f1.length≤c1∧k88.C w A1 x.f1.length x.f1∧x.f2.length≤c2∧k76.C w A2 x.f2.length x.f2∧x.f3.length≤c3∧k82.C w A3 x.f3.length x.f3∧x.f4.length≤c4∧k115.C w A4 x.f4.length x.f4∧x.f5.length≤c5∧k88.C w A5 x.f5.length x.f5∧x.f6.length≤c6∧k91.C w A6 x.f6.length x.f6∧x.f7.length≤c7∧k115.C w A7 x.f7.length x.f7∧x.f8.length≤c8∧Kd.string.C w A8 x.f8.length x.f8∧x.f9.length≤c9∧(Kd.int .u8).C w A9 x.f9.length x.f9∧x.f10.length≤c10∧(Kd.int .u8).C w A10 x.f10.length x.f10:=by
 obtain ⟨n,h⟩:=h
 cases n with
 | zero=>exact h.elim
 | succ n=>
  obtain ⟨_,_,rfl,rfl,⟨_,_,rfl,⟨A1,c1,rfl,l1,g1⟩,⟨_,_,rfl,⟨A2,c2,rfl,l2,g2⟩,⟨_,_,rfl,⟨A3,c3,rfl,l3,g3⟩,⟨_,_,rfl,⟨A4,c4,rfl,l4,g4⟩,⟨_,_,rfl,⟨A5,c5,rfl,l5,g5⟩,⟨_,_,rfl,⟨A6,c6,rfl,l6,g6⟩,⟨_,_,rfl,⟨A7,c7,rfl,l7,g7⟩,⟨_,_,rfl,⟨A8,c8,rfl,l8,g8⟩,⟨_,_,rfl,⟨A9,c9,rfl,l9,g9⟩,⟨A10,c10,rfl,l10,g10⟩⟩⟩⟩⟩⟩⟩⟩⟩⟩⟩:=h
  exact ⟨A1,c1,A2,c2,A3,c3,A4,c4,A5,c5,A6,c6,A7,c7,A8,c8,A9,c9,A10,c10,rfl,l1,g1,l2,Kd.fix_C g2,l3,g3,l4,g4,l5,g5,l6,g6,l7,g7,l8,g8,l9,g9,l10,g10⟩
theorem k76_mk (w:World) (x:S76) {A1:Option Addr} {c1:Nat} (l1:x.f1.length≤c1) (g1:k88.C w A1 x.f1.length x.f1) {A2:Option Addr} {c2:Nat} (l2:x.f2.length≤c2) (g2:k76.C w A2 x.f2.length x.f2) {A3:Option Addr} {c3:Nat} (l3:x.f3.length≤c3) (g3:k82.C w A3 x.f3.length x.f3) {A4:Option Addr} {c4:Nat} (l4:x.f4.length≤c4) (g4:k115.C w A4 x.f4.length x.f4) {A5:Option Addr} {c5:Nat} (l5:x.f5.length≤c5) (g5:k88.C w A5 x.f5.length x.f5) {A6:Option Addr} {c6:Nat} (l6:x.f6.length≤c6) (g6:k91.C w A6 x.f6.length x.f6) {A7:Option Addr} {c7:Nat} (l7:x.f7.length≤c7) (g7:k115.C w A7 x.f7.length x.f7) {A8:Option Addr} {c8:Nat} (l8:x.f8.length≤c8) (g8:Kd.string.C w A8 x.f8.length x.f8) {A9:Option Addr} {c9:Nat} (l9:x.f9.length≤c9) (g9:(Kd.int .u8).C w A9 x.f9.length x.f9) {A10:Option Addr} {c10:Nat} (l10:x.f10.length≤c10) (g10:(Kd.int .u8).C w A10 x.f10.length x.f10):k76.K w x [.string x.f0,.slice A1 x.f1.length c1,.slice A2 x.f2.length c2,.slice A3 x.f3.length c3,.slice A4 x.f4.length c4,.slice A5 x.f5.length c5,.slice A6 x.f6.length c6,.slice A7 x.f7.length c7,.slice A8 x.f8.length c8,.slice A9 x.f9.length c9,.slice A10 x.f10.length c10]:=by
 obtain ⟨n2,q2⟩:=Kd.fix_C_back mono76 g2
 have r2:=Kd.upto_C_le mono76 sz76 (show n2≤n2 by omega) q2
 exact ⟨n2+1,⟨[.string x.f0],[.slice A1 x.f1.length c1,.slice A2 x.f2.length c2,.slice A3 x.f3.length c3,.slice A4 x.f4.length c4,.slice A5 x.f5.length c5,.slice A6 x.f6.length c6,.slice A7 x.f7.length c7,.slice A8 x.f8.length c8,.slice A9 x.f9.length c9,.slice A10 x.f10.length c10],rfl,rfl,⟨[.slice A1 x.f1.length c1],[.slice A2 x.f2.length c2,.slice A3 x.f3.length c3,.slice A4 x.f4.length c4,.slice A5 x.f5.length c5,.slice A6 x.f6.length c6,.slice A7 x.f7.length c7,.slice A8 x.f8.length c8,.slice A9 x.f9.length c9,.slice A10 x.f10.length c10],rfl,⟨A1,c1,rfl,l1,g1⟩,⟨[.slice A2 x.f2.length c2],[.slice A3 x.f3.length c3,.slice A4 x.f4.length c4,.slice A5 x.f5.length c5,.slice A6 x.f6.length c6,.slice A7 x.f7.length c7,.slice A8 x.f8.length c8,.slice A9 x.f9.length c9,.slice A10 x.f10.length c10],rfl,⟨A2,c2,rfl,l2,r2⟩,⟨[.slice A3 x.f3.length c3],[.slice A4 x.f4.length c4,.slice A5 x.f5.length c5,.slice A6 x.f6.length c6,.slice A7 x.f7.length c7,.slice A8 x.f8.length c8,.slice A9 x.f9.length c9,.slice A10 x.f10.length c10],rfl,⟨A3,c3,rfl,l3,g3⟩,⟨[.slice A4 x.f4.length c4],[.slice A5 x.f5.length c5,.slice A6 x.f6.length c6,.slice A7 x.f7.length c7,.slice A8 x.f8.length c8,.slice A9 x.f9.length c9,.slice A10 x.f10.length c10],rfl,⟨A4,c4,rfl,l4,g4⟩,⟨[.slice A5 x.f5.length c5],[.slice A6 x.f6.length c6,.slice A7 x.f7.length c7,.slice A8 x.f8.length c8,.slice A9 x.f9.length c9,.slice A10 x.f10.length c10],rfl,⟨A5,c5,rfl,l5,g5⟩,⟨[.slice A6 x.f6.length c6],[.slice A7 x.f7.length c7,.slice A8 x.f8.length c8,.slice A9 x.f9.length c9,.slice A10 x.f10.length c10],rfl,⟨A6,c6,rfl,l6,g6⟩,⟨[.slice A7 x.f7.length c7],[.slice A8 x.f8.length c8,.slice A9 x.f9.length c9,.slice A10 x.f10.length c10],rfl,⟨A7,c7,rfl,l7,g7⟩,⟨[.slice A8 x.f8.length c8],[.slice A9 x.f9.length c9,.slice A10 x.f10.length c10],rfl,⟨A8,c8,rfl,l8,g8⟩,⟨[.slice A9 x.f9.length c9],[.slice A10 x.f10.length c10],rfl,⟨A9,c9,rfl,l9,g9⟩,⟨A10,c10,rfl,l10,g10⟩⟩⟩⟩⟩⟩⟩⟩⟩⟩⟩⟩
theorem k76_openF {W:World} {ok:Nat→Prop} {x:S76} {cs:List Value} (h:Kd.FK k76 W ok x cs):∃ A1 c1 A2 c2 A3 c3 A4 c4 A5 c5 A6 c6 A7 c7 A8 c8 A9 c9 A10 c10,cs=[.string x.f0,.slice A1 x.f1.length c1,.slice A2 x.f2.length c2,.slice A3 x.f3.length c3,.slice A4 x.f4.length c4,.slice A5 x.f5.length c5,.slice A6 x.f6.length c6,.slice A7 x.f7.length c7,.slice A8 x.f8.length c8,.slice A9 x.f9.length c9,.slice A10 x.f10.length c10]∧x.f1.length≤c1∧Kd.F k88 W ok A1 x.f1.length x.f1∧x.f2.length≤c2∧Kd.F k76 W ok A2 x.f2.length x.f2∧x.f3.length≤c3∧Kd.F k82 W ok A3 x.f3.length x.f3∧x.f4.length≤c4∧Kd.F k115 W ok A4 x.f4.length x.f4∧x.f5.length≤c5∧Kd.F k88 W ok A5 x.f5.length x.f5∧x.f6.length≤c6∧Kd.F k91 W ok A6 x.f6.length x.f6∧x.f7.length≤c7∧Kd.F k115 W ok A7 x.f7.length x.f7∧x.f8.length≤c8∧Kd.F Kd.string W ok A8 x.f8.length x.f8∧x.f9.length≤c9∧Kd.F (Kd.int .u8) W ok A9 x.f9.length x.f9∧x.f10.length≤c10∧Kd.F (Kd.int .u8) W ok A10 x.f10.length x.f10:=by
 obtain ⟨A1,c1,A2,c2,A3,c3,A4,c4,A5,c5,A6,c6,A7,c7,A8,c8,A9,c9,A10,c10,rfl,l1,_,l2,_,l3,_,l4,_,l5,_,l6,_,l7,_,l8,_,l9,_,l10,_⟩:=k76_open (Kd.FK_now h)
 exact ⟨A1,c1,A2,c2,A3,c3,A4,c4,A5,c5,A6,c6,A7,c7,A8,c8,A9,c9,A10,c10,rfl,l1,(fun W' hW=>by obtain ⟨A1_,c1_,A2_,c2_,A3_,c3_,A4_,c4_,A5_,c5_,A6_,c6_,A7_,c7_,A8_,c8_,A9_,c9_,A10_,c10_,he,l1_,g1_,l2_,g2_,l3_,g3_,l4_,g4_,l5_,g5_,l6_,g6_,l7_,g7_,l8_,g8_,l9_,g9_,l10_,g10_⟩:=k76_open (h W' hW);injection (Option.some.inj (show some (Value.slice A1 x.f1.length c1)=some (Value.slice A1_ x.f1.length c1_) from congrArg (fun l=>l[1]?) he)) with ha_ _ _;rw [ha_];exact g1_),l2,(fun W' hW=>by obtain ⟨A1_,c1_,A2_,c2_,A3_,c3_,A4_,c4_,A5_,c5_,A6_,c6_,A7_,c7_,A8_,c8_,A9_,c9_,A10_,c10_,he,l1_,g1_,l2_,g2_,l3_,g3_,l4_,g4_,l5_,g5_,l6_,g6_,l7_,g7_,l8_,g8_,l9_,g9_,l10_,g10_⟩:=k76_open (h W' hW);injection (Option.some.inj (show some (Value.slice A2 x.f2.length c2)=some (Value.slice A2_ x.f2.length c2_) from congrArg (fun l=>l[2]?) he)) with ha_ _ _;rw [ha_];exact g2_),l3,(fun W' hW=>by obtain ⟨A1_,c1_,A2_,c2_,A3_,c3_,A4_,c4_,A5_,c5_,A6_,c6_,A7_,c7_,A8_,c8_,A9_,c9_,A10_,c10_,he,l1_,g1_,l2_,g2_,l3_,g3_,l4_,g4_,l5_,g5_,l6_,g6_,l7_,g7_,l8_,g8_,l9_,g9_,l10_,g10_⟩:=k76_open (h W' hW);injection (Option.some.inj (show some (Value.slice A3 x.f3.length c3)=some (Value.slice A3_ x.f3.length c3_) from congrArg (fun l=>l[3]?) he)) with ha_ _ _;rw [ha_];exact g3_),l4,(fun W' hW=>by obtain ⟨A1_,c1_,A2_,c2_,A3_,c3_,A4_,c4_,A5_,c5_,A6_,c6_,A7_,c7_,A8_,c8_,A9_,c9_,A10_,c10_,he,l1_,g1_,l2_,g2_,l3_,g3_,l4_,g4_,l5_,g5_,l6_,g6_,l7_,g7_,l8_,g8_,l9_,g9_,l10_,g10_⟩:=k76_open (h W' hW);injection (Option.some.inj (show some (Value.slice A4 x.f4.length c4)=some (Value.slice A4_ x.f4.length c4_) from congrArg (fun l=>l[4]?) he)) with ha_ _ _;rw [ha_];exact g4_),l5,(fun W' hW=>by obtain ⟨A1_,c1_,A2_,c2_,A3_,c3_,A4_,c4_,A5_,c5_,A6_,c6_,A7_,c7_,A8_,c8_,A9_,c9_,A10_,c10_,he,l1_,g1_,l2_,g2_,l3_,g3_,l4_,g4_,l5_,g5_,l6_,g6_,l7_,g7_,l8_,g8_,l9_,g9_,l10_,g10_⟩:=k76_open (h W' hW);injection (Option.some.inj (show some (Value.slice A5 x.f5.length c5)=some (Value.slice A5_ x.f5.length c5_) from congrArg (fun l=>l[5]?) he)) with ha_ _ _;rw [ha_];exact g5_),l6,(fun W' hW=>by obtain ⟨A1_,c1_,A2_,c2_,A3_,c3_,A4_,c4_,A5_,c5_,A6_,c6_,A7_,c7_,A8_,c8_,A9_,c9_,A10_,c10_,he,l1_,g1_,l2_,g2_,l3_,g3_,l4_,g4_,l5_,g5_,l6_,g6_,l7_,g7_,l8_,g8_,l9_,g9_,l10_,g10_⟩:=k76_open (h W' hW);injection (Option.some.inj (show some (Value.slice A6 x.f6.length c6)=some (Value.slice A6_ x.f6.length c6_) from congrArg (fun l=>l[6]?) he)) with ha_ _ _;rw [ha_];exact g6_),l7,(fun W' hW=>by obtain ⟨A1_,c1_,A2_,c2_,A3_,c3_,A4_,c4_,A5_,c5_,A6_,c6_,A7_,c7_,A8_,c8_,A9_,c9_,A10_,c10_,he,l1_,g1_,l2_,g2_,l3_,g3_,l4_,g4_,l5_,g5_,l6_,g6_,l7_,g7_,l8_,g8_,l9_,g9_,l10_,g10_⟩:=k76_open (h W' hW);injection (Option.some.inj (show some (Value.slice A7 x.f7.length c7)=some (Value.slice A7_ x.f7.length c7_) from congrArg (fun l=>l[7]?) he)) with ha_ _ _;rw [ha_];exact g7_),l8,(fun W' hW=>by obtain ⟨A1_,c1_,A2_,c2_,A3_,c3_,A4_,c4_,A5_,c5_,A6_,c6_,A7_,c7_,A8_,c8_,A9_,c9_,A10_,c10_,he,l1_,g1_,l2_,g2_,l3_,g3_,l4_,g4_,l5_,g5_,l6_,g6_,l7_,g7_,l8_,g8_,l9_,g9_,l10_,g10_⟩:=k76_open (h W' hW);injection (Option.some.inj (show some (Value.slice A8 x.f8.length c8)=some (Value.slice A8_ x.f8.length c8_) from congrArg (fun l=>l[8]?) he)) with ha_ _ _;rw [ha_];exact g8_),l9,(fun W' hW=>by obtain ⟨A1_,c1_,A2_,c2_,A3_,c3_,A4_,c4_,A5_,c5_,A6_,c6_,A7_,c7_,A8_,c8_,A9_,c9_,A10_,c10_,he,l1_,g1_,l2_,g2_,l3_,g3_,l4_,g4_,l5_,g5_,l6_,g6_,l7_,g7_,l8_,g8_,l9_,g9_,l10_,g10_⟩:=k76_open (h W' hW);injection (Option.some.inj (show some (Value.slice A9 x.f9.length c9)=some (Value.slice A9_ x.f9.length c9_) from congrArg (fun l=>l[9]?) he)) with ha_ _ _;rw [ha_];exact g9_),l10,(fun W' hW=>by obtain ⟨A1_,c1_,A2_,c2_,A3_,c3_,A4_,c4_,A5_,c5_,A6_,c6_,A7_,c7_,A8_,c8_,A9_,c9_,A10_,c10_,he,l1_,g1_,l2_,g2_,l3_,g3_,l4_,g4_,l5_,g5_,l6_,g6_,l7_,g7_,l8_,g8_,l9_,g9_,l10_,g10_⟩:=k76_open (h W' hW);injection (Option.some.inj (show some (Value.slice A10 x.f10.length c10)=some (Value.slice A10_ x.f10.length c10_) from congrArg (fun l=>l[10]?) he)) with ha_ _ _;rw [ha_];exact g10_)⟩
theorem k76_mkF (W:World) (ok:Nat→Prop) (x:S76) {A1:Option Addr} {c1:Nat} (l1:x.f1.length≤c1) (g1:Kd.F k88 W ok A1 x.f1.length x.f1) {A2:Option Addr} {c2:Nat} (l2:x.f2.length≤c2) (g2:Kd.F k76 W ok A2 x.f2.length x.f2) {A3:Option Addr} {c3:Nat} (l3:x.f3.length≤c3) (g3:Kd.F k82 W ok A3 x.f3.length x.f3) {A4:Option Addr} {c4:Nat} (l4:x.f4.length≤c4) (g4:Kd.F k115 W ok A4 x.f4.length x.f4) {A5:Option Addr} {c5:Nat} (l5:x.f5.length≤c5) (g5:Kd.F k88 W ok A5 x.f5.length x.f5) {A6:Option Addr} {c6:Nat} (l6:x.f6.length≤c6) (g6:Kd.F k91 W ok A6 x.f6.length x.f6) {A7:Option Addr} {c7:Nat} (l7:x.f7.length≤c7) (g7:Kd.F k115 W ok A7 x.f7.length x.f7) {A8:Option Addr} {c8:Nat} (l8:x.f8.length≤c8) (g8:Kd.F Kd.string W ok A8 x.f8.length x.f8) {A9:Option Addr} {c9:Nat} (l9:x.f9.length≤c9) (g9:Kd.F (Kd.int .u8) W ok A9 x.f9.length x.f9) {A10:Option Addr} {c10:Nat} (l10:x.f10.length≤c10) (g10:Kd.F (Kd.int .u8) W ok A10 x.f10.length x.f10):Kd.FK k76 W ok x [.string x.f0,.slice A1 x.f1.length c1,.slice A2 x.f2.length c2,.slice A3 x.f3.length c3,.slice A4 x.f4.length c4,.slice A5 x.f5.length c5,.slice A6 x.f6.length c6,.slice A7 x.f7.length c7,.slice A8 x.f8.length c8,.slice A9 x.f9.length c9,.slice A10 x.f10.length c10]:=fun W2 hW=>k76_mk W2 x l1 (g1 W2 hW) l2 (g2 W2 hW) l3 (g3 W2 hW) l4 (g4 W2 hW) l5 (g5 W2 hW) l6 (g6 W2 hW) l7 (g7 W2 hW) l8 (g8 W2 hW) l9 (g9 W2 hW) l10 (g10 W2 hW)
def rd_T76 (xs:List S76) (i:Int):S76:=xs.getD i.toNat z76
structure S53 where
 f0:ByteArray
 f1:ByteArray
 f2:ByteArray
 f3:Bool
 f4:Bool
 f5:(List Int)
 f6:(List Int)
def z53:S53:=⟨(⟨#[]⟩:ByteArray),(⟨#[]⟩:ByteArray),(⟨#[]⟩:ByteArray),false,false,([]:List Int),([]:List Int)⟩
def k53:Kd S53:=Kd.iso (Kd.pair Kd.string (Kd.pair Kd.string (Kd.pair Kd.string (Kd.pair Kd.bool (Kd.pair Kd.bool (Kd.pair (Kd.slice 5 (Kd.int .u8)) (Kd.slice 5 (Kd.int .u8)))))))) (fun x:S53=>(x.f0,x.f1,x.f2,x.f3,x.f4,x.f5,x.f6))
theorem k53_open {w:World} {x:S53} {cs:List Value} (h:k53.K w x cs):∃ A5 c5 A6 c6,cs=[.string x.f0,.string x.f1,.string x.f2,.bool x.f3,.bool x.f4,.slice A5 x.f5.length c5,.slice A6 x.f6.length c6]∧x.f5.length≤c5∧(Kd.int .u8).C w A5 x.f5.length x.f5∧x.f6.length≤c6∧(Kd.int .u8).C w A6 x.f6.length x.f6:=by
 obtain ⟨_,_,rfl,rfl,⟨_,_,rfl,rfl,⟨_,_,rfl,rfl,⟨_,_,rfl,rfl,⟨_,_,rfl,rfl,⟨_,_,rfl,⟨A5,c5,rfl,l5,g5⟩,⟨A6,c6,rfl,l6,g6⟩⟩⟩⟩⟩⟩⟩:=h
 exact ⟨A5,c5,A6,c6,rfl,l5,g5,l6,g6⟩
theorem k53_mk (w:World) (x:S53) {A5:Option Addr} {c5:Nat} (l5:x.f5.length≤c5) (g5:(Kd.int .u8).C w A5 x.f5.length x.f5) {A6:Option Addr} {c6:Nat} (l6:x.f6.length≤c6) (g6:(Kd.int .u8).C w A6 x.f6.length x.f6):k53.K w x [.string x.f0,.string x.f1,.string x.f2,.bool x.f3,.bool x.f4,.slice A5 x.f5.length c5,.slice A6 x.f6.length c6]:=⟨[.string x.f0],[.string x.f1,.string x.f2,.bool x.f3,.bool x.f4,.slice A5 x.f5.length c5,.slice A6 x.f6.length c6],rfl,rfl,⟨[.string x.f1],[.string x.f2,.bool x.f3,.bool x.f4,.slice A5 x.f5.length c5,.slice A6 x.f6.length c6],rfl,rfl,⟨[.string x.f2],[.bool x.f3,.bool x.f4,.slice A5 x.f5.length c5,.slice A6 x.f6.length c6],rfl,rfl,⟨[.bool x.f3],[.bool x.f4,.slice A5 x.f5.length c5,.slice A6 x.f6.length c6],rfl,rfl,⟨[.bool x.f4],[.slice A5 x.f5.length c5,.slice A6 x.f6.length c6],rfl,rfl,⟨[.slice A5 x.f5.length c5],[.slice A6 x.f6.length c6],rfl,⟨A5,c5,rfl,l5,g5⟩,⟨A6,c6,rfl,l6,g6⟩⟩⟩⟩⟩⟩⟩
theorem k53_openF {W:World} {ok:Nat→Prop} {x:S53} {cs:List Value} (h:Kd.FK k53 W ok x cs):∃ A5 c5 A6 c6,cs=[.string x.f0,.string x.f1,.string x.f2,.bool x.f3,.bool x.f4,.slice A5 x.f5.length c5,.slice A6 x.f6.length c6]∧x.f5.length≤c5∧Kd.F (Kd.int .u8) W ok A5 x.f5.length x.f5∧x.f6.length≤c6∧Kd.F (Kd.int .u8) W ok A6 x.f6.length x.f6:=by
 obtain ⟨A5,c5,A6,c6,rfl,l5,_,l6,_⟩:=k53_open (Kd.FK_now h)
 exact ⟨A5,c5,A6,c6,rfl,l5,(fun W' hW=>by obtain ⟨A5_,c5_,A6_,c6_,he,l5_,g5_,l6_,g6_⟩:=k53_open (h W' hW);injection (Option.some.inj (show some (Value.slice A5 x.f5.length c5)=some (Value.slice A5_ x.f5.length c5_) from congrArg (fun l=>l[5]?) he)) with ha_ _ _;rw [ha_];exact g5_),l6,(fun W' hW=>by obtain ⟨A5_,c5_,A6_,c6_,he,l5_,g5_,l6_,g6_⟩:=k53_open (h W' hW);injection (Option.some.inj (show some (Value.slice A6 x.f6.length c6)=some (Value.slice A6_ x.f6.length c6_) from congrArg (fun l=>l[6]?) he)) with ha_ _ _;rw [ha_];exact g6_)⟩
theorem k53_mkF (W:World) (ok:Nat→Prop) (x:S53) {A5:Option Addr} {c5:Nat} (l5:x.f5.length≤c5) (g5:Kd.F (Kd.int .u8) W ok A5 x.f5.length x.f5) {A6:Option Addr} {c6:Nat} (l6:x.f6.length≤c6) (g6:Kd.F (Kd.int .u8) W ok A6 x.f6.length x.f6):Kd.FK k53 W ok x [.string x.f0,.string x.f1,.string x.f2,.bool x.f3,.bool x.f4,.slice A5 x.f5.length c5,.slice A6 x.f6.length c6]:=fun W2 hW=>k53_mk W2 x l5 (g5 W2 hW) l6 (g6 W2 hW)
def rd_T53 (xs:List S53) (i:Int):S53:=xs.getD i.toNat z53
def rd_L21 (xs:List (List S53)) (i:Int):(List S53):=xs.getD i.toNat ([]:List S53)
structure S51 where
 f0:ByteArray
 f1:(List S53)
 f2:(List Int)
 f3:(List Int)
def z51:S51:=⟨(⟨#[]⟩:ByteArray),([]:List S53),([]:List Int),([]:List Int)⟩
def k51:Kd S51:=Kd.iso (Kd.pair Kd.string (Kd.pair (Kd.slice 53 k53) (Kd.pair (Kd.slice 5 (Kd.int .u8)) (Kd.slice 5 (Kd.int .u8))))) (fun x:S51=>(x.f0,x.f1,x.f2,x.f3))
theorem k51_open {w:World} {x:S51} {cs:List Value} (h:k51.K w x cs):∃ A1 c1 A2 c2 A3 c3,cs=[.string x.f0,.slice A1 x.f1.length c1,.slice A2 x.f2.length c2,.slice A3 x.f3.length c3]∧x.f1.length≤c1∧k53.C w A1 x.f1.length x.f1∧x.f2.length≤c2∧(Kd.int .u8).C w A2 x.f2.length x.f2∧x.f3.length≤c3∧(Kd.int .u8).C w A3 x.f3.length x.f3:=by
 obtain ⟨_,_,rfl,rfl,⟨_,_,rfl,⟨A1,c1,rfl,l1,g1⟩,⟨_,_,rfl,⟨A2,c2,rfl,l2,g2⟩,⟨A3,c3,rfl,l3,g3⟩⟩⟩⟩:=h
 exact ⟨A1,c1,A2,c2,A3,c3,rfl,l1,g1,l2,g2,l3,g3⟩
theorem k51_mk (w:World) (x:S51) {A1:Option Addr} {c1:Nat} (l1:x.f1.length≤c1) (g1:k53.C w A1 x.f1.length x.f1) {A2:Option Addr} {c2:Nat} (l2:x.f2.length≤c2) (g2:(Kd.int .u8).C w A2 x.f2.length x.f2) {A3:Option Addr} {c3:Nat} (l3:x.f3.length≤c3) (g3:(Kd.int .u8).C w A3 x.f3.length x.f3):k51.K w x [.string x.f0,.slice A1 x.f1.length c1,.slice A2 x.f2.length c2,.slice A3 x.f3.length c3]:=⟨[.string x.f0],[.slice A1 x.f1.length c1,.slice A2 x.f2.length c2,.slice A3 x.f3.length c3],rfl,rfl,⟨[.slice A1 x.f1.length c1],[.slice A2 x.f2.length c2,.slice A3 x.f3.length c3],rfl,⟨A1,c1,rfl,l1,g1⟩,⟨[.slice A2 x.f2.length c2],[.slice A3 x.f3.length c3],rfl,⟨A2,c2,rfl,l2,g2⟩,⟨A3,c3,rfl,l3,g3⟩⟩⟩⟩
theorem k51_openF {W:World} {ok:Nat→Prop} {x:S51} {cs:List Value} (h:Kd.FK k51 W ok x cs):∃ A1 c1 A2 c2 A3 c3,cs=[.string x.f0,.slice A1 x.f1.length c1,.slice A2 x.f2.length c2,.slice A3 x.f3.length c3]∧x.f1.length≤c1∧Kd.F k53 W ok A1 x.f1.length x.f1∧x.f2.length≤c2∧Kd.F (Kd.int .u8) W ok A2 x.f2.length x.f2∧x.f3.length≤c3∧Kd.F (Kd.int .u8) W ok A3 x.f3.length x.f3:=by
 obtain ⟨A1,c1,A2,c2,A3,c3,rfl,l1,_,l2,_,l3,_⟩:=k51_open (Kd.FK_now h)
 exact ⟨A1,c1,A2,c2,A3,c3,rfl,l1,(fun W' hW=>by obtain ⟨A1_,c1_,A2_,c2_,A3_,c3_,he,l1_,g1_,l2_,g2_,l3_,g3_⟩:=k51_open (h W' hW);injection (Option.some.inj (show some (Value.slice A1 x.f1.length c1)=some (Value.slice A1_ x.f1.length c1_) from congrArg (fun l=>l[1]?) he)) with ha_ _ _;rw [ha_];exact g1_),l2,(fun W' hW=>by obtain ⟨A1_,c1_,A2_,c2_,A3_,c3_,he,l1_,g1_,l2_,g2_,l3_,g3_⟩:=k51_open (h W' hW);injection (Option.some.inj (show some (Value.slice A2 x.f2.length c2)=some (Value.slice A2_ x.f2.length c2_) from congrArg (fun l=>l[2]?) he)) with ha_ _ _;rw [ha_];exact g2_),l3,(fun W' hW=>by obtain ⟨A1_,c1_,A2_,c2_,A3_,c3_,he,l1_,g1_,l2_,g2_,l3_,g3_⟩:=k51_open (h W' hW);injection (Option.some.inj (show some (Value.slice A3 x.f3.length c3)=some (Value.slice A3_ x.f3.length c3_) from congrArg (fun l=>l[3]?) he)) with ha_ _ _;rw [ha_];exact g3_)⟩
theorem k51_mkF (W:World) (ok:Nat→Prop) (x:S51) {A1:Option Addr} {c1:Nat} (l1:x.f1.length≤c1) (g1:Kd.F k53 W ok A1 x.f1.length x.f1) {A2:Option Addr} {c2:Nat} (l2:x.f2.length≤c2) (g2:Kd.F (Kd.int .u8) W ok A2 x.f2.length x.f2) {A3:Option Addr} {c3:Nat} (l3:x.f3.length≤c3) (g3:Kd.F (Kd.int .u8) W ok A3 x.f3.length x.f3):Kd.FK k51 W ok x [.string x.f0,.slice A1 x.f1.length c1,.slice A2 x.f2.length c2,.slice A3 x.f3.length c3]:=fun W2 hW=>k51_mk W2 x l1 (g1 W2 hW) l2 (g2 W2 hW) l3 (g3 W2 hW)
def rd_T51 (xs:List S51) (i:Int):S51:=xs.getD i.toNat z51
def rd_L23 (xs:List (List Int)) (i:Int):(List Int):=xs.getD i.toNat ([]:List Int)
def rd_L24 (xs:List (List S76)) (i:Int):(List S76):=xs.getD i.toNat ([]:List S76)
def rd_L25 (xs:List (List S51)) (i:Int):(List S51):=xs.getD i.toNat ([]:List S51)
structure S30 where
 f0:ByteArray
 f1:ByteArray
 f2:(List ByteArray)
 f3:(List Int)
 f4:(List S76)
 f5:(List S82)
 f6:(List S51)
 f7:(List S88)
 f8:ByteArray
 f9:(List Int)
 f10:(List Int)
def z30:S30:=⟨(⟨#[]⟩:ByteArray),(⟨#[]⟩:ByteArray),([]:List ByteArray),([]:List Int),([]:List S76),([]:List S82),([]:List S51),([]:List S88),(⟨#[]⟩:ByteArray),([]:List Int),([]:List Int)⟩
def k30:Kd S30:=Kd.iso (Kd.pair Kd.string (Kd.pair Kd.string (Kd.pair (Kd.slice 9 Kd.string) (Kd.pair (Kd.slice 3 (Kd.int .i64)) (Kd.pair (Kd.slice 76 k76) (Kd.pair (Kd.slice 82 k82) (Kd.pair (Kd.slice 51 k51) (Kd.pair (Kd.slice 88 k88) (Kd.pair Kd.string (Kd.pair (Kd.slice 5 (Kd.int .u8)) (Kd.slice 5 (Kd.int .u8)))))))))))) (fun x:S30=>(x.f0,x.f1,x.f2,x.f3,x.f4,x.f5,x.f6,x.f7,x.f8,x.f9,x.f10))
theorem k30_open {w:World} {x:S30} {cs:List Value} (h:k30.K w x cs):∃ A2 c2 A3 c3 A4 c4 A5 c5 A6 c6 A7 c7 A9 c9 A10 c10,cs=[.string x.f0,.string x.f1,.slice A2 x.f2.length c2,.slice A3 x.f3.length c3,.slice A4 x.f4.length c4,.slice A5 x.f5.length c5,.slice A6 x.f6.length c6,.slice A7 x.f7.length c7,.string x.f8,.slice A9 x.f9.length c9,.slice A10 x.f10.length c10]∧x.f2.length≤c2∧Kd.string.C w A2 x.f2.length x.f2∧x.f3.length≤c3∧(Kd.int .i64).C w A3 x.f3.length x.f3∧x.f4.length≤c4∧k76.C w A4 x.f4.length x.f4∧x.f5.length≤c5∧k82.C w A5 x.f5.length x.f5∧x.f6.length≤c6∧k51.C w A6 x.f6.length x.f6∧x.f7.length≤c7∧k88.C w A7 x.f7.length x.f7∧x.f9.length≤c9∧(Kd.int .u8).C w A9 x.f9.length x.f9∧x.f10.length≤c10∧(Kd.int .u8).C w A10 x.f10.length x.f10:=by
 obtain ⟨_,_,rfl,rfl,⟨_,_,rfl,rfl,⟨_,_,rfl,⟨A2,c2,rfl,l2,g2⟩,⟨_,_,rfl,⟨A3,c3,rfl,l3,g3⟩,⟨_,_,rfl,⟨A4,c4,rfl,l4,g4⟩,⟨_,_,rfl,⟨A5,c5,rfl,l5,g5⟩,⟨_,_,rfl,⟨A6,c6,rfl,l6,g6⟩,⟨_,_,rfl,⟨A7,c7,rfl,l7,g7⟩,⟨_,_,rfl,rfl,⟨_,_,rfl,⟨A9,c9,rfl,l9,g9⟩,⟨A10,c10,rfl,l10,g10⟩⟩⟩⟩⟩⟩⟩⟩⟩⟩⟩:=h
 exact ⟨A2,c2,A3,c3,A4,c4,A5,c5,A6,c6,A7,c7,A9,c9,A10,c10,rfl,l2,g2,l3,g3,l4,g4,l5,g5,l6,g6,l7,g7,l9,g9,l10,g10⟩
theorem k30_mk (w:World) (x:S30) {A2:Option Addr} {c2:Nat} (l2:x.f2.length≤c2) (g2:Kd.string.C w A2 x.f2.length x.f2) {A3:Option Addr} {c3:Nat} (l3:x.f3.length≤c3) (g3:(Kd.int .i64).C w A3 x.f3.length x.f3) {A4:Option Addr} {c4:Nat} (l4:x.f4.length≤c4) (g4:k76.C w A4 x.f4.length x.f4) {A5:Option Addr} {c5:Nat} (l5:x.f5.length≤c5) (g5:k82.C w A5 x.f5.length x.f5) {A6:Option Addr} {c6:Nat} (l6:x.f6.length≤c6) (g6:k51.C w A6 x.f6.length x.f6) {A7:Option Addr} {c7:Nat} (l7:x.f7.length≤c7) (g7:k88.C w A7 x.f7.length x.f7) {A9:Option Addr} {c9:Nat} (l9:x.f9.length≤c9) (g9:(Kd.int .u8).C w A9 x.f9.length x.f9) {A10:Option Addr} {c10:Nat} (l10:x.f10.length≤c10) (g10:(Kd.int .u8).C w A10 x.f10.length x.f10):k30.K w x [.string x.f0,.string x.f1,.slice A2 x.f2.length c2,.slice A3 x.f3.length c3,.slice A4 x.f4.length c4,.slice A5 x.f5.length c5,.slice A6 x.f6.length c6,.slice A7 x.f7.length c7,.string x.f8,.slice A9 x.f9.length c9,.slice A10 x.f10.length c10]:=⟨[.string x.f0],[.string x.f1,.slice A2 x.f2.length c2,.slice A3 x.f3.length c3,.slice A4 x.f4.length c4,.slice A5 x.f5.length c5,.slice A6 x.f6.length c6,.slice A7 x.f7.length c7,.string x.f8,.slice A9 x.f9.length c9,.slice A10 x.f10.length c10],rfl,rfl,⟨[.string x.f1],[.slice A2 x.f2.length c2,.slice A3 x.f3.length c3,.slice A4 x.f4.length c4,.slice A5 x.f5.length c5,.slice A6 x.f6.length c6,.slice A7 x.f7.length c7,.string x.f8,.slice A9 x.f9.length c9,.slice A10 x.f10.length c10],rfl,rfl,⟨[.slice A2 x.f2.length c2],[.slice A3 x.f3.length c3,.slice A4 x.f4.length c4,.slice A5 x.f5.length c5,.slice A6 x.f6.length c6,.slice A7 x.f7.length c7,.string x.f8,.slice A9 x.f9.length c9,.slice A10 x.f10.length c10],rfl,⟨A2,c2,rfl,l2,g2⟩,⟨[.slice A3 x.f3.length c3],[.slice A4 x.f4.length c4,.slice A5 x.f5.length c5,.slice A6 x.f6.length c6,.slice A7 x.f7.length c7,.string x.f8,.slice A9 x.f9.length c9,.slice A10 x.f10.length c10],rfl,⟨A3,c3,rfl,l3,g3⟩,⟨[.slice A4 x.f4.length c4],[.slice A5 x.f5.length c5,.slice A6 x.f6.length c6,.slice A7 x.f7.length c7,.string x.f8,.slice A9 x.f9.length c9,.slice A10 x.f10.length c10],rfl,⟨A4,c4,rfl,l4,g4⟩,⟨[.slice A5 x.f5.length c5],[.slice A6 x.f6.length c6,.slice A7 x.f7.length c7,.string x.f8,.slice A9 x.f9.length c9,.slice A10 x.f10.length c10],rfl,⟨A5,c5,rfl,l5,g5⟩,⟨[.slice A6 x.f6.length c6],[.slice A7 x.f7.length c7,.string x.f8,.slice A9 x.f9.length c9,.slice A10 x.f10.length c10],rfl,⟨A6,c6,rfl,l6,g6⟩,⟨[.slice A7 x.f7.length c7],[.string x.f8,.slice A9 x.f9.length c9,.slice A10 x.f10.length c10],rfl,⟨A7,c7,rfl,l7,g7⟩,⟨[.string x.f8],[.slice A9 x.f9.length c9,.slice A10 x.f10.length c10],rfl,rfl,⟨[.slice A9 x.f9.length c9],[.slice A10 x.f10.length c10],rfl,⟨A9,c9,rfl,l9,g9⟩,⟨A10,c10,rfl,l10,g10⟩⟩⟩⟩⟩⟩⟩⟩⟩⟩⟩
theorem k30_openF {W:World} {ok:Nat→Prop} {x:S30} {cs:List Value} (h:Kd.FK k30 W ok x cs):∃ A2 c2 A3 c3 A4 c4 A5 c5 A6 c6 A7 c7 A9 c9 A10 c10,cs=[.string x.f0,.string x.f1,.slice A2 x.f2.length c2,.slice A3 x.f3.length c3,.slice A4 x.f4.length c4,.slice A5 x.f5.length c5,.slice A6 x.f6.length c6,.slice A7 x.f7.length c7,.string x.f8,.slice A9 x.f9.length c9,.slice A10 x.f10.length c10]∧x.f2.length≤c2∧Kd.F Kd.string W ok A2 x.f2.length x.f2∧x.f3.length≤c3∧Kd.F (Kd.int .i64) W ok A3 x.f3.length x.f3∧x.f4.length≤c4∧Kd.F k76 W ok A4 x.f4.length x.f4∧x.f5.length≤c5∧Kd.F k82 W ok A5 x.f5.length x.f5∧x.f6.length≤c6∧Kd.F k51 W ok A6 x.f6.length x.f6∧x.f7.length≤c7∧Kd.F k88 W ok A7 x.f7.length x.f7∧x.f9.length≤c9∧Kd.F (Kd.int .u8) W ok A9 x.f9.length x.f9∧x.f10.length≤c10∧Kd.F (Kd.int .u8) W ok A10 x.f10.length x.f10:=by
 obtain ⟨A2,c2,A3,c3,A4,c4,A5,c5,A6,c6,A7,c7,A9,c9,A10,c10,rfl,l2,_,l3,_,l4,_,l5,_,l6,_,l7,_,l9,_,l10,_⟩:=k30_open (Kd.FK_now h)
 exact ⟨A2,c2,A3,c3,A4,c4,A5,c5,A6,c6,A7,c7,A9,c9,A10,c10,rfl,l2,(fun W' hW=>by obtain ⟨A2_,c2_,A3_,c3_,A4_,c4_,A5_,c5_,A6_,c6_,A7_,c7_,A9_,c9_,A10_,c10_,he,l2_,g2_,l3_,g3_,l4_,g4_,l5_,g5_,l6_,g6_,l7_,g7_,l9_,g9_,l10_,g10_⟩:=k30_open (h W' hW);injection (Option.some.inj (show some (Value.slice A2 x.f2.length c2)=some (Value.slice A2_ x.f2.length c2_) from congrArg (fun l=>l[2]?) he)) with ha_ _ _;rw [ha_];exact g2_),l3,(fun W' hW=>by obtain ⟨A2_,c2_,A3_,c3_,A4_,c4_,A5_,c5_,A6_,c6_,A7_,c7_,A9_,c9_,A10_,c10_,he,l2_,g2_,l3_,g3_,l4_,g4_,l5_,g5_,l6_,g6_,l7_,g7_,l9_,g9_,l10_,g10_⟩:=k30_open (h W' hW);injection (Option.some.inj (show some (Value.slice A3 x.f3.length c3)=some (Value.slice A3_ x.f3.length c3_) from congrArg (fun l=>l[3]?) he)) with ha_ _ _;rw [ha_];exact g3_),l4,(fun W' hW=>by obtain ⟨A2_,c2_,A3_,c3_,A4_,c4_,A5_,c5_,A6_,c6_,A7_,c7_,A9_,c9_,A10_,c10_,he,l2_,g2_,l3_,g3_,l4_,g4_,l5_,g5_,l6_,g6_,l7_,g7_,l9_,g9_,l10_,g10_⟩:=k30_open (h W' hW);injection (Option.some.inj (show some (Value.slice A4 x.f4.length c4)=some (Value.slice A4_ x.f4.length c4_) from congrArg (fun l=>l[4]?) he)) with ha_ _ _;rw [ha_];exact g4_),l5,(fun W' hW=>by obtain ⟨A2_,c2_,A3_,c3_,A4_,c4_,A5_,c5_,A6_,c6_,A7_,c7_,A9_,c9_,A10_,c10_,he,l2_,g2_,l3_,g3_,l4_,g4_,l5_,g5_,l6_,g6_,l7_,g7_,l9_,g9_,l10_,g10_⟩:=k30_open (h W' hW);injection (Option.some.inj (show some (Value.slice A5 x.f5.length c5)=some (Value.slice A5_ x.f5.length c5_) from congrArg (fun l=>l[5]?) he)) with ha_ _ _;rw [ha_];exact g5_),l6,(fun W' hW=>by obtain ⟨A2_,c2_,A3_,c3_,A4_,c4_,A5_,c5_,A6_,c6_,A7_,c7_,A9_,c9_,A10_,c10_,he,l2_,g2_,l3_,g3_,l4_,g4_,l5_,g5_,l6_,g6_,l7_,g7_,l9_,g9_,l10_,g10_⟩:=k30_open (h W' hW);injection (Option.some.inj (show some (Value.slice A6 x.f6.length c6)=some (Value.slice A6_ x.f6.length c6_) from congrArg (fun l=>l[6]?) he)) with ha_ _ _;rw [ha_];exact g6_),l7,(fun W' hW=>by obtain ⟨A2_,c2_,A3_,c3_,A4_,c4_,A5_,c5_,A6_,c6_,A7_,c7_,A9_,c9_,A10_,c10_,he,l2_,g2_,l3_,g3_,l4_,g4_,l5_,g5_,l6_,g6_,l7_,g7_,l9_,g9_,l10_,g10_⟩:=k30_open (h W' hW);injection (Option.some.inj (show some (Value.slice A7 x.f7.length c7)=some (Value.slice A7_ x.f7.length c7_) from congrArg (fun l=>l[7]?) he)) with ha_ _ _;rw [ha_];exact g7_),l9,(fun W' hW=>by obtain ⟨A2_,c2_,A3_,c3_,A4_,c4_,A5_,c5_,A6_,c6_,A7_,c7_,A9_,c9_,A10_,c10_,he,l2_,g2_,l3_,g3_,l4_,g4_,l5_,g5_,l6_,g6_,l7_,g7_,l9_,g9_,l10_,g10_⟩:=k30_open (h W' hW);injection (Option.some.inj (show some (Value.slice A9 x.f9.length c9)=some (Value.slice A9_ x.f9.length c9_) from congrArg (fun l=>l[9]?) he)) with ha_ _ _;rw [ha_];exact g9_),l10,(fun W' hW=>by obtain ⟨A2_,c2_,A3_,c3_,A4_,c4_,A5_,c5_,A6_,c6_,A7_,c7_,A9_,c9_,A10_,c10_,he,l2_,g2_,l3_,g3_,l4_,g4_,l5_,g5_,l6_,g6_,l7_,g7_,l9_,g9_,l10_,g10_⟩:=k30_open (h W' hW);injection (Option.some.inj (show some (Value.slice A10 x.f10.length c10)=some (Value.slice A10_ x.f10.length c10_) from congrArg (fun l=>l[10]?) he)) with ha_ _ _;rw [ha_];exact g10_)⟩
theorem k30_mkF (W:World) (ok:Nat→Prop) (x:S30) {A2:Option Addr} {c2:Nat} (l2:x.f2.length≤c2) (g2:Kd.F Kd.string W ok A2 x.f2.length x.f2) {A3:Option Addr} {c3:Nat} (l3:x.f3.length≤c3) (g3:Kd.F (Kd.int .i64) W ok A3 x.f3.length x.f3) {A4:Option Addr} {c4:Nat} (l4:x.f4.length≤c4) (g4:Kd.F k76 W ok A4 x.f4.length x.f4) {A5:Option Addr} {c5:Nat} (l5:x.f5.length≤c5) (g5:Kd.F k82 W ok A5 x.f5.length x.f5) {A6:Option Addr} {c6:Nat} (l6:x.f6.length≤c6) (g6:Kd.F k51 W ok A6 x.f6.length x.f6) {A7:Option Addr} {c7:Nat} (l7:x.f7.length≤c7) (g7:Kd.F k88 W ok A7 x.f7.length x.f7) {A9:Option Addr} {c9:Nat} (l9:x.f9.length≤c9) (g9:Kd.F (Kd.int .u8) W ok A9 x.f9.length x.f9) {A10:Option Addr} {c10:Nat} (l10:x.f10.length≤c10) (g10:Kd.F (Kd.int .u8) W ok A10 x.f10.length x.f10):Kd.FK k30 W ok x [.string x.f0,.string x.f1,.slice A2 x.f2.length c2,.slice A3 x.f3.length c3,.slice A4 x.f4.length c4,.slice A5 x.f5.length c5,.slice A6 x.f6.length c6,.slice A7 x.f7.length c7,.string x.f8,.slice A9 x.f9.length c9,.slice A10 x.f10.length c10]:=fun W2 hW=>k30_mk W2 x l2 (g2 W2 hW) l3 (g3 W2 hW) l4 (g4 W2 hW) l5 (g5 W2 hW) l6 (g6 W2 hW) l7 (g7 W2 hW) l9 (g9 W2 hW) l10 (g10 W2 hW)
def rd_T30 (xs:List S30) (i:Int):S30:=xs.getD i.toNat z30
end Go.Proofs.Ytheoafenehckbaa.GUndescBack
