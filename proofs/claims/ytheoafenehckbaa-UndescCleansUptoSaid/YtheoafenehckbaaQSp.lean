/- The bytes of a file, in plain words, and how many they are. -/
import Derived.Lib.Bytes
import Derived.Test.YtheoafenehckbaaQWp
import Derived.Test.YtheoafenehckbaaQRk
namespace Go.Proofs.Ytheoafenehckbaa.Sp
open Go.RowKit GUndescBack YtheoafenehckbaaW.PrintWords YtheoafenehckbaaW.PrintLast YtheoafenehckbaaW.PrintMore Vb Fx Wr Wp Rk
set_option linter.unusedVariables false
def fB (num:Int) (b:List Int):List Int:=field num 2 0 b
def fN (num n:Int):List Int:=field num 0 (IntKind.u64.wrap n) []
def tS (num:Int) (s:ByteArray):List Int:=if s.size=0 then [] else fB num (bytesOf s)
def oB (num:Int) (b:List Int):List Int:=if b=[] then [] else fB num b
def sN (num n:Int):List Int:=if n=0 then [] else fN num n
def tB (num:Int) (is:Bool):List Int:=if is=true then fN num 1 else []
def dB (has:Bool) (s:ByteArray):List Int:=if has=true then fB 7 (bytesOf s) else []
def pN (n:Int):List Int:=if n=0 then [] else fN 9 (wrap64 (n - 1))
def bField (x:S88):List Int:=tS 1 x.f0++(tS 2 x.f5++(sN 3 x.f1++(sN 4 x.f2++(sN 5 x.f3++(tS 6 x.f4++(dB x.f7 x.f6++(oB 8 x.f11++(pN x.f8++(tS 10 x.f9++(tB 17 x.f10++x.f12))))))))))
def bRange (x:S115):List Int:=fN 1 x.f0++fN 2 (wrap64 (IntKind.u64.wrap (IntKind.u64.wrap x.f1+1)))
def bValue (x:S93):List Int:=tS 1 x.f0++(fN 2 x.f1++(oB 3 x.f2++x.f3))
def bEnum (x:S82):List Int:=tS 1 x.f0++((x.f1.flatMap fun y=>fB 2 (bValue y))++(oB 3 x.f2++x.f3))
def bOneof (x:S91):List Int:=tS 1 x.f0++(oB 2 x.f1++x.f2)
def bMethod (x:S53):List Int:=tS 1 x.f0++(tS 2 x.f1++(tS 3 x.f2++(oB 4 x.f5++(tB 5 x.f3++(tB 6 x.f4++x.f6)))))
def bService (x:S51):List Int:=tS 1 x.f0++((x.f1.flatMap fun y=>fB 2 (bMethod y))++(oB 3 x.f2++x.f3))
theorem szMessage (x:S76):SizeOf.sizeOf x.f2 < SizeOf.sizeOf x:=by
 cases x
 simp only [S76.mk.sizeOf_spec]
 omega
theorem S76.ind {P:S76→Prop} (h:∀ x,(∀ y∈x.f2,P y)→P x):∀ x,P x:=by
 have key:∀ n (x:S76),SizeOf.sizeOf x≤n→P x:=by
  intro n
  induction n with
  | zero=>intro x hx;exfalso;have:=szMessage x;omega
  | succ n ih=>
   intro x hx
   exact h x (fun y hy=>ih y (by have h1:=List.sizeOf_lt_of_mem hy;have h2:=szMessage x;omega))
 exact fun x=>key _ x (Nat.le_refl _)
def bMessage (x:S76):List Int:=tS 1 x.f0++((x.f1.flatMap fun y=>fB 2 (bField y))++((x.f2.attach.flatMap fun y=>fB 3 (bMessage y.1))++((x.f3.flatMap fun y=>fB 4 (bEnum y))++((x.f4.flatMap fun y=>fB 5 (bRange y))++((x.f5.flatMap fun y=>fB 6 (bField y))++(oB 7 x.f9++((x.f6.flatMap fun y=>fB 8 (bOneof y))++((x.f7.flatMap fun y=>fB 9 (bRange y))++((x.f8.flatMap fun y=>fB 10 (bytesOf y))++x.f10)))))))))
termination_by SizeOf.sizeOf x
decreasing_by (have h1:=List.sizeOf_lt_of_mem y.2;have h2:=szMessage x;omega)
theorem attach_flat {α:Type} (l:List α) (g:α→List Int):(l.attach.flatMap fun y=>g y.1)=l.flatMap g:=by
 rw [List.flatMap_def,List.flatMap_def,List.attach_map_val (l:=l) (f:=g)]
theorem bMessage_eq (x:S76):bMessage x=tS 1 x.f0++((x.f1.flatMap fun y=>fB 2 (bField y))++((x.f2.flatMap fun y=>fB 3 (bMessage y))++((x.f3.flatMap fun y=>fB 4 (bEnum y))++((x.f4.flatMap fun y=>fB 5 (bRange y))++((x.f5.flatMap fun y=>fB 6 (bField y))++(oB 7 x.f9++((x.f6.flatMap fun y=>fB 8 (bOneof y))++((x.f7.flatMap fun y=>fB 9 (bRange y))++((x.f8.flatMap fun y=>fB 10 (bytesOf y))++x.f10))))))))):=by
 rw [bMessage,attach_flat x.f2 (fun y=>fB 3 (bMessage y))]
def bFile (x:S30):List Int:=tS 1 x.f0++(tS 2 x.f1++((x.f2.flatMap fun y=>fB 3 (bytesOf y))++((x.f4.flatMap fun y=>fB 4 (bMessage y))++((x.f5.flatMap fun y=>fB 5 (bEnum y))++((x.f6.flatMap fun y=>fB 6 (bService y))++((x.f7.flatMap fun y=>fB 7 (bField y))++(oB 8 x.f9++((x.f3.flatMap fun y=>fN 10 y)++(tS 12 x.f8++x.f10)))))))))
theorem fB_len {num:Int} (b:List Int) (hn:1≤num∧num≤536870911) (hb:b.length≤1099511627776):(fB num b).length≤20+b.length:=
 field_length num 2 0 b ⟨hn.1,hn.2,.inr (.inr (.inl rfl))⟩ (by decide) (by decide) (by omega)
theorem u64_in (n:Int):0≤IntKind.u64.wrap n∧IntKind.u64.wrap n < 18446744073709551616:=by rw [wrap_u64];omega
theorem fN_len {num:Int} (n:Int) (hn:1≤num∧num≤536870911):(fN num n).length≤20:=
 field_length num 0 (IntKind.u64.wrap n) [] ⟨hn.1,hn.2,.inl rfl⟩ (u64_in n).1 (u64_in n).2 (by simp)
theorem tS_len {num:Int} (s:ByteArray) (hn:1≤num∧num≤536870911) (hb:s.size≤1099511627776):(tS num s).length≤20+s.size:=by
 unfold tS
 split
 · simp
 · have:=fB_len (bytesOf s) hn (by rw [bytesOf_length];exact hb)
   rwa [bytesOf_length] at this
theorem oB_len {num:Int} (b:List Int) (hn:1≤num∧num≤536870911) (hb:b.length≤1099511627776):(oB num b).length≤20+b.length:=by
 unfold oB
 split
 · simp
 · exact fB_len b hn hb
theorem sN_len {num:Int} (n:Int) (hn:1≤num∧num≤536870911):(sN num n).length≤20:=by
 unfold sN
 split
 · simp
 · exact fN_len n hn
theorem tB_len {num:Int} (is:Bool) (hn:1≤num∧num≤536870911):(tB num is).length≤20:=by
 unfold tB
 split
 · exact fN_len 1 hn
 · simp
theorem dB_len (has:Bool) (s:ByteArray) (hb:s.size≤1099511627776):(dB has s).length≤20+s.size:=by
 unfold dB
 split
 · have:=fB_len (num:=7) (bytesOf s) (by decide) (by rw [bytesOf_length];exact hb)
   rwa [bytesOf_length] at this
 · simp
theorem pN_len (n:Int):(pN n).length≤20:=by
 unfold pN
 split
 · simp
 · exact fN_len _ (by decide)
theorem sum_one {α:Type} (l:List α):(l.map fun _=>1).sum=l.length:=by
 induction l with
 | nil=>rfl
 | cons a l ih=>rw [List.map_cons,List.sum_cons,ih,List.length_cons];omega
theorem sum_le {α:Type} (g:α→Nat):∀ (l:List α),∀ x∈l,g x≤(l.map g).sum
 | [],x,h=>by cases h
 | a :: l,x,h=>by
  rw [List.map_cons,List.sum_cons]
  rcases List.mem_cons.1 h with rfl|h
  · omega
  · have:=sum_le g l x h
    omega
theorem flat_len {α:Type} (g:α→Nat) (num:Int) (enc:α→List Int) (hn:1≤num∧num≤536870911):∀ (l:List α),(∀ x∈l,(enc x).length+20≤256*g x)→(l.map g).sum≤4294967296→(l.flatMap fun x=>fB num (enc x)).length≤256*(l.map g).sum
 | [],_,_=>by simp
 | a :: l,h,hs=>by
  rw [List.map_cons,List.sum_cons] at hs
  have h1:=h a (List.mem_cons_self ..)
  have h2:=flat_len g num enc hn l (fun x hx=>h x (List.mem_cons_of_mem _ hx)) (by omega)
  have h3:=fB_len (enc a) hn (by omega)
  rw [List.map_cons,List.sum_cons,List.flatMap_cons,List.length_append]
  omega
theorem words_len (num:Int) (hn:1≤num∧num≤536870911):∀ (l:List ByteArray),(l.map fun y=>y.size+1).sum≤4294967296→(l.flatMap fun y=>fB num (bytesOf y)).length≤256*(l.map fun y=>y.size+1).sum
 | [],_=>by simp
 | a :: l,hs=>by
  rw [List.map_cons,List.sum_cons] at hs
  have h2:=words_len num hn l (by omega)
  have h3:=fB_len (bytesOf a) hn (by rw [bytesOf_length];omega)
  rw [bytesOf_length] at h3
  rw [List.map_cons,List.sum_cons,List.flatMap_cons,List.length_append]
  omega
theorem nums_len (num:Int) (hn:1≤num∧num≤536870911):∀ (l:List Int),(l.flatMap fun y=>fN num y).length≤20*l.length
 | []=>by simp
 | a :: l=>by
  have h2:=nums_len num hn l
  have h3:=fN_len a hn
  rw [List.flatMap_cons,List.length_append,List.length_cons]
  omega
theorem len115_ (x:S115):(bRange x).length+20≤256*bk115 x:=by
 unfold bRange bk115
 have h1:=fN_len (num:=1) x.f0 (by decide)
 have h2:=fN_len (num:=2) (wrap64 (IntKind.u64.wrap (IntKind.u64.wrap x.f1+1))) (by decide)
 rw [List.length_append]
 omega
theorem len88_ (x:S88) (h:bk88 x≤4294967296):(bField x).length+20≤256*bk88 x:=by
 unfold bk88 at h ⊢
 rw [sum_one,sum_one] at h ⊢
 unfold bField
 have h1:=tS_len (num:=1) x.f0 (by decide) (by omega)
 have h2:=tS_len (num:=2) x.f5 (by decide) (by omega)
 have h3:=sN_len (num:=3) x.f1 (by decide)
 have h4:=sN_len (num:=4) x.f2 (by decide)
 have h5:=sN_len (num:=5) x.f3 (by decide)
 have h6:=tS_len (num:=6) x.f4 (by decide) (by omega)
 have h7:=dB_len x.f7 x.f6 (by omega)
 have h8:=oB_len (num:=8) x.f11 (by decide) (by omega)
 have h9:=pN_len x.f8
 have h10:=tS_len (num:=10) x.f9 (by decide) (by omega)
 have h11:=tB_len (num:=17) x.f10 (by decide)
 simp only [List.length_append]
 omega
theorem len93_ (x:S93) (h:bk93 x≤4294967296):(bValue x).length+20≤256*bk93 x:=by
 unfold bk93 at h ⊢
 rw [sum_one,sum_one] at h ⊢
 unfold bValue
 have h1:=tS_len (num:=1) x.f0 (by decide) (by omega)
 have h2:=fN_len (num:=2) x.f1 (by decide)
 have h3:=oB_len (num:=3) x.f2 (by decide) (by omega)
 simp only [List.length_append]
 omega
theorem len82_ (x:S82) (h:bk82 x≤4294967296):(bEnum x).length+20≤256*bk82 x:=by
 unfold bk82 at h ⊢
 rw [sum_one,sum_one] at h ⊢
 unfold bEnum
 have h1:=tS_len (num:=1) x.f0 (by decide) (by omega)
 have h2:=flat_len bk93 2 bValue (by decide) x.f1 (fun y hy=>len93_ y (by have:=sum_le bk93 x.f1 y hy;omega)) (by omega)
 have h3:=oB_len (num:=3) x.f2 (by decide) (by omega)
 simp only [List.length_append]
 omega
theorem len91_ (x:S91) (h:bk91 x≤4294967296):(bOneof x).length+20≤256*bk91 x:=by
 unfold bk91 at h ⊢
 rw [sum_one,sum_one] at h ⊢
 unfold bOneof
 have h1:=tS_len (num:=1) x.f0 (by decide) (by omega)
 have h2:=oB_len (num:=2) x.f1 (by decide) (by omega)
 simp only [List.length_append]
 omega
theorem len53_ (x:S53) (h:bk53 x≤4294967296):(bMethod x).length+20≤256*bk53 x:=by
 unfold bk53 at h ⊢
 rw [sum_one,sum_one] at h ⊢
 unfold bMethod
 have h1:=tS_len (num:=1) x.f0 (by decide) (by omega)
 have h2:=tS_len (num:=2) x.f1 (by decide) (by omega)
 have h3:=tS_len (num:=3) x.f2 (by decide) (by omega)
 have h4:=oB_len (num:=4) x.f5 (by decide) (by omega)
 have h5:=tB_len (num:=5) x.f3 (by decide)
 have h6:=tB_len (num:=6) x.f4 (by decide)
 simp only [List.length_append]
 omega
theorem len51_ (x:S51) (h:bk51 x≤4294967296):(bService x).length+20≤256*bk51 x:=by
 unfold bk51 at h ⊢
 rw [sum_one,sum_one] at h ⊢
 unfold bService
 have h1:=tS_len (num:=1) x.f0 (by decide) (by omega)
 have h2:=flat_len bk53 2 bMethod (by decide) x.f1 (fun y hy=>len53_ y (by have:=sum_le bk53 x.f1 y hy;omega)) (by omega)
 have h3:=oB_len (num:=3) x.f2 (by decide) (by omega)
 simp only [List.length_append]
 omega
theorem len76_:∀ (x:S76),bk76 x≤4294967296→(bMessage x).length+20≤256*bk76 x:=by
 refine S76.ind fun x ih h=>?_
 rw [bk76_eq] at h ⊢
 rw [bMessage_eq]
 rw [sum_one,sum_one] at h ⊢
 have h1:=tS_len (num:=1) x.f0 (by decide) (by omega)
 have h2:=flat_len bk88 2 bField (by decide) x.f1 (fun y hy=>len88_ y (by have:=sum_le bk88 x.f1 y hy;omega)) (by omega)
 have h3:=flat_len bk76 3 bMessage (by decide) x.f2 (fun y hy=>ih y hy (by have:=sum_le bk76 x.f2 y hy;omega)) (by omega)
 have h4:=flat_len bk82 4 bEnum (by decide) x.f3 (fun y hy=>len82_ y (by have:=sum_le bk82 x.f3 y hy;omega)) (by omega)
 have h5:=flat_len bk115 5 bRange (by decide) x.f4 (fun y hy=>len115_ y) (by omega)
 have h6:=flat_len bk88 6 bField (by decide) x.f5 (fun y hy=>len88_ y (by have:=sum_le bk88 x.f5 y hy;omega)) (by omega)
 have h7:=oB_len (num:=7) x.f9 (by decide) (by omega)
 have h8:=flat_len bk91 8 bOneof (by decide) x.f6 (fun y hy=>len91_ y (by have:=sum_le bk91 x.f6 y hy;omega)) (by omega)
 have h9:=flat_len bk115 9 bRange (by decide) x.f7 (fun y hy=>len115_ y) (by omega)
 have h10:=words_len 10 (by decide) x.f8 (by omega)
 simp only [List.length_append]
 omega
theorem len30_ (x:S30) (h:bk30 x≤4294967296):(bFile x).length+20≤256*bk30 x:=by
 unfold bk30 at h ⊢
 rw [sum_one,sum_one,sum_one] at h ⊢
 unfold bFile
 have h1:=tS_len (num:=1) x.f0 (by decide) (by omega)
 have h2:=tS_len (num:=2) x.f1 (by decide) (by omega)
 have h3:=words_len 3 (by decide) x.f2 (by omega)
 have h4:=flat_len bk76 4 bMessage (by decide) x.f4 (fun y hy=>len76_ y (by have:=sum_le bk76 x.f4 y hy;omega)) (by omega)
 have h5:=flat_len bk82 5 bEnum (by decide) x.f5 (fun y hy=>len82_ y (by have:=sum_le bk82 x.f5 y hy;omega)) (by omega)
 have h6:=flat_len bk51 6 bService (by decide) x.f6 (fun y hy=>len51_ y (by have:=sum_le bk51 x.f6 y hy;omega)) (by omega)
 have h7:=flat_len bk88 7 bField (by decide) x.f7 (fun y hy=>len88_ y (by have:=sum_le bk88 x.f7 y hy;omega)) (by omega)
 have h8:=oB_len (num:=8) x.f9 (by decide) (by omega)
 have h9:=nums_len 10 (by decide) x.f3
 have h10:=tS_len (num:=12) x.f8 (by decide) (by omega)
 simp only [List.length_append]
 omega
theorem bytesOf_strOf {b:List Int} (h:Bytes b):bytesOf (strOfNums b)=b:=by
 have e:(strOfNums b).data.toList=b.map fun n=>UInt8.ofNat n.toNat:=by
  have:=Go.Lib.strOfNums_toList b
  rw [Go.ByteArray.toList_eq] at this
  exact this
 unfold bytesOf
 rw [e,List.map_map]
 conv=>rhs;rw [← List.map_id b]
 apply List.map_congr_left
 intro x hx
 have:=h x hx
 simp only [Function.comp,UInt8.toNat_ofNat',id_eq]
 omega
theorem strOf_size {b:List Int} (h:Bytes b):(strOfNums b).size=b.length:=by rw [← bytesOf_length,bytesOf_strOf h]
theorem o_eq {num:Int} {b:List Int} (h:Bytes b):(if (strOfNums b).size=0 then [] else fB num (bytesOf (strOfNums b)))=oB num b:=by
 rw [strOf_size h,bytesOf_strOf h]
 unfold oB
 by_cases hb:b=[]
 · rw [if_pos hb,if_pos (by rw [hb];rfl)]
 · rw [if_neg hb,if_neg (fun h0=>hb (List.eq_nil_of_length_eq_zero h0))]
end Go.Proofs.Ytheoafenehckbaa.Sp
