/- Fields one behind the other, read again; what a reader's fold keeps. -/
import Derived.Test.YtheoafenehckbaaKA3
import Derived.Test.YtheoafenehckbaaKA1
import Derived.Test.YtheoafenehckbaaKSp
namespace Go.Proofs.Ytheoafenehckbaa.Ur
open Go.RowKit GUndescBack YtheoafenehckbaaW.PrintWords YtheoafenehckbaaW.PrintLast YtheoafenehckbaaW.PrintMore Vb Fx Wr Wt Wj Wb Wp Uq Rk Sp
set_option linter.unusedVariables false
def fld (r:S97):List Int:=field r.f0 r.f1 r.f2 r.f3
def flat (l:List S97):List Int:=l.flatMap fld
theorem flat_append (a b:List S97):flat (a++b)=flat a++flat b:=List.flatMap_append
theorem flat_cons (r:S97) (l:List S97):flat (r :: l)=fld r++flat l:=List.flatMap_cons
def Fit (r:S97):Prop:=RawOk r∧r.f3.length < 4294967296
theorem bare_fit {r:S97} (h:RawOk r):pn r.f1 r.f2=r.f2∧pb r.f1 r.f3=r.f3:=by
 unfold pn pb
 refine ⟨?_,?_⟩
 · by_cases h2:r.f1=2
   · rw [if_pos h2,h.none h2]
   · rw [if_neg h2]
     by_cases h5:r.f1=5
     · rw [if_pos h5]
       have:=h.i32 h5
       have:=h.n
       omega
     · rw [if_neg h5]
 · by_cases h2:r.f1=2
   · rw [if_pos h2]
   · rw [if_neg h2,h.pure h2]
theorem rr_flat (l:List S97) (h:∀ r∈l,Fit r):∀ (d:Nat) (acc:List S97),(flat l).length≤d→rr mkRaw (flat l) d 0 acc=(acc++l,0,0):=by
 induction l with
 | nil=>
  intro d acc _
  rw [List.append_nil]
  cases d with
  | zero=>rfl
  | succ d=>rw [show flat ([]:List S97)=[] from rfl,rr,if_neg (by simp)]
 | cons r l ih=>
  intro d acc hd
  rw [flat_cons] at hd ⊢
  have ⟨hr,hr2⟩:=h r (List.mem_cons_self ..)
  have hp:=field_pos r.f0 r.f1 r.f2 r.f3
  have hl:(fld r++flat l).length=(fld r).length+(flat l).length:=List.length_append
  have hfp:0 < (fld r).length:=hp
  obtain ⟨d,rfl⟩:∃ q,d=q+1:=⟨d - 1,by omega⟩
  have ht:=tk_field r.f0 r.f1 r.f2 r.f3 (flat l) ⟨hr.num.1,hr.num.2,hr.kind⟩ hr.n.1 hr.n.2 (by omega)
  have ⟨e1,e2⟩:=bare_fit hr
  rw [e1,e2] at ht
  have e:rr mkRaw (fld r++flat l) (d+1) 0 acc=rr mkRaw (fld r++flat l) d ((fld r).length+0) (acc++[r]):=by
   have ht':tk (fld r++flat l)=(r.f0,r.f1,r.f2,r.f3,((fld r).length:Int),0):=ht
   rw [rr,if_pos (by omega),List.drop_zero,ht']
   dsimp only
   rw [if_pos rfl,Int.toNat_natCast,Nat.zero_add,Nat.add_zero]
   rfl
  rw [e,rr_shift,ih (fun x hx=>h x (List.mem_cons_of_mem _ hx)) d _ (by omega),if_pos rfl,List.append_assoc]
  rfl
theorem raws_flat (l:List S97) (h:∀ r∈l,Fit r):raws (flat l)=(l,0,0):=by
 unfold raws
 rw [rr_flat l h _ [] (Nat.le_refl _),List.nil_append]
theorem readU_flat {σ:Type} (step:σ→S97→Except Int (σ × Bool)) (l:List S97) (h:∀ r∈l,Fit r) (s:σ):readU step (flat l) s=foldU step l s []:=by
 unfold readU
 rw [raws_flat l h]
 exact if_neg (fun h=>h rfl)
section
variable {σ:Type} {step:σ→S97→Except Int (σ × Bool)}
theorem fold_ok {l1 l2:List S97} {s s1:σ} {k k1:List Int} (h:foldU step l1 s k = .ok (s1,k1)):foldU step (l1++l2) s k=foldU step l2 s1 k1:=by
 induction l1 generalizing s k with
 | nil=>cases h;rfl
 | cons r l1 ih=>
  rw [List.cons_append,foldU]
  rw [foldU] at h
  cases hx:step s r with
  | error n=>rw [hx] at h;cases h
  | ok p=>rw [hx] at h;exact ih h
theorem fold_skip (l:List S97) (h:∀ r∈l,RawOk r∧∀ s,step s r = .ok (s,false)):∀ (s:σ) (k:List Int),foldU step l s k = .ok (s,k++flat l):=by
 induction l with
 | nil=>intro s k;rw [show flat ([]:List S97)=[] from rfl,List.append_nil];rfl
 | cons r l ih=>
  intro s k
  have ⟨hr,hs⟩:=h r (List.mem_cons_self ..)
  rw [foldU,hs s,flat_cons]
  dsimp only
  rw [if_neg Bool.false_ne_true,ih (fun x hx=>h x (List.mem_cons_of_mem _ hx)),List.append_assoc]
  have hp:pt r.f0 r.f1 r.f2 r.f3=(field r.f0 r.f1 r.f2 r.f3,0):=by unfold pt;exact if_pos ⟨hr.num.1,hr.num.2,hr.kind⟩
  rw [hp]
  rfl
theorem fold_one {r:S97} {s s1:σ} (k:List Int) (h:step s r = .ok (s1,true)):foldU step [r] s k = .ok (s1,k):=by
 rw [foldU,h]
 rfl
theorem fold_list {α:Type} (g:α→S97) (mk:List α→σ) (k:List Int):∀ (l pre:List α),(∀ y∈l,∀ q,step (mk q) (g y) = .ok (mk (q++[y]),true))→foldU step (l.map g) (mk pre) k = .ok (mk (pre++l),k)
 | [],pre,_=>by rw [List.append_nil];rfl
 | y :: l,pre,h=>by
  rw [List.map_cons,foldU,h y (List.mem_cons_self ..)]
  have:=fold_list g mk k l (pre++[y]) (fun z hz=>h z (List.mem_cons_of_mem _ hz))
  rw [List.append_assoc] at this
  exact this
end
def Unk {σ:Type} (step:σ→S97→Except Int (σ × Bool)) (b:List Int):Prop:=∃ l,(∀ r∈l,Fit r∧∀ s,step s r = .ok (s,false))∧b=flat l
theorem flat_bytes (l:List S97) (h:∀ r∈l,Fit r):Bytes (flat l):=by
 intro x hx
 obtain ⟨r,hr,hx⟩:=List.mem_flatMap.1 hx
 exact field_bytes r.f0 r.f1 r.f2 r.f3 (h r hr).1.b x hx
theorem Unk.bytes {σ:Type} {step:σ→S97→Except Int (σ × Bool)} {b:List Int} (h:Unk step b):Bytes b:=by
 obtain ⟨l,h1,rfl⟩:=h
 exact flat_bytes l (fun r hr=>(h1 r hr).1)
theorem Unk.nil {σ:Type} (step:σ→S97→Except Int (σ × Bool)):Unk step []:=⟨[],(fun r hr=>by cases hr),rfl⟩
def B2 (num:Int) (b:List Int):S97:=⟨num,2,0,b⟩
def N0 (num n:Int):S97:=⟨num,0,IntKind.u64.wrap n,[]⟩
def tR (num:Int) (s:ByteArray):List S97:=if s.size=0 then [] else [B2 num (bytesOf s)]
def oR (num:Int) (b:List Int):List S97:=if b=[] then [] else [B2 num b]
def sR (num n:Int):List S97:=if n=0 then [] else [N0 num n]
def tBR (num:Int) (is:Bool):List S97:=if is=true then [N0 num 1] else []
def dR (has:Bool) (s:ByteArray):List S97:=if has=true then [B2 7 (bytesOf s)] else []
def pR (n:Int):List S97:=if n=0 then [] else [N0 9 (wrap64 (n - 1))]
theorem flat_one (r:S97):flat [r]=fld r:=by rw [flat_cons];exact List.append_nil _
theorem tR_flat (num:Int) (s:ByteArray):flat (tR num s)=tS num s:=by
 unfold tR tS
 by_cases h:s.size=0
 · rw [if_pos h,if_pos h];rfl
 · rw [if_neg h,if_neg h,flat_one];rfl
theorem oR_flat (num:Int) (b:List Int):flat (oR num b)=oB num b:=by
 unfold oR oB
 by_cases h:b=[]
 · rw [if_pos h,if_pos h];rfl
 · rw [if_neg h,if_neg h,flat_one];rfl
theorem sR_flat (num n:Int):flat (sR num n)=sN num n:=by
 unfold sR sN
 by_cases h:n=0
 · rw [if_pos h,if_pos h];rfl
 · rw [if_neg h,if_neg h,flat_one];rfl
theorem tBR_flat (num:Int) (is:Bool):flat (tBR num is)=tB num is:=by
 unfold tBR tB
 by_cases h:is=true
 · rw [if_pos h,if_pos h,flat_one];rfl
 · rw [if_neg h,if_neg h];rfl
theorem dR_flat (has:Bool) (s:ByteArray):flat (dR has s)=dB has s:=by
 unfold dR dB
 by_cases h:has=true
 · rw [if_pos h,if_pos h,flat_one];rfl
 · rw [if_neg h,if_neg h];rfl
theorem pR_flat (n:Int):flat (pR n)=pN n:=by
 unfold pR pN
 by_cases h:n=0
 · rw [if_pos h,if_pos h];rfl
 · rw [if_neg h,if_neg h,flat_one];rfl
theorem map_flat {α:Type} (num:Int) (g:α→List Int) (l:List α):flat (l.map fun y=>B2 num (g y))=l.flatMap fun y=>fB num (g y):=by
 unfold flat
 rw [List.flatMap_map]
 rfl
theorem nums_flat (num:Int) (l:List Int):flat (l.map fun y=>N0 num y)=l.flatMap fun y=>fN num y:=by
 unfold flat
 rw [List.flatMap_map]
 rfl
theorem bytes_of_str (s:ByteArray):Bytes (bytesOf s):=by
 intro x hx
 unfold bytesOf at hx
 obtain ⟨c,_,rfl⟩:=List.mem_map.1 hx
 have:=c.toNat_lt
 omega
theorem strOf_bytesOf (s:ByteArray):strOfNums (bytesOf s)=s:=by
 have h:=bytesOf_strOf (bytes_of_str s)
 have e:∀ a b:ByteArray,bytesOf a=bytesOf b→a=b:=by
  intro a b hab
  cases a with
  | mk a=>
   cases b with
   | mk b=>
    congr 1
    unfold bytesOf at hab
    have h2:=(List.map_inj_right (f:=fun c:UInt8=>((c.toNat:Nat):Int)) (fun x y hxy=>UInt8.toNat_inj.1 (by have:(x.toNat:Int)=(y.toNat:Int):=hxy;omega))).1 hab
    exact Array.toList_inj.1 h2
 exact e _ _ h
theorem B2_fit {num:Int} {b:List Int} (hn:1≤num∧num≤536870911) (hb:Bytes b) (hl:b.length < 4294967296):Fit (B2 num b):=
 ⟨⟨hn,.inr (.inr (.inl rfl)),⟨Int.le_refl 0,(by show (0:Int) < 18446744073709551616;decide)⟩,hb,(fun h=>absurd rfl h),(fun _=>rfl),(fun h=>by cases h)⟩,hl⟩
theorem N0_fit {num:Int} (n:Int) (hn:1≤num∧num≤536870911):Fit (N0 num n):=
 ⟨⟨hn,.inl rfl,u64_in n,(fun x hx=>by cases hx),(fun _=>rfl),(fun h=>by cases h),(fun h=>by cases h)⟩,(by show ([]:List Int).length < 4294967296;decide)⟩
end Go.Proofs.Ytheoafenehckbaa.Ur
