/- What is read is well formed. -/
import Derived.Test.YtheoafenehckbaaKUy
import Derived.WalkLawsBesides
namespace Go.Proofs.Ytheoafenehckbaa.Ur
open Wb Dp Rk Sp Go.RowKit GUndescBack YtheoafenehckbaaW.PrintWords YtheoafenehckbaaW.PrintLast YtheoafenehckbaaW.PrintMore Vb Fx Wr Wt Wj Wp Uq
set_option linter.unusedVariables false
set_option linter.unusedSimpArgs false
theorem sapp {α : Type} (g : α → Nat) (l : List α) (x : α) : ((l ++ [x]).map g).sum = (l.map g).sum + g x := by simp
theorem i64_wrap (n:Int):I64 (wrap64 n):=by unfold I64 wrap64;omega
theorem pl_ok {n x:Int} (h:placeU n = .ok x) (h0:0≤n):0≤x∧x < 2147483648:=by
 unfold placeU at h
 by_cases hc:2147483648≤n
 · rw [if_pos hc] at h;cases h
 · rw [if_neg hc] at h
   cases h
   omega
theorem mem_snoc {α:Type} {Q:α→Prop} {l:List α} {x:α} (h:∀ y∈l,Q y) (hx:Q x):∀ y∈l++[x],Q y:=fun y hy=>by
 rcases List.mem_append.1 hy with hy|hy
 · exact h y hy
 · rw [List.mem_singleton.1 hy];exact hx
theorem hL_snoc (l:List S76) (x:S76):hL (l++[x])=max (hL l) (1+hL x.f2):=by
 induction l with
 | nil=>rw [List.nil_append,hL_cons,hL_nil];omega
 | cons a l ih=>rw [List.cons_append,hL_cons,hL_cons,ih];omega
def IOneof (s:S91):Prop:=Bytes s.f1∧s.f2=[]
theorem stOneof_inv (s:S91) (r:S97) (p:S91 × Bool) (hr:Fit r) (hI:IOneof s) (h:stOneof s r = .ok p):IOneof p.1∧bk91 p.1≤bk91 s+40*(r.f3.length+1)∧(p.2=false→p.1=s∧∀ s2,stOneof s2 r = .ok (s2,false)):=by
 have hI0:=hI
 unfold IOneof at hI
 obtain ⟨g0_,g1_⟩:=hI
 unfold stOneof at h
 unfold bk91
 by_cases eL1:ofL r=1
 · rw [if_pos eL1] at h
   cases h
   refine ⟨⟨g0_,g1_⟩,?_,fun h_=>by cases h_⟩
   (try simp only [sapp,jk4,jk9 hr.1.b])
   omega
 rw [if_neg eL1] at h
 by_cases eL2:ofL r=2
 · rw [if_pos eL2] at h
   cases h
   refine ⟨⟨hr.1.b,g1_⟩,?_,fun h_=>by cases h_⟩
   (try simp only [sapp,jk4,jk9 hr.1.b])
   omega
 rw [if_neg eL2] at h
 cases h
 refine ⟨hI0,Nat.le_add_right _ _,fun _=>⟨rfl,fun s2=>?_⟩⟩
 unfold stOneof
 rw [if_neg eL1,if_neg eL2]
theorem uOneof_wf (b:List Int) (hb:Bytes b) (hl:b.length < 4294967296) (x:S91) (h:uOneof b = .ok x):WfOneof x∧bk91 x≤40*b.length+40:=by
 unfold uOneof at h
 cases hR:readU stOneof b z91 with
 | error e=>rw [hR] at h;cases h
 | ok q=>
  rw [hR] at h
  cases h
  have hz:IOneof z91:=⟨(fun x hx=>by cases hx),rfl⟩
  obtain ⟨i1,i2,l',i3,i4⟩:=read_inv (step:=stOneof) IOneof bk91 (fun s r p hr hI h_=>by have ⟨a1,a2,a3⟩:=stOneof_inv s r p hr hI h_;exact ⟨a1,a2,fun hf=>⟨(a3 hf).1,(a3 hf).2⟩⟩) b hb hl z91 q hz hR
  obtain ⟨g0_,g1_⟩:=i1
  refine ⟨⟨g0_,(⟨l',i3,i4⟩)⟩,?_⟩
  unfold bk91 at i2 ⊢
  rw [g1_] at i2
  (try simp only [jk4] at i2 ⊢)
  (try simp [z91] at i2 ⊢)
  have hz_:(⟨#[]⟩:ByteArray).size=0:=rfl
  omega
def IValue (s:S93):Prop:=I64 s.f1∧Bytes s.f2∧s.f3=[]
theorem stValue_inv (s:S93) (r:S97) (p:S93 × Bool) (hr:Fit r) (hI:IValue s) (h:stValue s r = .ok p):IValue p.1∧bk93 p.1≤bk93 s+40*(r.f3.length+1)∧(p.2=false→p.1=s∧∀ s2,stValue s2 r = .ok (s2,false)):=by
 have hI0:=hI
 unfold IValue at hI
 obtain ⟨g0_,g1_,g2_⟩:=hI
 unfold stValue at h
 unfold bk93
 by_cases eL1:ofL r=1
 · rw [if_pos eL1] at h
   cases h
   refine ⟨⟨g0_,g1_,g2_⟩,?_,fun h_=>by cases h_⟩
   (try simp only [sapp,jk4,jk9 hr.1.b])
   omega
 rw [if_neg eL1] at h
 by_cases eV2:ofV r=2
 · rw [if_pos eV2] at h
   cases h
   refine ⟨⟨i64_wrap _,g1_,g2_⟩,?_,fun h_=>by cases h_⟩
   (try simp only [sapp,jk4,jk9 hr.1.b])
   omega
 rw [if_neg eV2] at h
 by_cases eL3:ofL r=3
 · rw [if_pos eL3] at h
   cases h
   refine ⟨⟨g0_,hr.1.b,g2_⟩,?_,fun h_=>by cases h_⟩
   (try simp only [sapp,jk4,jk9 hr.1.b])
   omega
 rw [if_neg eL3] at h
 cases h
 refine ⟨hI0,Nat.le_add_right _ _,fun _=>⟨rfl,fun s2=>?_⟩⟩
 unfold stValue
 rw [if_neg eL1,if_neg eV2,if_neg eL3]
theorem uValue_wf (b:List Int) (hb:Bytes b) (hl:b.length < 4294967296) (x:S93) (h:uValue b = .ok x):WfValue x∧bk93 x≤40*b.length+40:=by
 unfold uValue at h
 cases hR:readU stValue b z93 with
 | error e=>rw [hR] at h;cases h
 | ok q=>
  rw [hR] at h
  cases h
  have hz:IValue z93:=⟨(by unfold I64;decide),(fun x hx=>by cases hx),rfl⟩
  obtain ⟨i1,i2,l',i3,i4⟩:=read_inv (step:=stValue) IValue bk93 (fun s r p hr hI h_=>by have ⟨a1,a2,a3⟩:=stValue_inv s r p hr hI h_;exact ⟨a1,a2,fun hf=>⟨(a3 hf).1,(a3 hf).2⟩⟩) b hb hl z93 q hz hR
  obtain ⟨g0_,g1_,g2_⟩:=i1
  refine ⟨⟨g0_,g1_,(⟨l',i3,i4⟩)⟩,?_⟩
  unfold bk93 at i2 ⊢
  rw [g2_] at i2
  (try simp only [jk4] at i2 ⊢)
  (try simp [z93] at i2 ⊢)
  have hz_:(⟨#[]⟩:ByteArray).size=0:=rfl
  omega
def IRange (s:S115):Prop:=I64 s.f0∧I64 s.f1
theorem stRange_inv (s:S115) (r:S97) (p:S115 × Bool) (hr:Fit r) (hI:IRange s) (h:stRange s r = .ok p):IRange p.1∧bk115 p.1≤bk115 s+40*(r.f3.length+1)∧(p.2=false→p.1=s∧∀ s2,stRange s2 r = .ok (s2,false)):=by
 have hI0:=hI
 unfold IRange at hI
 obtain ⟨g0_,g1_⟩:=hI
 unfold stRange at h
 unfold bk115
 by_cases eV1:ofV r=1
 · rw [if_pos eV1] at h
   cases h
   refine ⟨⟨i64_wrap _,g1_⟩,?_,fun h_=>by cases h_⟩
   (try simp only [sapp,jk4,jk9 hr.1.b])
   omega
 rw [if_neg eV1] at h
 by_cases eV2:ofV r=2
 · rw [if_pos eV2] at h
   cases h
   refine ⟨⟨g0_,i64_wrap _⟩,?_,fun h_=>by cases h_⟩
   (try simp only [sapp,jk4,jk9 hr.1.b])
   omega
 rw [if_neg eV2] at h
 cases h
 exact ⟨hI0,Nat.le_add_right _ _,fun h_=>by cases h_⟩
theorem uRange_wf (b:List Int) (hb:Bytes b) (hl:b.length < 4294967296) (x:S115) (h:uRange b = .ok x):WfRange x∧bk115 x≤40*b.length+40:=by
 unfold uRange at h
 cases hR:readU stRange b (⟨0,-1⟩:S115) with
 | error e=>rw [hR] at h;cases h
 | ok q=>
  rw [hR] at h
  cases h
  have hz:IRange (⟨0,-1⟩:S115):=⟨(by unfold I64;decide),(by unfold I64;decide)⟩
  obtain ⟨i1,i2,l',i3,i4⟩:=read_inv (step:=stRange) IRange bk115 (fun s r p hr hI h_=>by have ⟨a1,a2,a3⟩:=stRange_inv s r p hr hI h_;exact ⟨a1,a2,fun hf=>⟨(a3 hf).1,(a3 hf).2⟩⟩) b hb hl (⟨0,-1⟩:S115) q hz hR
  obtain ⟨g0_,g1_⟩:=i1
  refine ⟨⟨g0_,g1_⟩,?_⟩
  unfold bk115
  omega
def IMethod (s:S53):Prop:=Bytes s.f5∧s.f6=[]
theorem stMethod_inv (s:S53) (r:S97) (p:S53 × Bool) (hr:Fit r) (hI:IMethod s) (h:stMethod s r = .ok p):IMethod p.1∧bk53 p.1≤bk53 s+40*(r.f3.length+1)∧(p.2=false→p.1=s∧∀ s2,stMethod s2 r = .ok (s2,false)):=by
 have hI0:=hI
 unfold IMethod at hI
 obtain ⟨g0_,g1_⟩:=hI
 unfold stMethod at h
 unfold bk53
 by_cases eL1:ofL r=1
 · rw [if_pos eL1] at h
   cases h
   refine ⟨⟨g0_,g1_⟩,?_,fun h_=>by cases h_⟩
   (try simp only [sapp,jk4,jk9 hr.1.b])
   omega
 rw [if_neg eL1] at h
 by_cases eL2:ofL r=2
 · rw [if_pos eL2] at h
   cases h
   refine ⟨⟨g0_,g1_⟩,?_,fun h_=>by cases h_⟩
   (try simp only [sapp,jk4,jk9 hr.1.b])
   omega
 rw [if_neg eL2] at h
 by_cases eL3:ofL r=3
 · rw [if_pos eL3] at h
   cases h
   refine ⟨⟨g0_,g1_⟩,?_,fun h_=>by cases h_⟩
   (try simp only [sapp,jk4,jk9 hr.1.b])
   omega
 rw [if_neg eL3] at h
 by_cases eL4:ofL r=4
 · rw [if_pos eL4] at h
   cases h
   refine ⟨⟨hr.1.b,g1_⟩,?_,fun h_=>by cases h_⟩
   (try simp only [sapp,jk4,jk9 hr.1.b])
   omega
 rw [if_neg eL4] at h
 by_cases eV5:ofV r=5
 · rw [if_pos eV5] at h
   cases h
   refine ⟨⟨g0_,g1_⟩,?_,fun h_=>by cases h_⟩
   (try simp only [sapp,jk4,jk9 hr.1.b])
   omega
 rw [if_neg eV5] at h
 by_cases eV6:ofV r=6
 · rw [if_pos eV6] at h
   cases h
   refine ⟨⟨g0_,g1_⟩,?_,fun h_=>by cases h_⟩
   (try simp only [sapp,jk4,jk9 hr.1.b])
   omega
 rw [if_neg eV6] at h
 cases h
 refine ⟨hI0,Nat.le_add_right _ _,fun _=>⟨rfl,fun s2=>?_⟩⟩
 unfold stMethod
 rw [if_neg eL1,if_neg eL2,if_neg eL3,if_neg eL4,if_neg eV5,if_neg eV6]
theorem uMethod_wf (b:List Int) (hb:Bytes b) (hl:b.length < 4294967296) (x:S53) (h:uMethod b = .ok x):WfMethod x∧bk53 x≤40*b.length+40:=by
 unfold uMethod at h
 cases hR:readU stMethod b z53 with
 | error e=>rw [hR] at h;cases h
 | ok q=>
  rw [hR] at h
  cases h
  have hz:IMethod z53:=⟨(fun x hx=>by cases hx),rfl⟩
  obtain ⟨i1,i2,l',i3,i4⟩:=read_inv (step:=stMethod) IMethod bk53 (fun s r p hr hI h_=>by have ⟨a1,a2,a3⟩:=stMethod_inv s r p hr hI h_;exact ⟨a1,a2,fun hf=>⟨(a3 hf).1,(a3 hf).2⟩⟩) b hb hl z53 q hz hR
  obtain ⟨g0_,g1_⟩:=i1
  refine ⟨⟨g0_,(⟨l',i3,i4⟩)⟩,?_⟩
  unfold bk53 at i2 ⊢
  rw [g1_] at i2
  (try simp only [jk4] at i2 ⊢)
  (try simp [z53] at i2 ⊢)
  have hz_:(⟨#[]⟩:ByteArray).size=0:=rfl
  omega
def IField (s:S88):Prop:=I64 s.f1∧(0≤s.f2∧s.f2 < 2147483648)∧(0≤s.f3∧s.f3 < 2147483648)∧(s.f7=false→s.f6=⟨#[]⟩)∧Bytes s.f11∧(0≤s.f8∧s.f8≤2147483648)∧s.f12=[]
theorem stField_inv (s:S88) (r:S97) (p:S88 × Bool) (hr:Fit r) (hI:IField s) (h:stField s r = .ok p):IField p.1∧bk88 p.1≤bk88 s+40*(r.f3.length+1)∧(p.2=false→p.1=s∧∀ s2,stField s2 r = .ok (s2,false)):=by
 have hI0:=hI
 unfold IField at hI
 obtain ⟨g0_,g1_,g2_,g3_,g4_,g5_,g6_⟩:=hI
 unfold stField at h
 unfold bk88
 by_cases eL1:ofL r=1
 · rw [if_pos eL1] at h
   cases h
   refine ⟨⟨g0_,g1_,g2_,g3_,g4_,g5_,g6_⟩,?_,fun h_=>by cases h_⟩
   (try simp only [sapp,jk4,jk9 hr.1.b])
   omega
 rw [if_neg eL1] at h
 by_cases eL2:ofL r=2
 · rw [if_pos eL2] at h
   cases h
   refine ⟨⟨g0_,g1_,g2_,g3_,g4_,g5_,g6_⟩,?_,fun h_=>by cases h_⟩
   (try simp only [sapp,jk4,jk9 hr.1.b])
   omega
 rw [if_neg eL2] at h
 by_cases eL6:ofL r=6
 · rw [if_pos eL6] at h
   cases h
   refine ⟨⟨g0_,g1_,g2_,g3_,g4_,g5_,g6_⟩,?_,fun h_=>by cases h_⟩
   (try simp only [sapp,jk4,jk9 hr.1.b])
   omega
 rw [if_neg eL6] at h
 by_cases eL7:ofL r=7
 · rw [if_pos eL7] at h
   cases h
   refine ⟨⟨g0_,g1_,g2_,(fun h_=>by cases h_),g4_,g5_,g6_⟩,?_,fun h_=>by cases h_⟩
   (try simp only [sapp,jk4,jk9 hr.1.b])
   omega
 rw [if_neg eL7] at h
 by_cases eL8:ofL r=8
 · rw [if_pos eL8] at h
   cases h
   refine ⟨⟨g0_,g1_,g2_,g3_,hr.1.b,g5_,g6_⟩,?_,fun h_=>by cases h_⟩
   (try simp only [sapp,jk4,jk9 hr.1.b])
   omega
 rw [if_neg eL8] at h
 by_cases eL10:ofL r=10
 · rw [if_pos eL10] at h
   cases h
   refine ⟨⟨g0_,g1_,g2_,g3_,g4_,g5_,g6_⟩,?_,fun h_=>by cases h_⟩
   (try simp only [sapp,jk4,jk9 hr.1.b])
   omega
 rw [if_neg eL10] at h
 by_cases eV3:ofV r=3
 · rw [if_pos eV3] at h
   cases h
   refine ⟨⟨i64_wrap _,g1_,g2_,g3_,g4_,g5_,g6_⟩,?_,fun h_=>by cases h_⟩
   (try simp only [sapp,jk4,jk9 hr.1.b])
   omega
 rw [if_neg eV3] at h
 by_cases eV4:ofV r=4
 · rw [if_pos eV4] at h
   cases hx:placeU r.f2 with
   | error n=>rw [hx] at h;cases h
   | ok x=>
    rw [hx] at h
    cases h
    refine ⟨⟨g0_,pl_ok hx hr.1.n.1,g2_,g3_,g4_,g5_,g6_⟩,?_,fun h_=>by cases h_⟩
    (try simp only [sapp,jk4,jk9 hr.1.b])
    omega
 rw [if_neg eV4] at h
 by_cases eV5:ofV r=5
 · rw [if_pos eV5] at h
   cases hx:placeU r.f2 with
   | error n=>rw [hx] at h;cases h
   | ok x=>
    rw [hx] at h
    cases h
    refine ⟨⟨g0_,g1_,pl_ok hx hr.1.n.1,g3_,g4_,g5_,g6_⟩,?_,fun h_=>by cases h_⟩
    (try simp only [sapp,jk4,jk9 hr.1.b])
    omega
 rw [if_neg eV5] at h
 by_cases eV9:ofV r=9
 · rw [if_pos eV9] at h
   cases hx:placeU r.f2 with
   | error n=>rw [hx] at h;cases h
   | ok x=>
    rw [hx] at h
    cases h
    refine ⟨⟨g0_,g1_,g2_,g3_,g4_,(by have h_:=pl_ok hx hr.1.n.1;show 0≤wrap64 (x+1)∧wrap64 (x+1)≤2147483648;unfold wrap64;omega),g6_⟩,?_,fun h_=>by cases h_⟩
    (try simp only [sapp,jk4,jk9 hr.1.b])
    omega
 rw [if_neg eV9] at h
 by_cases eV17:ofV r=17
 · rw [if_pos eV17] at h
   cases h
   refine ⟨⟨g0_,g1_,g2_,g3_,g4_,g5_,g6_⟩,?_,fun h_=>by cases h_⟩
   (try simp only [sapp,jk4,jk9 hr.1.b])
   omega
 rw [if_neg eV17] at h
 cases h
 refine ⟨hI0,Nat.le_add_right _ _,fun _=>⟨rfl,fun s2=>?_⟩⟩
 unfold stField
 rw [if_neg eL1,if_neg eL2,if_neg eL6,if_neg eL7,if_neg eL8,if_neg eL10,if_neg eV3,if_neg eV4,if_neg eV5,if_neg eV9,if_neg eV17]
theorem uField_wf (b:List Int) (hb:Bytes b) (hl:b.length < 4294967296) (x:S88) (h:uField b = .ok x):WfField x∧bk88 x≤40*b.length+40:=by
 unfold uField at h
 cases hR:readU stField b z88 with
 | error e=>rw [hR] at h;cases h
 | ok q=>
  rw [hR] at h
  cases h
  have hz:IField z88:=⟨(by unfold I64;decide),(by decide),(by decide),(fun _=>rfl),(fun x hx=>by cases hx),(by decide),rfl⟩
  obtain ⟨i1,i2,l',i3,i4⟩:=read_inv (step:=stField) IField bk88 (fun s r p hr hI h_=>by have ⟨a1,a2,a3⟩:=stField_inv s r p hr hI h_;exact ⟨a1,a2,fun hf=>⟨(a3 hf).1,(a3 hf).2⟩⟩) b hb hl z88 q hz hR
  obtain ⟨g0_,g1_,g2_,g3_,g4_,g5_,g6_⟩:=i1
  refine ⟨⟨g0_,g1_,g2_,g3_,g4_,g5_,(⟨l',i3,i4⟩)⟩,?_⟩
  unfold bk88 at i2 ⊢
  rw [g6_] at i2
  (try simp only [jk4] at i2 ⊢)
  (try simp [z88] at i2 ⊢)
  have hz_:(⟨#[]⟩:ByteArray).size=0:=rfl
  omega
def IEnum (s:S82):Prop:=(∀ y∈s.f1,WfValue y)∧Bytes s.f2∧s.f3=[]
theorem stEnum_inv (s:S82) (r:S97) (p:S82 × Bool) (hr:Fit r) (hI:IEnum s) (h:stEnum s r = .ok p):IEnum p.1∧bk82 p.1≤bk82 s+40*(r.f3.length+1)∧(p.2=false→p.1=s∧∀ s2,stEnum s2 r = .ok (s2,false)):=by
 have hI0:=hI
 unfold IEnum at hI
 obtain ⟨g0_,g1_,g2_⟩:=hI
 unfold stEnum at h
 unfold bk82
 by_cases eL1:ofL r=1
 · rw [if_pos eL1] at h
   cases h
   refine ⟨⟨g0_,g1_,g2_⟩,?_,fun h_=>by cases h_⟩
   (try simp only [sapp,jk4,jk9 hr.1.b])
   omega
 rw [if_neg eL1] at h
 by_cases eL2:ofL r=2
 · rw [if_pos eL2] at h
   cases hx:uValue r.f3 with
   | error n=>rw [hx] at h;cases h
   | ok x=>
    rw [hx] at h
    cases h
    have ⟨y1,y2⟩:=uValue_wf r.f3 hr.1.b hr.2 x hx
    refine ⟨⟨mem_snoc g0_ y1,g1_,g2_⟩,?_,fun h_=>by cases h_⟩
    (try simp only [sapp,jk4,jk9 hr.1.b])
    omega
 rw [if_neg eL2] at h
 by_cases eL3:ofL r=3
 · rw [if_pos eL3] at h
   cases h
   refine ⟨⟨g0_,hr.1.b,g2_⟩,?_,fun h_=>by cases h_⟩
   (try simp only [sapp,jk4,jk9 hr.1.b])
   omega
 rw [if_neg eL3] at h
 cases h
 refine ⟨hI0,Nat.le_add_right _ _,fun _=>⟨rfl,fun s2=>?_⟩⟩
 unfold stEnum
 rw [if_neg eL1,if_neg eL2,if_neg eL3]
theorem uEnum_wf (b:List Int) (hb:Bytes b) (hl:b.length < 4294967296) (x:S82) (h:uEnum b = .ok x):WfEnum x∧bk82 x≤40*b.length+40:=by
 unfold uEnum at h
 cases hR:readU stEnum b z82 with
 | error e=>rw [hR] at h;cases h
 | ok q=>
  rw [hR] at h
  cases h
  have hz:IEnum z82:=⟨(fun y hy=>by cases hy),(fun x hx=>by cases hx),rfl⟩
  obtain ⟨i1,i2,l',i3,i4⟩:=read_inv (step:=stEnum) IEnum bk82 (fun s r p hr hI h_=>by have ⟨a1,a2,a3⟩:=stEnum_inv s r p hr hI h_;exact ⟨a1,a2,fun hf=>⟨(a3 hf).1,(a3 hf).2⟩⟩) b hb hl z82 q hz hR
  obtain ⟨g0_,g1_,g2_⟩:=i1
  refine ⟨⟨g0_,g1_,(⟨l',i3,i4⟩)⟩,?_⟩
  unfold bk82 at i2 ⊢
  rw [g2_] at i2
  (try simp only [jk4] at i2 ⊢)
  (try simp [z82] at i2 ⊢)
  have hz_:(⟨#[]⟩:ByteArray).size=0:=rfl
  omega
def IService (s:S51):Prop:=(∀ y∈s.f1,WfMethod y)∧Bytes s.f2∧s.f3=[]
theorem stService_inv (s:S51) (r:S97) (p:S51 × Bool) (hr:Fit r) (hI:IService s) (h:stService s r = .ok p):IService p.1∧bk51 p.1≤bk51 s+40*(r.f3.length+1)∧(p.2=false→p.1=s∧∀ s2,stService s2 r = .ok (s2,false)):=by
 have hI0:=hI
 unfold IService at hI
 obtain ⟨g0_,g1_,g2_⟩:=hI
 unfold stService at h
 unfold bk51
 by_cases eL1:ofL r=1
 · rw [if_pos eL1] at h
   cases h
   refine ⟨⟨g0_,g1_,g2_⟩,?_,fun h_=>by cases h_⟩
   (try simp only [sapp,jk4,jk9 hr.1.b])
   omega
 rw [if_neg eL1] at h
 by_cases eL2:ofL r=2
 · rw [if_pos eL2] at h
   cases hx:uMethod r.f3 with
   | error n=>rw [hx] at h;cases h
   | ok x=>
    rw [hx] at h
    cases h
    have ⟨y1,y2⟩:=uMethod_wf r.f3 hr.1.b hr.2 x hx
    refine ⟨⟨mem_snoc g0_ y1,g1_,g2_⟩,?_,fun h_=>by cases h_⟩
    (try simp only [sapp,jk4,jk9 hr.1.b])
    omega
 rw [if_neg eL2] at h
 by_cases eL3:ofL r=3
 · rw [if_pos eL3] at h
   cases h
   refine ⟨⟨g0_,hr.1.b,g2_⟩,?_,fun h_=>by cases h_⟩
   (try simp only [sapp,jk4,jk9 hr.1.b])
   omega
 rw [if_neg eL3] at h
 cases h
 refine ⟨hI0,Nat.le_add_right _ _,fun _=>⟨rfl,fun s2=>?_⟩⟩
 unfold stService
 rw [if_neg eL1,if_neg eL2,if_neg eL3]
theorem uService_wf (b:List Int) (hb:Bytes b) (hl:b.length < 4294967296) (x:S51) (h:uService b = .ok x):WfService x∧bk51 x≤40*b.length+40:=by
 unfold uService at h
 cases hR:readU stService b z51 with
 | error e=>rw [hR] at h;cases h
 | ok q=>
  rw [hR] at h
  cases h
  have hz:IService z51:=⟨(fun y hy=>by cases hy),(fun x hx=>by cases hx),rfl⟩
  obtain ⟨i1,i2,l',i3,i4⟩:=read_inv (step:=stService) IService bk51 (fun s r p hr hI h_=>by have ⟨a1,a2,a3⟩:=stService_inv s r p hr hI h_;exact ⟨a1,a2,fun hf=>⟨(a3 hf).1,(a3 hf).2⟩⟩) b hb hl z51 q hz hR
  obtain ⟨g0_,g1_,g2_⟩:=i1
  refine ⟨⟨g0_,g1_,(⟨l',i3,i4⟩)⟩,?_⟩
  unfold bk51 at i2 ⊢
  rw [g2_] at i2
  (try simp only [jk4] at i2 ⊢)
  (try simp [z51] at i2 ⊢)
  have hz_:(⟨#[]⟩:ByteArray).size=0:=rfl
  omega
def IMessage (n:Nat) (s:S76):Prop:=(∀ y∈s.f1,WfField y)∧(∀ y∈s.f2,WfMessage y)∧(∀ y∈s.f3,WfEnum y)∧(∀ y∈s.f4,WfRange y)∧(∀ y∈s.f5,WfField y)∧Bytes s.f9∧(∀ y∈s.f6,WfOneof y)∧(∀ y∈s.f7,WfRange y)∧s.f10=[]∧hL s.f2≤n
theorem stMessage_inv (n:Nat) (u:List Int→Except Int S76) (hu:∀ (b:List Int) (y:S76),Bytes b→b.length < 4294967296→u b = .ok y→WfMessage y∧bk76 y≤40*b.length+40∧1+hL y.f2≤n) (s:S76) (r:S97) (p:S76 × Bool) (hr:Fit r) (hI:IMessage n s) (h:jk6 u s r = .ok p):IMessage n p.1∧bk76 p.1≤bk76 s+40*(r.f3.length+1)∧(p.2=false→p.1=s∧∀ u2 s2,jk6 u2 s2 r = .ok (s2,false)):=by
 have hI0:=hI
 unfold IMessage at hI
 obtain ⟨g0_,g1_,g2_,g3_,g4_,g5_,g6_,g7_,g8_,g9_⟩:=hI
 unfold jk6 at h
 rw [bk76_eq s]
 by_cases eL1:ofL r=1
 · rw [if_pos eL1] at h
   cases h
   refine ⟨⟨g0_,g1_,g2_,g3_,g4_,g5_,g6_,g7_,g8_,g9_⟩,?_,fun h_=>by cases h_⟩
   (try rw [bk76_eq])
   (try simp only [sapp,jk4,jk9 hr.1.b])
   omega
 rw [if_neg eL1] at h
 by_cases eL2:ofL r=2
 · rw [if_pos eL2] at h
   cases hx:uField r.f3 with
   | error n=>rw [hx] at h;cases h
   | ok x=>
    rw [hx] at h
    cases h
    have ⟨y1,y2⟩:=uField_wf r.f3 hr.1.b hr.2 x hx
    refine ⟨⟨mem_snoc g0_ y1,g1_,g2_,g3_,g4_,g5_,g6_,g7_,g8_,g9_⟩,?_,fun h_=>by cases h_⟩
    (try rw [bk76_eq])
    (try simp only [sapp,jk4,jk9 hr.1.b])
    omega
 rw [if_neg eL2] at h
 by_cases eL3:ofL r=3
 · rw [if_pos eL3] at h
   cases hx:u r.f3 with
   | error n=>rw [hx] at h;cases h
   | ok x=>
    rw [hx] at h
    cases h
    have ⟨y1,y2,y3⟩:=hu r.f3 x hr.1.b hr.2 hx
    refine ⟨⟨g0_,mem_snoc g1_ y1,g2_,g3_,g4_,g5_,g6_,g7_,g8_,(by show hL (s.f2++[x])≤n;rw [hL_snoc];omega)⟩,?_,fun h_=>by cases h_⟩
    (try rw [bk76_eq])
    (try simp only [sapp,jk4,jk9 hr.1.b])
    omega
 rw [if_neg eL3] at h
 by_cases eL4:ofL r=4
 · rw [if_pos eL4] at h
   cases hx:uEnum r.f3 with
   | error n=>rw [hx] at h;cases h
   | ok x=>
    rw [hx] at h
    cases h
    have ⟨y1,y2⟩:=uEnum_wf r.f3 hr.1.b hr.2 x hx
    refine ⟨⟨g0_,g1_,mem_snoc g2_ y1,g3_,g4_,g5_,g6_,g7_,g8_,g9_⟩,?_,fun h_=>by cases h_⟩
    (try rw [bk76_eq])
    (try simp only [sapp,jk4,jk9 hr.1.b])
    omega
 rw [if_neg eL4] at h
 by_cases eL5:ofL r=5
 · rw [if_pos eL5] at h
   cases hx:uRange r.f3 with
   | error n=>rw [hx] at h;cases h
   | ok x=>
    rw [hx] at h
    cases h
    have ⟨y1,y2⟩:=uRange_wf r.f3 hr.1.b hr.2 x hx
    refine ⟨⟨g0_,g1_,g2_,mem_snoc g3_ y1,g4_,g5_,g6_,g7_,g8_,g9_⟩,?_,fun h_=>by cases h_⟩
    (try rw [bk76_eq])
    (try simp only [sapp,jk4,jk9 hr.1.b])
    omega
 rw [if_neg eL5] at h
 by_cases eL6:ofL r=6
 · rw [if_pos eL6] at h
   cases hx:uField r.f3 with
   | error n=>rw [hx] at h;cases h
   | ok x=>
    rw [hx] at h
    cases h
    have ⟨y1,y2⟩:=uField_wf r.f3 hr.1.b hr.2 x hx
    refine ⟨⟨g0_,g1_,g2_,g3_,mem_snoc g4_ y1,g5_,g6_,g7_,g8_,g9_⟩,?_,fun h_=>by cases h_⟩
    (try rw [bk76_eq])
    (try simp only [sapp,jk4,jk9 hr.1.b])
    omega
 rw [if_neg eL6] at h
 by_cases eL7:ofL r=7
 · rw [if_pos eL7] at h
   cases h
   refine ⟨⟨g0_,g1_,g2_,g3_,g4_,hr.1.b,g6_,g7_,g8_,g9_⟩,?_,fun h_=>by cases h_⟩
   (try rw [bk76_eq])
   (try simp only [sapp,jk4,jk9 hr.1.b])
   omega
 rw [if_neg eL7] at h
 by_cases eL8:ofL r=8
 · rw [if_pos eL8] at h
   cases hx:uOneof r.f3 with
   | error n=>rw [hx] at h;cases h
   | ok x=>
    rw [hx] at h
    cases h
    have ⟨y1,y2⟩:=uOneof_wf r.f3 hr.1.b hr.2 x hx
    refine ⟨⟨g0_,g1_,g2_,g3_,g4_,g5_,mem_snoc g6_ y1,g7_,g8_,g9_⟩,?_,fun h_=>by cases h_⟩
    (try rw [bk76_eq])
    (try simp only [sapp,jk4,jk9 hr.1.b])
    omega
 rw [if_neg eL8] at h
 by_cases eL9:ofL r=9
 · rw [if_pos eL9] at h
   cases hx:uRange r.f3 with
   | error n=>rw [hx] at h;cases h
   | ok x=>
    rw [hx] at h
    cases h
    have ⟨y1,y2⟩:=uRange_wf r.f3 hr.1.b hr.2 x hx
    refine ⟨⟨g0_,g1_,g2_,g3_,g4_,g5_,g6_,mem_snoc g7_ y1,g8_,g9_⟩,?_,fun h_=>by cases h_⟩
    (try rw [bk76_eq])
    (try simp only [sapp,jk4,jk9 hr.1.b])
    omega
 rw [if_neg eL9] at h
 by_cases eL10:ofL r=10
 · rw [if_pos eL10] at h
   cases h
   refine ⟨⟨g0_,g1_,g2_,g3_,g4_,g5_,g6_,g7_,g8_,g9_⟩,?_,fun h_=>by cases h_⟩
   (try rw [bk76_eq])
   (try simp only [sapp,jk4,jk9 hr.1.b])
   omega
 rw [if_neg eL10] at h
 cases h
 refine ⟨hI0,(by rw [bk76_eq];exact Nat.le_add_right _ _),fun _=>⟨rfl,fun u2 s2=>?_⟩⟩
 unfold jk6
 rw [if_neg eL1,if_neg eL2,if_neg eL3,if_neg eL4,if_neg eL5,if_neg eL6,if_neg eL7,if_neg eL8,if_neg eL9,if_neg eL10]
theorem uMessage_wf:∀ (n:Nat) (b:List Int) (x:S76),Bytes b→b.length < 4294967296→uMessage n b = .ok x→WfMessage x∧bk76 x≤40*b.length+40∧1+hL x.f2≤n:=by
 intro n
 induction n with
 | zero=>intro b x _ _ h;unfold uMessage at h;cases h
 | succ n hu=>
  intro b x hb hl h
  unfold uMessage at h
  cases hR:readU (jk6 (uMessage n)) b z76 with
  | error e=>rw [hR] at h;cases h
  | ok q=>
   rw [hR] at h
   cases h
   have hz:(IMessage n) z76:=⟨(fun y hy=>by cases hy),(fun y hy=>by cases hy),(fun y hy=>by cases hy),(fun y hy=>by cases hy),(fun y hy=>by cases hy),(fun x hx=>by cases hx),(fun y hy=>by cases hy),(fun y hy=>by cases hy),rfl,(by show hL []≤n;rw [hL_nil];exact Nat.zero_le _)⟩
   obtain ⟨i1,i2,l',i3,i4⟩:=read_inv (step:=(jk6 (uMessage n))) (IMessage n) bk76 (fun s r p hr hI h_=>by have ⟨a1,a2,a3⟩:=stMessage_inv n (uMessage n) hu s r p hr hI h_;exact ⟨a1,a2,fun hf=>⟨(a3 hf).1,(a3 hf).2 (uMessage n)⟩⟩) b hb hl z76 q hz hR
   have hun:∀ u2 r,Fit r→(∀ s2,jk6 (uMessage n) s2 r = .ok (s2,false))→∀ s2,jk6 u2 s2 r = .ok (s2,false):=fun u2 r hr h_ s2=>((stMessage_inv n (uMessage n) hu z76 r _ hr hz (h_ _)).2.2 rfl).2 u2 s2
   obtain ⟨g0_,g1_,g2_,g3_,g4_,g5_,g6_,g7_,g8_,g9_⟩:=i1
   refine ⟨WfMessage.mk _ g0_ g1_ g2_ g3_ g4_ g5_ g6_ g7_ (fun u2=>⟨l',fun r hr=>⟨(i3 r hr).1,hun u2 r (i3 r hr).1 (i3 r hr).2⟩,i4⟩),?_,?_⟩
   · rw [bk76_eq] at i2 ⊢
     rw [bk76_eq] at i2
     rw [g8_] at i2
     (try simp only [jk4,List.map_nil,List.sum_nil,List.length_nil] at i2 ⊢)
     have hzb:(z76.f0).size=0:=rfl
     simp only [z76,List.map_nil,List.sum_nil,List.length_nil] at i2
     (try simp at i2 ⊢)
     have hz_:(⟨#[]⟩:ByteArray).size=0:=rfl
     omega
   · show 1+hL q.1.f2≤n+1
     omega
def IFile (n:Nat) (s:S30):Prop:=(∀ y∈s.f4,WfMessage y)∧(∀ y∈s.f5,WfEnum y)∧(∀ y∈s.f6,WfService y)∧(∀ y∈s.f7,WfField y)∧Bytes s.f9∧(∀ y∈s.f3,0≤y∧y < 2147483648)∧s.f10=[]∧hL s.f4≤n
theorem stFile_inv (n:Nat) (u:List Int→Except Int S76) (hu:∀ (b:List Int) (y:S76),Bytes b→b.length < 4294967296→u b = .ok y→WfMessage y∧bk76 y≤40*b.length+40∧1+hL y.f2≤n) (s:S30) (r:S97) (p:S30 × Bool) (hr:Fit r) (hI:IFile n s) (h:stFile u s r = .ok p):IFile n p.1∧bk30 p.1≤bk30 s+40*(r.f3.length+1)∧(p.2=false→p.1=s∧∀ u2 s2,stFile u2 s2 r = .ok (s2,false)):=by
 have hI0:=hI
 unfold IFile at hI
 obtain ⟨g0_,g1_,g2_,g3_,g4_,g5_,g6_,g7_⟩:=hI
 unfold stFile at h
 unfold bk30
 by_cases eL1:ofL r=1
 · rw [if_pos eL1] at h
   cases h
   refine ⟨⟨g0_,g1_,g2_,g3_,g4_,g5_,g6_,g7_⟩,?_,fun h_=>by cases h_⟩
   (try simp only [sapp,jk4,jk9 hr.1.b])
   omega
 rw [if_neg eL1] at h
 by_cases eL2:ofL r=2
 · rw [if_pos eL2] at h
   cases h
   refine ⟨⟨g0_,g1_,g2_,g3_,g4_,g5_,g6_,g7_⟩,?_,fun h_=>by cases h_⟩
   (try simp only [sapp,jk4,jk9 hr.1.b])
   omega
 rw [if_neg eL2] at h
 by_cases eL3:ofL r=3
 · rw [if_pos eL3] at h
   cases h
   refine ⟨⟨g0_,g1_,g2_,g3_,g4_,g5_,g6_,g7_⟩,?_,fun h_=>by cases h_⟩
   (try simp only [sapp,jk4,jk9 hr.1.b])
   omega
 rw [if_neg eL3] at h
 by_cases eL4:ofL r=4
 · rw [if_pos eL4] at h
   cases hx:u r.f3 with
   | error n=>rw [hx] at h;cases h
   | ok x=>
    rw [hx] at h
    cases h
    have ⟨y1,y2,y3⟩:=hu r.f3 x hr.1.b hr.2 hx
    refine ⟨⟨mem_snoc g0_ y1,g1_,g2_,g3_,g4_,g5_,g6_,(by show hL (s.f4++[x])≤n;rw [hL_snoc];omega)⟩,?_,fun h_=>by cases h_⟩
    (try simp only [sapp,jk4,jk9 hr.1.b])
    omega
 rw [if_neg eL4] at h
 by_cases eL5:ofL r=5
 · rw [if_pos eL5] at h
   cases hx:uEnum r.f3 with
   | error n=>rw [hx] at h;cases h
   | ok x=>
    rw [hx] at h
    cases h
    have ⟨y1,y2⟩:=uEnum_wf r.f3 hr.1.b hr.2 x hx
    refine ⟨⟨g0_,mem_snoc g1_ y1,g2_,g3_,g4_,g5_,g6_,g7_⟩,?_,fun h_=>by cases h_⟩
    (try simp only [sapp,jk4,jk9 hr.1.b])
    omega
 rw [if_neg eL5] at h
 by_cases eL6:ofL r=6
 · rw [if_pos eL6] at h
   cases hx:uService r.f3 with
   | error n=>rw [hx] at h;cases h
   | ok x=>
    rw [hx] at h
    cases h
    have ⟨y1,y2⟩:=uService_wf r.f3 hr.1.b hr.2 x hx
    refine ⟨⟨g0_,g1_,mem_snoc g2_ y1,g3_,g4_,g5_,g6_,g7_⟩,?_,fun h_=>by cases h_⟩
    (try simp only [sapp,jk4,jk9 hr.1.b])
    omega
 rw [if_neg eL6] at h
 by_cases eL7:ofL r=7
 · rw [if_pos eL7] at h
   cases hx:uField r.f3 with
   | error n=>rw [hx] at h;cases h
   | ok x=>
    rw [hx] at h
    cases h
    have ⟨y1,y2⟩:=uField_wf r.f3 hr.1.b hr.2 x hx
    refine ⟨⟨g0_,g1_,g2_,mem_snoc g3_ y1,g4_,g5_,g6_,g7_⟩,?_,fun h_=>by cases h_⟩
    (try simp only [sapp,jk4,jk9 hr.1.b])
    omega
 rw [if_neg eL7] at h
 by_cases eL8:ofL r=8
 · rw [if_pos eL8] at h
   cases h
   refine ⟨⟨g0_,g1_,g2_,g3_,hr.1.b,g5_,g6_,g7_⟩,?_,fun h_=>by cases h_⟩
   (try simp only [sapp,jk4,jk9 hr.1.b])
   omega
 rw [if_neg eL8] at h
 by_cases eL12:ofL r=12
 · rw [if_pos eL12] at h
   cases h
   refine ⟨⟨g0_,g1_,g2_,g3_,g4_,g5_,g6_,g7_⟩,?_,fun h_=>by cases h_⟩
   (try simp only [sapp,jk4,jk9 hr.1.b])
   omega
 rw [if_neg eL12] at h
 by_cases eV10:ofV r=10
 · rw [if_pos eV10] at h
   cases hx:placeU r.f2 with
   | error n=>rw [hx] at h;cases h
   | ok x=>
    rw [hx] at h
    cases h
    refine ⟨⟨g0_,g1_,g2_,g3_,g4_,mem_snoc g5_ (pl_ok hx hr.1.n.1),g6_,g7_⟩,?_,fun h_=>by cases h_⟩
    (try simp only [sapp,jk4,jk9 hr.1.b])
    omega
 rw [if_neg eV10] at h
 cases h
 refine ⟨hI0,Nat.le_add_right _ _,fun _=>⟨rfl,fun u2 s2=>?_⟩⟩
 unfold stFile
 rw [if_neg eL1,if_neg eL2,if_neg eL3,if_neg eL4,if_neg eL5,if_neg eL6,if_neg eL7,if_neg eL8,if_neg eL12,if_neg eV10]
theorem uFile_wf (n:Nat) (u:List Int→Except Int S76) (hu:∀ (b:List Int) (y:S76),Bytes b→b.length < 4294967296→u b = .ok y→WfMessage y∧bk76 y≤40*b.length+40∧1+hL y.f2≤n) (b:List Int) (hb:Bytes b) (hl:b.length < 4294967296) (x:S30) (h:uFile u b = .ok x):WfFile x∧bk30 x≤40*b.length+40∧hL x.f4≤n:=by
 unfold uFile at h
 cases hR:readU (stFile u) b z30 with
 | error e=>rw [hR] at h;cases h
 | ok q=>
  rw [hR] at h
  cases h
  have hz:(IFile n) z30:=⟨(fun y hy=>by cases hy),(fun y hy=>by cases hy),(fun y hy=>by cases hy),(fun y hy=>by cases hy),(fun x hx=>by cases hx),(fun y hy=>by cases hy),rfl,(by show hL []≤n;rw [hL_nil];exact Nat.zero_le _)⟩
  obtain ⟨i1,i2,l',i3,i4⟩:=read_inv (step:=(stFile u)) (IFile n) bk30 (fun s r p hr hI h_=>by have ⟨a1,a2,a3⟩:=stFile_inv n u hu s r p hr hI h_;exact ⟨a1,a2,fun hf=>⟨(a3 hf).1,(a3 hf).2 u⟩⟩) b hb hl z30 q hz hR
  have hun:∀ u2 r,Fit r→(∀ s2,stFile u s2 r = .ok (s2,false))→∀ s2,stFile u2 s2 r = .ok (s2,false):=fun u2 r hr h_ s2=>((stFile_inv n u hu z30 r _ hr hz (h_ _)).2.2 rfl).2 u2 s2
  obtain ⟨g0_,g1_,g2_,g3_,g4_,g5_,g6_,g7_⟩:=i1
  refine ⟨⟨g0_,g1_,g2_,g3_,g4_,g5_,(fun u2=>⟨l',fun r hr=>⟨(i3 r hr).1,hun u2 r (i3 r hr).1 (i3 r hr).2⟩,i4⟩)⟩,?_,?_⟩
  · unfold bk30 at i2 ⊢
    rw [g6_] at i2
    (try simp only [jk4] at i2 ⊢)
    (try simp [z30] at i2 ⊢)
    have hz_:(⟨#[]⟩:ByteArray).size=0:=rfl
    omega
  · exact g7_
end Go.Proofs.Ytheoafenehckbaa.Ur
