/- Fm: merged out of KXag, KXah, KXai, KXaj. -/
import Derived.Test.YtfoapolbgpjfaaaGreatDoorFk
import Derived.Test.YtfoapolbgpjfaaaGreatDoorAc
import Derived.Test.YtfoapolbgpjfaaaGreatDoorEa
import Derived.Test.YtfoapolbgpjfaaaGreatDoorBa
set_option linter.unusedSectionVars false
set_option linter.unusedSimpArgs false
set_option linter.unusedVariables false
set_option maxRecDepth 100000
section
namespace Go.Proofs
open Go.PW Go.KP
attribute [local simp] RV.cells RV.one PV.cells PV.solid PV.one N3 b8 O9 P0 RV.ofCells elems PV.killL
variable [GH]
def ri (t:Tx) (i:Nat):List RV:=[tx t,num (i:Int)]
def flt (c:Int):RV:=.ifc 191 (num c)
def JF (P:Program) (f:Nat) (vs:List AV) (t:Tx) (i:Nat) {α:Type} (g:α→PV):JZ α→Prop
 | .ok x k=>z6 P f (.box (ri t i) :: vs) (.ret (g x) []) [ri t k]
 | .err c z=>z6 P f (.box (ri t i) :: vs) (.pan (flt c)) [ri t z]
theorem b75 {P:Program} {st:St} {d:Nat} {x:Opd} {Ke:Kx (PV→St→Prop)} {kx:Kx (RV→St→Prop)}:SE P st d (.pan x) (Ke:=Ke) (kx:=kx)=match ev st x with
 | .val (.ifc t r)=>kx.k (.ifc t r) st
 | _=>False:=by rfl
theorem a23 (t:Tx) (z e:Int):z6 Tryz.prog 182 [.box [tx t,num z],.val (num e)] (.pan (flt e)) [[tx t,num z]]:=by
 refine S3 (o:=.inr (flt e)) mixed ok182 rfl (fun p hp ι=>by cases hp) ?_
 unfold ir182
 rw [d9]
 simp [w8,J8,P1,b9,q8,num,flt,tx,b75]
theorem a6e (t:Tx) (i:Nat) (hi:i≤t.length) (ht:t.length≤1048576):z6 Tryz.prog 181 [.box (ri t i)] (.ret (.tup []) []) [ri t (f5 t i)]:=by
 refine S3 (o:=.inl (.tup [])) mixed ok181 rfl (fun p hp ι=>by cases hp;rfl) ?_
 unfold ir181 ri
 rw [d9]
 simp [w8,J8,P1,b9,q8,num]
 refine S1 (X:=Nat) (fun j=>⟨S7 [(0,.ptr 900 0)],S0 [(900,.box [.val (tx t),.val (num (j:Int))])]⟩) (fun j=>j≤t.length∧f5 t j=f5 t i) (fun j=>t.length - j) i (Le.mk _ _ ?_ ?_) ⟨hi,rfl⟩ ?_
 · simp [num]
 · simp [num,tx]
 · rintro j ⟨hj,hs⟩
   simp [num,tx,b7]
   by_cases h1:j < t.length
   · obtain ⟨x,hx⟩:∃ x,t[j]=x:=⟨_,rfl⟩
     have hbt:Y2 (bs t) j=(x.toNat:Int):=by rw [z1,a0w t j 0 h1,hx]
     have wi:IntKind.i64.wrap ((j:Int)+1)=((j+1:Nat):Int):=by rw [wrap_i64 (by omega) (by omega)];omega
     have hI:=a3z [32,9,10,13] x
     simp only [tx,rvb,← N7] at hI
     simp [num,h1,hbt,b7]
     refine Q6 rfl rfl (.inl rfl) hI ?_
     by_cases hw:x.toNat=32∨x.toNat=9∨x.toNat=10∨x.toNat=13
     · have hj1:f5 t (j+1)=f5 t i:=by rw [← hs,← b6x h1 (by unfold jws;rw [hx];exact decide_eq_true hw)]
       have hm:x∈[(32:UInt8),9,10,13]:=by
        have u:∀ y:UInt8,x.toNat=y.toNat→x=y:=fun y h=>UInt8.toNat_inj.1 h
        rcases hw with e | e | e | e
        · rw [u 32 e];simp
        · rw [u 9 e];simp
        · rw [u 10 e];simp
        · rw [u 13 e];simp
       rw [if_pos hm]
       have h0:(0:Int)≤(P4 [32,9,10,13] x:Int):=by omega
       simp [num,h1,hbt,b7,h0]
       refine LoopNext.mk (j+1) ⟨h1,hj1⟩ (by omega) (Le.mk _ _ ?_ ?_)
       · simp
       · simp [wi,num,tx]
     · have hj1:f5 t i=j:=by rw [← hs];exact b6y h1 (by unfold jws;rw [hx];exact decide_eq_false hw)
       have hm:¬ x∈[(32:UInt8),9,10,13]:=by
        intro h
        simp only [List.mem_cons,List.not_mem_nil,or_false] at h
        rcases h with rfl | rfl | rfl | rfl<;>exact hw (by decide)
       rw [if_neg hm]
       simp [num,h1,hbt,b7,R1,U6,hj1,tx]
   · have e:j=t.length:=by omega
     subst e
     have hj1:f5 t i=t.length:=by rw [← hs];exact b3t (Nat.le_refl _)
     simp [num,h1,R1,U6,hj1,tx]
theorem a8b (t w:Tx) (i:Nat) (hi:i≤t.length) (ht:t.length≤1048576) (hw:w.length≤10) :
 z6 Tryz.prog 226 [.box (ri t i),.val (tx w)] (.ret (.val (.bool (O7 t w i))) []) [ri t (if O7 t w i then i+w.length else i)]:=by
 obtain ⟨r,hr⟩:∃ r,O7 t w i=r:=⟨_,rfl⟩
 have hP:=a5y (t.drop i) w
 rw [a1q,hr] at hP
 rw [hr]
 refine S3 (o:=.inl (.val (.bool r))) mixed ok226 rfl (fun p hp ι=>by cases hp;rfl) ?_
 unfold ir226 ri
 rw [d9]
 have wi:IntKind.i64.wrap ((i:Int)+(w.length:Int))=((i+w.length:Nat):Int):=by rw [wrap_i64 (by omega) (by omega)];omega
 simp [w8,J8,P1,b9,q8,num,tx,b7,P9,hi]
 refine Q6 rfl rfl (.inl rfl) hP ?_
 cases r with
 | true=>
  simp [num,tx,b7,wi]
 | false=>
  simp [num,tx,b7,wi]
theorem b5h (t w:Tx) (i:Nat) (hi:i≤t.length) (ht:t.length≤1048576) (hw:w.length≤10) :
 JF Tryz.prog 256 [.val (tx w)] t i (fun _:Unit=>.tup []) (if O7 t w i then .ok () (i+w.length) else .err 3 i):=by
 have hT:=a8b t w i hi ht hw
 have hf:=a23 t i 3
 unfold ri at hT
 by_cases hj:O7 t w i=true
 · rw [hj] at hT
   rw [if_pos hj]
   refine S3 (o:=.inl (.tup [])) mixed ok256 rfl (fun p hp ι=>by cases hp;rfl) ?_
   unfold ir256 ri
   rw [d9]
   simp [w8,J8,P1,b9,q8,num,tx,b7,b8]
   refine F5 (id:=900) rfl rfl (by omega) rfl rfl hT ?_
   simp [num,tx,PV.shift,PV.shiftL,R1,U6]
 · have hj':O7 t w i=false:=by simpa using hj
   rw [hj'] at hT
   rw [if_neg hj]
   refine S3 (o:=.inr (flt 3)) mixed ok256 rfl (fun p hp ι=>by cases hp) ?_
   unfold ir256 ri
   rw [d9]
   simp [w8,J8,P1,b9,q8,num,tx,b7,b8]
   refine F5 (id:=900) rfl rfl (by omega) rfl rfl hT ?_
   simp [num,tx,PV.shift,PV.shiftL,b8]
   refine Q8 (id:=900) rfl rfl (by omega) rfl (by simp [tx,num,RV.flat]) hf ?_
   simp [flt,num,tx]
theorem b9e (t:Tx) (i:Nat) (hi:i≤t.length) (ht:t.length≤1048576) :
 JF Tryz.prog 258 [] t i (fun c:UInt8=>.val (rvb c)) (if i < t.length then .ok (t.getD i 0) (i+1) else .err 3 i):=by
 by_cases h1:i < t.length
 · rw [if_pos h1]
   obtain ⟨x,hx⟩:∃ x,t.getD i 0=x:=⟨_,rfl⟩
   have hbt:Y2 (bs t) i=(x.toNat:Int):=by rw [z1,hx]
   have h2:¬ (i:Int)=(t.length:Int):=by omega
   have wi:IntKind.i64.wrap ((i:Int)+1)=(i:Int)+1:=wrap_i64 (by omega) (by omega)
   have wj:IntKind.i64.wrap (i:Int)=(i:Int):=wrap_i64 (by omega) (by omega)
   have h3:(i:Int) < (t.length:Int):=by omega
   rw [hx]
   refine S3 (o:=.inl (.val (rvb x))) mixed ok258 rfl (fun p hp ι=>by cases hp;rfl) ?_
   unfold ir258 ri
   rw [d9]
   simp [w8,J8,P1,b9,q8,num,tx,b7,b8,h1,h2,h3,wi,wj,hbt,rvb]
 · have h2:(i:Int)=(t.length:Int):=by omega
   have hf:=a23 t i 3
   rw [if_neg h1]
   refine S3 (o:=.inr (flt 3)) mixed ok258 rfl (fun p hp ι=>by cases hp) ?_
   unfold ir258 ri
   rw [d9]
   simp [w8,J8,P1,b9,q8,num,tx,b7,b8,h2]
   rw [h2] at hf
   refine Q8 (id:=900) rfl rfl (by omega) rfl (by simp [tx,num,RV.flat]) hf ?_
   simp [flt,num,tx,h2]
def c2h:Tx:=[48,49,50,51,52,53,54,55,56,57,97,98,99,100,101,102]
def b6o (c:UInt8):UInt8:=if 65≤c.toNat∧c.toNat≤70 then c+32 else c
theorem c2g (c:UInt8):(if b6o c∈c2h then (P4 c2h (b6o c):Int) else -1)=match a3i c with | some n=>(n:Int) | none=>-1:=by
 have h:∀ n,n < 256→(if b6o (UInt8.ofNat n)∈c2h then (P4 c2h (b6o (UInt8.ofNat n)):Int) else -1)=match a3i (UInt8.ofNat n) with | some n=>(n:Int) | none=>-1:=by decide
 have e:UInt8.ofNat c.toNat=c:=UInt8.ofNat_toNat
 have:=h c.toNat c.toNat_lt
 rw [e] at this
 exact this
theorem c04 (t:Tx) (i:Nat) (hi:i≤t.length) (ht:t.length≤1048576):JF Tryz.prog 259 [] t i (fun n:Nat=>.val (.int .u8 (n:Int))) (a2t t i):=by
 have hN:=b9e t i hi ht
 unfold a2t
 by_cases h1:i < t.length
 · rw [if_pos h1] at hN ⊢
   obtain ⟨x,hx⟩:∃ x,t.getD i 0=x:=⟨_,rfl⟩
   rw [hx] at hN ⊢
   have h256:=x.toNat_lt
   have w0:IntKind.i64.wrap (x.toNat:Int)=(x.toNat:Int):=wrap_i64 (by omega) (by omega)
   have hW:=a0n (x.toNat:Int) 65 70
   have hF:=c2g x
   have hI:=a3z c2h (b6o x)
   rw [hF] at hI
   simp only [tx,rvb,← N7,c2h] at hI
   have hlow:(IntKind.u8.wrap ((x.toNat:Int)+32)=((b6o x).toNat:Int)∧(65≤x.toNat∧x.toNat≤70))∨((b6o x)=x∧¬ (65≤x.toNat∧x.toNat≤70)):=by
    unfold b6o
    by_cases h:65≤x.toNat∧x.toNat≤70
    · left
      rw [if_pos h]
      refine ⟨?_,h⟩
      have:(x+32).toNat=x.toNat+32:=by rw [UInt8.toNat_add];have e:(32:UInt8).toNat=32:=rfl;omega
      rw [this,a19 (by omega) (by omega)];omega
    · right;rw [if_neg h];exact ⟨rfl,h⟩
   cases hh:a3i x with
   | none=>
    rw [hh] at hI
    simp only []
    refine S3 (o:=.inr (flt 3)) mixed ok259 rfl (fun p hp ι=>by cases hp) ?_
    have hf:=a23 t (i+1:Nat) 3
    unfold ir259 ri
    unfold JF ri at hN
    simp only [] at hN
    rw [d9]
    simp [w8,J8,P1,b9,q8,num,tx,b7,b8]
    refine F5 (id:=900) rfl rfl (by omega) rfl rfl hN ?_
    simp [num,tx,PV.shift,PV.shiftL,rvb,w0]
    refine f6 rfl rfl (.inl rfl) hW ?_
    rcases hlow with ⟨e1,e2⟩ | ⟨e1,e2⟩
    · have e3:(65:Int)≤(x.toNat:Int)∧(x.toNat:Int)≤70:=by omega
      rw [decide_eq_true e3]
      simp [num,tx,e1]
      refine f6 rfl rfl (.inl rfl) hI ?_
      simp [num,tx]
      refine Q8 (id:=900) rfl rfl (by omega) rfl (by simp [tx,num,RV.flat]) hf ?_
      simp [flt,num,tx]
    · have e3:¬ ((65:Int)≤(x.toNat:Int)∧(x.toNat:Int)≤70):=by omega
      rw [decide_eq_false e3]
      rw [e1] at hI
      simp [num,tx]
      refine f6 rfl rfl (.inl rfl) hI ?_
      simp [num,tx]
      refine Q8 (id:=900) rfl rfl (by omega) rfl (by simp [tx,num,RV.flat]) hf ?_
      simp [flt,num,tx]
   | some n=>
    rw [hh] at hI
    simp only []
    have hn:=a8c hh
    have wn:IntKind.u8.wrap (n:Int)=(n:Int):=a19 (by omega) (by omega)
    have hn0:¬ (n:Int) < 0:=by omega
    refine S3 (o:=.inl (.val (.int .u8 (n:Int)))) mixed ok259 rfl (fun p hp ι=>by cases hp;rfl) ?_
    unfold ir259 ri
    unfold JF ri at hN
    simp only [] at hN
    rw [d9]
    simp [w8,J8,P1,b9,q8,num,tx,b7,b8]
    refine F5 (id:=900) rfl rfl (by omega) rfl rfl hN ?_
    simp [num,tx,PV.shift,PV.shiftL,rvb,w0]
    refine f6 rfl rfl (.inl rfl) hW ?_
    rcases hlow with ⟨e1,e2⟩ | ⟨e1,e2⟩
    · have e3:(65:Int)≤(x.toNat:Int)∧(x.toNat:Int)≤70:=by omega
      rw [decide_eq_true e3]
      simp [num,tx,e1]
      refine f6 rfl rfl (.inl rfl) hI ?_
      simp [num,tx,hn0,wn]
    · have e3:¬ ((65:Int)≤(x.toNat:Int)∧(x.toNat:Int)≤70):=by omega
      rw [decide_eq_false e3]
      rw [e1] at hI
      simp [num,tx]
      refine f6 rfl rfl (.inl rfl) hI ?_
      simp [num,tx,hn0,wn]
 · rw [if_neg h1] at hN ⊢
   refine S3 (o:=.inr (flt 3)) mixed ok259 rfl (fun p hp ι=>by cases hp) ?_
   unfold ir259 ri
   unfold JF ri at hN
   simp only [] at hN
   rw [d9]
   simp [w8,J8,P1,b9,q8,num,tx,b7,b8]
   refine Q8 (id:=900) rfl rfl (by omega) rfl (by simp [tx,num,RV.flat]) hN ?_
   simp [flt,num,tx]
end Go.Proofs
end
section
namespace Go.Proofs
open Go.PW Go.KP
attribute [local simp] RV.cells RV.one PV.cells PV.solid PV.one N3 b8 O9 P0 RV.ofCells elems PV.killL
variable [GH]
def oZ {α:Type} (g:α→PV):JZ α→PV ⊕ RV
 | .ok x _=>.inl (g x)
 | .err c _=>.inr (flt c)
def zZ {α:Type}:JZ α→Nat
 | .ok _ k=>k
 | .err _ z=>z
theorem c5s {P:Program} {f:Nat} {vs:List AV} {t:Tx} {i:Nat} {α:Type} {g:α→PV} {r:JZ α} (h:z6 P f (.box (ri t i) :: vs) (c3w (oZ g r)) [ri t (zZ r)]):JF P f vs t i g r:=by cases r<;>exact h
theorem c2q (y:UInt8):(y∈[(98:UInt8),102,110,114,116]∧∃ (k:Nat) (v:UInt8),P4 [98,102,110,114,116] y=k∧k < 5∧a3u y=some v∧Y2 ⟨#[8,12,10,13,9]⟩ k=(v.toNat:Int))∨(y∉[(98:UInt8),102,110,114,116]∧((y=34∨y=92∨y=47)∧a3u y=some y∨¬ (y=34∨y=92∨y=47)∧a3u y=none)):=by
 by_cases h1:y=98
 · subst h1;exact .inl ⟨by simp,0,8,rfl,by omega,rfl,rfl⟩
 by_cases h2:y=102
 · subst h2;exact .inl ⟨by simp,1,12,rfl,by omega,rfl,rfl⟩
 by_cases h3:y=110
 · subst h3;exact .inl ⟨by simp,2,10,rfl,by omega,rfl,rfl⟩
 by_cases h4:y=114
 · subst h4;exact .inl ⟨by simp,3,13,rfl,by omega,rfl,rfl⟩
 by_cases h5:y=116
 · subst h5;exact .inl ⟨by simp,4,9,rfl,by omega,rfl,rfl⟩
 refine .inr ⟨by simp [h1,h2,h3,h4,h5],?_⟩
 by_cases h6:y=34∨y=92∨y=47
 · exact .inl ⟨h6,by unfold a3u;rw [if_pos h6]⟩
 · exact .inr ⟨h6,by unfold a3u;rw [if_neg h6,if_neg h1,if_neg h2,if_neg h3,if_neg h4,if_neg h5]⟩
theorem b3i {x:UInt8} (y:UInt8) (n:Int) (h:x≠y) (hn:(y.toNat:Int)=n):¬ (x.toNat:Int)=n:=fun e=>h (UInt8.toNat_inj.1 (by omega))
theorem b7b (t:Tx) (i:Nat) (hi:i≤t.length) (ht:t.length≤1048576):JF Tryz.prog 229 [] t i (fun v:Tx=>.val (tx v)) (a0u t i):=by
 refine c5s ?_
 obtain ⟨R,hR⟩:∃ R,a0u t i=R:=⟨_,rfl⟩
 rw [hR]
 refine S3 mixed ok229 rfl (fun p hp ι=>by cases R<;>cases hp;rfl) ?_
 have hN:=b5h t [34] i hi ht (by simp)
 unfold a0u at hR
 unfold ir229
 rw [d9]
 simp [w8,J8,P1,b9,q8,num,tx,b8,ri,N7]
 by_cases hq:O7 t [34] i=true
 · rw [if_pos hq] at hR hN
   unfold JF ri at hN
   simp only [] at hN
   have hil:=(a1d hq).1
   refine F5 (id:=900) rfl rfl (by omega) rfl rfl hN ?_
   simp [num,tx,PV.shift,PV.shiftL,b8]
   refine S1 (X:=Nat×Tx) (fun s=>⟨S7 [(0,.ptr 900 0),(3,.own 8)],S0 [(900,.box [.val (tx t),.val (num (s.1:Int))]),(8,.row 5 1 (s.2.map rvb))]⟩)
    (fun s=>s.1≤t.length∧s.2.length≤s.1∧∃ n,t.length < s.1+n∧b21 t n s.1 s.2=R) (fun s=>t.length - s.1) (i+1,[]) (Le.mk _ _ ?_ ?_) ⟨hil,by simp,t.length+1,by simp;omega,hR⟩ ?_
   · simp [num,PV.kill]
   · simp [num,tx,MObj.kill,PV.kill]
   · rintro ⟨j,out⟩ ⟨hj,ho,n,hn,hR⟩
     simp only [] at hj ho hn hR
     have hX:=b9e t j hj ht
     simp [num,tx,b7,b8]
     by_cases h1:j < t.length
     · rw [if_pos h1] at hX
       obtain ⟨n,rfl⟩:∃ m,n=m+1:=⟨n - 1,by omega⟩
       obtain ⟨x,hx⟩:∃ x,t.getD j 0=x:=⟨_,rfl⟩
       rw [hx] at hX
       unfold JF ri at hX
       simp only [] at hX
       have h256:=x.toNat_lt
       have w0:IntKind.i64.wrap (x.toNat:Int)=(x.toNat:Int):=wrap_i64 (by omega) (by omega)
       have hu8:∀ y∈out,(rvb y).isU8=true:=fun y _=>by simp [rvb,RV.isU8]
       have hbo:=a5z out
       have hf:=fun z e=>a23 t z e
       unfold b21 at hR
       rw [if_pos h1,hx] at hR
       refine F5 (id:=900) rfl rfl (by omega) rfl rfl hX ?_
       simp [num,tx,b7,PV.shift,PV.shiftL,rvb,b8]
       by_cases h34:x=34
       · rw [if_pos h34] at hR
         have e34:(x.toNat:Int)=34:=by subst h34;rfl
         simp [num,tx,b7,e34]
         by_cases h120:120 < out.length
         · rw [if_pos h120] at hR
           have h120':(120:Int) < (out.length:Int):=by omega
           simp [num,tx,b7,h120,h120',b8]
           refine Q8 (id:=900) rfl rfl (by omega) rfl (by simp [tx,num,RV.flat]) (hf ((j:Int)+1) 8) ?_
           subst hR
           simp [num,tx,oZ,zZ,ri]
         · rw [if_neg h120] at hR
           have h120':¬ (120:Int) < (out.length:Int):=by omega
           subst hR
           simp [num,tx,b7,h120,h120',b8,oZ,zZ]
           exact ⟨hu8,by rw [hbo],by simp [ri,tx,num]⟩
       · rw [if_neg h34] at hR
         have e34:=b3i (x:=x) 34 34 h34 rfl
         simp [num,tx,b7,e34,w0]
         refine f6 rfl rfl (.inl rfl) (a0n (x.toNat:Int) 32 126) ?_
         by_cases h92:x=92
         · rw [if_pos h92] at hR
           have e92:(x.toNat:Int)=92:=by subst h92;rfl
           rw [decide_eq_true (show (32:Int)≤(x.toNat:Int)∧(x.toNat:Int)≤126 by omega)]
           simp [num,tx,b7,e92,b8]
           have hX2:=b9e t (j+1) h1 ht
           unfold c3u at hR
           by_cases h2:j+1 < t.length
           · rw [if_pos h2] at hX2 hR
             obtain ⟨y,hy⟩:∃ y,t.getD (j+1) 0=y:=⟨_,rfl⟩
             rw [hy] at hX2 hR
             unfold JF ri at hX2
             simp only [] at hX2
             refine F5 (id:=900) rfl rfl (by omega) rfl rfl hX2 ?_
             simp [num,tx,b7,PV.shift,PV.shiftL,rvb,b8]
             have hI:=a3z [98,102,110,114,116] y
             simp only [tx,rvb,← N7] at hI
             have lnext:∀ (b:UInt8) (k2:Nat),j < k2→k2≤t.length→b21 t n k2 (out++[b])=R→(k2≤t.length∧(out++[b]).length≤k2∧∃ n,t.length < k2+n∧b21 t n k2 (out++[b])=R)∧t.length - k2 < t.length - j:=fun b k2 q1 q2 q3=>⟨⟨q2,by simp;omega,n,by omega,q3⟩,by omega⟩
             rcases c2q y with ⟨e0,k,v,ek,hk5,ej,ev⟩ | ⟨e0,e1⟩
             · rw [if_pos e0,ek] at hI
               rw [ej] at hR
               simp only [] at hR
               refine f6 rfl rfl (.inl rfl) hI ?_
               have kp:(0:Int)≤(k:Int):=by omega
               have hsz:k < (⟨#[8,12,10,13,9]⟩:ByteArray).size:=hk5
               simp [num,tx,b7,kp,ev,hsz,rvb]
               refine ⟨by omega,by omega,?_⟩
               refine LoopNext.mk (j+2,out++[v]) (lnext v (j+2) (by omega) (by omega) hR).1 (lnext v (j+2) (by omega) (by omega) hR).2 (Le.mk _ _ ?_ ?_)
               · simp [num,PV.kill]
               · simp [num,tx,rvb,MObj.kill,PV.kill]
                 try omega
             · rw [if_neg e0] at hI
               refine f6 rfl rfl (.inl rfl) hI ?_
               simp [num,tx,b7,rvb]
               by_cases hu:y=117
               · subst hu
                 rcases e1 with ⟨e2,_⟩ | ⟨_,e3⟩
                 · exact absurd e2 (by decide)
                 rw [e3] at hR
                 simp only [if_true] at hR
                 simp [num,tx,b7,rvb,b8]
                 have hW:=b5h t [48,48] (j+1+1) (by omega) ht (by simp)
                 by_cases hj0:O7 t [48,48] (j+1+1)=true
                 · rw [if_pos hj0] at hW hR
                   unfold JF ri at hW
                   simp only [] at hW
                   have hl:=(b1t _ _).1 hj0
                   have hA:=c04 t (j+1+3) (by omega) ht
                   refine F5 (id:=900) rfl rfl (by omega) rfl rfl hW ?_
                   simp [num,tx,b7,PV.shift,PV.shiftL,rvb,b8]
                   cases ha:a2t t (j+1+3) with
                   | err c z=>
                    rw [ha] at hA hR
                    unfold JF ri at hA
                    simp only [] at hA hR
                    refine Q8 (id:=900) rfl rfl (by omega) rfl (by simp [tx,num,RV.flat]) hA ?_
                    subst hR
                    simp [num,tx,oZ,zZ,ri,flt]
                   | ok a k1=>
                    obtain ⟨a1,rfl,a3⟩:=a56 ha
                    have la:=a8c a3
                    have hB:=c04 t (j+1+3+1) (by omega) ht
                    rw [ha] at hA hR
                    unfold JF ri at hA
                    simp only [] at hA hR
                    have wa:IntKind.u8.wrap (16*(a:Int))=16*(a:Int):=a19 (by omega) (by omega)
                    refine F5 (id:=900) rfl rfl (by omega) rfl rfl hA ?_
                    simp [num,tx,b7,PV.shift,PV.shiftL,rvb,b8,wa]
                    cases hb:a2t t (j+1+3+1) with
                    | err c z=>
                     rw [hb] at hB hR
                     unfold JF ri at hB
                     simp only [] at hB hR
                     refine Q8 (id:=900) rfl rfl (by omega) rfl (by simp [tx,num,RV.flat]) hB ?_
                     subst hR
                     simp [num,tx,oZ,zZ,ri,flt]
                    | ok b k2=>
                     obtain ⟨b1,rfl,b3⟩:=a56 hb
                     have lb:=a8c b3
                     rw [hb] at hB hR
                     unfold JF ri at hB
                     simp only [] at hB hR
                     have wb:IntKind.u8.wrap (16*(a:Int)+(b:Int))=((UInt8.ofNat (16*a+b)).toNat:Int):=by
                      rw [a19 (by omega) (by omega),UInt8.toNat_ofNat_of_lt' (show 16*a+b < 256 by omega)];omega
                     refine F5 (id:=900) rfl rfl (by omega) rfl rfl hB ?_
                     simp [num,tx,b7,PV.shift,PV.shiftL,rvb,b8,wb]
                     refine ⟨by omega,by omega,?_⟩
                     refine LoopNext.mk (j+1+3+1+1,out++[UInt8.ofNat (16*a+b)]) (lnext _ (j+1+3+1+1) (by omega) (by omega) hR).1 (lnext _ (j+1+3+1+1) (by omega) (by omega) hR).2 (Le.mk _ _ ?_ ?_)
                     · simp [num,PV.kill]
                     · simp [num,tx,rvb,MObj.kill,PV.kill]
                       try omega
                 · rw [if_neg hj0] at hW hR
                   unfold JF ri at hW
                   simp only [] at hW hR
                   refine Q8 (id:=900) rfl rfl (by omega) rfl (by simp [tx,num,RV.flat]) hW ?_
                   subst hR
                   simp [num,tx,oZ,zZ,ri,flt]
               · have hu':=b3i (x:=y) 117 117 hu rfl
                 rcases e1 with ⟨e2,e3⟩ | ⟨e2,e3⟩
                 · rw [e3] at hR
                   simp only [] at hR
                   rcases e2 with rfl | rfl | rfl
                   all_goals
                    simp [num,tx,b7,rvb,b8]
                    refine ⟨by omega,by omega,?_⟩
                    refine LoopNext.mk (j+1+1,out++[_]) (lnext _ (j+1+1) (by omega) (by omega) hR).1 (lnext _ (j+1+1) (by omega) (by omega) hR).2 (Le.mk _ _ ?_ ?_)
                    · simp [num,PV.kill]
                    · simp [num,tx,rvb,MObj.kill,PV.kill]
                      try omega
                 · rw [e3] at hR
                   simp only [hu,if_false] at hR
                   have n1:=b3i (x:=y) 34 34 (fun h=>e2 (.inl h)) rfl
                   have n2:=b3i (x:=y) 92 92 (fun h=>e2 (.inr (.inl h))) rfl
                   have n3:=b3i (x:=y) 47 47 (fun h=>e2 (.inr (.inr h))) rfl
                   simp [num,tx,b7,rvb,hu',n1,n2,n3,b8]
                   refine Q8 (id:=900) rfl rfl (by omega) rfl (by simp [tx,num,RV.flat]) (hf ((j:Int)+1+1) 3) ?_
                   subst hR
                   simp [num,tx,oZ,zZ,ri,flt]
           · rw [if_neg h2] at hX2 hR
             unfold JF ri at hX2
             simp only [] at hX2 hR
             refine Q8 (id:=900) rfl rfl (by omega) rfl (by simp [tx,num,RV.flat]) hX2 ?_
             subst hR
             simp [num,tx,oZ,zZ,ri,flt]
         · rw [if_neg h92] at hR
           have e92:=b3i (x:=x) 92 92 h92 rfl
           by_cases hp:32≤x.toNat∧x.toNat≤126
           · rw [if_pos hp] at hR
             rw [decide_eq_true (show (32:Int)≤(x.toNat:Int)∧(x.toNat:Int)≤126 by omega)]
             simp [num,tx,b7,e92,b8]
             refine ⟨by omega,by omega,?_⟩
             refine LoopNext.mk (j+1,out++[x]) ⟨h1,by simp;omega,n,by simp only [];omega,hR⟩ (by simp only [];omega) (Le.mk _ _ ?_ ?_)
             · simp [num,PV.kill]
             · simp [num,tx,rvb,MObj.kill,PV.kill]
           · rw [if_neg hp] at hR
             rw [decide_eq_false (show ¬ ((32:Int)≤(x.toNat:Int)∧(x.toNat:Int)≤126) by omega)]
             simp [num,tx,b7,e92,b8]
             refine Q8 (id:=900) rfl rfl (by omega) rfl (by simp [tx,num,RV.flat]) (hf ((j:Int)+1) 3) ?_
             subst hR
             simp [num,tx,oZ,zZ,ri,flt]
     · obtain ⟨n,rfl⟩:∃ m,n=m+1:=⟨n - 1,by omega⟩
       unfold b21 at hR
       rw [if_neg h1] at hX hR
       unfold JF ri at hX
       simp only [] at hX
       refine Q8 (id:=900) rfl rfl (by omega) rfl (by simp [tx,num,RV.flat]) hX ?_
       subst hR
       simp [num,tx,oZ,zZ,ri,flt]
 · rw [if_neg hq] at hN hR
   unfold JF ri at hN
   simp only [] at hN
   refine Q8 (id:=900) rfl rfl (by omega) rfl (by simp [tx,num,RV.flat]) hN ?_
   subst hR
   simp [num,tx,oZ,zZ,ri,flt]
def a8p (t:Tx) (i j:Nat):JZ Int:=match U4 ((t.take j).drop i) with
 | none=>.err 3 j
 | some n=>if -999999999≤n∧n≤999999999 then .ok n j else .err 4 j
theorem pnum_at (t:Tx) (i:Nat):b22 t i=a8p t i (a1z t i):=rfl
theorem i_whole (t:Tx) (i:Nat) (hi:i≤t.length) (ht:t.length≤1048576):JF Tryz.prog 230 [] t i (fun n:Int=>.val (N6 (.mk 3 n [] [] []))) (b22 t i):=by
 refine c5s ?_
 obtain ⟨R,hR⟩:∃ R,b22 t i=R:=⟨_,rfl⟩
 rw [hR]
 refine S3 mixed ok230 rfl (fun p hp ι=>by cases R<;>cases hp;rfl) ?_
 have hT:=a8b t [45] i hi ht (by simp)
 obtain ⟨s,hs⟩:∃ s,a2j t i=s:=⟨_,rfl⟩
 have hsl:=b1w hi
 rw [hs] at hsl
 have hN:a1z t i=a04 t s:=by unfold a1z;rw [hs]
 have hsg:(if O7 t [45] i=true then i+[(45:UInt8)].length else i)=s:=by
  rw [← hs]
  unfold a2j
  rw [a6g]
  rfl
 rw [hsg] at hT
 obtain ⟨b,hb⟩:∃ b,O7 t [45] i=b:=⟨_,rfl⟩
 rw [hb] at hT
 rw [pnum_at,hN] at hR
 unfold ri at hT
 obtain ⟨Z,hZ⟩:∃ Z,a45 [.c 2 true 5] (oZ (fun n:Int=>.val (N6 (.mk 3 n [] [] []))) R) [ri t (zZ R)]=Z:=⟨_,rfl⟩
 rw [hZ]
 unfold ir230
 rw [d9]
 simp [w8,J8,P1,b9,q8,num,tx,b8,ri,N7]
 refine F5 (id:=900) rfl rfl (by omega) rfl rfl hT ?_
 simp [num,tx,PV.shift,PV.shiftL,b8]
 refine S1 (X:=Nat) (fun j=>⟨S7 [(0,.ptr 900 0),(2,.ptr 2 0),(3,.val (num (i:Int)))],S0 [(900,.box [.val (tx t),.val (num (j:Int))]),(2,.box [.val (num 0),.val (num 0),.val (tx []),.emp 1,.emp 5])]⟩) (fun j=>s≤j∧j≤t.length∧a04 t j=a04 t s) (fun j=>t.length - j) s (Le.mk _ _ ?_ ?_) ⟨Nat.le_refl _,hsl.2,rfl⟩ ?_
 · simp [num,PV.kill]
 · simp [num,tx,MObj.kill,PV.kill,N7]
 · rintro j ⟨hj1,hj2,hj3⟩
   simp [num,tx,b7]
   have tailX:a04 t s=j→a8p t i j=R:=fun h=>by rw [← hR,h]
   have hnum:=b7c ((t.take j).drop i) (by simp;omega)
   unfold a8a at hnum
   have hij:(i:Int)≤(j:Int):=by omega
   have hij':i≤j:=by omega
   have hjl:(j:Int)≤(t.length:Int):=by omega
   have hf:=fun e=>a23 t j e
   by_cases h1:j < t.length
   · obtain ⟨x,hx⟩:∃ x,t[j]=x:=⟨_,rfl⟩
     have hbt:Y2 (bs t) j=(x.toNat:Int):=by rw [z1,a0w t j 0 h1,hx]
     have wi:IntKind.i64.wrap ((j:Int)+1)=((j+1:Nat):Int):=by rw [wrap_i64 (by omega) (by omega)];omega
     simp [num,tx,b7,h1,hbt]
     refine Q6 rfl rfl (.inl rfl) (a88 x) ?_
     cases hd:P8 x with
     | true=>
      have:=b3y h1 (by rw [hx];exact hd)
      simp [num,tx,b7]
      refine LoopNext.mk (j+1) ⟨by omega,h1,by rw [← hj3,this]⟩ (by omega) (Le.mk _ _ ?_ ?_)
      · simp [num]
      · simp [num,tx,wi]
     | false=>
      have:=b11 h1 (by rw [hx];exact hd)
      have hR2:=tailX (by rw [← hj3,this])
      simp [num,tx,b7,P9,hij,hij',hjl,hj2]
      refine a6h rfl rfl (.inl rfl) hnum ?_
      cases hb2:(a3g ((t.take j).drop i)).2 with
      | false=>
       unfold a8p at hR2
       rw [a86 hb2] at hR2
       simp only [] at hR2
       simp [num,tx,b8]
       refine Q8 (id:=900) rfl rfl (by omega) rfl (by simp [tx,num,RV.flat]) (hf 3) ?_
       rw [← hZ,← hR2]
       simp [num,tx,oZ,zZ,ri,flt]
      | true=>
       unfold a8p at hR2
       rw [b5f hb2] at hR2
       obtain ⟨m,hm⟩:∃ m,(a3g ((t.take j).drop i)).1=m:=⟨_,rfl⟩
       rw [hm] at hR2 ⊢
       simp only [] at hR2
       have hW:=a0n m (-999999999) 999999999
       simp [num,tx,b8]
       refine f6 rfl rfl (.inl rfl) hW ?_
       by_cases hr:-999999999≤m∧m≤999999999
       · rw [if_pos hr] at hR2
         rw [decide_eq_true hr]
         simp [num,tx,b8]
         rw [← hZ,← hR2]
         simp [num,tx,oZ,zZ,ri,flt,R1,U6,a12,St.fin,St.freeze,PV.frzL,PV.frz,PV.plL,PV.pl,R8,okId,MObj.pl,N4,a0t,N6,b8,N7]
       · rw [if_neg hr] at hR2
         rw [decide_eq_false hr]
         simp [num,tx,b8]
         refine Q8 (id:=900) rfl rfl (by omega) rfl (by simp [tx,num,RV.flat]) (hf 4) ?_
         rw [← hZ,← hR2]
         simp [num,tx,oZ,zZ,ri,flt]
   · have hR2:=tailX (by rw [← hj3];exact a82 (by omega))
     simp [num,tx,b7,h1,P9,hij,hij',hjl,hj2]
     refine a6h rfl rfl (.inl rfl) hnum ?_
     cases hb2:(a3g ((t.take j).drop i)).2 with
     | false=>
      unfold a8p at hR2
      rw [a86 hb2] at hR2
      simp only [] at hR2
      simp [num,tx,b8]
      refine Q8 (id:=900) rfl rfl (by omega) rfl (by simp [tx,num,RV.flat]) (hf 3) ?_
      rw [← hZ,← hR2]
      simp [num,tx,oZ,zZ,ri,flt]
     | true=>
      unfold a8p at hR2
      rw [b5f hb2] at hR2
      obtain ⟨m,hm⟩:∃ m,(a3g ((t.take j).drop i)).1=m:=⟨_,rfl⟩
      rw [hm] at hR2 ⊢
      simp only [] at hR2
      have hW:=a0n m (-999999999) 999999999
      simp [num,tx,b8]
      refine f6 rfl rfl (.inl rfl) hW ?_
      by_cases hr:-999999999≤m∧m≤999999999
      · rw [if_pos hr] at hR2
        rw [decide_eq_true hr]
        simp [num,tx,b8]
        rw [← hZ,← hR2]
        simp [num,tx,oZ,zZ,ri,flt,R1,U6,a12,St.fin,St.freeze,PV.frzL,PV.frz,PV.plL,PV.pl,R8,okId,MObj.pl,N4,a0t,N6,b8,N7]
      · rw [if_neg hr] at hR2
        rw [decide_eq_false hr]
        simp [num,tx,b8]
        refine Q8 (id:=900) rfl rfl (by omega) rfl (by simp [tx,num,RV.flat]) (hf 4) ?_
        rw [← hZ,← hR2]
        simp [num,tx,oZ,zZ,ri,flt]
end Go.Proofs
end
section
namespace Go.Proofs
open Go.PW Go.KP
attribute [local simp] RV.cells RV.one PV.cells PV.solid PV.one N3 b8 O9 P0 RV.ofCells elems PV.killL
variable [GH]
def mI (t:Tx) (i:Nat):Nat→MObj:=fun x=>if x=900 then .box [.val (tx t),.val (num (i:Int))] else .dead
def pI (x:Nat):Bool:=decide (x=900)
def obI (obj:Bool):Int:=if obj then 6 else 5
def oP:JZ LJson→PV
 | .ok x _=>.val (N6 x)
 | .err c _=>.val (flt c)
def nP:JZ LJson→Bool
 | .ok _ _=>false
 | .err _ _=>true
theorem mI_id {t:Tx} {i:Nat} (x:Nat) (h:(mI t i x).live=true):okId x=false:=by
 unfold mI at h
 by_cases e0:x=900
 · subst e0;rfl
 · simp [e0,MObj.live] at h
theorem b8v {t:Tx} {i:Nat} (x:Nat) (h:pI x=true):(900≤x∧x < 1000)∧(mI t i x).live=true:=by
 unfold pI at h
 have h:=of_decide_eq_true h
 subst h
 simp [mI,MObj.live]
theorem b6l {t:Tx} {i:Nat} {st:St} (h:st.mem 900=.box [.val (tx t),.val (num (i:Int))]):Named pI (mI t i) (fun i=>i) st:=by
 refine Named.same (fun j hj=>?_) (fun j hj=>(b8v j hj).2)
 unfold mI at hj ⊢
 by_cases e0:j=900
 · subst e0;simp [h]
 · simp [e0,MObj.live] at hj
theorem a5q {res:List Rs} {R:JZ LJson} {t:Tx} {c:Int} {z:Nat} {st:St} (hR:R=.err c z) (h:st.mem 900=.box [.val (tx t),.val (num (z:Int))]):a9d res pI (oP R) (mI t (zZ R)) (nP R) (.pan (flt c)) st:=by
 subst hR
 exact ⟨rfl,fun _=>rfl,fun i=>i,b6l h⟩
theorem b7j {res:List Rs} {R:JZ LJson} {t:Tx} {x:LJson} {k:Nat} {st:St} (hR:R=.ok x k) (h:st.mem 900=.box [.val (tx t),.val (num (k:Int))]) (hres:R1 res st.fin=some (.val (N6 x))):a9d res pI (oP R) (mI t (zZ R)) (nP R) .ret st:=by
 subst hR
 refine ⟨rfl,st.fin,(Le.freeze st _).trans (Le.plain _),fun i=>i,hres,b6l ?_⟩
 simp [St.fin,St.freeze,h,MObj.pl,PV.frzL,PV.frz,PV.plL,PV.pl,zZ]
def ValI (P:Program) (f:Nat) (t:Tx) (d:Nat) (V:Nat→JZ LJson):Prop:=∀ k,k≤t.length→JF P f [.val (num (4 - (d:Int)))] t k (fun x=>.val (N6 x)) (V k)∧∀ x k',V k=.ok x k'→k'≤t.length
structure IjF (t:Tx) (d:Nat) (obj:Bool) (e:UInt8) (i:Nat) (ns:List Tx) (xs:List LJson) (st:St):Prop where
 e0:st.env 0=.ptr 900 0
 e2:st.env 2=.val (num (3 - (d:Int)))
 e3:st.env 3=.val (tx [e])
 e5:st.env 5=.ptr 5 0
 e8:st.env 8=.ptr 8 0
 m9:st.mem 900=.box [.val (tx t),.val (num (i:Int))]
 m5:st.mem 5=.box [.val (num (obI obj)),.val (num 0),.val (tx []),Y4 1 37 ns,Y4 5 50 xs]
 m8:st.mem 8=.box [.val (num 0),.val (num 0),.val (tx []),.emp 1,.emp 5]
 m37:a3s 9 1 tx ns=.dead∨st.mem 37=a3s 9 1 tx ns
 m50:a3s 81 5 N6 xs=.dead∨st.mem 50=a3s 81 5 N6 xs
def ijS (t:Tx) (d:Nat) (obj:Bool) (e:UInt8) (i:Nat) (ns:List Tx) (xs:List LJson):St:=
 ⟨S7 [(0,.ptr 900 0),(2,.val (num (3 - (d:Int)))),(3,.val (tx [e])),(5,.ptr 5 0),(8,.ptr 8 0)],S0 [(900,.box [.val (tx t),.val (num (i:Int))]),(5,.box [.val (num (obI obj)),.val (num 0),.val (tx []),Y4 1 37 ns,Y4 5 50 xs]),
  (8,.box [.val (num 0),.val (num 0),.val (tx []),.emp 1,.emp 5]),(37,a3s 9 1 tx ns),(50,a3s 81 5 N6 xs)]⟩
theorem IjF.le {t:Tx} {d:Nat} {obj:Bool} {e:UInt8} {i:Nat} {ns:List Tx} {xs:List LJson} {st:St} (h:IjF t d obj e i ns xs st):Le st (ijS t d obj e i ns xs):=by
 refine Le.mkD _ _ (fun kp hkp=>?_) (fun kp hkp=>?_)
 · simp only [List.mem_cons,List.not_mem_nil,or_false] at hkp
   rcases hkp with rfl | rfl | rfl | rfl | rfl
   · exact h.e0
   · exact h.e2
   · exact h.e3
   · exact h.e5
   · exact h.e8
 · simp only [List.mem_cons,List.not_mem_nil,or_false] at hkp
   rcases hkp with rfl | rfl | rfl | rfl | rfl
   · exact .inr h.m9
   · exact .inr h.m5
   · exact .inr h.m8
   · exact h.m37
   · exact h.m50
theorem IjF.start {t:Tx} {d:Nat} {obj:Bool} {e:UInt8} {i:Nat} {ns:List Tx} {xs:List LJson}:IjF t d obj e i ns xs (ijS t d obj e i ns xs):=⟨rfl,rfl,rfl,rfl,rfl,rfl,rfl,rfl,.inr rfl,.inr rfl⟩
theorem c4s {obj:Bool} {ns:List Tx} {xs:List LJson} {st:St} (e8:st.env 8=.ptr 8 0) (m8:st.mem 8=.box [.val (num (obI obj)),.val (num 0),.val (tx []),Y4 1 37 ns,Y4 5 50 xs]) (m37:a3s 9 1 tx ns=.dead∨st.mem 37=a3s 9 1 tx ns)
 (m50:a3s 81 5 N6 xs=.dead∨st.mem 50=a3s 81 5 N6 xs):R1 [.c 8 true 5] st.fin=some (.val (N6 (.mk (obI obj) 0 [] ns xs))):=by
 have h4:st.fin.mem 8=.box (PV.plL (PV.frzL (R8 st fun _=>true) [.val (num (obI obj)),.val (num 0),.val (tx []),Y4 1 37 ns,Y4 5 50 xs])):=by
  simp only [St.fin,St.freeze,m8,MObj.pl]
 have h5:st.fin.env 8=.ptr 8 0:=by simp [J7,e8,PV.frz,PV.pl]
 have hn:(Y4 1 37 ns).frz (R8 st fun _=>true)=.val (.list 1 (ns.map tx))∨(ns=[]∧(Y4 1 37 ns).frz (R8 st fun _=>true)=.emp 1):=by
  cases ns with
  | nil=>exact .inr ⟨rfl,rfl⟩
  | cons n ns=>
   left
   rcases m37 with h | h
   · cases h
   · simp [PV.frz,R8,okId,h]
 have hx:(Y4 5 50 xs).frz (R8 st fun _=>true)=.val (.list 5 (xs.map N6))∨(xs=[]∧(Y4 5 50 xs).frz (R8 st fun _=>true)=.emp 5):=by
  cases xs with
  | nil=>exact .inr ⟨rfl,rfl⟩
  | cons x xs=>
   left
   rcases m50 with h | h
   · cases h
   · simp [PV.frz,R8,okId,h]
 simp only [R1,a12,h5,h4]
 rcases hn with hn | ⟨rfl,hn⟩<;>rcases hx with hx | ⟨rfl,hx⟩<;>simp [PV.frzL,PV.frz,PV.plL,PV.pl,hn,hx,N4,O9,b8,tx,num]
theorem b9a {K:Kx (PExit→St→Prop)} (t:Tx) (d:Nat) (obj:Bool) (e:UInt8) (p:Nat) (ns:List Tx) (xs:List LJson) (ht:t.length≤1048576) (hp:p≤t.length) (hxs:xs≠[]) {st:St} (h:IjF t d obj e p ns xs st) (R:JZ LJson) (Kn:Nat→JZ (List Tx×List LJson))
 (hR:R=pmk (obI obj) (if 12 < xs.length then .err 6 p else if O7 t [e] (f5 t p) then .ok (ns,xs) (f5 t p+1) else if O7 t [44] (f5 t p) then Kn (f5 t p+1) else .err 3 (f5 t p)))
 (hret:∀ st',a9d [.c 8 true 5] pI (oP R) (mI t (zZ R)) (nP R) .ret st'→K.k .ret st') (hpan:∀ r st',a9d [.c 8 true 5] pI (oP R) (mI t (zZ R)) (nP R) (.pan r) st'→K.k (.pan r) st')
 (hnext:∀ st',xs.length≤12→f5 t p+1≤t.length→R=pmk (obI obj) (Kn (f5 t p+1))→IjF t d obj e (f5 t p+1) ns xs st'→K.k .normal st'):EC Tryz.prog ir227_s52 st (K:=K):=by
 obtain ⟨e0,e2,e3,e5,e8,m9,m5,m8,m37,m50⟩:=h
 have m50':st.mem 50=.row 81 5 (xs.map N6):=by
  cases xs with
  | nil=>exact absurd rfl hxs
  | cons x xs=>rcases m50 with h | h;cases h;exact h
 have hox:Y4 5 50 xs=.own 50:=by
  cases xs with
  | nil=>exact absurd rfl hxs
  | cons x xs=>rfl
 have hb:=a6e t p hp ht
 have hk2:=S4 hp
 obtain ⟨k2,hk2e⟩:∃ k2,f5 t p=k2:=⟨_,rfl⟩
 rw [hk2e] at hb hk2 hR hnext
 have hs:=a8b t [e] k2 hk2 ht (by simp)
 have hc:=b5h t [44] k2 hk2 ht (by simp)
 unfold ri at hb hs
 unfold ir227_s52
 by_cases h12:12 < xs.length
 · rw [if_pos h12] at hR
   have h12':(12:Int) < (xs.length:Int):=by omega
   simp [num,tx,e0,e2,e3,e5,e8,m9,m5,m50',hox,h12,h12',b8]
   refine Q8 (id:=900) (by simp [Q4,avOf,m9,N3,tx,num]) rfl (by omega) rfl (by simp [tx,num,RV.flat]) (a23 t p 6) ?_
   exact hpan _ _ (a5q hR (by simp [num,tx]))
 · rw [if_neg h12] at hR
   have h12':¬ (12:Int) < (xs.length:Int):=by omega
   simp [num,tx,e0,e2,e3,e5,e8,m9,m5,m50',hox,h12,h12',b8]
   refine F5 (id:=900) (by simp [Q4,avOf,m9,N3,tx,num]) rfl (by omega) rfl rfl hb ?_
   simp [num,tx,e0,e2,e3,e5,e8,m9,m5,m50',PV.shift,PV.shiftL,b8]
   refine F5 (id:=900) (by simp [Q4,avOf,m9,N3,tx,num]) rfl (by omega) rfl rfl hs ?_
   by_cases hje:O7 t [e] k2=true
   · rw [if_pos hje] at hR
     rw [hje]
     have hon:(Y4 1 37 ns=.emp 1∧st.mem 37=st.mem 37)∨(Y4 1 37 ns=.own 37∧st.mem 37=.row 9 1 (ns.map tx)):=by
      cases ns with
      | nil=>exact .inl ⟨rfl,rfl⟩
      | cons n ns=>rcases m37 with h | h;cases h;exact .inr ⟨rfl,h⟩
     rcases hon with ⟨hon,m37'⟩ | ⟨hon,m37'⟩
     all_goals
      simp [-U3,-Q3,x4,F1,x6,E9,x7,p9,x5,F0,j5,A1,F8,F9,d8,o0,o9,i8,x8,p8,j4,E8,x1,p7,p6,C9,D0,T4,T5,Option.getD_some,Option.getD_none,B6,q9,l8,C6,l7,l1,C8,l2,C7,C5,C4,G5,u6,l5,C2,t8,l4,C1,B4,C3,u0,B9,k8,t7,C0,G7,G6,B5,B7,l3,B8,u7,l6,A4,j7,B3,B2,B1,G0,s9,j9,A9,s0,j8,A8,A2,B0,s8,A6,j6,r9,A7,G4,G3,A3,r8,k7,A5,t6,k6,I3,I2,J4,I4,I8,I6,I5,J3,I7,I9,J0,J1,J2,y7,y6,x9,K5,K6,F7,F2,r5,D4,v6,J6,q7,O0,K9,J7,M3,M5,M4,O1,O2,H5,H7,H6,H8,H9,L9,v8,L8,D5,D6,D7,w5,T6,E5,w9,N8,N9,G8,K7,K8,Option.map_some,Option.map_none,D8,w6,u9,l9,D2,D3,H0,G9,N0,M9,I1,E6,E7,I0,M6,M7,H1,n7,H2,n0,L4,E4,E3,j3,M2,M8,H4,L5,L7,L6,v7,z7,A0,z8,f7,M1,O4,O3,L2,H3,Q1,L3,n8,E1,E2,w7,D9,i7,r6,i6,r7,f8,J5,N1,N2,y8,y9,F4,F3,D1,num,tx,e0,e2,e3,e5,e8,m9,m5,m8,m50',hox,hon,m37',PV.shift,PV.shiftL,b8]
      refine hret _ (b7j hR ?_ (c4s ?_ ?_ ?_ ?_))
      · simp [num,tx]
      · simp [e8]
      · simp [num,tx,hon,hox]
      · simpa [x4,F1,x6,E9,x7,p9,x5,F0,j5,A1,F8,F9,d8,o0,o9,i8,x8,p8,j4,E8,x1,p7,p6,C9,D0,T4,T5,Option.getD_some,Option.getD_none,B6,q9,l8,C6,l7,l1,C8,l2,C7,C5,C4,G5,u6,l5,C2,t8,l4,C1,B4,C3,u0,B9,k8,t7,C0,G7,G6,B5,B7,l3,B8,u7,l6,A4,j7,B3,B2,B1,G0,s9,j9,A9,s0,j8,A8,A2,B0,s8,A6,j6,r9,A7,G4,G3,A3,r8,k7,A5,t6,k6,I3,I2,J4,I4,I8,I6,I5,J3,I7,I9,J0,J1,J2,y7,y6,x9,K5,K6,F7,F2,r5,D4,v6,J6,q7,O0,K9,J7,M3,M5,M4,O1,O2,H5,H7,H6,H8,H9,L9,v8,L8,D5,D6,D7,w5,T6,E5,w9,N8,N9,G8,K7,K8,Option.map_some,Option.map_none,D8,w6,u9,l9,D2,D3,H0,G9,N0,M9,I1,E6,E7,I0,M6,M7,H1,n7,H2,n0,L4,E4,E3,j3,M2,M8,H4,L5,L7,L6,v7,z7,A0,z8,f7,M1,O4,O3,L2,H3,Q1,L3,n8,E1,E2,w7,D9,i7,r6,i6,r7,f8,J5,N1,N2,y8,y9,F4,F3,D1] using m37
      · simpa [x4,F1,x6,E9,x7,p9,x5,F0,j5,A1,F8,F9,d8,o0,o9,i8,x8,p8,j4,E8,x1,p7,p6,C9,D0,T4,T5,Option.getD_some,Option.getD_none,B6,q9,l8,C6,l7,l1,C8,l2,C7,C5,C4,G5,u6,l5,C2,t8,l4,C1,B4,C3,u0,B9,k8,t7,C0,G7,G6,B5,B7,l3,B8,u7,l6,A4,j7,B3,B2,B1,G0,s9,j9,A9,s0,j8,A8,A2,B0,s8,A6,j6,r9,A7,G4,G3,A3,r8,k7,A5,t6,k6,I3,I2,J4,I4,I8,I6,I5,J3,I7,I9,J0,J1,J2,y7,y6,x9,K5,K6,F7,F2,r5,D4,v6,J6,q7,O0,K9,J7,M3,M5,M4,O1,O2,H5,H7,H6,H8,H9,L9,v8,L8,D5,D6,D7,w5,T6,E5,w9,N8,N9,G8,K7,K8,Option.map_some,Option.map_none,D8,w6,u9,l9,D2,D3,H0,G9,N0,M9,I1,E6,E7,I0,M6,M7,H1,n7,H2,n0,L4,E4,E3,j3,M2,M8,H4,L5,L7,L6,v7,z7,A0,z8,f7,M1,O4,O3,L2,H3,Q1,L3,n8,E1,E2,w7,D9,i7,r6,i6,r7,f8,J5,N1,N2,y8,y9,F4,F3,D1] using m50
   · have hje':O7 t [e] k2=false:=by simpa using hje
     rw [if_neg hje] at hR
     rw [hje']
     simp [num,tx,e0,e2,e3,e5,e8,m9,m5,m50',PV.shift,PV.shiftL,b8]
     by_cases hj4:O7 t [44] k2=true
     · rw [if_pos hj4] at hR hc
       unfold JF ri at hc
       simp only [] at hc
       refine F5 (id:=900) (by simp [Q4,avOf,m9,N3,tx,num,N7]) rfl (by omega) rfl rfl hc ?_
       simp [num,tx,e0,e2,e3,e5,e8,m9,m5,m50',PV.shift,PV.shiftL,b8]
       refine hnext _ (by omega) (by have:=(a1d hj4).1;omega) hR ⟨?_,?_,?_,?_,?_,?_,?_,?_,?_,?_⟩
       all_goals try (simp [e0,e2,e3,e5,e8,m5,m8,num,tx,MObj.kill,PV.kill,PV.killL];done)
       · simpa [x4,F1,x6,E9,x7,p9,x5,F0,j5,A1,F8,F9,d8,o0,o9,i8,x8,p8,j4,E8,x1,p7,p6,C9,D0,T4,T5,Option.getD_some,Option.getD_none,B6,q9,l8,C6,l7,l1,C8,l2,C7,C5,C4,G5,u6,l5,C2,t8,l4,C1,B4,C3,u0,B9,k8,t7,C0,G7,G6,B5,B7,l3,B8,u7,l6,A4,j7,B3,B2,B1,G0,s9,j9,A9,s0,j8,A8,A2,B0,s8,A6,j6,r9,A7,G4,G3,A3,r8,k7,A5,t6,k6,I3,I2,J4,I4,I8,I6,I5,J3,I7,I9,J0,J1,J2,y7,y6,x9,K5,K6,F7,F2,r5,D4,v6,J6,q7,O0,K9,J7,M3,M5,M4,O1,O2,H5,H7,H6,H8,H9,L9,v8,L8,D5,D6,D7,w5,T6,E5,w9,N8,N9,G8,K7,K8,Option.map_some,Option.map_none,D8,w6,u9,l9,D2,D3,H0,G9,N0,M9,I1,E6,E7,I0,M6,M7,H1,n7,H2,n0,L4,E4,E3,j3,M2,M8,H4,L5,L7,L6,v7,z7,A0,z8,f7,M1,O4,O3,L2,H3,Q1,L3,n8,E1,E2,w7,D9,i7,r6,i6,r7,f8,J5,N1,N2,y8,y9,F4,F3,D1] using m37
       · simpa [x4,F1,x6,E9,x7,p9,x5,F0,j5,A1,F8,F9,d8,o0,o9,i8,x8,p8,j4,E8,x1,p7,p6,C9,D0,T4,T5,Option.getD_some,Option.getD_none,B6,q9,l8,C6,l7,l1,C8,l2,C7,C5,C4,G5,u6,l5,C2,t8,l4,C1,B4,C3,u0,B9,k8,t7,C0,G7,G6,B5,B7,l3,B8,u7,l6,A4,j7,B3,B2,B1,G0,s9,j9,A9,s0,j8,A8,A2,B0,s8,A6,j6,r9,A7,G4,G3,A3,r8,k7,A5,t6,k6,I3,I2,J4,I4,I8,I6,I5,J3,I7,I9,J0,J1,J2,y7,y6,x9,K5,K6,F7,F2,r5,D4,v6,J6,q7,O0,K9,J7,M3,M5,M4,O1,O2,H5,H7,H6,H8,H9,L9,v8,L8,D5,D6,D7,w5,T6,E5,w9,N8,N9,G8,K7,K8,Option.map_some,Option.map_none,D8,w6,u9,l9,D2,D3,H0,G9,N0,M9,I1,E6,E7,I0,M6,M7,H1,n7,H2,n0,L4,E4,E3,j3,M2,M8,H4,L5,L7,L6,v7,z7,A0,z8,f7,M1,O4,O3,L2,H3,Q1,L3,n8,E1,E2,w7,D9,i7,r6,i6,r7,f8,J5,N1,N2,y8,y9,F4,F3,D1] using m50
     · rw [if_neg hj4] at hR hc
       unfold JF ri at hc
       simp only [] at hc
       refine Q8 (id:=900) (by simp [Q4,avOf,m9,N3,tx,num,N7]) rfl (by omega) rfl (by simp [tx,num,RV.flat]) hc ?_
       exact hpan _ _ (a5q hR (by simp [num,tx]))
theorem b13 {K:Kx (PExit→St→Prop)} (t:Tx) (d:Nat) (obj:Bool) (e:UInt8) (k:Nat) (ns:List Tx) (xs:List LJson) (ht:t.length≤1048576) (hk:k≤t.length) (hd:d≤3) (hlen:xs.length≤12) (V:Nat→JZ LJson) (hV:ValI Tryz.prog 180 t d V)
 {st:St} (h:IjF t d obj e k ns xs st) (R:JZ LJson) (Kr:Nat→List Tx→List LJson→JZ (List Tx×List LJson)) (hR:R=pmk (obI obj) (b3o V t e Kr k ns xs))
 (hret:∀ st',a9d [.c 8 true 5] pI (oP R) (mI t (zZ R)) (nP R) .ret st'→K.k .ret st') (hpan:∀ r st',a9d [.c 8 true 5] pI (oP R) (mI t (zZ R)) (nP R) (.pan r) st'→K.k (.pan r) st')
 (hnext:∀ st' k' x,xs.length+1≤12→k'≤t.length→R=pmk (obI obj) (Kr k' ns (xs++[x]))→IjF t d obj e k' ns (xs++[x]) st'→K.k .normal st'):EC Tryz.prog ir227_s43 st (K:=K):=by
 have h':=h
 obtain ⟨e0,e2,e3,e5,e8,m9,m5,m8,m37,m50⟩:=h'
 obtain ⟨hj,hle⟩:=hV k hk
 have wd:IntKind.i64.wrap (3 - (d:Int)+1)=4 - (d:Int):=by rw [wrap_i64 (by omega) (by omega)];omega
 unfold b3o at hR
 unfold ir227_s43
 have hkn:∀ z,z≠37→PV.kill (fun x=>x == z) (Y4 1 37 ns)=Y4 1 37 ns:=fun z hz=>by
  cases ns with
  | nil=>rfl
  | cons n ns=>simp [PV.kill];omega
 have hox:(xs=[]∧Y4 5 50 xs=.emp 5∧st.mem 50=st.mem 50)∨(Y4 5 50 xs=.own 50∧st.mem 50=.row 81 5 (xs.map N6)):=by
  cases xs with
  | nil=>exact .inl ⟨rfl,rfl,rfl⟩
  | cons n xs=>rcases m50 with h | h;cases h;exact .inr ⟨rfl,h⟩
 cases hv:V k with
 | err c z=>
  rw [hv] at hj hR
  unfold JF ri at hj
  simp only [] at hj hR
  rcases hox with ⟨hx0,hox,m50'⟩ | ⟨hox,m50'⟩
  all_goals
   simp [num,tx,e0,e2,e3,e5,e8,m9,m5,m8,hox,wd,b8]
   refine Q8 (id:=900) (by simp [Q4,avOf,m9,N3,tx,num]) rfl (by omega) rfl (by simp [tx,num,RV.flat]) hj ?_
   refine hpan _ _ (a5q hR ?_)
   simp [num,tx]
 | ok x k'=>
  have hk':=hle x k' hv
  rw [hv] at hj hR
  unfold JF ri at hj
  simp only [] at hj hR
  obtain ⟨a1,a2,a3,a4,a5⟩:=x
  rw [N4] at hj
  rcases hox with ⟨hx0,hox,m50'⟩ | ⟨hox,m50'⟩
  all_goals
   simp [num,tx,e0,e2,e3,e5,e8,m9,m5,m8,hox,wd,b8]
   refine F5 (id:=900) (by simp [Q4,avOf,m9,N3,tx,num]) rfl (by omega) rfl rfl hj ?_
   simp [num,tx,e0,e2,e3,e5,e8,m9,m5,m8,m50',hox,wd,PV.shift,PV.shiftL,b8]
   try (refine ⟨by omega,by omega,?_⟩)
   refine b9a t d obj e k' ns (xs++[LJson.mk a1 a2 a3 a4 a5]) ht hk' (by simp) ⟨?_,?_,?_,?_,?_,?_,?_,?_,?_,?_⟩ R (fun k=>Kr k ns (xs++[LJson.mk a1 a2 a3 a4 a5])) (by rw [hR,List.length_append];rfl) hret hpan (fun st' h1 h2 h3 h4=>hnext st' _ _ (by simpa using h1) h2 h3 h4)
   all_goals try (simp [e0,e2,e3,e5,e8,m8,num,tx,MObj.kill,PV.kill,PV.killL,hkn,b1g];done)
   · cases ns with
     | nil=>exact .inl rfl
     | cons n ns=>(rcases m37 with h | h;cases h;right;simp [h,MObj.kill])
   · right
     first
      | (subst hx0;simp [N4,MObj.kill,num,tx])
      | (rw [b1c];simp [N4,MObj.kill,num,tx])
theorem b9b {K:Kx (PExit→St→Prop)} (t:Tx) (d:Nat) (e:UInt8) (k:Nat) (ns:List Tx) (xs:List LJson) (ht:t.length≤1048576) (hk:k≤t.length) (hn:ns.length≤100) {st:St} (h:IjF t d true e k ns xs st)
 (hpan:∀ c z,a9m t k ns=.err c z→∀ st':St,st'.mem 900=.box [.val (tx t),.val (num (z:Int))]→K.k (.pan (flt c)) st')
 (hnext:∀ nm k' st',a9m t k ns=.ok nm k'→k'≤t.length→IjF t d true e k' (ns++[nm]) xs st'→K.k .normal st'):EC Tryz.prog ir227_s25 st (K:=K):=by
 obtain ⟨e0,e2,e3,e5,e8,m9,m5,m8,m37,m50⟩:=h
 have hQ:=b7b t k hk ht
 have hkx:∀ z,z≠50→PV.kill (fun x=>x == z) (Y4 5 50 xs)=Y4 5 50 xs:=fun z hz=>by
  cases xs with
  | nil=>rfl
  | cons n xs=>simp [PV.kill];omega
 unfold ir227_s25
 simp [num,tx,e0,m9,b8]
 cases hq:a0u t k with
 | err c z=>
  have hp:a9m t k ns=.err c z:=by unfold a9m;rw [hq]
  rw [hq] at hQ
  unfold JF ri at hQ
  simp only [] at hQ
  refine Q8 (id:=900) (by simp [Q4,avOf,m9,N3,tx,num]) rfl (by omega) rfl (by simp [tx,num,RV.flat]) hQ ?_
  refine hpan c z hp _ ?_
  simp [num,tx]
 | ok nm k1=>
  have hk1:k1≤t.length:=by
   have:=a4s t k
   rw [hq] at this
   exact (a1e this.symm).2.2
  have hp:a9m t k ns=if nm∈ns then .err 13 k1 else if O7 t [58] (f5 t k1) then .ok nm (f5 t k1+1) else .err 3 (f5 t k1):=by unfold a9m;rw [hq]
  rw [hq] at hQ
  unfold JF ri at hQ
  simp only [] at hQ
  refine F5 (id:=900) (by simp [Q4,avOf,m9,N3,tx,num]) rfl (by omega) rfl rfl hQ ?_
  have hC:=b16 ns nm (by omega)
  have hsk:=a6e t k1 hk1 ht
  have hk2:=S4 hk1
  obtain ⟨k2,hk2e⟩:∃ k2,f5 t k1=k2:=⟨_,rfl⟩
  rw [hk2e] at hsk hk2 hp
  have hc:=b5h t [58] k2 hk2 ht (by simp)
  unfold ri at hsk
  have hon:(ns=[]∧Y4 1 37 ns=.emp 1∧st.mem 37=st.mem 37)∨(Y4 1 37 ns=.own 37∧st.mem 37=.row 9 1 (ns.map tx)):=by
   cases ns with
   | nil=>exact .inl ⟨rfl,rfl,rfl⟩
   | cons n ns=>rcases m37 with h | h;cases h;exact .inr ⟨rfl,h⟩
  rcases hon with ⟨hn0,hon,m37'⟩ | ⟨hon,m37'⟩
  all_goals
   simp [num,tx,e0,e5,m9,m5,hon,m37',PV.shift,PV.shiftL,b8]
   refine f6 (by first | (subst hn0;simp [Q4,avOf,tx];done) | (simp [Q4,avOf,m37',tx];done)) rfl (.inr rfl) hC ?_
   by_cases hm:nm∈ns
   · rw [if_pos hm] at hp
     rw [decide_eq_true hm]
     simp [num,tx,e0,e5,m9,m5,hon,m37',PV.shift,PV.shiftL,b8]
     refine Q8 (id:=900) (by simp [Q4,avOf,m9,N3,tx,num]) rfl (by omega) rfl (by simp [tx,num,RV.flat]) (a23 t k1 13) ?_
     refine hpan 13 k1 hp _ ?_
     simp [num,tx]
   · rw [if_neg hm] at hp
     rw [decide_eq_false hm]
     simp [num,tx,e0,e5,m9,m5,hon,m37',PV.shift,PV.shiftL,b8]
     try (refine ⟨by omega,by omega,?_⟩)
     refine F5 (id:=900) (by simp [Q4,avOf,m9,N3,tx,num,MObj.kill,PV.killL,PV.kill]) rfl (by omega) rfl rfl hsk ?_
     simp [num,tx,e0,e5,m9,m5,hon,m37',PV.shift,PV.shiftL,PV.kill,b8]
     by_cases hj5:O7 t [58] k2=true
     · rw [if_pos hj5] at hp hc
       unfold JF ri at hc
       simp only [] at hc
       refine F5 (id:=900) (by simp [Q4,avOf,m9,N3,tx,num,N7]) rfl (by omega) rfl rfl hc ?_
       simp [num,tx,e0,e5,m9,m5,hon,m37',PV.shift,PV.shiftL,b8]
       refine hnext nm (k2+1) _ hp (by have:=(a1d hj5).1;omega) ⟨?_,?_,?_,?_,?_,?_,?_,?_,?_,?_⟩
       all_goals try (simp [e0,e2,e3,e5,e8,m8,num,tx,MObj.kill,PV.kill,PV.killL,hkx,b1g];done)
       · right
         first
          | (subst hn0;simp [MObj.kill,num,tx];done)
          | (rw [b1c];simp [MObj.kill,num,tx];done)
       · cases xs with
         | nil=>exact .inl rfl
         | cons n xs=>(rcases m50 with h | h;cases h;right;simp [h,MObj.kill])
     · rw [if_neg hj5] at hp hc
       unfold JF ri at hc
       simp only [] at hc
       refine Q8 (id:=900) (by simp [Q4,avOf,m9,N3,tx,num,N7]) rfl (by omega) rfl (by simp [tx,num,RV.flat]) hc ?_
       refine hpan 3 k2 hp _ ?_
       simp [num,tx]
def b26 (obj:Bool) (dp:Int) (e:UInt8):List PV:=[.ptr 900 0,.agg [.val (num (obI obj)),.val (num 0),.val (tx []),.emp 1,.emp 5],.val (num dp),.val (tx [e])]
theorem i_items (t:Tx) (d:Nat) (V:Nat→JZ LJson) (hV:ValI Tryz.prog 180 t d V) (ht:t.length≤1048576) (hd:d≤3) (obj:Bool) (e:UInt8) (i:Nat) (hi:i≤t.length) (R:JZ LJson) (hR:R=pmk (obI obj) (a9n V t obj e i)) :
 a2e Tryz.prog 227 (b26 obj (3 - (d:Int)) e) (mI t i) pI (oP R) (mI t (zZ R)) (nP R):=by
 refine a4m mixed ok227 mI_id b8v ?_
 unfold ir227 b26
 rw [d9]
 have hb:=a6e t i hi ht
 have hk1:=S4 hi
 unfold a9n at hR
 obtain ⟨k1,hk1e⟩:∃ k,f5 t i=k:=⟨_,rfl⟩
 rw [hk1e] at hb hk1 hR
 have hs:=a8b t [e] k1 hk1 ht (by simp)
 unfold ri at hb hs
 have hdd:¬ (3 - (d:Int))=4:=by omega
 simp [num,tx,mI,N7,b8,hdd]
 refine F5 (id:=900) (by simp [Q4,avOf,N3,tx,num,x4,F1,x6,E9,x7,p9,x5,F0,j5,A1,F8,F9,d8,o0,o9,i8,x8,p8,j4,E8,x1,p7,p6,C9,D0,T4,T5,Option.getD_some,Option.getD_none,B6,q9,l8,C6,l7,l1,C8,l2,C7,C5,C4,G5,u6,l5,C2,t8,l4,C1,B4,C3,u0,B9,k8,t7,C0,G7,G6,B5,B7,l3,B8,u7,l6,A4,j7,B3,B2,B1,G0,s9,j9,A9,s0,j8,A8,A2,B0,s8,A6,j6,r9,A7,G4,G3,A3,r8,k7,A5,t6,k6,I3,I2,J4,I4,I8,I6,I5,J3,I7,I9,J0,J1,J2,y7,y6,x9,K5,K6,F7,F2,r5,D4,v6,J6,q7,O0,K9,J7,M3,M5,M4,O1,O2,H5,H7,H6,H8,H9,L9,v8,L8,D5,D6,D7,w5,T6,E5,w9,N8,N9,G8,K7,K8,Option.map_some,Option.map_none,D8,w6,u9,l9,D2,D3,H0,G9,N0,M9,I1,E6,E7,I0,M6,M7,H1,n7,H2,n0,L4,E4,E3,j3,M2,M8,H4,L5,L7,L6,v7,z7,A0,z8,f7,M1,O4,O3,L2,H3,Q1,L3,n8,E1,E2,w7,D9,i7,r6,i6,r7,f8,J5,N1,N2,y8,y9,F4,F3,D1]) rfl (by omega) rfl rfl hb ?_
 simp [num,tx,mI,PV.shift,PV.shiftL,b8]
 refine F5 (id:=900) (by simp [Q4,avOf,N3,tx,num,x4,F1,x6,E9,x7,p9,x5,F0,j5,A1,F8,F9,d8,o0,o9,i8,x8,p8,j4,E8,x1,p7,p6,C9,D0,T4,T5,Option.getD_some,Option.getD_none,B6,q9,l8,C6,l7,l1,C8,l2,C7,C5,C4,G5,u6,l5,C2,t8,l4,C1,B4,C3,u0,B9,k8,t7,C0,G7,G6,B5,B7,l3,B8,u7,l6,A4,j7,B3,B2,B1,G0,s9,j9,A9,s0,j8,A8,A2,B0,s8,A6,j6,r9,A7,G4,G3,A3,r8,k7,A5,t6,k6,I3,I2,J4,I4,I8,I6,I5,J3,I7,I9,J0,J1,J2,y7,y6,x9,K5,K6,F7,F2,r5,D4,v6,J6,q7,O0,K9,J7,M3,M5,M4,O1,O2,H5,H7,H6,H8,H9,L9,v8,L8,D5,D6,D7,w5,T6,E5,w9,N8,N9,G8,K7,K8,Option.map_some,Option.map_none,D8,w6,u9,l9,D2,D3,H0,G9,N0,M9,I1,E6,E7,I0,M6,M7,H1,n7,H2,n0,L4,E4,E3,j3,M2,M8,H4,L5,L7,L6,v7,z7,A0,z8,f7,M1,O4,O3,L2,H3,Q1,L3,n8,E1,E2,w7,D9,i7,r6,i6,r7,f8,J5,N1,N2,y8,y9,F4,F3,D1]) rfl (by omega) rfl rfl hs ?_
 by_cases hje:O7 t [e] k1=true
 · rw [if_pos hje] at hR
   rw [hje]
   simp [-U3,-Q3,x4,F1,x6,E9,x7,p9,x5,F0,j5,A1,F8,F9,d8,o0,o9,i8,x8,p8,j4,E8,x1,p7,p6,C9,D0,T4,T5,Option.getD_some,Option.getD_none,B6,q9,l8,C6,l7,l1,C8,l2,C7,C5,C4,G5,u6,l5,C2,t8,l4,C1,B4,C3,u0,B9,k8,t7,C0,G7,G6,B5,B7,l3,B8,u7,l6,A4,j7,B3,B2,B1,G0,s9,j9,A9,s0,j8,A8,A2,B0,s8,A6,j6,r9,A7,G4,G3,A3,r8,k7,A5,t6,k6,I3,I2,J4,I4,I8,I6,I5,J3,I7,I9,J0,J1,J2,y7,y6,x9,K5,K6,F7,F2,r5,D4,v6,J6,q7,O0,K9,J7,M3,M5,M4,O1,O2,H5,H7,H6,H8,H9,L9,v8,L8,D5,D6,D7,w5,T6,E5,w9,N8,N9,G8,K7,K8,Option.map_some,Option.map_none,D8,w6,u9,l9,D2,D3,H0,G9,N0,M9,I1,E6,E7,I0,M6,M7,H1,n7,H2,n0,L4,E4,E3,j3,M2,M8,H4,L5,L7,L6,v7,z7,A0,z8,f7,M1,O4,O3,L2,H3,Q1,L3,n8,E1,E2,w7,D9,i7,r6,i6,r7,f8,J5,N1,N2,y8,y9,F4,F3,D1,num,tx,mI,PV.shift,PV.shiftL,b8]
   refine b7j hR ?_ (c4s (ns:=[]) (xs:=[]) ?_ ?_ (.inl rfl) (.inl rfl))
   · simp [num,tx]
   · simp
   · simp [num,tx]
 · rw [if_neg hje] at hR
   have hje':O7 t [e] k1=false:=by simpa using hje
   rw [hje']
   simp [-U3,-Q3,x4,F1,x6,E9,x7,p9,x5,F0,j5,A1,F8,F9,d8,o0,o9,i8,x8,p8,j4,E8,x1,p7,p6,C9,D0,T4,T5,Option.getD_some,Option.getD_none,B6,q9,l8,C6,l7,l1,C8,l2,C7,C5,C4,G5,u6,l5,C2,t8,l4,C1,B4,C3,u0,B9,k8,t7,C0,G7,G6,B5,B7,l3,B8,u7,l6,A4,j7,B3,B2,B1,G0,s9,j9,A9,s0,j8,A8,A2,B0,s8,A6,j6,r9,A7,G4,G3,A3,r8,k7,A5,t6,k6,I3,I2,J4,I4,I8,I6,I5,J3,I7,I9,J0,J1,J2,y7,y6,x9,K5,K6,F7,F2,r5,D4,v6,J6,q7,O0,K9,J7,M3,M5,M4,O1,O2,H5,H7,H6,H8,H9,L9,v8,L8,D5,D6,D7,w5,T6,E5,w9,N8,N9,G8,K7,K8,Option.map_some,Option.map_none,D8,w6,u9,l9,D2,D3,H0,G9,N0,M9,I1,E6,E7,I0,M6,M7,H1,n7,H2,n0,L4,E4,E3,j3,M2,M8,H4,L5,L7,L6,v7,z7,A0,z8,f7,M1,O4,O3,L2,H3,Q1,L3,n8,E1,E2,w7,D9,i7,r6,i6,r7,f8,J5,N1,N2,y8,y9,F4,F3,D1,num,tx,mI,PV.shift,PV.shiftL,b8]
   refine S1 (X:=Nat×List Tx×List LJson) (fun s=>ijS t d obj e s.1 s.2.1 s.2.2) (fun s=>s.1≤t.length∧s.2.2.length≤12∧s.2.1.length≤s.2.2.length∧∃ n,n+s.2.2.length=13∧R=pmk (obI obj) (a67 V t obj e n s.1 s.2.1 s.2.2)) (fun s=>13 - s.2.2.length) (k1,[],[]) (IjF.le (ns:=[]) (xs:=[]) ⟨?_,?_,?_,?_,?_,?_,?_,?_,.inl rfl,.inl rfl⟩) ⟨hk1,by simp,by simp,13,by simp,hR⟩ ?_
   all_goals try (simp [num,tx,Y4];done)
   rintro ⟨j,ns,xs⟩ ⟨hj,hx,hn,n,hnx,hRj⟩
   simp only [] at hj hx hn hnx hRj
   obtain ⟨n,rfl⟩:∃ m,n=m+1:=⟨n - 1,by omega⟩
   have hbj:=a6e t j hj ht
   have hkj:=S4 hj
   unfold a67 at hRj
   obtain ⟨kj,hkje⟩:∃ k,f5 t j=k:=⟨_,rfl⟩
   rw [hkje] at hbj hkj hRj
   unfold ri at hbj
   have hF:IjF t d obj e j ns xs (ijS t d obj e j ns xs):=IjF.start
   obtain ⟨e0,e2,e3,e5,e8,m9,m5,m8,m37,m50⟩:=hF
   obtain ⟨S,hS⟩:∃ S,ijS t d obj e j ns xs=S:=⟨_,rfl⟩
   rw [hS] at e0 e2 e3 e5 e8 m9 m5 m8 m37 m50
   simp only [hS]
   simp [-U3,-Q3,x4,F1,x6,E9,x7,p9,x5,F0,j5,A1,F8,F9,d8,o0,o9,i8,x8,p8,j4,E8,x1,p7,p6,C9,D0,T4,T5,Option.getD_some,Option.getD_none,B6,q9,l8,C6,l7,l1,C8,l2,C7,C5,C4,G5,u6,l5,C2,t8,l4,C1,B4,C3,u0,B9,k8,t7,C0,G7,G6,B5,B7,l3,B8,u7,l6,A4,j7,B3,B2,B1,G0,s9,j9,A9,s0,j8,A8,A2,B0,s8,A6,j6,r9,A7,G4,G3,A3,r8,k7,A5,t6,k6,I3,I2,J4,I4,I8,I6,I5,J3,I7,I9,J0,J1,J2,y7,y6,x9,K5,K6,F7,F2,r5,D4,v6,J6,q7,O0,K9,J7,M3,M5,M4,O1,O2,H5,H7,H6,H8,H9,L9,v8,L8,D5,D6,D7,w5,T6,E5,w9,N8,N9,G8,K7,K8,Option.map_some,Option.map_none,D8,w6,u9,l9,D2,D3,H0,G9,N0,M9,I1,E6,E7,I0,M6,M7,H1,n7,H2,n0,L4,E4,E3,j3,M2,M8,H4,L5,L7,L6,v7,z7,A0,z8,f7,M1,O4,O3,L2,H3,Q1,L3,n8,E1,E2,w7,D9,i7,r6,i6,r7,f8,J5,N1,N2,y8,y9,F4,F3,D1,num,tx,e0,m9,b8]
   refine F5 (id:=900) (by simp [Q4,avOf,m9,N3,tx,num,x4,F1,x6,E9,x7,p9,x5,F0,j5,A1,F8,F9,d8,o0,o9,i8,x8,p8,j4,E8,x1,p7,p6,C9,D0,T4,T5,Option.getD_some,Option.getD_none,B6,q9,l8,C6,l7,l1,C8,l2,C7,C5,C4,G5,u6,l5,C2,t8,l4,C1,B4,C3,u0,B9,k8,t7,C0,G7,G6,B5,B7,l3,B8,u7,l6,A4,j7,B3,B2,B1,G0,s9,j9,A9,s0,j8,A8,A2,B0,s8,A6,j6,r9,A7,G4,G3,A3,r8,k7,A5,t6,k6,I3,I2,J4,I4,I8,I6,I5,J3,I7,I9,J0,J1,J2,y7,y6,x9,K5,K6,F7,F2,r5,D4,v6,J6,q7,O0,K9,J7,M3,M5,M4,O1,O2,H5,H7,H6,H8,H9,L9,v8,L8,D5,D6,D7,w5,T6,E5,w9,N8,N9,G8,K7,K8,Option.map_some,Option.map_none,D8,w6,u9,l9,D2,D3,H0,G9,N0,M9,I1,E6,E7,I0,M6,M7,H1,n7,H2,n0,L4,E4,E3,j3,M2,M8,H4,L5,L7,L6,v7,z7,A0,z8,f7,M1,O4,O3,L2,H3,Q1,L3,n8,E1,E2,w7,D9,i7,r6,i6,r7,f8,J5,N1,N2,y8,y9,F4,F3,D1]) rfl (by omega) rfl rfl hbj ?_
   cases obj with
   | false=>
    simp only [] at hRj
    simp [-U3,-Q3,x4,F1,x6,E9,x7,p9,x5,F0,j5,A1,F8,F9,d8,o0,o9,i8,x8,p8,j4,E8,x1,p7,p6,C9,D0,T4,T5,Option.getD_some,Option.getD_none,B6,q9,l8,C6,l7,l1,C8,l2,C7,C5,C4,G5,u6,l5,C2,t8,l4,C1,B4,C3,u0,B9,k8,t7,C0,G7,G6,B5,B7,l3,B8,u7,l6,A4,j7,B3,B2,B1,G0,s9,j9,A9,s0,j8,A8,A2,B0,s8,A6,j6,r9,A7,G4,G3,A3,r8,k7,A5,t6,k6,I3,I2,J4,I4,I8,I6,I5,J3,I7,I9,J0,J1,J2,y7,y6,x9,K5,K6,F7,F2,r5,D4,v6,J6,q7,O0,K9,J7,M3,M5,M4,O1,O2,H5,H7,H6,H8,H9,L9,v8,L8,D5,D6,D7,w5,T6,E5,w9,N8,N9,G8,K7,K8,Option.map_some,Option.map_none,D8,w6,u9,l9,D2,D3,H0,G9,N0,M9,I1,E6,E7,I0,M6,M7,H1,n7,H2,n0,L4,E4,E3,j3,M2,M8,H4,L5,L7,L6,v7,z7,A0,z8,f7,M1,O4,O3,L2,H3,Q1,L3,n8,E1,E2,w7,D9,i7,r6,i6,r7,f8,J5,N1,N2,y8,y9,F4,F3,D1,num,tx,e0,e5,m5,obI,PV.shift,PV.shiftL,b8]
    refine b13 t d false e kj ns xs ht hkj hd hx V hV ⟨?_,?_,?_,?_,?_,?_,?_,?_,?_,?_⟩ R _ hRj (fun st' h=>h) (fun r st' h=>h) (fun st' k' x h1 h2 h3 h4=>?_)
    all_goals try (simp [e0,e2,e3,e5,e8,m5,m8,num,tx,obI];done)
    · simpa [x4,F1,x6,E9,x7,p9,x5,F0,j5,A1,F8,F9,d8,o0,o9,i8,x8,p8,j4,E8,x1,p7,p6,C9,D0,T4,T5,Option.getD_some,Option.getD_none,B6,q9,l8,C6,l7,l1,C8,l2,C7,C5,C4,G5,u6,l5,C2,t8,l4,C1,B4,C3,u0,B9,k8,t7,C0,G7,G6,B5,B7,l3,B8,u7,l6,A4,j7,B3,B2,B1,G0,s9,j9,A9,s0,j8,A8,A2,B0,s8,A6,j6,r9,A7,G4,G3,A3,r8,k7,A5,t6,k6,I3,I2,J4,I4,I8,I6,I5,J3,I7,I9,J0,J1,J2,y7,y6,x9,K5,K6,F7,F2,r5,D4,v6,J6,q7,O0,K9,J7,M3,M5,M4,O1,O2,H5,H7,H6,H8,H9,L9,v8,L8,D5,D6,D7,w5,T6,E5,w9,N8,N9,G8,K7,K8,Option.map_some,Option.map_none,D8,w6,u9,l9,D2,D3,H0,G9,N0,M9,I1,E6,E7,I0,M6,M7,H1,n7,H2,n0,L4,E4,E3,j3,M2,M8,H4,L5,L7,L6,v7,z7,A0,z8,f7,M1,O4,O3,L2,H3,Q1,L3,n8,E1,E2,w7,D9,i7,r6,i6,r7,f8,J5,N1,N2,y8,y9,F4,F3,D1] using m37
    · simpa [x4,F1,x6,E9,x7,p9,x5,F0,j5,A1,F8,F9,d8,o0,o9,i8,x8,p8,j4,E8,x1,p7,p6,C9,D0,T4,T5,Option.getD_some,Option.getD_none,B6,q9,l8,C6,l7,l1,C8,l2,C7,C5,C4,G5,u6,l5,C2,t8,l4,C1,B4,C3,u0,B9,k8,t7,C0,G7,G6,B5,B7,l3,B8,u7,l6,A4,j7,B3,B2,B1,G0,s9,j9,A9,s0,j8,A8,A2,B0,s8,A6,j6,r9,A7,G4,G3,A3,r8,k7,A5,t6,k6,I3,I2,J4,I4,I8,I6,I5,J3,I7,I9,J0,J1,J2,y7,y6,x9,K5,K6,F7,F2,r5,D4,v6,J6,q7,O0,K9,J7,M3,M5,M4,O1,O2,H5,H7,H6,H8,H9,L9,v8,L8,D5,D6,D7,w5,T6,E5,w9,N8,N9,G8,K7,K8,Option.map_some,Option.map_none,D8,w6,u9,l9,D2,D3,H0,G9,N0,M9,I1,E6,E7,I0,M6,M7,H1,n7,H2,n0,L4,E4,E3,j3,M2,M8,H4,L5,L7,L6,v7,z7,A0,z8,f7,M1,O4,O3,L2,H3,Q1,L3,n8,E1,E2,w7,D9,i7,r6,i6,r7,f8,J5,N1,N2,y8,y9,F4,F3,D1] using m50
    · exact LoopNext.mk (k',ns,xs++[x]) ⟨h2,by simp;omega,by simp;omega,n,by simp;omega,h3⟩ (by simp;omega) h4.le
   | true=>
    simp only [] at hRj
    simp [-U3,-Q3,x4,F1,x6,E9,x7,p9,x5,F0,j5,A1,F8,F9,d8,o0,o9,i8,x8,p8,j4,E8,x1,p7,p6,C9,D0,T4,T5,Option.getD_some,Option.getD_none,B6,q9,l8,C6,l7,l1,C8,l2,C7,C5,C4,G5,u6,l5,C2,t8,l4,C1,B4,C3,u0,B9,k8,t7,C0,G7,G6,B5,B7,l3,B8,u7,l6,A4,j7,B3,B2,B1,G0,s9,j9,A9,s0,j8,A8,A2,B0,s8,A6,j6,r9,A7,G4,G3,A3,r8,k7,A5,t6,k6,I3,I2,J4,I4,I8,I6,I5,J3,I7,I9,J0,J1,J2,y7,y6,x9,K5,K6,F7,F2,r5,D4,v6,J6,q7,O0,K9,J7,M3,M5,M4,O1,O2,H5,H7,H6,H8,H9,L9,v8,L8,D5,D6,D7,w5,T6,E5,w9,N8,N9,G8,K7,K8,Option.map_some,Option.map_none,D8,w6,u9,l9,D2,D3,H0,G9,N0,M9,I1,E6,E7,I0,M6,M7,H1,n7,H2,n0,L4,E4,E3,j3,M2,M8,H4,L5,L7,L6,v7,z7,A0,z8,f7,M1,O4,O3,L2,H3,Q1,L3,n8,E1,E2,w7,D9,i7,r6,i6,r7,f8,J5,N1,N2,y8,y9,F4,F3,D1,num,tx,e0,e5,m5,obI,PV.shift,PV.shiftL,b8]
    refine b9b t d e kj ns xs ht hkj (by omega) ⟨?_,?_,?_,?_,?_,?_,?_,?_,?_,?_⟩ (fun c z hp st' hm=>?_) (fun nm k2 st' hp hk2 hF2=>?_)
    all_goals try (simp [e0,e2,e3,e5,e8,m5,m8,num,tx,obI];done)
    · simpa [x4,F1,x6,E9,x7,p9,x5,F0,j5,A1,F8,F9,d8,o0,o9,i8,x8,p8,j4,E8,x1,p7,p6,C9,D0,T4,T5,Option.getD_some,Option.getD_none,B6,q9,l8,C6,l7,l1,C8,l2,C7,C5,C4,G5,u6,l5,C2,t8,l4,C1,B4,C3,u0,B9,k8,t7,C0,G7,G6,B5,B7,l3,B8,u7,l6,A4,j7,B3,B2,B1,G0,s9,j9,A9,s0,j8,A8,A2,B0,s8,A6,j6,r9,A7,G4,G3,A3,r8,k7,A5,t6,k6,I3,I2,J4,I4,I8,I6,I5,J3,I7,I9,J0,J1,J2,y7,y6,x9,K5,K6,F7,F2,r5,D4,v6,J6,q7,O0,K9,J7,M3,M5,M4,O1,O2,H5,H7,H6,H8,H9,L9,v8,L8,D5,D6,D7,w5,T6,E5,w9,N8,N9,G8,K7,K8,Option.map_some,Option.map_none,D8,w6,u9,l9,D2,D3,H0,G9,N0,M9,I1,E6,E7,I0,M6,M7,H1,n7,H2,n0,L4,E4,E3,j3,M2,M8,H4,L5,L7,L6,v7,z7,A0,z8,f7,M1,O4,O3,L2,H3,Q1,L3,n8,E1,E2,w7,D9,i7,r6,i6,r7,f8,J5,N1,N2,y8,y9,F4,F3,D1] using m37
    · simpa [x4,F1,x6,E9,x7,p9,x5,F0,j5,A1,F8,F9,d8,o0,o9,i8,x8,p8,j4,E8,x1,p7,p6,C9,D0,T4,T5,Option.getD_some,Option.getD_none,B6,q9,l8,C6,l7,l1,C8,l2,C7,C5,C4,G5,u6,l5,C2,t8,l4,C1,B4,C3,u0,B9,k8,t7,C0,G7,G6,B5,B7,l3,B8,u7,l6,A4,j7,B3,B2,B1,G0,s9,j9,A9,s0,j8,A8,A2,B0,s8,A6,j6,r9,A7,G4,G3,A3,r8,k7,A5,t6,k6,I3,I2,J4,I4,I8,I6,I5,J3,I7,I9,J0,J1,J2,y7,y6,x9,K5,K6,F7,F2,r5,D4,v6,J6,q7,O0,K9,J7,M3,M5,M4,O1,O2,H5,H7,H6,H8,H9,L9,v8,L8,D5,D6,D7,w5,T6,E5,w9,N8,N9,G8,K7,K8,Option.map_some,Option.map_none,D8,w6,u9,l9,D2,D3,H0,G9,N0,M9,I1,E6,E7,I0,M6,M7,H1,n7,H2,n0,L4,E4,E3,j3,M2,M8,H4,L5,L7,L6,v7,z7,A0,z8,f7,M1,O4,O3,L2,H3,Q1,L3,n8,E1,E2,w7,D9,i7,r6,i6,r7,f8,J5,N1,N2,y8,y9,F4,F3,D1] using m50
    · rw [hp] at hRj
      exact a5q (res:=[.c 8 true 5]) hRj hm
    · rw [hp] at hRj
      simp only [] at hRj
      refine b13 t d true e k2 (ns++[nm]) xs ht hk2 hd hx V hV hF2 R _ hRj (fun st' h=>h) (fun r st' h=>h) (fun st' k' x h1 h2 h3 h4=>?_)
      exact LoopNext.mk (k',ns++[nm],xs++[x]) ⟨h2,by simp;omega,by simp;omega,n,by simp;omega,h3⟩ (by simp;omega) h4.le
end Go.Proofs
end
section
namespace Go.Proofs
open Go.PW Go.KP
attribute [local simp] RV.cells RV.one PV.cells PV.solid PV.one N3 b8 O9 P0 RV.ofCells elems PV.killL
variable [GH]
theorem c4y (t:Tx) (obj:Bool) (e:UInt8) (i:Nat) (R:JZ LJson) (hR:R=.err 12 i):a2e Tryz.prog 227 (b26 obj 4 e) (mI t i) pI (oP R) (mI t (zZ R)) (nP R):=by
 refine a4m mixed ok227 mI_id b8v ?_
 unfold ir227 b26
 rw [d9]
 simp [num,tx,mI,N7,b8]
 refine Q8 (id:=900) (by simp [Q4,avOf,N3,tx,num,x4,F1,x6,E9,x7,p9,x5,F0,j5,A1,F8,F9,d8,o0,o9,i8,x8,p8,j4,E8,x1,p7,p6,C9,D0,T4,T5,Option.getD_some,Option.getD_none,B6,q9,l8,C6,l7,l1,C8,l2,C7,C5,C4,G5,u6,l5,C2,t8,l4,C1,B4,C3,u0,B9,k8,t7,C0,G7,G6,B5,B7,l3,B8,u7,l6,A4,j7,B3,B2,B1,G0,s9,j9,A9,s0,j8,A8,A2,B0,s8,A6,j6,r9,A7,G4,G3,A3,r8,k7,A5,t6,k6,I3,I2,J4,I4,I8,I6,I5,J3,I7,I9,J0,J1,J2,y7,y6,x9,K5,K6,F7,F2,r5,D4,v6,J6,q7,O0,K9,J7,M3,M5,M4,O1,O2,H5,H7,H6,H8,H9,L9,v8,L8,D5,D6,D7,w5,T6,E5,w9,N8,N9,G8,K7,K8,Option.map_some,Option.map_none,D8,w6,u9,l9,D2,D3,H0,G9,N0,M9,I1,E6,E7,I0,M6,M7,H1,n7,H2,n0,L4,E4,E3,j3,M2,M8,H4,L5,L7,L6,v7,z7,A0,z8,f7,M1,O4,O3,L2,H3,Q1,L3,n8,E1,E2,w7,D9,i7,r6,i6,r7,f8,J5,N1,N2,y8,y9,F4,F3,D1]) rfl (by omega) rfl (by simp [tx,num,RV.flat]) (a23 t i 12) ?_
 refine a5q (res:=[.c 8 true 5]) hR ?_
 simp [num,tx]
def c2r (obj:Bool):UInt8:=if obj then 125 else 93
def LstI (P:Program) (f:Nat) (t:Tx) (d:Nat) (L:Bool→Nat→JZ LJson):Prop:=∀ o i,i≤t.length→a2e P f (b26 o (4 - (d:Int)) (c2r o)) (mI t i) pI (oP (L o i)) (mI t (zZ (L o i))) (nP (L o i))
theorem c5f {P:Program} {st:St} {Ke:Kx (PV→St→Prop)} {kx:Kx (RV→St→Prop)} {dd f:Nat} {ps:List PV} {obj:Bool} {dp:Int} {e:UInt8} {t:Tx} {i:Nat} {R:JZ LJson}
 (h:a2e P f (b26 obj dp e) (mI t i) pI (oP R) (mI t (zZ R)) (nP R)) (hps:ps=b26 obj dp e) (h0:st.mem 900=.box [.val (tx t),.val (num (i:Int))])
 (hok:∀ x k,R=.ok x k→∀ st':St,(∀ y r,st.env y=.val r→st'.env y=.val r)→(∀ y j o,st.env y=.ptr j o→j < 1000→st'.env y=.ptr j o)→(∀ j cs,j < 1000→j≠900→st.mem j=.box cs→(∀ d,PV.killL d cs=cs)→st'.mem j=.box cs) →
  st'.mem 900=.box [.val (tx t),.val (num (k:Int))]→Ke.k (.val (N6 x)) st')
 (herr:∀ c z,R=.err c z→∀ st':St,st'.mem 900=.box [.val (tx t),.val (num (z:Int))]→kx.k (flt c) st'):KC P st dd f ps (Ke:=Ke) (kx:=kx):=by
 have hAL:AL [(900,900)]:=⟨by simp,by simp,fun e he=>by simp only [List.mem_cons,List.not_mem_nil,or_false] at he;subst he;simp only;omega⟩
 have i0:ioA [(900,900)] 900=900:=rfl
 have lv:∀ {i} x,(mI t i x).live=true→x=900:=fun {i} x hx=>by
  unfold mI at hx
  by_cases e0:x=900
  · exact e0
  · simp [e0,MObj.live] at hx
 have kk:∀ j,j < 1000000000→koA [(900,900)] j=if j=900 then some 900 else none:=fun j hj=>by
  unfold koA alB alB
  by_cases e0:j=900
  · simp [e0]
  · simp [e0];omega
 refine b7t (l:=[(900,900)]) pI hAL h (by rw [hps];simp [b26,PV.ren,PV.renL,i0]) (fun j hj=>?_) (fun e he h1 h2=>?_) (fun j cs hj=>?_) (fun j h1 h2=>?_) ?_
 · obtain rfl:=lv j hj
   rw [i0,h0];simp [mI,MObj.ren,PV.renL,PV.ren]
 · simp only [List.mem_cons,List.not_mem_nil,or_false] at he
   subst he
   exact ⟨rfl,rfl⟩
 · obtain rfl:=lv j (by rw [hj];rfl)
   rw [i0];omega
 · obtain rfl:=lv j h1
   simp [mI,MObj.kind]
 · have e1:∀ (st':St),st'=⟨fun x=>(st.env x).kill (kilA [(900,900)] pI),a6m st [(900,900)] pI (mI t (zZ R))⟩→(∀ y r,st.env y=.val r→st'.env y=.val r)∧(∀ y j o,st.env y=.ptr j o→j < 1000→st'.env y=.ptr j o)∧(∀ j cs,j < 1000→j≠900→st.mem j=.box cs→(∀ d,PV.killL d cs=cs)→st'.mem j=.box cs)∧st'.mem 900=.box [.val (tx t),.val (num ((zZ R:Nat):Int))]:=fun st' hst=>by
    subst hst
    refine ⟨fun x r hx=>by simp only [hx,PV.kill],fun x j o hx hj=>?_,fun j cs hj q0 hm hcs=>?_,?_⟩
    · simp only [hx,PV.kill]
      unfold kilA a3t
      rw [kk j (by omega)]
      by_cases e0:j=900
      · simp [e0,pI]
      · rw [if_neg e0];simp
    · show a6m st [(900,900)] pI (mI t (zZ R)) j=_
      unfold a6m a2u
      rw [kk j (by omega),if_neg q0]
      simp only [hm,MObj.kill,hcs]
    · show a6m st [(900,900)] pI (mI t (zZ R)) 900=_
      unfold a6m a2u
      rw [kk 900 (by omega),if_pos rfl]
      simp [mI,MObj.ren,PV.renL,PV.ren]
   obtain ⟨f1,f2,f3,f4⟩:=e1 _ rfl
   cases R with
   | ok x k=>exact hok x k rfl _ f1 f2 f3 f4
   | err c z=>exact c32 (herr c z rfl _ f4)
def a6u (t:Tx) (L:Bool→Nat→JZ LJson) (i:Nat):JZ LJson:=if O7 t jnull (f5 t i) then .ok (.mk 1 0 [] [] []) (f5 t i+4)
 else if O7 t jtrue (f5 t i) then .ok (.mk 2 1 [] [] []) (f5 t i+4)
 else if O7 t jfalse (f5 t i) then .ok (.mk 2 0 [] [] []) (f5 t i+5)
 else if O7 t [91] (f5 t i) then L false (f5 t i+1)
 else if O7 t [123] (f5 t i) then L true (f5 t i+1)
 else if O7 t [34] (f5 t i) then (match a0u t (f5 t i) with | .err c z=>.err c z | .ok v k=>.ok (.mk 4 0 v [] []) k)
 else (match b22 t (f5 t i) with | .err c z=>.err c z | .ok n k=>.ok (.mk 3 n [] [] []) k)
def PL (t:Tx):Nat→Bool→Nat→JZ LJson
 | 0,_,i=>.err 12 i
 | d+1,o,i=>pmk (obI o) (a9n (a66 t d) t o (c2r o) i)
theorem c3q (t:Tx):∀ d i,a66 t d i=a6u t (PL t d) i
 | 0,i=>by unfold a66 a6u;rfl
 | d+1,i=>by unfold a66 a6u;rfl
theorem a29 {t:Tx} {R:JZ LJson} {i:Nat} {x:LJson} {st:St} (hR:R=.ok x i) (e4:st.env 4=.ptr 4 0) (m0:st.mem 900=.box [.val (tx t),.val (num (i:Int))])
 (m4:∃ cs,st.mem 4=.box cs∧(PV.plL (PV.frzL (R8 st fun _=>true) cs))=[.val (num x.kind),.val (num x.num),.val (tx x.text),.val (.list 1 (x.names.map tx)),.val (.list 5 (x.items.map N6))]) :
 a45 [.c 4 true 5] (oZ (fun x=>.val (N6 x)) R) [ri t (zZ R)] .ret st:=by
 subst hR
 obtain ⟨cs,hm,hcs⟩:=m4
 show a45 [.c 4 true 5] (.inl (.val (N6 x))) [ri t i] .ret st
 rw [U2]
 refine ⟨?_,by simp [ri,m0]⟩
 obtain ⟨k,n,tt,ns,is⟩:=x
 have h4:st.fin.mem 4=.box (PV.plL (PV.frzL (R8 st fun _=>true) cs)):=by
  simp only [St.fin,St.freeze,hm,MObj.pl]
 have h5:st.fin.env 4=.ptr 4 0:=by simp [J7,e4,PV.frz,PV.pl]
 simp only [R1,a12,h5,h4,hcs]
 simp [N4,O9,b8,LJson.kind,LJson.num,LJson.text,LJson.names,LJson.items]
theorem a7o {res:List Rs} {t:Tx} {R:JZ LJson} {c:Int} {z:Nat} {st:St} (hR:R=.err c z) (m0:st.mem 900=.box [.val (tx t),.val (num (z:Int))]):a45 res (oZ (fun x=>.val (N6 x)) R) [ri t (zZ R)] (.pan (flt c)) st:=by
 subst hR
 show a45 res (.inr (flt c)) [ri t z] (.pan (flt c)) st
 rw [c5q]
 exact ⟨rfl,by simp [ri,m0]⟩
theorem pnum_le {t:Tx} {i:Nat} (hi:i≤t.length) {n:Int} {k:Nat} (h:b22 t i=.ok n k):k≤t.length:=by
 unfold b22 at h
 split at h
 · cases h
 · split at h
   · cases h;exact (a77 hi).2
   · cases h
theorem b8h {t:Tx} {i:Nat} {v:Tx} {k:Nat} (h:a0u t i=.ok v k):k≤t.length:=by
 have:=a4s t i
 rw [h] at this
 exact (a1e this.symm).2.2
theorem c3r {t:Tx} {L:Bool→Nat→JZ LJson} (hL:∀ o i x k,L o i=.ok x k→k≤t.length) {i:Nat} (hi:i≤t.length) {x:LJson} {k:Nat} (h:a6u t L i=.ok x k):k≤t.length:=by
 have hk:=S4 hi
 unfold a6u at h
 split at h
 · rename_i hw;cases h;rcases W8 hw with h | h;exact h;cases h
 split at h
 · rename_i hw;cases h;rcases W8 hw with h | h;exact h;cases h
 split at h
 · rename_i hw;cases h;rcases W8 hw with h | h;exact h;cases h
 split at h
 · exact hL _ _ _ _ h
 split at h
 · exact hL _ _ _ _ h
 split at h
 · split at h
   · cases h
   · rename_i hq;cases h;exact b8h hq
 · split at h
   · cases h
   · rename_i hq;cases h;exact pnum_le hk hq
theorem b7a (t:Tx) (d:Nat) (L:Bool→Nat→JZ LJson) (hL:LstI Tryz.prog 227 t d L) (hLb:∀ o i x k,L o i=.ok x k→k≤t.length) (ht:t.length≤1048576) (hd:d≤4):ValI Tryz.prog 180 t d (a6u t L):=fun i hi=>by
 refine ⟨?_,fun x k h=>c3r hLb hi h⟩
 refine c5s ?_
 obtain ⟨R,hR⟩:∃ R,a6u t L i=R:=⟨_,rfl⟩
 rw [hR]
 refine S3 mixed ok180 rfl (fun p hp ι=>by cases R<;>cases hp;rfl) ?_
 have hb:=a6e t i hi ht
 have hk:=S4 hi
 unfold a6u at hR
 obtain ⟨k,hke⟩:∃ k,f5 t i=k:=⟨_,rfl⟩
 rw [hke] at hb hk hR
 have hw:=fun (w:Tx) (h:w.length≤10)=>a8b t w k hk ht h
 have h1:=hw jnull (by simp [jnull])
 have h2:=hw jtrue (by simp [jtrue])
 have h3:=hw jfalse (by simp [jfalse])
 have h4:=hw [91] (by simp)
 have h5:=hw [123] (by simp)
 have hP:=a5y (t.drop k) [34]
 rw [a1q] at hP
 have hQ:=b7b t k hk ht
 have hN:=i_whole t k hk ht
 obtain ⟨Z,hZ⟩:∃ Z,a45 [.c 4 true 5] (oZ (fun x=>.val (N6 x)) R) [ri t (zZ R)]=Z:=⟨_,rfl⟩
 rw [hZ]
 unfold ri at hb h1 h2 h3 h4 h5
 unfold ir180
 rw [d9]
 simp [w8,J8,P1,b9,q8,num,tx,b8,ri,N7]
 refine F5 (id:=900) rfl rfl (by omega) rfl rfl hb ?_
 simp [num,tx,PV.shift,PV.shiftL,b8]
 refine F5 (id:=900) rfl rfl (by omega) rfl rfl h1 ?_
 by_cases b1:O7 t jnull k=true
 · rw [if_pos b1] at hR
   rw [b1]
   simp [num,tx,PV.shift,PV.shiftL,b8]
   rw [← hZ]
   refine a29 hR.symm ?_ ?_ ⟨[.val (num 1),.val (num 0),.val (tx []),.emp 1,.emp 5],by simp [num,tx,N7],?_⟩
   · simp
   · simp [num,tx,jnull]
   · simp [PV.frzL,PV.frz,PV.plL,PV.pl,R8,okId,num,tx,LJson.kind,LJson.num,LJson.text,LJson.names,LJson.items,N7]
 have b1':O7 t jnull k=false:=by simpa using b1
 rw [if_neg b1] at hR
 rw [b1']
 simp [num,tx,PV.shift,PV.shiftL,b8]
 refine F5 (id:=900) rfl rfl (by omega) rfl rfl h2 ?_
 by_cases b2:O7 t jtrue k=true
 · rw [if_pos b2] at hR
   rw [b2]
   simp [num,tx,PV.shift,PV.shiftL,b8]
   rw [← hZ]
   refine a29 hR.symm ?_ ?_ ⟨[.val (num 2),.val (num 1),.val (tx []),.emp 1,.emp 5],by simp [num,tx,N7],?_⟩
   · simp
   · simp [num,tx,jtrue]
   · simp [PV.frzL,PV.frz,PV.plL,PV.pl,R8,okId,num,tx,LJson.kind,LJson.num,LJson.text,LJson.names,LJson.items,N7]
 have b2':O7 t jtrue k=false:=by simpa using b2
 rw [if_neg b2] at hR
 rw [b2']
 simp [num,tx,PV.shift,PV.shiftL,b8]
 refine F5 (id:=900) rfl rfl (by omega) rfl rfl h3 ?_
 by_cases b3:O7 t jfalse k=true
 · rw [if_pos b3] at hR
   rw [b3]
   simp [num,tx,PV.shift,PV.shiftL,b8]
   rw [← hZ]
   refine a29 hR.symm ?_ ?_ ⟨[.val (num 2),.val (num 0),.val (tx []),.emp 1,.emp 5],by simp [num,tx,N7],?_⟩
   · simp
   · simp [num,tx,jfalse]
   · simp [PV.frzL,PV.frz,PV.plL,PV.pl,R8,okId,num,tx,LJson.kind,LJson.num,LJson.text,LJson.names,LJson.items,N7]
 have b3':O7 t jfalse k=false:=by simpa using b3
 rw [if_neg b3] at hR
 rw [b3']
 simp [num,tx,PV.shift,PV.shiftL,b8]
 refine F5 (id:=900) rfl rfl (by omega) rfl rfl h4 ?_
 by_cases b4:O7 t [91] k=true
 · rw [if_pos b4] at hR
   rw [b4]
   have hl:=hL false (k+1) (by have:=(a1d b4).1;omega)
   rw [hR] at hl
   simp [num,tx,PV.shift,PV.shiftL,b8]
   refine c5f hl (by simp [b26,num,tx,c2r,obI,N7]) (by simp [num,tx]) (fun x k2 hx st' q1 q2 q3 q4=>?_) (fun c z hc st' q4=>?_)
   · obtain ⟨a1,a2,a3,a4,a5⟩:=x
     rw [N4]
     have p4:=q2 4 4 0 (by simp) (by omega)
     have b4:=q3 4 [.val (num 0),.val (num 0),.val (tx []),.emp 1,.emp 5] (by omega) (by omega) (by simp [num,tx,N7]) (fun d=>by simp [PV.killL,PV.kill])
     simp [num,tx,p4,b4,b8]
     rw [← hZ]
     refine a29 hx ?_ ?_ ⟨[.val (num a1),.val (num a2),.val (tx a3),.val (.list 1 (a4.map tx)),.val (.list 5 (a5.map N6))],by simp [num,tx,N7],?_⟩
     · simp [p4]
     · simp [num,tx,q4]
     · simp [PV.frzL,PV.frz,PV.plL,PV.pl,R8,okId,num,tx,LJson.kind,LJson.num,LJson.text,LJson.names,LJson.items,N7]
   · show Z _ _
     rw [← hZ]
     exact a7o hc q4
 have b4':O7 t [91] k=false:=by simpa using b4
 rw [if_neg b4] at hR
 rw [b4']
 simp [num,tx,PV.shift,PV.shiftL,b8]
 refine F5 (id:=900) rfl rfl (by omega) rfl rfl h5 ?_
 by_cases b5:O7 t [123] k=true
 · rw [if_pos b5] at hR
   rw [b5]
   have hl:=hL true (k+1) (by have:=(a1d b5).1;omega)
   rw [hR] at hl
   simp [num,tx,PV.shift,PV.shiftL,b8]
   refine c5f hl (by simp [b26,num,tx,c2r,obI,N7]) (by simp [num,tx]) (fun x k2 hx st' q1 q2 q3 q4=>?_) (fun c z hc st' q4=>?_)
   · obtain ⟨a1,a2,a3,a4,a5⟩:=x
     rw [N4]
     have p4:=q2 4 4 0 (by simp) (by omega)
     have b4:=q3 4 [.val (num 0),.val (num 0),.val (tx []),.emp 1,.emp 5] (by omega) (by omega) (by simp [num,tx,N7]) (fun d=>by simp [PV.killL,PV.kill])
     simp [num,tx,p4,b4,b8]
     rw [← hZ]
     refine a29 hx ?_ ?_ ⟨[.val (num a1),.val (num a2),.val (tx a3),.val (.list 1 (a4.map tx)),.val (.list 5 (a5.map N6))],by simp [num,tx,N7],?_⟩
     · simp [p4]
     · simp [num,tx,q4]
     · simp [PV.frzL,PV.frz,PV.plL,PV.pl,R8,okId,num,tx,LJson.kind,LJson.num,LJson.text,LJson.names,LJson.items,N7]
   · show Z _ _
     rw [← hZ]
     exact a7o hc q4
 have b5':O7 t [123] k=false:=by simpa using b5
 rw [if_neg b5] at hR
 rw [b5']
 simp [num,tx,PV.shift,PV.shiftL,b8,b7,P9,hk]
 refine Q6 rfl rfl (.inl rfl) hP ?_
 by_cases b6:O7 t [34] k=true
 · rw [if_pos b6] at hR
   rw [b6]
   simp [num,tx,PV.shift,PV.shiftL,b8]
   cases hq:a0u t k with
   | err c z=>
    rw [hq] at hQ hR
    unfold JF ri at hQ
    simp only [] at hQ hR
    refine Q8 (id:=900) rfl rfl (by omega) rfl (by simp [tx,num,RV.flat]) hQ ?_
    show Z _ _
    rw [← hZ]
    exact a7o hR.symm (by simp [num,tx])
   | ok v k2=>
    rw [hq] at hQ hR
    unfold JF ri at hQ
    simp only [] at hQ hR
    refine F5 (id:=900) rfl rfl (by omega) rfl rfl hQ ?_
    simp [num,tx,PV.shift,PV.shiftL,b8]
    rw [← hZ]
    refine a29 hR.symm ?_ ?_ ⟨[.val (num 4),.val (num 0),.val (tx v),.emp 1,.emp 5],by simp [num,tx,N7],?_⟩
    · simp
    · simp [num,tx]
    · simp [PV.frzL,PV.frz,PV.plL,PV.pl,R8,okId,num,tx,LJson.kind,LJson.num,LJson.text,LJson.names,LJson.items,N7]
 have b6':O7 t [34] k=false:=by simpa using b6
 rw [if_neg b6] at hR
 rw [b6']
 simp [num,tx,PV.shift,PV.shiftL,b8]
 cases hq:b22 t k with
 | err c z=>
  rw [hq] at hN hR
  unfold JF ri at hN
  simp only [] at hN hR
  refine Q8 (id:=900) rfl rfl (by omega) rfl (by simp [tx,num,RV.flat]) hN ?_
  show Z _ _
  rw [← hZ]
  exact a7o hR.symm (by simp [num,tx])
 | ok n k2=>
  rw [hq] at hN hR
  unfold JF ri at hN
  simp only [] at hN hR
  rw [N4] at hN
  refine F5 (id:=900) rfl rfl (by omega) rfl rfl hN ?_
  simp [num,tx,PV.shift,PV.shiftL,b8]
  rw [← hZ]
  refine a29 hR.symm ?_ ?_ ⟨[.val (num 3),.val (num n),.val (tx []),.val (.list 1 []),.val (.list 5 [])],by simp [num,tx,N7],?_⟩
  · simp
  · simp [num,tx]
  · simp [PV.frzL,PV.frz,PV.plL,PV.pl,R8,okId,num,tx,LJson.kind,LJson.num,LJson.text,LJson.names,LJson.items,N7]
theorem PL_le (t:Tx):∀ d o i x k,PL t d o i=.ok x k→k≤t.length:=by
 intro d o i x k h
 cases d with
 | zero=>cases h
 | succ d=>
  have h1:=congrArg JZ.jr h
  unfold PL at h1
  rw [b8k,b6b (c0k t d)] at h1
  obtain ⟨v,h2,_⟩:=b85 h1
  exact (b1z (g:=fun _=>True) (fun i x k hx=>⟨trivial,(c0v t d i x k hx).2⟩) h2).2.2.2
theorem b69 (t:Tx) (ht:t.length≤1048576):∀ d,d≤4→ValI Tryz.prog 180 t d (a66 t d)
 | 0,h=>by
  rw [show a66 t 0=a6u t (PL t 0) from funext (c3q t 0)]
  exact b7a t 0 (PL t 0) (fun o i hi=>c4y t o (c2r o) i _ rfl) (PL_le t 0) ht (by omega)
 | d+1,h=>by
  rw [show a66 t (d+1)=a6u t (PL t (d+1)) from funext (c3q t (d+1))]
  refine b7a t (d+1) (PL t (d+1)) (fun o i hi=>?_) (PL_le t (d+1)) ht h
  have:=i_items t d (a66 t d) (b69 t ht d (by omega)) ht (by omega) o (c2r o) i hi _ rfl
  rw [show (4 - ((d+1:Nat):Int))=3 - (d:Int) by omega]
  exact this
end Go.Proofs
end
