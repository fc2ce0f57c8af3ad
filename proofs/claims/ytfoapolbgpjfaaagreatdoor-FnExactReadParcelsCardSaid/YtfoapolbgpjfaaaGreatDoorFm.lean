/- Fm: merged out of KXag, KXah, KXai, KXaj. -/
import Derived.Test.YtfoapolbgpjfaaaGreatDoorFk
import Derived.Test.YtfoapolbgpjfaaaGreatDoorAc
import Derived.Test.YtfoapolbgpjfaaaGreatDoorEa
import Derived.Test.YtfoapolbgpjfaaaGreatDoorEc
import Derived.Test.YtfoapolbgpjfaaaGreatDoorBa
set_option linter.unusedSectionVars false
set_option linter.unusedSimpArgs false
set_option linter.unusedVariables false
set_option maxRecDepth 100000
section
namespace Go.Proofs
open Go.PW Go.KP
attribute [local simp] RV.cells RV.one PV.cells PV.solid PV.one L2 a6 M6 M8 RV.ofCells elems PV.killL
variable [GH]
def ri (t:Tx) (i:Nat):List RV:=[tx t,num (i:Int)]
def flt (c:Int):RV:=.ifc 191 (num c)
def JF (P:Program) (f:Nat) (vs:List AV) (t:Tx) (i:Nat) {α:Type} (g:α→PV):JZ α→Prop
 | .ok x k=>v7 P f (.box (ri t i) :: vs) (.ret (g x) []) [ri t k]
 | .err c z=>v7 P f (.box (ri t i) :: vs) (.pan (flt c)) [ri t z]
theorem b3z {P:Program} {st:St} {d:Nat} {x:Opd} {Ke:Kx (PV→St→Prop)} {kx:Kx (RV→St→Prop)}:SE P st d (.pan x) (Ke:=Ke) (kx:=kx)=match ev st x with
 | .val (.ifc t r)=>kx.k (.ifc t r) st
 | _=>False:=by rfl
theorem a04 (t:Tx) (z e:Int):v7 Tryz.prog 182 [.box [tx t,num z],.val (num e)] (.pan (flt e)) [[tx t,num z]]:=by
 refine O5 (o:=.inr (flt e)) mixed ok182 rfl (fun p hp ι=>by cases hp) ?_
 unfold ir182
 rw [b7]
 simp [f5,D5,L6,a7,c8,num,flt,tx,b3z]
theorem a30 (t:Tx) (i:Nat) (hi:i≤t.length) (ht:t.length≤1048576):v7 Tryz.prog 181 [.box (ri t i)] (.ret (.tup []) []) [ri t (b8 t i)]:=by
 refine O5 (o:=.inl (.tup [])) mixed ok181 rfl (fun p hp ι=>by cases hp;rfl) ?_
 unfold ir181 ri
 rw [b7]
 simp [f5,D5,L6,a7,c8,num]
 refine O8 (X:=Nat) (fun j=>⟨P4 [(0,.ptr 900 0)],O7 [(900,.box [.val (tx t),.val (num (j:Int))])]⟩) (fun j=>j≤t.length∧b8 t j=b8 t i) (fun j=>t.length - j) i (Le.mk _ _ ?_ ?_) ⟨hi,rfl⟩ ?_
 · simp [num]
 · simp [num,tx]
 · rintro j ⟨hj,hs⟩
   simp [num,tx,a8]
   by_cases h1:j < t.length
   · obtain ⟨x,hx⟩:∃ x,t[j]=x:=⟨_,rfl⟩
     have hbt:U4 (bs t) j=(x.toNat:Int):=by rw [L5,a1u t j 0 h1,hx]
     have wi:IntKind.i64.wrap ((j:Int)+1)=((j+1:Nat):Int):=by rw [wrap_i64 (by omega) (by omega)];omega
     have hI:=a3q [32,9,10,13] x
     simp only [tx,rvb,← u9] at hI
     simp [num,h1,hbt,a8]
     refine S5 rfl rfl (.inl rfl) hI ?_
     by_cases hw:x.toNat=32∨x.toNat=9∨x.toNat=10∨x.toNat=13
     · have hj1:b8 t (j+1)=b8 t i:=by rw [← hs,← b21 h1 (by unfold jws;rw [hx];exact decide_eq_true hw)]
       have hm:x∈[(32:UInt8),9,10,13]:=by
        have u:∀ y:UInt8,x.toNat=y.toNat→x=y:=fun y h=>UInt8.toNat_inj.1 h
        rcases hw with e | e | e | e
        · rw [u 32 e];simp
        · rw [u 9 e];simp
        · rw [u 10 e];simp
        · rw [u 13 e];simp
       rw [if_pos hm]
       have h0:(0:Int)≤(X2 [32,9,10,13] x:Int):=by omega
       simp [num,h1,hbt,a8,h0]
       refine LoopNext.mk (j+1) ⟨h1,hj1⟩ (by omega) (Le.mk _ _ ?_ ?_)
       · simp
       · simp [wi,num,tx]
     · have hj1:b8 t i=j:=by rw [← hs];exact b22 h1 (by unfold jws;rw [hx];exact decide_eq_false hw)
       have hm:¬ x∈[(32:UInt8),9,10,13]:=by
        intro h
        simp only [List.mem_cons,List.not_mem_nil,or_false] at h
        rcases h with rfl | rfl | rfl | rfl<;>exact hw (by decide)
       rw [if_neg hm]
       simp [num,h1,hbt,a8,O2,Q5,hj1,tx]
   · have e:j=t.length:=by omega
     subst e
     have hj1:b8 t i=t.length:=by rw [← hs];exact b0i (Nat.le_refl _)
     simp [num,h1,O2,Q5,hj1,tx]
theorem a5p (t w:Tx) (i:Nat) (hi:i≤t.length) (ht:t.length≤1048576) (hw:w.length≤10) :
 v7 Tryz.prog 226 [.box (ri t i),.val (tx w)] (.ret (.val (.bool (L4 t w i))) []) [ri t (if L4 t w i then i+w.length else i)]:=by
 obtain ⟨r,hr⟩:∃ r,L4 t w i=r:=⟨_,rfl⟩
 have hP:=a62 (t.drop i) w
 rw [Z3,hr] at hP
 rw [hr]
 refine O5 (o:=.inl (.val (.bool r))) mixed ok226 rfl (fun p hp ι=>by cases hp;rfl) ?_
 unfold ir226 ri
 rw [b7]
 have wi:IntKind.i64.wrap ((i:Int)+(w.length:Int))=((i+w.length:Nat):Int):=by rw [wrap_i64 (by omega) (by omega)];omega
 simp [f5,D5,L6,a7,c8,num,tx,a8,Q8,hi]
 refine S5 rfl rfl (.inl rfl) hP ?_
 cases r with
 | true=>
  simp [num,tx,a8,wi]
 | false=>
  simp [num,tx,a8,wi]
theorem b1z (t w:Tx) (i:Nat) (hi:i≤t.length) (ht:t.length≤1048576) (hw:w.length≤10) :
 JF Tryz.prog 256 [.val (tx w)] t i (fun _:Unit=>.tup []) (if L4 t w i then .ok () (i+w.length) else .err 3 i):=by
 have hT:=a5p t w i hi ht hw
 have hf:=a04 t i 3
 unfold ri at hT
 by_cases hj:L4 t w i=true
 · rw [hj] at hT
   rw [if_pos hj]
   refine O5 (o:=.inl (.tup [])) mixed ok256 rfl (fun p hp ι=>by cases hp;rfl) ?_
   unfold ir256 ri
   rw [b7]
   simp [f5,D5,L6,a7,c8,num,tx,a8,a6]
   refine n8 (id:=900) rfl rfl (by omega) rfl rfl hT ?_
   simp [num,tx,PV.shift,PV.shiftL,O2,Q5]
 · have hj':L4 t w i=false:=by simpa using hj
   rw [hj'] at hT
   rw [if_neg hj]
   refine O5 (o:=.inr (flt 3)) mixed ok256 rfl (fun p hp ι=>by cases hp) ?_
   unfold ir256 ri
   rw [b7]
   simp [f5,D5,L6,a7,c8,num,tx,a8,a6]
   refine n8 (id:=900) rfl rfl (by omega) rfl rfl hT ?_
   simp [num,tx,PV.shift,PV.shiftL,a6]
   refine N7 (id:=900) rfl rfl (by omega) rfl (by simp [tx,num,RV.flat]) hf ?_
   simp [flt,num,tx]
theorem b4y (t:Tx) (i:Nat) (hi:i≤t.length) (ht:t.length≤1048576) :
 JF Tryz.prog 258 [] t i (fun c:UInt8=>.val (rvb c)) (if i < t.length then .ok (t.getD i 0) (i+1) else .err 3 i):=by
 by_cases h1:i < t.length
 · rw [if_pos h1]
   obtain ⟨x,hx⟩:∃ x,t.getD i 0=x:=⟨_,rfl⟩
   have hbt:U4 (bs t) i=(x.toNat:Int):=by rw [L5,hx]
   have h2:¬ (i:Int)=(t.length:Int):=by omega
   have wi:IntKind.i64.wrap ((i:Int)+1)=(i:Int)+1:=wrap_i64 (by omega) (by omega)
   have wj:IntKind.i64.wrap (i:Int)=(i:Int):=wrap_i64 (by omega) (by omega)
   have h3:(i:Int) < (t.length:Int):=by omega
   rw [hx]
   refine O5 (o:=.inl (.val (rvb x))) mixed ok258 rfl (fun p hp ι=>by cases hp;rfl) ?_
   unfold ir258 ri
   rw [b7]
   simp [f5,D5,L6,a7,c8,num,tx,a8,a6,h1,h2,h3,wi,wj,hbt,rvb]
 · have h2:(i:Int)=(t.length:Int):=by omega
   have hf:=a04 t i 3
   rw [if_neg h1]
   refine O5 (o:=.inr (flt 3)) mixed ok258 rfl (fun p hp ι=>by cases hp) ?_
   unfold ir258 ri
   rw [b7]
   simp [f5,D5,L6,a7,c8,num,tx,a8,a6,h2]
   rw [h2] at hf
   refine N7 (id:=900) rfl rfl (by omega) rfl (by simp [tx,num,RV.flat]) hf ?_
   simp [flt,num,tx,h2]
def b7l:Tx:=[48,49,50,51,52,53,54,55,56,57,97,98,99,100,101,102]
def b2w (c:UInt8):UInt8:=if 65≤c.toNat∧c.toNat≤70 then c+32 else c
theorem b7k (c:UInt8):(if b2w c∈b7l then (X2 b7l (b2w c):Int) else -1)=match a1h c with | some n=>(n:Int) | none=>-1:=by
 have h:∀ n,n < 256→(if b2w (UInt8.ofNat n)∈b7l then (X2 b7l (b2w (UInt8.ofNat n)):Int) else -1)=match a1h (UInt8.ofNat n) with | some n=>(n:Int) | none=>-1:=by decide
 have e:UInt8.ofNat c.toNat=c:=UInt8.ofNat_toNat
 have:=h c.toNat c.toNat_lt
 rw [e] at this
 exact this
theorem b6k (t:Tx) (i:Nat) (hi:i≤t.length) (ht:t.length≤1048576):JF Tryz.prog 259 [] t i (fun n:Nat=>.val (.int .u8 (n:Int))) (a0x t i):=by
 have hN:=b4y t i hi ht
 unfold a0x
 by_cases h1:i < t.length
 · rw [if_pos h1] at hN ⊢
   obtain ⟨x,hx⟩:∃ x,t.getD i 0=x:=⟨_,rfl⟩
   rw [hx] at hN ⊢
   have h256:=x.toNat_lt
   have w0:IntKind.i64.wrap (x.toNat:Int)=(x.toNat:Int):=wrap_i64 (by omega) (by omega)
   have hW:=Z5 (x.toNat:Int) 65 70
   have hF:=b7k x
   have hI:=a3q b7l (b2w x)
   rw [hF] at hI
   simp only [tx,rvb,← u9,b7l] at hI
   have hlow:(IntKind.u8.wrap ((x.toNat:Int)+32)=((b2w x).toNat:Int)∧(65≤x.toNat∧x.toNat≤70))∨((b2w x)=x∧¬ (65≤x.toNat∧x.toNat≤70)):=by
    unfold b2w
    by_cases h:65≤x.toNat∧x.toNat≤70
    · left
      rw [if_pos h]
      refine ⟨?_,h⟩
      have:(x+32).toNat=x.toNat+32:=by rw [UInt8.toNat_add];have e:(32:UInt8).toNat=32:=rfl;omega
      rw [this,X5 (by omega) (by omega)];omega
    · right;rw [if_neg h];exact ⟨rfl,h⟩
   cases hh:a1h x with
   | none=>
    rw [hh] at hI
    simp only []
    refine O5 (o:=.inr (flt 3)) mixed ok259 rfl (fun p hp ι=>by cases hp) ?_
    have hf:=a04 t (i+1:Nat) 3
    unfold ir259 ri
    unfold JF ri at hN
    simp only [] at hN
    rw [b7]
    simp [f5,D5,L6,a7,c8,num,tx,a8,a6]
    refine n8 (id:=900) rfl rfl (by omega) rfl rfl hN ?_
    simp [num,tx,PV.shift,PV.shiftL,rvb,w0]
    refine v6 rfl rfl (.inl rfl) hW ?_
    rcases hlow with ⟨e1,e2⟩ | ⟨e1,e2⟩
    · have e3:(65:Int)≤(x.toNat:Int)∧(x.toNat:Int)≤70:=by omega
      rw [decide_eq_true e3]
      simp [num,tx,e1]
      refine v6 rfl rfl (.inl rfl) hI ?_
      simp [num,tx]
      refine N7 (id:=900) rfl rfl (by omega) rfl (by simp [tx,num,RV.flat]) hf ?_
      simp [flt,num,tx]
    · have e3:¬ ((65:Int)≤(x.toNat:Int)∧(x.toNat:Int)≤70):=by omega
      rw [decide_eq_false e3]
      rw [e1] at hI
      simp [num,tx]
      refine v6 rfl rfl (.inl rfl) hI ?_
      simp [num,tx]
      refine N7 (id:=900) rfl rfl (by omega) rfl (by simp [tx,num,RV.flat]) hf ?_
      simp [flt,num,tx]
   | some n=>
    rw [hh] at hI
    simp only []
    have hn:=a5q hh
    have wn:IntKind.u8.wrap (n:Int)=(n:Int):=X5 (by omega) (by omega)
    have hn0:¬ (n:Int) < 0:=by omega
    refine O5 (o:=.inl (.val (.int .u8 (n:Int)))) mixed ok259 rfl (fun p hp ι=>by cases hp;rfl) ?_
    unfold ir259 ri
    unfold JF ri at hN
    simp only [] at hN
    rw [b7]
    simp [f5,D5,L6,a7,c8,num,tx,a8,a6]
    refine n8 (id:=900) rfl rfl (by omega) rfl rfl hN ?_
    simp [num,tx,PV.shift,PV.shiftL,rvb,w0]
    refine v6 rfl rfl (.inl rfl) hW ?_
    rcases hlow with ⟨e1,e2⟩ | ⟨e1,e2⟩
    · have e3:(65:Int)≤(x.toNat:Int)∧(x.toNat:Int)≤70:=by omega
      rw [decide_eq_true e3]
      simp [num,tx,e1]
      refine v6 rfl rfl (.inl rfl) hI ?_
      simp [num,tx,hn0,wn]
    · have e3:¬ ((65:Int)≤(x.toNat:Int)∧(x.toNat:Int)≤70):=by omega
      rw [decide_eq_false e3]
      rw [e1] at hI
      simp [num,tx]
      refine v6 rfl rfl (.inl rfl) hI ?_
      simp [num,tx,hn0,wn]
 · rw [if_neg h1] at hN ⊢
   refine O5 (o:=.inr (flt 3)) mixed ok259 rfl (fun p hp ι=>by cases hp) ?_
   unfold ir259 ri
   unfold JF ri at hN
   simp only [] at hN
   rw [b7]
   simp [f5,D5,L6,a7,c8,num,tx,a8,a6]
   refine N7 (id:=900) rfl rfl (by omega) rfl (by simp [tx,num,RV.flat]) hN ?_
   simp [flt,num,tx]
end Go.Proofs
end
section
namespace Go.Proofs
open Go.PW Go.KP
attribute [local simp] RV.cells RV.one PV.cells PV.solid PV.one L2 a6 M6 M8 RV.ofCells elems PV.killL
variable [GH]
def oZ {α:Type} (g:α→PV):JZ α→PV ⊕ RV
 | .ok x _=>.inl (g x)
 | .err c _=>.inr (flt c)
def zZ {α:Type}:JZ α→Nat
 | .ok _ k=>k
 | .err _ z=>z
theorem c0c {P:Program} {f:Nat} {vs:List AV} {t:Tx} {i:Nat} {α:Type} {g:α→PV} {r:JZ α} (h:v7 P f (.box (ri t i) :: vs) (b8v (oZ g r)) [ri t (zZ r)]):JF P f vs t i g r:=by cases r<;>exact h
theorem b7q (y:UInt8):(y∈[(98:UInt8),102,110,114,116]∧∃ (k:Nat) (v:UInt8),X2 [98,102,110,114,116] y=k∧k < 5∧a1t y=some v∧U4 ⟨#[8,12,10,13,9]⟩ k=(v.toNat:Int))∨(y∉[(98:UInt8),102,110,114,116]∧((y=34∨y=92∨y=47)∧a1t y=some y∨¬ (y=34∨y=92∨y=47)∧a1t y=none)):=by
 by_cases h1:y=98
 · subst h1;exact .inl ⟨by simp,0,8,rfl,by omega,rfl,rfl⟩
 by_cases h2:y=102
 · subst h2;exact .inl ⟨by simp,1,12,rfl,by omega,rfl,rfl⟩
 by_cases h3:y=110
 · subst h3;exact .inl ⟨by simp,2,10,rfl,by omega,rfl,rfl⟩
 by_cases h4:y=114
 · subst h4;exact .inl ⟨by simp,3,13,rfl,by omega,rfl,rfl⟩
 by_cases h5:y=116
 · subst h5;exact .inl ⟨by simp,4,9,rfl,by omega,rfl,rfl⟩
 refine .inr ⟨by simp [h1,h2,h3,h4,h5],?_⟩
 by_cases h6:y=34∨y=92∨y=47
 · exact .inl ⟨h6,by unfold a1t;rw [if_pos h6]⟩
 · exact .inr ⟨h6,by unfold a1t;rw [if_neg h6,if_neg h1,if_neg h2,if_neg h3,if_neg h4,if_neg h5]⟩
theorem a97 {x:UInt8} (y:UInt8) (n:Int) (h:x≠y) (hn:(y.toNat:Int)=n):¬ (x.toNat:Int)=n:=fun e=>h (UInt8.toNat_inj.1 (by omega))
theorem b28 (t:Tx) (i:Nat) (hi:i≤t.length) (ht:t.length≤1048576):JF Tryz.prog 229 [] t i (fun v:Tx=>.val (tx v)) (W7 t i):=by
 refine c0c ?_
 obtain ⟨R,hR⟩:∃ R,W7 t i=R:=⟨_,rfl⟩
 rw [hR]
 refine O5 mixed ok229 rfl (fun p hp ι=>by cases R<;>cases hp;rfl) ?_
 have hN:=b1z t [34] i hi ht (by simp)
 unfold W7 at hR
 unfold ir229
 rw [b7]
 simp [f5,D5,L6,a7,c8,num,tx,a6,ri,u9]
 by_cases hq:L4 t [34] i=true
 · rw [if_pos hq] at hR hN
   unfold JF ri at hN
   simp only [] at hN
   have hil:=(Y0 hq).1
   refine n8 (id:=900) rfl rfl (by omega) rfl rfl hN ?_
   simp [num,tx,PV.shift,PV.shiftL,a6]
   refine O8 (X:=Nat×Tx) (fun s=>⟨P4 [(0,.ptr 900 0),(3,.own 8)],O7 [(900,.box [.val (tx t),.val (num (s.1:Int))]),(8,.row 5 1 (s.2.map rvb))]⟩)
    (fun s=>s.1≤t.length∧s.2.length≤s.1∧∃ n,t.length < s.1+n∧a9s t n s.1 s.2=R) (fun s=>t.length - s.1) (i+1,[]) (Le.mk _ _ ?_ ?_) ⟨hil,by simp,t.length+1,by simp;omega,hR⟩ ?_
   · simp [num,PV.kill]
   · simp [num,tx,MObj.kill,PV.kill]
   · rintro ⟨j,out⟩ ⟨hj,ho,n,hn,hR⟩
     simp only [] at hj ho hn hR
     have hX:=b4y t j hj ht
     simp [num,tx,a8,a6]
     by_cases h1:j < t.length
     · rw [if_pos h1] at hX
       obtain ⟨n,rfl⟩:∃ m,n=m+1:=⟨n - 1,by omega⟩
       obtain ⟨x,hx⟩:∃ x,t.getD j 0=x:=⟨_,rfl⟩
       rw [hx] at hX
       unfold JF ri at hX
       simp only [] at hX
       have h256:=x.toNat_lt
       have w0:IntKind.i64.wrap (x.toNat:Int)=(x.toNat:Int):=wrap_i64 (by omega) (by omega)
       have hu8:∀ y∈out,(rvb y).isU8=true:=fun y _=>by simp [rvb,RV.isU8]
       have hbo:=a3r out
       have hf:=fun z e=>a04 t z e
       unfold a9s at hR
       rw [if_pos h1,hx] at hR
       refine n8 (id:=900) rfl rfl (by omega) rfl rfl hX ?_
       simp [num,tx,a8,PV.shift,PV.shiftL,rvb,a6]
       by_cases h34:x=34
       · rw [if_pos h34] at hR
         have e34:(x.toNat:Int)=34:=by subst h34;rfl
         simp [num,tx,a8,e34]
         by_cases h120:120 < out.length
         · rw [if_pos h120] at hR
           have h120':(120:Int) < (out.length:Int):=by omega
           simp [num,tx,a8,h120,h120',a6]
           refine N7 (id:=900) rfl rfl (by omega) rfl (by simp [tx,num,RV.flat]) (hf ((j:Int)+1) 8) ?_
           subst hR
           simp [num,tx,oZ,zZ,ri]
         · rw [if_neg h120] at hR
           have h120':¬ (120:Int) < (out.length:Int):=by omega
           subst hR
           simp [num,tx,a8,h120,h120',a6,oZ,zZ]
           exact ⟨hu8,by rw [hbo],by simp [ri,tx,num]⟩
       · rw [if_neg h34] at hR
         have e34:=a97 (x:=x) 34 34 h34 rfl
         simp [num,tx,a8,e34,w0]
         refine v6 rfl rfl (.inl rfl) (Z5 (x.toNat:Int) 32 126) ?_
         by_cases h92:x=92
         · rw [if_pos h92] at hR
           have e92:(x.toNat:Int)=92:=by subst h92;rfl
           rw [decide_eq_true (show (32:Int)≤(x.toNat:Int)∧(x.toNat:Int)≤126 by omega)]
           simp [num,tx,a8,e92,a6]
           have hX2:=b4y t (j+1) h1 ht
           unfold b8r at hR
           by_cases h2:j+1 < t.length
           · rw [if_pos h2] at hX2 hR
             obtain ⟨y,hy⟩:∃ y,t.getD (j+1) 0=y:=⟨_,rfl⟩
             rw [hy] at hX2 hR
             unfold JF ri at hX2
             simp only [] at hX2
             refine n8 (id:=900) rfl rfl (by omega) rfl rfl hX2 ?_
             simp [num,tx,a8,PV.shift,PV.shiftL,rvb,a6]
             have hI:=a3q [98,102,110,114,116] y
             simp only [tx,rvb,← u9] at hI
             have lnext:∀ (b:UInt8) (k2:Nat),j < k2→k2≤t.length→a9s t n k2 (out++[b])=R→(k2≤t.length∧(out++[b]).length≤k2∧∃ n,t.length < k2+n∧a9s t n k2 (out++[b])=R)∧t.length - k2 < t.length - j:=fun b k2 q1 q2 q3=>⟨⟨q2,by simp;omega,n,by omega,q3⟩,by omega⟩
             rcases b7q y with ⟨e0,k,v,ek,hk5,ej,ev⟩ | ⟨e0,e1⟩
             · rw [if_pos e0,ek] at hI
               rw [ej] at hR
               simp only [] at hR
               refine v6 rfl rfl (.inl rfl) hI ?_
               have kp:(0:Int)≤(k:Int):=by omega
               have hsz:k < (⟨#[8,12,10,13,9]⟩:ByteArray).size:=hk5
               simp [num,tx,a8,kp,ev,hsz,rvb]
               refine ⟨by omega,by omega,?_⟩
               refine LoopNext.mk (j+2,out++[v]) (lnext v (j+2) (by omega) (by omega) hR).1 (lnext v (j+2) (by omega) (by omega) hR).2 (Le.mk _ _ ?_ ?_)
               · simp [num,PV.kill]
               · simp [num,tx,rvb,MObj.kill,PV.kill]
                 try omega
             · rw [if_neg e0] at hI
               refine v6 rfl rfl (.inl rfl) hI ?_
               simp [num,tx,a8,rvb]
               by_cases hu:y=117
               · subst hu
                 rcases e1 with ⟨e2,_⟩ | ⟨_,e3⟩
                 · exact absurd e2 (by decide)
                 rw [e3] at hR
                 simp only [if_true] at hR
                 simp [num,tx,a8,rvb,a6]
                 have hW:=b1z t [48,48] (j+1+1) (by omega) ht (by simp)
                 by_cases hj0:L4 t [48,48] (j+1+1)=true
                 · rw [if_pos hj0] at hW hR
                   unfold JF ri at hW
                   simp only [] at hW
                   have hl:=(a8l _ _).1 hj0
                   have hA:=b6k t (j+1+3) (by omega) ht
                   refine n8 (id:=900) rfl rfl (by omega) rfl rfl hW ?_
                   simp [num,tx,a8,PV.shift,PV.shiftL,rvb,a6]
                   cases ha:a0x t (j+1+3) with
                   | err c z=>
                    rw [ha] at hA hR
                    unfold JF ri at hA
                    simp only [] at hA hR
                    refine N7 (id:=900) rfl rfl (by omega) rfl (by simp [tx,num,RV.flat]) hA ?_
                    subst hR
                    simp [num,tx,oZ,zZ,ri,flt]
                   | ok a k1=>
                    obtain ⟨a1,rfl,a3⟩:=a3w ha
                    have la:=a5q a3
                    have hB:=b6k t (j+1+3+1) (by omega) ht
                    rw [ha] at hA hR
                    unfold JF ri at hA
                    simp only [] at hA hR
                    have wa:IntKind.u8.wrap (16*(a:Int))=16*(a:Int):=X5 (by omega) (by omega)
                    refine n8 (id:=900) rfl rfl (by omega) rfl rfl hA ?_
                    simp [num,tx,a8,PV.shift,PV.shiftL,rvb,a6,wa]
                    cases hb:a0x t (j+1+3+1) with
                    | err c z=>
                     rw [hb] at hB hR
                     unfold JF ri at hB
                     simp only [] at hB hR
                     refine N7 (id:=900) rfl rfl (by omega) rfl (by simp [tx,num,RV.flat]) hB ?_
                     subst hR
                     simp [num,tx,oZ,zZ,ri,flt]
                    | ok b k2=>
                     obtain ⟨b1,rfl,b3⟩:=a3w hb
                     have lb:=a5q b3
                     rw [hb] at hB hR
                     unfold JF ri at hB
                     simp only [] at hB hR
                     have wb:IntKind.u8.wrap (16*(a:Int)+(b:Int))=((UInt8.ofNat (16*a+b)).toNat:Int):=by
                      rw [X5 (by omega) (by omega),UInt8.toNat_ofNat_of_lt' (show 16*a+b < 256 by omega)];omega
                     refine n8 (id:=900) rfl rfl (by omega) rfl rfl hB ?_
                     simp [num,tx,a8,PV.shift,PV.shiftL,rvb,a6,wb]
                     refine ⟨by omega,by omega,?_⟩
                     refine LoopNext.mk (j+1+3+1+1,out++[UInt8.ofNat (16*a+b)]) (lnext _ (j+1+3+1+1) (by omega) (by omega) hR).1 (lnext _ (j+1+3+1+1) (by omega) (by omega) hR).2 (Le.mk _ _ ?_ ?_)
                     · simp [num,PV.kill]
                     · simp [num,tx,rvb,MObj.kill,PV.kill]
                       try omega
                 · rw [if_neg hj0] at hW hR
                   unfold JF ri at hW
                   simp only [] at hW hR
                   refine N7 (id:=900) rfl rfl (by omega) rfl (by simp [tx,num,RV.flat]) hW ?_
                   subst hR
                   simp [num,tx,oZ,zZ,ri,flt]
               · have hu':=a97 (x:=y) 117 117 hu rfl
                 rcases e1 with ⟨e2,e3⟩ | ⟨e2,e3⟩
                 · rw [e3] at hR
                   simp only [] at hR
                   rcases e2 with rfl | rfl | rfl
                   all_goals
                    simp [num,tx,a8,rvb,a6]
                    refine ⟨by omega,by omega,?_⟩
                    refine LoopNext.mk (j+1+1,out++[_]) (lnext _ (j+1+1) (by omega) (by omega) hR).1 (lnext _ (j+1+1) (by omega) (by omega) hR).2 (Le.mk _ _ ?_ ?_)
                    · simp [num,PV.kill]
                    · simp [num,tx,rvb,MObj.kill,PV.kill]
                      try omega
                 · rw [e3] at hR
                   simp only [hu,if_false] at hR
                   have n1:=a97 (x:=y) 34 34 (fun h=>e2 (.inl h)) rfl
                   have n2:=a97 (x:=y) 92 92 (fun h=>e2 (.inr (.inl h))) rfl
                   have n3:=a97 (x:=y) 47 47 (fun h=>e2 (.inr (.inr h))) rfl
                   simp [num,tx,a8,rvb,hu',n1,n2,n3,a6]
                   refine N7 (id:=900) rfl rfl (by omega) rfl (by simp [tx,num,RV.flat]) (hf ((j:Int)+1+1) 3) ?_
                   subst hR
                   simp [num,tx,oZ,zZ,ri,flt]
           · rw [if_neg h2] at hX2 hR
             unfold JF ri at hX2
             simp only [] at hX2 hR
             refine N7 (id:=900) rfl rfl (by omega) rfl (by simp [tx,num,RV.flat]) hX2 ?_
             subst hR
             simp [num,tx,oZ,zZ,ri,flt]
         · rw [if_neg h92] at hR
           have e92:=a97 (x:=x) 92 92 h92 rfl
           by_cases hp:32≤x.toNat∧x.toNat≤126
           · rw [if_pos hp] at hR
             rw [decide_eq_true (show (32:Int)≤(x.toNat:Int)∧(x.toNat:Int)≤126 by omega)]
             simp [num,tx,a8,e92,a6]
             refine ⟨by omega,by omega,?_⟩
             refine LoopNext.mk (j+1,out++[x]) ⟨h1,by simp;omega,n,by simp only [];omega,hR⟩ (by simp only [];omega) (Le.mk _ _ ?_ ?_)
             · simp [num,PV.kill]
             · simp [num,tx,rvb,MObj.kill,PV.kill]
           · rw [if_neg hp] at hR
             rw [decide_eq_false (show ¬ ((32:Int)≤(x.toNat:Int)∧(x.toNat:Int)≤126) by omega)]
             simp [num,tx,a8,e92,a6]
             refine N7 (id:=900) rfl rfl (by omega) rfl (by simp [tx,num,RV.flat]) (hf ((j:Int)+1) 3) ?_
             subst hR
             simp [num,tx,oZ,zZ,ri,flt]
     · obtain ⟨n,rfl⟩:∃ m,n=m+1:=⟨n - 1,by omega⟩
       unfold a9s at hR
       rw [if_neg h1] at hX hR
       unfold JF ri at hX
       simp only [] at hX
       refine N7 (id:=900) rfl rfl (by omega) rfl (by simp [tx,num,RV.flat]) hX ?_
       subst hR
       simp [num,tx,oZ,zZ,ri,flt]
 · rw [if_neg hq] at hN hR
   unfold JF ri at hN
   simp only [] at hN
   refine N7 (id:=900) rfl rfl (by omega) rfl (by simp [tx,num,RV.flat]) hN ?_
   subst hR
   simp [num,tx,oZ,zZ,ri,flt]
def a54 (t:Tx) (i j:Nat):JZ Int:=match R4 ((t.take j).drop i) with
 | none=>.err 3 j
 | some n=>if -999999999≤n∧n≤999999999 then .ok n j else .err 4 j
theorem pnum_at (t:Tx) (i:Nat):a9t t i=a54 t i (a0a t i):=rfl
theorem i_whole (t:Tx) (i:Nat) (hi:i≤t.length) (ht:t.length≤1048576):JF Tryz.prog 230 [] t i (fun n:Int=>.val (D8 (.mk 3 n [] [] []))) (a9t t i):=by
 refine c0c ?_
 obtain ⟨R,hR⟩:∃ R,a9t t i=R:=⟨_,rfl⟩
 rw [hR]
 refine O5 mixed ok230 rfl (fun p hp ι=>by cases R<;>cases hp;rfl) ?_
 have hT:=a5p t [45] i hi ht (by simp)
 obtain ⟨s,hs⟩:∃ s,a0p t i=s:=⟨_,rfl⟩
 have hsl:=a8o hi
 rw [hs] at hsl
 have hN:a0a t i=X3 t s:=by unfold a0a;rw [hs]
 have hsg:(if L4 t [45] i=true then i+[(45:UInt8)].length else i)=s:=by
  rw [← hs]
  unfold a0p
  rw [a33]
  rfl
 rw [hsg] at hT
 obtain ⟨b,hb⟩:∃ b,L4 t [45] i=b:=⟨_,rfl⟩
 rw [hb] at hT
 rw [pnum_at,hN] at hR
 unfold ri at hT
 obtain ⟨Z,hZ⟩:∃ Z,a2y [.c 2 true 5] (oZ (fun n:Int=>.val (D8 (.mk 3 n [] [] []))) R) [ri t (zZ R)]=Z:=⟨_,rfl⟩
 rw [hZ]
 unfold ir230
 rw [b7]
 simp [f5,D5,L6,a7,c8,num,tx,a6,ri,u9]
 refine n8 (id:=900) rfl rfl (by omega) rfl rfl hT ?_
 simp [num,tx,PV.shift,PV.shiftL,a6]
 refine O8 (X:=Nat) (fun j=>⟨P4 [(0,.ptr 900 0),(2,.ptr 2 0),(3,.val (num (i:Int)))],O7 [(900,.box [.val (tx t),.val (num (j:Int))]),(2,.box [.val (num 0),.val (num 0),.val (tx []),.emp 1,.emp 5])]⟩) (fun j=>s≤j∧j≤t.length∧X3 t j=X3 t s) (fun j=>t.length - j) s (Le.mk _ _ ?_ ?_) ⟨Nat.le_refl _,hsl.2,rfl⟩ ?_
 · simp [num,PV.kill]
 · simp [num,tx,MObj.kill,PV.kill,u9]
 · rintro j ⟨hj1,hj2,hj3⟩
   simp [num,tx,a8]
   have tailX:X3 t s=j→a54 t i j=R:=fun h=>by rw [← hR,h]
   have hnum:=b9m ((t.take j).drop i) (by simp;omega)
   unfold a5o at hnum
   have hij:(i:Int)≤(j:Int):=by omega
   have hij':i≤j:=by omega
   have hjl:(j:Int)≤(t.length:Int):=by omega
   have hf:=fun e=>a04 t j e
   by_cases h1:j < t.length
   · obtain ⟨x,hx⟩:∃ x,t[j]=x:=⟨_,rfl⟩
     have hbt:U4 (bs t) j=(x.toNat:Int):=by rw [L5,a1u t j 0 h1,hx]
     have wi:IntKind.i64.wrap ((j:Int)+1)=((j+1:Nat):Int):=by rw [wrap_i64 (by omega) (by omega)];omega
     simp [num,tx,a8,h1,hbt]
     refine S5 rfl rfl (.inl rfl) (b7i x) ?_
     cases hd:P7 x with
     | true=>
      have:=b0n h1 (by rw [hx];exact hd)
      simp [num,tx,a8]
      refine LoopNext.mk (j+1) ⟨by omega,h1,by rw [← hj3,this]⟩ (by omega) (Le.mk _ _ ?_ ?_)
      · simp [num]
      · simp [num,tx,wi]
     | false=>
      have:=a8r h1 (by rw [hx];exact hd)
      have hR2:=tailX (by rw [← hj3,this])
      simp [num,tx,a8,Q8,hij,hij',hjl,hj2]
      refine a34 rfl rfl (.inl rfl) hnum ?_
      cases hb2:(a15 ((t.take j).drop i)).2 with
      | false=>
       unfold a54 at hR2
       rw [b0q hb2] at hR2
       simp only [] at hR2
       simp [num,tx,a6]
       refine N7 (id:=900) rfl rfl (by omega) rfl (by simp [tx,num,RV.flat]) (hf 3) ?_
       rw [← hZ,← hR2]
       simp [num,tx,oZ,zZ,ri,flt]
      | true=>
       unfold a54 at hR2
       rw [b6g hb2] at hR2
       obtain ⟨m,hm⟩:∃ m,(a15 ((t.take j).drop i)).1=m:=⟨_,rfl⟩
       rw [hm] at hR2 ⊢
       simp only [] at hR2
       have hW:=Z5 m (-999999999) 999999999
       simp [num,tx,a6]
       refine v6 rfl rfl (.inl rfl) hW ?_
       by_cases hr:-999999999≤m∧m≤999999999
       · rw [if_pos hr] at hR2
         rw [decide_eq_true hr]
         simp [num,tx,a6]
         rw [← hZ,← hR2]
         simp [num,tx,oZ,zZ,ri,flt,O2,Q5,Z0,St.fin,St.freeze,PV.frzL,PV.frz,PV.plL,PV.pl,N5,okId,MObj.pl,m7,W6,D8,a6,u9]
       · rw [if_neg hr] at hR2
         rw [decide_eq_false hr]
         simp [num,tx,a6]
         refine N7 (id:=900) rfl rfl (by omega) rfl (by simp [tx,num,RV.flat]) (hf 4) ?_
         rw [← hZ,← hR2]
         simp [num,tx,oZ,zZ,ri,flt]
   · have hR2:=tailX (by rw [← hj3];exact a6f (by omega))
     simp [num,tx,a8,h1,Q8,hij,hij',hjl,hj2]
     refine a34 rfl rfl (.inl rfl) hnum ?_
     cases hb2:(a15 ((t.take j).drop i)).2 with
     | false=>
      unfold a54 at hR2
      rw [b0q hb2] at hR2
      simp only [] at hR2
      simp [num,tx,a6]
      refine N7 (id:=900) rfl rfl (by omega) rfl (by simp [tx,num,RV.flat]) (hf 3) ?_
      rw [← hZ,← hR2]
      simp [num,tx,oZ,zZ,ri,flt]
     | true=>
      unfold a54 at hR2
      rw [b6g hb2] at hR2
      obtain ⟨m,hm⟩:∃ m,(a15 ((t.take j).drop i)).1=m:=⟨_,rfl⟩
      rw [hm] at hR2 ⊢
      simp only [] at hR2
      have hW:=Z5 m (-999999999) 999999999
      simp [num,tx,a6]
      refine v6 rfl rfl (.inl rfl) hW ?_
      by_cases hr:-999999999≤m∧m≤999999999
      · rw [if_pos hr] at hR2
        rw [decide_eq_true hr]
        simp [num,tx,a6]
        rw [← hZ,← hR2]
        simp [num,tx,oZ,zZ,ri,flt,O2,Q5,Z0,St.fin,St.freeze,PV.frzL,PV.frz,PV.plL,PV.pl,N5,okId,MObj.pl,m7,W6,D8,a6,u9]
      · rw [if_neg hr] at hR2
        rw [decide_eq_false hr]
        simp [num,tx,a6]
        refine N7 (id:=900) rfl rfl (by omega) rfl (by simp [tx,num,RV.flat]) (hf 4) ?_
        rw [← hZ,← hR2]
        simp [num,tx,oZ,zZ,ri,flt]
end Go.Proofs
end
section
namespace Go.Proofs
open Go.PW Go.KP
attribute [local simp] RV.cells RV.one PV.cells PV.solid PV.one L2 a6 M6 M8 RV.ofCells elems PV.killL
variable [GH]
def mI (t:Tx) (i:Nat):Nat→MObj:=fun x=>if x=900 then .box [.val (tx t),.val (num (i:Int))] else .dead
def pI (x:Nat):Bool:=decide (x=900)
def obI (obj:Bool):Int:=if obj then 6 else 5
def oP:JZ LJson→PV
 | .ok x _=>.val (D8 x)
 | .err c _=>.val (flt c)
def nP:JZ LJson→Bool
 | .ok _ _=>false
 | .err _ _=>true
theorem mI_id {t:Tx} {i:Nat} (x:Nat) (h:(mI t i x).live=true):okId x=false:=by
 unfold mI at h
 by_cases e0:x=900
 · subst e0;rfl
 · simp [e0,MObj.live] at h
theorem b4m {t:Tx} {i:Nat} (x:Nat) (h:pI x=true):(900≤x∧x < 1000)∧(mI t i x).live=true:=by
 unfold pI at h
 have h:=of_decide_eq_true h
 subst h
 simp [mI,MObj.live]
theorem b2v {t:Tx} {i:Nat} {st:St} (h:st.mem 900=.box [.val (tx t),.val (num (i:Int))]):Named pI (mI t i) (fun i=>i) st:=by
 refine Named.same (fun j hj=>?_) (fun j hj=>(b4m j hj).2)
 unfold mI at hj ⊢
 by_cases e0:j=900
 · subst e0;simp [h]
 · simp [e0,MObj.live] at hj
theorem a3i {res:List Rs} {R:JZ LJson} {t:Tx} {c:Int} {z:Nat} {st:St} (hR:R=.err c z) (h:st.mem 900=.box [.val (tx t),.val (num (z:Int))]):a6m res pI (oP R) (mI t (zZ R)) (nP R) (.pan (flt c)) st:=by
 subst hR
 exact ⟨rfl,fun _=>rfl,fun i=>i,b2v h⟩
theorem b3f {res:List Rs} {R:JZ LJson} {t:Tx} {x:LJson} {k:Nat} {st:St} (hR:R=.ok x k) (h:st.mem 900=.box [.val (tx t),.val (num (k:Int))]) (hres:O2 res st.fin=some (.val (D8 x))):a6m res pI (oP R) (mI t (zZ R)) (nP R) .ret st:=by
 subst hR
 refine ⟨rfl,st.fin,(Le.freeze st _).trans (Le.plain _),fun i=>i,hres,b2v ?_⟩
 simp [St.fin,St.freeze,h,MObj.pl,PV.frzL,PV.frz,PV.plL,PV.pl,zZ]
def ValI (P:Program) (f:Nat) (t:Tx) (d:Nat) (V:Nat→JZ LJson):Prop:=∀ k,k≤t.length→JF P f [.val (num (4 - (d:Int)))] t k (fun x=>.val (D8 x)) (V k)∧∀ x k',V k=.ok x k'→k'≤t.length
structure IjF (t:Tx) (d:Nat) (obj:Bool) (e:UInt8) (i:Nat) (ns:List Tx) (xs:List LJson) (st:St):Prop where
 e0:st.env 0=.ptr 900 0
 e2:st.env 2=.val (num (3 - (d:Int)))
 e3:st.env 3=.val (tx [e])
 e5:st.env 5=.ptr 5 0
 e8:st.env 8=.ptr 8 0
 m9:st.mem 900=.box [.val (tx t),.val (num (i:Int))]
 m5:st.mem 5=.box [.val (num (obI obj)),.val (num 0),.val (tx []),U6 1 37 ns,U6 5 50 xs]
 m8:st.mem 8=.box [.val (num 0),.val (num 0),.val (tx []),.emp 1,.emp 5]
 m37:a1q 9 1 tx ns=.dead∨st.mem 37=a1q 9 1 tx ns
 m50:a1q 81 5 D8 xs=.dead∨st.mem 50=a1q 81 5 D8 xs
def ijS (t:Tx) (d:Nat) (obj:Bool) (e:UInt8) (i:Nat) (ns:List Tx) (xs:List LJson):St:=
 ⟨P4 [(0,.ptr 900 0),(2,.val (num (3 - (d:Int)))),(3,.val (tx [e])),(5,.ptr 5 0),(8,.ptr 8 0)],O7 [(900,.box [.val (tx t),.val (num (i:Int))]),(5,.box [.val (num (obI obj)),.val (num 0),.val (tx []),U6 1 37 ns,U6 5 50 xs]),
  (8,.box [.val (num 0),.val (num 0),.val (tx []),.emp 1,.emp 5]),(37,a1q 9 1 tx ns),(50,a1q 81 5 D8 xs)]⟩
theorem IjF.le {t:Tx} {d:Nat} {obj:Bool} {e:UInt8} {i:Nat} {ns:List Tx} {xs:List LJson} {st:St} (h:IjF t d obj e i ns xs st):Le st (ijS t d obj e i ns xs):=by
 refine Le.mkD _ _ (fun kp hkp=>?_) (fun kp hkp=>?_)
 · simp only [List.mem_cons,List.not_mem_nil,or_false] at hkp
   rcases hkp with rfl | rfl | rfl | rfl | rfl
   · exact h.e0
   · exact h.e2
   · exact h.e3
   · exact h.e5
   · exact h.e8
 · simp only [List.mem_cons,List.not_mem_nil,or_false] at hkp
   rcases hkp with rfl | rfl | rfl | rfl | rfl
   · exact .inr h.m9
   · exact .inr h.m5
   · exact .inr h.m8
   · exact h.m37
   · exact h.m50
theorem IjF.start {t:Tx} {d:Nat} {obj:Bool} {e:UInt8} {i:Nat} {ns:List Tx} {xs:List LJson}:IjF t d obj e i ns xs (ijS t d obj e i ns xs):=⟨rfl,rfl,rfl,rfl,rfl,rfl,rfl,rfl,.inr rfl,.inr rfl⟩
theorem b9k {obj:Bool} {ns:List Tx} {xs:List LJson} {st:St} (e8:st.env 8=.ptr 8 0) (m8:st.mem 8=.box [.val (num (obI obj)),.val (num 0),.val (tx []),U6 1 37 ns,U6 5 50 xs]) (m37:a1q 9 1 tx ns=.dead∨st.mem 37=a1q 9 1 tx ns)
 (m50:a1q 81 5 D8 xs=.dead∨st.mem 50=a1q 81 5 D8 xs):O2 [.c 8 true 5] st.fin=some (.val (D8 (.mk (obI obj) 0 [] ns xs))):=by
 have h4:st.fin.mem 8=.box (PV.plL (PV.frzL (N5 st fun _=>true) [.val (num (obI obj)),.val (num 0),.val (tx []),U6 1 37 ns,U6 5 50 xs])):=by
  simp only [St.fin,St.freeze,m8,MObj.pl]
 have h5:st.fin.env 8=.ptr 8 0:=by simp [I0,e8,PV.frz,PV.pl]
 have hn:(U6 1 37 ns).frz (N5 st fun _=>true)=.val (.list 1 (ns.map tx))∨(ns=[]∧(U6 1 37 ns).frz (N5 st fun _=>true)=.emp 1):=by
  cases ns with
  | nil=>exact .inr ⟨rfl,rfl⟩
  | cons n ns=>
   left
   rcases m37 with h | h
   · cases h
   · simp [PV.frz,N5,okId,h]
 have hx:(U6 5 50 xs).frz (N5 st fun _=>true)=.val (.list 5 (xs.map D8))∨(xs=[]∧(U6 5 50 xs).frz (N5 st fun _=>true)=.emp 5):=by
  cases xs with
  | nil=>exact .inr ⟨rfl,rfl⟩
  | cons x xs=>
   left
   rcases m50 with h | h
   · cases h
   · simp [PV.frz,N5,okId,h]
 simp only [O2,Z0,h5,h4]
 rcases hn with hn | ⟨rfl,hn⟩<;>rcases hx with hx | ⟨rfl,hx⟩<;>simp [PV.frzL,PV.frz,PV.plL,PV.pl,hn,hx,m7,M6,a6,tx,num]
theorem b4v {K:Kx (PExit→St→Prop)} (t:Tx) (d:Nat) (obj:Bool) (e:UInt8) (p:Nat) (ns:List Tx) (xs:List LJson) (ht:t.length≤1048576) (hp:p≤t.length) (hxs:xs≠[]) {st:St} (h:IjF t d obj e p ns xs st) (R:JZ LJson) (Kn:Nat→JZ (List Tx×List LJson))
 (hR:R=pmk (obI obj) (if 12 < xs.length then .err 6 p else if L4 t [e] (b8 t p) then .ok (ns,xs) (b8 t p+1) else if L4 t [44] (b8 t p) then Kn (b8 t p+1) else .err 3 (b8 t p)))
 (hret:∀ st',a6m [.c 8 true 5] pI (oP R) (mI t (zZ R)) (nP R) .ret st'→K.k .ret st') (hpan:∀ r st',a6m [.c 8 true 5] pI (oP R) (mI t (zZ R)) (nP R) (.pan r) st'→K.k (.pan r) st')
 (hnext:∀ st',xs.length≤12→b8 t p+1≤t.length→R=pmk (obI obj) (Kn (b8 t p+1))→IjF t d obj e (b8 t p+1) ns xs st'→K.k .normal st'):EC Tryz.prog ir227_s52 st (K:=K):=by
 obtain ⟨e0,e2,e3,e5,e8,m9,m5,m8,m37,m50⟩:=h
 have m50':st.mem 50=.row 81 5 (xs.map D8):=by
  cases xs with
  | nil=>exact absurd rfl hxs
  | cons x xs=>rcases m50 with h | h;cases h;exact h
 have hox:U6 5 50 xs=.own 50:=by
  cases xs with
  | nil=>exact absurd rfl hxs
  | cons x xs=>rfl
 have hb:=a30 t p hp ht
 have hk2:=O9 hp
 obtain ⟨k2,hk2e⟩:∃ k2,b8 t p=k2:=⟨_,rfl⟩
 rw [hk2e] at hb hk2 hR hnext
 have hs:=a5p t [e] k2 hk2 ht (by simp)
 have hc:=b1z t [44] k2 hk2 ht (by simp)
 unfold ri at hb hs
 unfold ir227_s52
 by_cases h12:12 < xs.length
 · rw [if_pos h12] at hR
   have h12':(12:Int) < (xs.length:Int):=by omega
   simp [num,tx,e0,e2,e3,e5,e8,m9,m5,m50',hox,h12,h12',a6]
   refine N7 (id:=900) (by simp [N1,avOf,m9,L2,tx,num]) rfl (by omega) rfl (by simp [tx,num,RV.flat]) (a04 t p 6) ?_
   exact hpan _ _ (a3i hR (by simp [num,tx]))
 · rw [if_neg h12] at hR
   have h12':¬ (12:Int) < (xs.length:Int):=by omega
   simp [num,tx,e0,e2,e3,e5,e8,m9,m5,m50',hox,h12,h12',a6]
   refine n8 (id:=900) (by simp [N1,avOf,m9,L2,tx,num]) rfl (by omega) rfl rfl hb ?_
   simp [num,tx,e0,e2,e3,e5,e8,m9,m5,m50',PV.shift,PV.shiftL,a6]
   refine n8 (id:=900) (by simp [N1,avOf,m9,L2,tx,num]) rfl (by omega) rfl rfl hs ?_
   by_cases hje:L4 t [e] k2=true
   · rw [if_pos hje] at hR
     rw [hje]
     have hon:(U6 1 37 ns=.emp 1∧st.mem 37=st.mem 37)∨(U6 1 37 ns=.own 37∧st.mem 37=.row 9 1 (ns.map tx)):=by
      cases ns with
      | nil=>exact .inl ⟨rfl,rfl⟩
      | cons n ns=>rcases m37 with h | h;cases h;exact .inr ⟨rfl,h⟩
     rcases hon with ⟨hon,m37'⟩ | ⟨hon,m37'⟩
     all_goals
      simp [-Q3,-N3,t7,D1,u0,C9,u1,l8,t8,D0,f6,w7,D9,E1,b9,l3,l4,d7,u2,l7,d9,C8,t6,l6,l5,B0,B1,Q9,R0,Option.getD_some,Option.getD_none,z6,n0,k7,A7,k6,j4,A9,j5,A8,A6,A5,E5,r7,j8,A3,r5,j7,A2,y9,A4,r6,A0,j3,r4,A1,E7,E6,z1,z7,j6,z8,r8,j9,x1,f8,y8,y7,y6,E2,p9,i6,x8,p7,f9,x7,w8,x9,p8,x5,f7,p6,x6,E4,E3,w9,o9,i8,x4,q7,i7,G5,G4,H6,G6,H0,G8,G7,H5,G9,H1,H2,H3,H4,u5,u4,u3,I3,I4,I2,D2,n7,B5,s0,H8,l9,L9,I7,I0,J8,K2,J9,M1,M2,F5,F7,F6,F8,F9,J5,s5,J4,B6,B7,B8,s6,R1,C5,s9,L7,L8,E8,I5,I6,Option.map_some,Option.map_none,B9,s7,r9,k8,B3,B4,F0,E9,K7,K6,G3,C6,C7,G0,K3,K4,F1,l1,F2,k9,J0,C4,C3,d8,J7,K5,F4,J1,J3,J2,s4,v8,w6,w5,d3,J6,M4,M3,I8,F3,N9,I9,l2,C1,C2,s8,C0,d6,n9,d5,o0,d4,H7,K8,K9,u6,u7,D4,D3,B2,num,tx,e0,e2,e3,e5,e8,m9,m5,m8,m50',hox,hon,m37',PV.shift,PV.shiftL,a6]
      refine hret _ (b3f hR ?_ (b9k ?_ ?_ ?_ ?_))
      · simp [num,tx]
      · simp [e8]
      · simp [num,tx,hon,hox]
      · simpa [t7,D1,u0,C9,u1,l8,t8,D0,f6,w7,D9,E1,b9,l3,l4,d7,u2,l7,d9,C8,t6,l6,l5,B0,B1,Q9,R0,Option.getD_some,Option.getD_none,z6,n0,k7,A7,k6,j4,A9,j5,A8,A6,A5,E5,r7,j8,A3,r5,j7,A2,y9,A4,r6,A0,j3,r4,A1,E7,E6,z1,z7,j6,z8,r8,j9,x1,f8,y8,y7,y6,E2,p9,i6,x8,p7,f9,x7,w8,x9,p8,x5,f7,p6,x6,E4,E3,w9,o9,i8,x4,q7,i7,G5,G4,H6,G6,H0,G8,G7,H5,G9,H1,H2,H3,H4,u5,u4,u3,I3,I4,I2,D2,n7,B5,s0,H8,l9,L9,I7,I0,J8,K2,J9,M1,M2,F5,F7,F6,F8,F9,J5,s5,J4,B6,B7,B8,s6,R1,C5,s9,L7,L8,E8,I5,I6,Option.map_some,Option.map_none,B9,s7,r9,k8,B3,B4,F0,E9,K7,K6,G3,C6,C7,G0,K3,K4,F1,l1,F2,k9,J0,C4,C3,d8,J7,K5,F4,J1,J3,J2,s4,v8,w6,w5,d3,J6,M4,M3,I8,F3,N9,I9,l2,C1,C2,s8,C0,d6,n9,d5,o0,d4,H7,K8,K9,u6,u7,D4,D3,B2] using m37
      · simpa [t7,D1,u0,C9,u1,l8,t8,D0,f6,w7,D9,E1,b9,l3,l4,d7,u2,l7,d9,C8,t6,l6,l5,B0,B1,Q9,R0,Option.getD_some,Option.getD_none,z6,n0,k7,A7,k6,j4,A9,j5,A8,A6,A5,E5,r7,j8,A3,r5,j7,A2,y9,A4,r6,A0,j3,r4,A1,E7,E6,z1,z7,j6,z8,r8,j9,x1,f8,y8,y7,y6,E2,p9,i6,x8,p7,f9,x7,w8,x9,p8,x5,f7,p6,x6,E4,E3,w9,o9,i8,x4,q7,i7,G5,G4,H6,G6,H0,G8,G7,H5,G9,H1,H2,H3,H4,u5,u4,u3,I3,I4,I2,D2,n7,B5,s0,H8,l9,L9,I7,I0,J8,K2,J9,M1,M2,F5,F7,F6,F8,F9,J5,s5,J4,B6,B7,B8,s6,R1,C5,s9,L7,L8,E8,I5,I6,Option.map_some,Option.map_none,B9,s7,r9,k8,B3,B4,F0,E9,K7,K6,G3,C6,C7,G0,K3,K4,F1,l1,F2,k9,J0,C4,C3,d8,J7,K5,F4,J1,J3,J2,s4,v8,w6,w5,d3,J6,M4,M3,I8,F3,N9,I9,l2,C1,C2,s8,C0,d6,n9,d5,o0,d4,H7,K8,K9,u6,u7,D4,D3,B2] using m50
   · have hje':L4 t [e] k2=false:=by simpa using hje
     rw [if_neg hje] at hR
     rw [hje']
     simp [num,tx,e0,e2,e3,e5,e8,m9,m5,m50',PV.shift,PV.shiftL,a6]
     by_cases hj4:L4 t [44] k2=true
     · rw [if_pos hj4] at hR hc
       unfold JF ri at hc
       simp only [] at hc
       refine n8 (id:=900) (by simp [N1,avOf,m9,L2,tx,num,u9]) rfl (by omega) rfl rfl hc ?_
       simp [num,tx,e0,e2,e3,e5,e8,m9,m5,m50',PV.shift,PV.shiftL,a6]
       refine hnext _ (by omega) (by have:=(Y0 hj4).1;omega) hR ⟨?_,?_,?_,?_,?_,?_,?_,?_,?_,?_⟩
       all_goals try (simp [e0,e2,e3,e5,e8,m5,m8,num,tx,MObj.kill,PV.kill,PV.killL];done)
       · simpa [t7,D1,u0,C9,u1,l8,t8,D0,f6,w7,D9,E1,b9,l3,l4,d7,u2,l7,d9,C8,t6,l6,l5,B0,B1,Q9,R0,Option.getD_some,Option.getD_none,z6,n0,k7,A7,k6,j4,A9,j5,A8,A6,A5,E5,r7,j8,A3,r5,j7,A2,y9,A4,r6,A0,j3,r4,A1,E7,E6,z1,z7,j6,z8,r8,j9,x1,f8,y8,y7,y6,E2,p9,i6,x8,p7,f9,x7,w8,x9,p8,x5,f7,p6,x6,E4,E3,w9,o9,i8,x4,q7,i7,G5,G4,H6,G6,H0,G8,G7,H5,G9,H1,H2,H3,H4,u5,u4,u3,I3,I4,I2,D2,n7,B5,s0,H8,l9,L9,I7,I0,J8,K2,J9,M1,M2,F5,F7,F6,F8,F9,J5,s5,J4,B6,B7,B8,s6,R1,C5,s9,L7,L8,E8,I5,I6,Option.map_some,Option.map_none,B9,s7,r9,k8,B3,B4,F0,E9,K7,K6,G3,C6,C7,G0,K3,K4,F1,l1,F2,k9,J0,C4,C3,d8,J7,K5,F4,J1,J3,J2,s4,v8,w6,w5,d3,J6,M4,M3,I8,F3,N9,I9,l2,C1,C2,s8,C0,d6,n9,d5,o0,d4,H7,K8,K9,u6,u7,D4,D3,B2] using m37
       · simpa [t7,D1,u0,C9,u1,l8,t8,D0,f6,w7,D9,E1,b9,l3,l4,d7,u2,l7,d9,C8,t6,l6,l5,B0,B1,Q9,R0,Option.getD_some,Option.getD_none,z6,n0,k7,A7,k6,j4,A9,j5,A8,A6,A5,E5,r7,j8,A3,r5,j7,A2,y9,A4,r6,A0,j3,r4,A1,E7,E6,z1,z7,j6,z8,r8,j9,x1,f8,y8,y7,y6,E2,p9,i6,x8,p7,f9,x7,w8,x9,p8,x5,f7,p6,x6,E4,E3,w9,o9,i8,x4,q7,i7,G5,G4,H6,G6,H0,G8,G7,H5,G9,H1,H2,H3,H4,u5,u4,u3,I3,I4,I2,D2,n7,B5,s0,H8,l9,L9,I7,I0,J8,K2,J9,M1,M2,F5,F7,F6,F8,F9,J5,s5,J4,B6,B7,B8,s6,R1,C5,s9,L7,L8,E8,I5,I6,Option.map_some,Option.map_none,B9,s7,r9,k8,B3,B4,F0,E9,K7,K6,G3,C6,C7,G0,K3,K4,F1,l1,F2,k9,J0,C4,C3,d8,J7,K5,F4,J1,J3,J2,s4,v8,w6,w5,d3,J6,M4,M3,I8,F3,N9,I9,l2,C1,C2,s8,C0,d6,n9,d5,o0,d4,H7,K8,K9,u6,u7,D4,D3,B2] using m50
     · rw [if_neg hj4] at hR hc
       unfold JF ri at hc
       simp only [] at hc
       refine N7 (id:=900) (by simp [N1,avOf,m9,L2,tx,num,u9]) rfl (by omega) rfl (by simp [tx,num,RV.flat]) hc ?_
       exact hpan _ _ (a3i hR (by simp [num,tx]))
theorem a8t {K:Kx (PExit→St→Prop)} (t:Tx) (d:Nat) (obj:Bool) (e:UInt8) (k:Nat) (ns:List Tx) (xs:List LJson) (ht:t.length≤1048576) (hk:k≤t.length) (hd:d≤3) (hlen:xs.length≤12) (V:Nat→JZ LJson) (hV:ValI Tryz.prog 180 t d V)
 {st:St} (h:IjF t d obj e k ns xs st) (R:JZ LJson) (Kr:Nat→List Tx→List LJson→JZ (List Tx×List LJson)) (hR:R=pmk (obI obj) (b0b V t e Kr k ns xs))
 (hret:∀ st',a6m [.c 8 true 5] pI (oP R) (mI t (zZ R)) (nP R) .ret st'→K.k .ret st') (hpan:∀ r st',a6m [.c 8 true 5] pI (oP R) (mI t (zZ R)) (nP R) (.pan r) st'→K.k (.pan r) st')
 (hnext:∀ st' k' x,xs.length+1≤12→k'≤t.length→R=pmk (obI obj) (Kr k' ns (xs++[x]))→IjF t d obj e k' ns (xs++[x]) st'→K.k .normal st'):EC Tryz.prog ir227_s43 st (K:=K):=by
 have h':=h
 obtain ⟨e0,e2,e3,e5,e8,m9,m5,m8,m37,m50⟩:=h'
 obtain ⟨hj,hle⟩:=hV k hk
 have wd:IntKind.i64.wrap (3 - (d:Int)+1)=4 - (d:Int):=by rw [wrap_i64 (by omega) (by omega)];omega
 unfold b0b at hR
 unfold ir227_s43
 have hkn:∀ z,z≠37→PV.kill (fun x=>x == z) (U6 1 37 ns)=U6 1 37 ns:=fun z hz=>by
  cases ns with
  | nil=>rfl
  | cons n ns=>simp [PV.kill];omega
 have hox:(xs=[]∧U6 5 50 xs=.emp 5∧st.mem 50=st.mem 50)∨(U6 5 50 xs=.own 50∧st.mem 50=.row 81 5 (xs.map D8)):=by
  cases xs with
  | nil=>exact .inl ⟨rfl,rfl,rfl⟩
  | cons n xs=>rcases m50 with h | h;cases h;exact .inr ⟨rfl,h⟩
 cases hv:V k with
 | err c z=>
  rw [hv] at hj hR
  unfold JF ri at hj
  simp only [] at hj hR
  rcases hox with ⟨hx0,hox,m50'⟩ | ⟨hox,m50'⟩
  all_goals
   simp [num,tx,e0,e2,e3,e5,e8,m9,m5,m8,hox,wd,a6]
   refine N7 (id:=900) (by simp [N1,avOf,m9,L2,tx,num]) rfl (by omega) rfl (by simp [tx,num,RV.flat]) hj ?_
   refine hpan _ _ (a3i hR ?_)
   simp [num,tx]
 | ok x k'=>
  have hk':=hle x k' hv
  rw [hv] at hj hR
  unfold JF ri at hj
  simp only [] at hj hR
  obtain ⟨a1,a2,a3,a4,a5⟩:=x
  rw [m7] at hj
  rcases hox with ⟨hx0,hox,m50'⟩ | ⟨hox,m50'⟩
  all_goals
   simp [num,tx,e0,e2,e3,e5,e8,m9,m5,m8,hox,wd,a6]
   refine n8 (id:=900) (by simp [N1,avOf,m9,L2,tx,num]) rfl (by omega) rfl rfl hj ?_
   simp [num,tx,e0,e2,e3,e5,e8,m9,m5,m8,m50',hox,wd,PV.shift,PV.shiftL,a6]
   try (refine ⟨by omega,by omega,?_⟩)
   refine b4v t d obj e k' ns (xs++[LJson.mk a1 a2 a3 a4 a5]) ht hk' (by simp) ⟨?_,?_,?_,?_,?_,?_,?_,?_,?_,?_⟩ R (fun k=>Kr k ns (xs++[LJson.mk a1 a2 a3 a4 a5])) (by rw [hR,List.length_append];rfl) hret hpan (fun st' h1 h2 h3 h4=>hnext st' _ _ (by simpa using h1) h2 h3 h4)
   all_goals try (simp [e0,e2,e3,e5,e8,m8,num,tx,MObj.kill,PV.kill,PV.killL,hkn,a79];done)
   · cases ns with
     | nil=>exact .inl rfl
     | cons n ns=>(rcases m37 with h | h;cases h;right;simp [h,MObj.kill])
   · right
     first
      | (subst hx0;simp [m7,MObj.kill,num,tx])
      | (rw [a73];simp [m7,MObj.kill,num,tx])
theorem b4w {K:Kx (PExit→St→Prop)} (t:Tx) (d:Nat) (e:UInt8) (k:Nat) (ns:List Tx) (xs:List LJson) (ht:t.length≤1048576) (hk:k≤t.length) (hn:ns.length≤100) {st:St} (h:IjF t d true e k ns xs st)
 (hpan:∀ c z,a6r t k ns=.err c z→∀ st':St,st'.mem 900=.box [.val (tx t),.val (num (z:Int))]→K.k (.pan (flt c)) st')
 (hnext:∀ nm k' st',a6r t k ns=.ok nm k'→k'≤t.length→IjF t d true e k' (ns++[nm]) xs st'→K.k .normal st'):EC Tryz.prog ir227_s25 st (K:=K):=by
 obtain ⟨e0,e2,e3,e5,e8,m9,m5,m8,m37,m50⟩:=h
 have hQ:=b28 t k hk ht
 have hkx:∀ z,z≠50→PV.kill (fun x=>x == z) (U6 5 50 xs)=U6 5 50 xs:=fun z hz=>by
  cases xs with
  | nil=>rfl
  | cons n xs=>simp [PV.kill];omega
 unfold ir227_s25
 simp [num,tx,e0,m9,a6]
 cases hq:W7 t k with
 | err c z=>
  have hp:a6r t k ns=.err c z:=by unfold a6r;rw [hq]
  rw [hq] at hQ
  unfold JF ri at hQ
  simp only [] at hQ
  refine N7 (id:=900) (by simp [N1,avOf,m9,L2,tx,num]) rfl (by omega) rfl (by simp [tx,num,RV.flat]) hQ ?_
  refine hpan c z hp _ ?_
  simp [num,tx]
 | ok nm k1=>
  have hk1:k1≤t.length:=by
   have:=a2m t k
   rw [hq] at this
   exact (Y1 this.symm).2.2
  have hp:a6r t k ns=if nm∈ns then .err 13 k1 else if L4 t [58] (b8 t k1) then .ok nm (b8 t k1+1) else .err 3 (b8 t k1):=by unfold a6r;rw [hq]
  rw [hq] at hQ
  unfold JF ri at hQ
  simp only [] at hQ
  refine n8 (id:=900) (by simp [N1,avOf,m9,L2,tx,num]) rfl (by omega) rfl rfl hQ ?_
  have hC:=a3f ns nm (by omega)
  have hsk:=a30 t k1 hk1 ht
  have hk2:=O9 hk1
  obtain ⟨k2,hk2e⟩:∃ k2,b8 t k1=k2:=⟨_,rfl⟩
  rw [hk2e] at hsk hk2 hp
  have hc:=b1z t [58] k2 hk2 ht (by simp)
  unfold ri at hsk
  have hon:(ns=[]∧U6 1 37 ns=.emp 1∧st.mem 37=st.mem 37)∨(U6 1 37 ns=.own 37∧st.mem 37=.row 9 1 (ns.map tx)):=by
   cases ns with
   | nil=>exact .inl ⟨rfl,rfl,rfl⟩
   | cons n ns=>rcases m37 with h | h;cases h;exact .inr ⟨rfl,h⟩
  rcases hon with ⟨hn0,hon,m37'⟩ | ⟨hon,m37'⟩
  all_goals
   simp [num,tx,e0,e5,m9,m5,hon,m37',PV.shift,PV.shiftL,a6]
   refine v6 (by first | (subst hn0;simp [N1,avOf,tx];done) | (simp [N1,avOf,m37',tx];done)) rfl (.inr rfl) hC ?_
   by_cases hm:nm∈ns
   · rw [if_pos hm] at hp
     rw [decide_eq_true hm]
     simp [num,tx,e0,e5,m9,m5,hon,m37',PV.shift,PV.shiftL,a6]
     refine N7 (id:=900) (by simp [N1,avOf,m9,L2,tx,num]) rfl (by omega) rfl (by simp [tx,num,RV.flat]) (a04 t k1 13) ?_
     refine hpan 13 k1 hp _ ?_
     simp [num,tx]
   · rw [if_neg hm] at hp
     rw [decide_eq_false hm]
     simp [num,tx,e0,e5,m9,m5,hon,m37',PV.shift,PV.shiftL,a6]
     try (refine ⟨by omega,by omega,?_⟩)
     refine n8 (id:=900) (by simp [N1,avOf,m9,L2,tx,num,MObj.kill,PV.killL,PV.kill]) rfl (by omega) rfl rfl hsk ?_
     simp [num,tx,e0,e5,m9,m5,hon,m37',PV.shift,PV.shiftL,PV.kill,a6]
     by_cases hj5:L4 t [58] k2=true
     · rw [if_pos hj5] at hp hc
       unfold JF ri at hc
       simp only [] at hc
       refine n8 (id:=900) (by simp [N1,avOf,m9,L2,tx,num,u9]) rfl (by omega) rfl rfl hc ?_
       simp [num,tx,e0,e5,m9,m5,hon,m37',PV.shift,PV.shiftL,a6]
       refine hnext nm (k2+1) _ hp (by have:=(Y0 hj5).1;omega) ⟨?_,?_,?_,?_,?_,?_,?_,?_,?_,?_⟩
       all_goals try (simp [e0,e2,e3,e5,e8,m8,num,tx,MObj.kill,PV.kill,PV.killL,hkx,a79];done)
       · right
         first
          | (subst hn0;simp [MObj.kill,num,tx];done)
          | (rw [a73];simp [MObj.kill,num,tx];done)
       · cases xs with
         | nil=>exact .inl rfl
         | cons n xs=>(rcases m50 with h | h;cases h;right;simp [h,MObj.kill])
     · rw [if_neg hj5] at hp hc
       unfold JF ri at hc
       simp only [] at hc
       refine N7 (id:=900) (by simp [N1,avOf,m9,L2,tx,num,u9]) rfl (by omega) rfl (by simp [tx,num,RV.flat]) hc ?_
       refine hpan 3 k2 hp _ ?_
       simp [num,tx]
def a9x (obj:Bool) (dp:Int) (e:UInt8):List PV:=[.ptr 900 0,.agg [.val (num (obI obj)),.val (num 0),.val (tx []),.emp 1,.emp 5],.val (num dp),.val (tx [e])]
theorem i_items (t:Tx) (d:Nat) (V:Nat→JZ LJson) (hV:ValI Tryz.prog 180 t d V) (ht:t.length≤1048576) (hd:d≤3) (obj:Bool) (e:UInt8) (i:Nat) (hi:i≤t.length) (R:JZ LJson) (hR:R=pmk (obI obj) (a6s V t obj e i)) :
 a0l Tryz.prog 227 (a9x obj (3 - (d:Int)) e) (mI t i) pI (oP R) (mI t (zZ R)) (nP R):=by
 refine a2h mixed ok227 mI_id b4m ?_
 unfold ir227 a9x
 rw [b7]
 have hb:=a30 t i hi ht
 have hk1:=O9 hi
 unfold a6s at hR
 obtain ⟨k1,hk1e⟩:∃ k,b8 t i=k:=⟨_,rfl⟩
 rw [hk1e] at hb hk1 hR
 have hs:=a5p t [e] k1 hk1 ht (by simp)
 unfold ri at hb hs
 have hdd:¬ (3 - (d:Int))=4:=by omega
 simp [num,tx,mI,u9,a6,hdd]
 refine n8 (id:=900) (by simp [N1,avOf,L2,tx,num,t7,D1,u0,C9,u1,l8,t8,D0,f6,w7,D9,E1,b9,l3,l4,d7,u2,l7,d9,C8,t6,l6,l5,B0,B1,Q9,R0,Option.getD_some,Option.getD_none,z6,n0,k7,A7,k6,j4,A9,j5,A8,A6,A5,E5,r7,j8,A3,r5,j7,A2,y9,A4,r6,A0,j3,r4,A1,E7,E6,z1,z7,j6,z8,r8,j9,x1,f8,y8,y7,y6,E2,p9,i6,x8,p7,f9,x7,w8,x9,p8,x5,f7,p6,x6,E4,E3,w9,o9,i8,x4,q7,i7,G5,G4,H6,G6,H0,G8,G7,H5,G9,H1,H2,H3,H4,u5,u4,u3,I3,I4,I2,D2,n7,B5,s0,H8,l9,L9,I7,I0,J8,K2,J9,M1,M2,F5,F7,F6,F8,F9,J5,s5,J4,B6,B7,B8,s6,R1,C5,s9,L7,L8,E8,I5,I6,Option.map_some,Option.map_none,B9,s7,r9,k8,B3,B4,F0,E9,K7,K6,G3,C6,C7,G0,K3,K4,F1,l1,F2,k9,J0,C4,C3,d8,J7,K5,F4,J1,J3,J2,s4,v8,w6,w5,d3,J6,M4,M3,I8,F3,N9,I9,l2,C1,C2,s8,C0,d6,n9,d5,o0,d4,H7,K8,K9,u6,u7,D4,D3,B2]) rfl (by omega) rfl rfl hb ?_
 simp [num,tx,mI,PV.shift,PV.shiftL,a6]
 refine n8 (id:=900) (by simp [N1,avOf,L2,tx,num,t7,D1,u0,C9,u1,l8,t8,D0,f6,w7,D9,E1,b9,l3,l4,d7,u2,l7,d9,C8,t6,l6,l5,B0,B1,Q9,R0,Option.getD_some,Option.getD_none,z6,n0,k7,A7,k6,j4,A9,j5,A8,A6,A5,E5,r7,j8,A3,r5,j7,A2,y9,A4,r6,A0,j3,r4,A1,E7,E6,z1,z7,j6,z8,r8,j9,x1,f8,y8,y7,y6,E2,p9,i6,x8,p7,f9,x7,w8,x9,p8,x5,f7,p6,x6,E4,E3,w9,o9,i8,x4,q7,i7,G5,G4,H6,G6,H0,G8,G7,H5,G9,H1,H2,H3,H4,u5,u4,u3,I3,I4,I2,D2,n7,B5,s0,H8,l9,L9,I7,I0,J8,K2,J9,M1,M2,F5,F7,F6,F8,F9,J5,s5,J4,B6,B7,B8,s6,R1,C5,s9,L7,L8,E8,I5,I6,Option.map_some,Option.map_none,B9,s7,r9,k8,B3,B4,F0,E9,K7,K6,G3,C6,C7,G0,K3,K4,F1,l1,F2,k9,J0,C4,C3,d8,J7,K5,F4,J1,J3,J2,s4,v8,w6,w5,d3,J6,M4,M3,I8,F3,N9,I9,l2,C1,C2,s8,C0,d6,n9,d5,o0,d4,H7,K8,K9,u6,u7,D4,D3,B2]) rfl (by omega) rfl rfl hs ?_
 by_cases hje:L4 t [e] k1=true
 · rw [if_pos hje] at hR
   rw [hje]
   simp [-Q3,-N3,t7,D1,u0,C9,u1,l8,t8,D0,f6,w7,D9,E1,b9,l3,l4,d7,u2,l7,d9,C8,t6,l6,l5,B0,B1,Q9,R0,Option.getD_some,Option.getD_none,z6,n0,k7,A7,k6,j4,A9,j5,A8,A6,A5,E5,r7,j8,A3,r5,j7,A2,y9,A4,r6,A0,j3,r4,A1,E7,E6,z1,z7,j6,z8,r8,j9,x1,f8,y8,y7,y6,E2,p9,i6,x8,p7,f9,x7,w8,x9,p8,x5,f7,p6,x6,E4,E3,w9,o9,i8,x4,q7,i7,G5,G4,H6,G6,H0,G8,G7,H5,G9,H1,H2,H3,H4,u5,u4,u3,I3,I4,I2,D2,n7,B5,s0,H8,l9,L9,I7,I0,J8,K2,J9,M1,M2,F5,F7,F6,F8,F9,J5,s5,J4,B6,B7,B8,s6,R1,C5,s9,L7,L8,E8,I5,I6,Option.map_some,Option.map_none,B9,s7,r9,k8,B3,B4,F0,E9,K7,K6,G3,C6,C7,G0,K3,K4,F1,l1,F2,k9,J0,C4,C3,d8,J7,K5,F4,J1,J3,J2,s4,v8,w6,w5,d3,J6,M4,M3,I8,F3,N9,I9,l2,C1,C2,s8,C0,d6,n9,d5,o0,d4,H7,K8,K9,u6,u7,D4,D3,B2,num,tx,mI,PV.shift,PV.shiftL,a6]
   refine b3f hR ?_ (b9k (ns:=[]) (xs:=[]) ?_ ?_ (.inl rfl) (.inl rfl))
   · simp [num,tx]
   · simp
   · simp [num,tx]
 · rw [if_neg hje] at hR
   have hje':L4 t [e] k1=false:=by simpa using hje
   rw [hje']
   simp [-Q3,-N3,t7,D1,u0,C9,u1,l8,t8,D0,f6,w7,D9,E1,b9,l3,l4,d7,u2,l7,d9,C8,t6,l6,l5,B0,B1,Q9,R0,Option.getD_some,Option.getD_none,z6,n0,k7,A7,k6,j4,A9,j5,A8,A6,A5,E5,r7,j8,A3,r5,j7,A2,y9,A4,r6,A0,j3,r4,A1,E7,E6,z1,z7,j6,z8,r8,j9,x1,f8,y8,y7,y6,E2,p9,i6,x8,p7,f9,x7,w8,x9,p8,x5,f7,p6,x6,E4,E3,w9,o9,i8,x4,q7,i7,G5,G4,H6,G6,H0,G8,G7,H5,G9,H1,H2,H3,H4,u5,u4,u3,I3,I4,I2,D2,n7,B5,s0,H8,l9,L9,I7,I0,J8,K2,J9,M1,M2,F5,F7,F6,F8,F9,J5,s5,J4,B6,B7,B8,s6,R1,C5,s9,L7,L8,E8,I5,I6,Option.map_some,Option.map_none,B9,s7,r9,k8,B3,B4,F0,E9,K7,K6,G3,C6,C7,G0,K3,K4,F1,l1,F2,k9,J0,C4,C3,d8,J7,K5,F4,J1,J3,J2,s4,v8,w6,w5,d3,J6,M4,M3,I8,F3,N9,I9,l2,C1,C2,s8,C0,d6,n9,d5,o0,d4,H7,K8,K9,u6,u7,D4,D3,B2,num,tx,mI,PV.shift,PV.shiftL,a6]
   refine O8 (X:=Nat×List Tx×List LJson) (fun s=>ijS t d obj e s.1 s.2.1 s.2.2) (fun s=>s.1≤t.length∧s.2.2.length≤12∧s.2.1.length≤s.2.2.length∧∃ n,n+s.2.2.length=13∧R=pmk (obI obj) (a4o V t obj e n s.1 s.2.1 s.2.2)) (fun s=>13 - s.2.2.length) (k1,[],[]) (IjF.le (ns:=[]) (xs:=[]) ⟨?_,?_,?_,?_,?_,?_,?_,?_,.inl rfl,.inl rfl⟩) ⟨hk1,by simp,by simp,13,by simp,hR⟩ ?_
   all_goals try (simp [num,tx,U6];done)
   rintro ⟨j,ns,xs⟩ ⟨hj,hx,hn,n,hnx,hRj⟩
   simp only [] at hj hx hn hnx hRj
   obtain ⟨n,rfl⟩:∃ m,n=m+1:=⟨n - 1,by omega⟩
   have hbj:=a30 t j hj ht
   have hkj:=O9 hj
   unfold a4o at hRj
   obtain ⟨kj,hkje⟩:∃ k,b8 t j=k:=⟨_,rfl⟩
   rw [hkje] at hbj hkj hRj
   unfold ri at hbj
   have hF:IjF t d obj e j ns xs (ijS t d obj e j ns xs):=IjF.start
   obtain ⟨e0,e2,e3,e5,e8,m9,m5,m8,m37,m50⟩:=hF
   obtain ⟨S,hS⟩:∃ S,ijS t d obj e j ns xs=S:=⟨_,rfl⟩
   rw [hS] at e0 e2 e3 e5 e8 m9 m5 m8 m37 m50
   simp only [hS]
   simp [-Q3,-N3,t7,D1,u0,C9,u1,l8,t8,D0,f6,w7,D9,E1,b9,l3,l4,d7,u2,l7,d9,C8,t6,l6,l5,B0,B1,Q9,R0,Option.getD_some,Option.getD_none,z6,n0,k7,A7,k6,j4,A9,j5,A8,A6,A5,E5,r7,j8,A3,r5,j7,A2,y9,A4,r6,A0,j3,r4,A1,E7,E6,z1,z7,j6,z8,r8,j9,x1,f8,y8,y7,y6,E2,p9,i6,x8,p7,f9,x7,w8,x9,p8,x5,f7,p6,x6,E4,E3,w9,o9,i8,x4,q7,i7,G5,G4,H6,G6,H0,G8,G7,H5,G9,H1,H2,H3,H4,u5,u4,u3,I3,I4,I2,D2,n7,B5,s0,H8,l9,L9,I7,I0,J8,K2,J9,M1,M2,F5,F7,F6,F8,F9,J5,s5,J4,B6,B7,B8,s6,R1,C5,s9,L7,L8,E8,I5,I6,Option.map_some,Option.map_none,B9,s7,r9,k8,B3,B4,F0,E9,K7,K6,G3,C6,C7,G0,K3,K4,F1,l1,F2,k9,J0,C4,C3,d8,J7,K5,F4,J1,J3,J2,s4,v8,w6,w5,d3,J6,M4,M3,I8,F3,N9,I9,l2,C1,C2,s8,C0,d6,n9,d5,o0,d4,H7,K8,K9,u6,u7,D4,D3,B2,num,tx,e0,m9,a6]
   refine n8 (id:=900) (by simp [N1,avOf,m9,L2,tx,num,t7,D1,u0,C9,u1,l8,t8,D0,f6,w7,D9,E1,b9,l3,l4,d7,u2,l7,d9,C8,t6,l6,l5,B0,B1,Q9,R0,Option.getD_some,Option.getD_none,z6,n0,k7,A7,k6,j4,A9,j5,A8,A6,A5,E5,r7,j8,A3,r5,j7,A2,y9,A4,r6,A0,j3,r4,A1,E7,E6,z1,z7,j6,z8,r8,j9,x1,f8,y8,y7,y6,E2,p9,i6,x8,p7,f9,x7,w8,x9,p8,x5,f7,p6,x6,E4,E3,w9,o9,i8,x4,q7,i7,G5,G4,H6,G6,H0,G8,G7,H5,G9,H1,H2,H3,H4,u5,u4,u3,I3,I4,I2,D2,n7,B5,s0,H8,l9,L9,I7,I0,J8,K2,J9,M1,M2,F5,F7,F6,F8,F9,J5,s5,J4,B6,B7,B8,s6,R1,C5,s9,L7,L8,E8,I5,I6,Option.map_some,Option.map_none,B9,s7,r9,k8,B3,B4,F0,E9,K7,K6,G3,C6,C7,G0,K3,K4,F1,l1,F2,k9,J0,C4,C3,d8,J7,K5,F4,J1,J3,J2,s4,v8,w6,w5,d3,J6,M4,M3,I8,F3,N9,I9,l2,C1,C2,s8,C0,d6,n9,d5,o0,d4,H7,K8,K9,u6,u7,D4,D3,B2]) rfl (by omega) rfl rfl hbj ?_
   cases obj with
   | false=>
    simp only [] at hRj
    simp [-Q3,-N3,t7,D1,u0,C9,u1,l8,t8,D0,f6,w7,D9,E1,b9,l3,l4,d7,u2,l7,d9,C8,t6,l6,l5,B0,B1,Q9,R0,Option.getD_some,Option.getD_none,z6,n0,k7,A7,k6,j4,A9,j5,A8,A6,A5,E5,r7,j8,A3,r5,j7,A2,y9,A4,r6,A0,j3,r4,A1,E7,E6,z1,z7,j6,z8,r8,j9,x1,f8,y8,y7,y6,E2,p9,i6,x8,p7,f9,x7,w8,x9,p8,x5,f7,p6,x6,E4,E3,w9,o9,i8,x4,q7,i7,G5,G4,H6,G6,H0,G8,G7,H5,G9,H1,H2,H3,H4,u5,u4,u3,I3,I4,I2,D2,n7,B5,s0,H8,l9,L9,I7,I0,J8,K2,J9,M1,M2,F5,F7,F6,F8,F9,J5,s5,J4,B6,B7,B8,s6,R1,C5,s9,L7,L8,E8,I5,I6,Option.map_some,Option.map_none,B9,s7,r9,k8,B3,B4,F0,E9,K7,K6,G3,C6,C7,G0,K3,K4,F1,l1,F2,k9,J0,C4,C3,d8,J7,K5,F4,J1,J3,J2,s4,v8,w6,w5,d3,J6,M4,M3,I8,F3,N9,I9,l2,C1,C2,s8,C0,d6,n9,d5,o0,d4,H7,K8,K9,u6,u7,D4,D3,B2,num,tx,e0,e5,m5,obI,PV.shift,PV.shiftL,a6]
    refine a8t t d false e kj ns xs ht hkj hd hx V hV ⟨?_,?_,?_,?_,?_,?_,?_,?_,?_,?_⟩ R _ hRj (fun st' h=>h) (fun r st' h=>h) (fun st' k' x h1 h2 h3 h4=>?_)
    all_goals try (simp [e0,e2,e3,e5,e8,m5,m8,num,tx,obI];done)
    · simpa [t7,D1,u0,C9,u1,l8,t8,D0,f6,w7,D9,E1,b9,l3,l4,d7,u2,l7,d9,C8,t6,l6,l5,B0,B1,Q9,R0,Option.getD_some,Option.getD_none,z6,n0,k7,A7,k6,j4,A9,j5,A8,A6,A5,E5,r7,j8,A3,r5,j7,A2,y9,A4,r6,A0,j3,r4,A1,E7,E6,z1,z7,j6,z8,r8,j9,x1,f8,y8,y7,y6,E2,p9,i6,x8,p7,f9,x7,w8,x9,p8,x5,f7,p6,x6,E4,E3,w9,o9,i8,x4,q7,i7,G5,G4,H6,G6,H0,G8,G7,H5,G9,H1,H2,H3,H4,u5,u4,u3,I3,I4,I2,D2,n7,B5,s0,H8,l9,L9,I7,I0,J8,K2,J9,M1,M2,F5,F7,F6,F8,F9,J5,s5,J4,B6,B7,B8,s6,R1,C5,s9,L7,L8,E8,I5,I6,Option.map_some,Option.map_none,B9,s7,r9,k8,B3,B4,F0,E9,K7,K6,G3,C6,C7,G0,K3,K4,F1,l1,F2,k9,J0,C4,C3,d8,J7,K5,F4,J1,J3,J2,s4,v8,w6,w5,d3,J6,M4,M3,I8,F3,N9,I9,l2,C1,C2,s8,C0,d6,n9,d5,o0,d4,H7,K8,K9,u6,u7,D4,D3,B2] using m37
    · simpa [t7,D1,u0,C9,u1,l8,t8,D0,f6,w7,D9,E1,b9,l3,l4,d7,u2,l7,d9,C8,t6,l6,l5,B0,B1,Q9,R0,Option.getD_some,Option.getD_none,z6,n0,k7,A7,k6,j4,A9,j5,A8,A6,A5,E5,r7,j8,A3,r5,j7,A2,y9,A4,r6,A0,j3,r4,A1,E7,E6,z1,z7,j6,z8,r8,j9,x1,f8,y8,y7,y6,E2,p9,i6,x8,p7,f9,x7,w8,x9,p8,x5,f7,p6,x6,E4,E3,w9,o9,i8,x4,q7,i7,G5,G4,H6,G6,H0,G8,G7,H5,G9,H1,H2,H3,H4,u5,u4,u3,I3,I4,I2,D2,n7,B5,s0,H8,l9,L9,I7,I0,J8,K2,J9,M1,M2,F5,F7,F6,F8,F9,J5,s5,J4,B6,B7,B8,s6,R1,C5,s9,L7,L8,E8,I5,I6,Option.map_some,Option.map_none,B9,s7,r9,k8,B3,B4,F0,E9,K7,K6,G3,C6,C7,G0,K3,K4,F1,l1,F2,k9,J0,C4,C3,d8,J7,K5,F4,J1,J3,J2,s4,v8,w6,w5,d3,J6,M4,M3,I8,F3,N9,I9,l2,C1,C2,s8,C0,d6,n9,d5,o0,d4,H7,K8,K9,u6,u7,D4,D3,B2] using m50
    · exact LoopNext.mk (k',ns,xs++[x]) ⟨h2,by simp;omega,by simp;omega,n,by simp;omega,h3⟩ (by simp;omega) h4.le
   | true=>
    simp only [] at hRj
    simp [-Q3,-N3,t7,D1,u0,C9,u1,l8,t8,D0,f6,w7,D9,E1,b9,l3,l4,d7,u2,l7,d9,C8,t6,l6,l5,B0,B1,Q9,R0,Option.getD_some,Option.getD_none,z6,n0,k7,A7,k6,j4,A9,j5,A8,A6,A5,E5,r7,j8,A3,r5,j7,A2,y9,A4,r6,A0,j3,r4,A1,E7,E6,z1,z7,j6,z8,r8,j9,x1,f8,y8,y7,y6,E2,p9,i6,x8,p7,f9,x7,w8,x9,p8,x5,f7,p6,x6,E4,E3,w9,o9,i8,x4,q7,i7,G5,G4,H6,G6,H0,G8,G7,H5,G9,H1,H2,H3,H4,u5,u4,u3,I3,I4,I2,D2,n7,B5,s0,H8,l9,L9,I7,I0,J8,K2,J9,M1,M2,F5,F7,F6,F8,F9,J5,s5,J4,B6,B7,B8,s6,R1,C5,s9,L7,L8,E8,I5,I6,Option.map_some,Option.map_none,B9,s7,r9,k8,B3,B4,F0,E9,K7,K6,G3,C6,C7,G0,K3,K4,F1,l1,F2,k9,J0,C4,C3,d8,J7,K5,F4,J1,J3,J2,s4,v8,w6,w5,d3,J6,M4,M3,I8,F3,N9,I9,l2,C1,C2,s8,C0,d6,n9,d5,o0,d4,H7,K8,K9,u6,u7,D4,D3,B2,num,tx,e0,e5,m5,obI,PV.shift,PV.shiftL,a6]
    refine b4w t d e kj ns xs ht hkj (by omega) ⟨?_,?_,?_,?_,?_,?_,?_,?_,?_,?_⟩ (fun c z hp st' hm=>?_) (fun nm k2 st' hp hk2 hF2=>?_)
    all_goals try (simp [e0,e2,e3,e5,e8,m5,m8,num,tx,obI];done)
    · simpa [t7,D1,u0,C9,u1,l8,t8,D0,f6,w7,D9,E1,b9,l3,l4,d7,u2,l7,d9,C8,t6,l6,l5,B0,B1,Q9,R0,Option.getD_some,Option.getD_none,z6,n0,k7,A7,k6,j4,A9,j5,A8,A6,A5,E5,r7,j8,A3,r5,j7,A2,y9,A4,r6,A0,j3,r4,A1,E7,E6,z1,z7,j6,z8,r8,j9,x1,f8,y8,y7,y6,E2,p9,i6,x8,p7,f9,x7,w8,x9,p8,x5,f7,p6,x6,E4,E3,w9,o9,i8,x4,q7,i7,G5,G4,H6,G6,H0,G8,G7,H5,G9,H1,H2,H3,H4,u5,u4,u3,I3,I4,I2,D2,n7,B5,s0,H8,l9,L9,I7,I0,J8,K2,J9,M1,M2,F5,F7,F6,F8,F9,J5,s5,J4,B6,B7,B8,s6,R1,C5,s9,L7,L8,E8,I5,I6,Option.map_some,Option.map_none,B9,s7,r9,k8,B3,B4,F0,E9,K7,K6,G3,C6,C7,G0,K3,K4,F1,l1,F2,k9,J0,C4,C3,d8,J7,K5,F4,J1,J3,J2,s4,v8,w6,w5,d3,J6,M4,M3,I8,F3,N9,I9,l2,C1,C2,s8,C0,d6,n9,d5,o0,d4,H7,K8,K9,u6,u7,D4,D3,B2] using m37
    · simpa [t7,D1,u0,C9,u1,l8,t8,D0,f6,w7,D9,E1,b9,l3,l4,d7,u2,l7,d9,C8,t6,l6,l5,B0,B1,Q9,R0,Option.getD_some,Option.getD_none,z6,n0,k7,A7,k6,j4,A9,j5,A8,A6,A5,E5,r7,j8,A3,r5,j7,A2,y9,A4,r6,A0,j3,r4,A1,E7,E6,z1,z7,j6,z8,r8,j9,x1,f8,y8,y7,y6,E2,p9,i6,x8,p7,f9,x7,w8,x9,p8,x5,f7,p6,x6,E4,E3,w9,o9,i8,x4,q7,i7,G5,G4,H6,G6,H0,G8,G7,H5,G9,H1,H2,H3,H4,u5,u4,u3,I3,I4,I2,D2,n7,B5,s0,H8,l9,L9,I7,I0,J8,K2,J9,M1,M2,F5,F7,F6,F8,F9,J5,s5,J4,B6,B7,B8,s6,R1,C5,s9,L7,L8,E8,I5,I6,Option.map_some,Option.map_none,B9,s7,r9,k8,B3,B4,F0,E9,K7,K6,G3,C6,C7,G0,K3,K4,F1,l1,F2,k9,J0,C4,C3,d8,J7,K5,F4,J1,J3,J2,s4,v8,w6,w5,d3,J6,M4,M3,I8,F3,N9,I9,l2,C1,C2,s8,C0,d6,n9,d5,o0,d4,H7,K8,K9,u6,u7,D4,D3,B2] using m50
    · rw [hp] at hRj
      exact a3i (res:=[.c 8 true 5]) hRj hm
    · rw [hp] at hRj
      simp only [] at hRj
      refine a8t t d true e k2 (ns++[nm]) xs ht hk2 hd hx V hV hF2 R _ hRj (fun st' h=>h) (fun r st' h=>h) (fun st' k' x h1 h2 h3 h4=>?_)
      exact LoopNext.mk (k',ns++[nm],xs++[x]) ⟨h2,by simp;omega,by simp;omega,n,by simp;omega,h3⟩ (by simp;omega) h4.le
end Go.Proofs
end
section
namespace Go.Proofs
open Go.PW Go.KP
attribute [local simp] RV.cells RV.one PV.cells PV.solid PV.one L2 a6 M6 M8 RV.ofCells elems PV.killL
variable [GH]
theorem b9n (t:Tx) (obj:Bool) (e:UInt8) (i:Nat) (R:JZ LJson) (hR:R=.err 12 i):a0l Tryz.prog 227 (a9x obj 4 e) (mI t i) pI (oP R) (mI t (zZ R)) (nP R):=by
 refine a2h mixed ok227 mI_id b4m ?_
 unfold ir227 a9x
 rw [b7]
 simp [num,tx,mI,u9,a6]
 refine N7 (id:=900) (by simp [N1,avOf,L2,tx,num,t7,D1,u0,C9,u1,l8,t8,D0,f6,w7,D9,E1,b9,l3,l4,d7,u2,l7,d9,C8,t6,l6,l5,B0,B1,Q9,R0,Option.getD_some,Option.getD_none,z6,n0,k7,A7,k6,j4,A9,j5,A8,A6,A5,E5,r7,j8,A3,r5,j7,A2,y9,A4,r6,A0,j3,r4,A1,E7,E6,z1,z7,j6,z8,r8,j9,x1,f8,y8,y7,y6,E2,p9,i6,x8,p7,f9,x7,w8,x9,p8,x5,f7,p6,x6,E4,E3,w9,o9,i8,x4,q7,i7,G5,G4,H6,G6,H0,G8,G7,H5,G9,H1,H2,H3,H4,u5,u4,u3,I3,I4,I2,D2,n7,B5,s0,H8,l9,L9,I7,I0,J8,K2,J9,M1,M2,F5,F7,F6,F8,F9,J5,s5,J4,B6,B7,B8,s6,R1,C5,s9,L7,L8,E8,I5,I6,Option.map_some,Option.map_none,B9,s7,r9,k8,B3,B4,F0,E9,K7,K6,G3,C6,C7,G0,K3,K4,F1,l1,F2,k9,J0,C4,C3,d8,J7,K5,F4,J1,J3,J2,s4,v8,w6,w5,d3,J6,M4,M3,I8,F3,N9,I9,l2,C1,C2,s8,C0,d6,n9,d5,o0,d4,H7,K8,K9,u6,u7,D4,D3,B2]) rfl (by omega) rfl (by simp [tx,num,RV.flat]) (a04 t i 12) ?_
 refine a3i (res:=[.c 8 true 5]) hR ?_
 simp [num,tx]
def b7r (obj:Bool):UInt8:=if obj then 125 else 93
def LstI (P:Program) (f:Nat) (t:Tx) (d:Nat) (L:Bool→Nat→JZ LJson):Prop:=∀ o i,i≤t.length→a0l P f (a9x o (4 - (d:Int)) (b7r o)) (mI t i) pI (oP (L o i)) (mI t (zZ (L o i))) (nP (L o i))
theorem b90 {P:Program} {st:St} {Ke:Kx (PV→St→Prop)} {kx:Kx (RV→St→Prop)} {dd f:Nat} {ps:List PV} {obj:Bool} {dp:Int} {e:UInt8} {t:Tx} {i:Nat} {R:JZ LJson}
 (h:a0l P f (a9x obj dp e) (mI t i) pI (oP R) (mI t (zZ R)) (nP R)) (hps:ps=a9x obj dp e) (h0:st.mem 900=.box [.val (tx t),.val (num (i:Int))])
 (hok:∀ x k,R=.ok x k→∀ st':St,(∀ y r,st.env y=.val r→st'.env y=.val r)→(∀ y j o,st.env y=.ptr j o→j < 1000→st'.env y=.ptr j o)→(∀ j cs,j < 1000→j≠900→st.mem j=.box cs→(∀ d,PV.killL d cs=cs)→st'.mem j=.box cs) →
  st'.mem 900=.box [.val (tx t),.val (num (k:Int))]→Ke.k (.val (D8 x)) st')
 (herr:∀ c z,R=.err c z→∀ st':St,st'.mem 900=.box [.val (tx t),.val (num (z:Int))]→kx.k (flt c) st'):KC P st dd f ps (Ke:=Ke) (kx:=kx):=by
 have hAL:AL [(900,900)]:=⟨by simp,by simp,fun e he=>by simp only [List.mem_cons,List.not_mem_nil,or_false] at he;subst he;simp only;omega⟩
 have i0:ioA [(900,900)] 900=900:=rfl
 have lv:∀ {i} x,(mI t i x).live=true→x=900:=fun {i} x hx=>by
  unfold mI at hx
  by_cases e0:x=900
  · exact e0
  · simp [e0,MObj.live] at hx
 have kk:∀ j,j < 1000000000→koA [(900,900)] j=if j=900 then some 900 else none:=fun j hj=>by
  unfold koA alB alB
  by_cases e0:j=900
  · simp [e0]
  · simp [e0];omega
 refine b3o (l:=[(900,900)]) pI hAL h (by rw [hps];simp [a9x,PV.ren,PV.renL,i0]) (fun j hj=>?_) (fun e he h1 h2=>?_) (fun j cs hj=>?_) (fun j h1 h2=>?_) ?_
 · obtain rfl:=lv j hj
   rw [i0,h0];simp [mI,MObj.ren,PV.renL,PV.ren]
 · simp only [List.mem_cons,List.not_mem_nil,or_false] at he
   subst he
   exact ⟨rfl,rfl⟩
 · obtain rfl:=lv j (by rw [hj];rfl)
   rw [i0];omega
 · obtain rfl:=lv j h1
   simp [mI,MObj.kind]
 · have e1:∀ (st':St),st'=⟨fun x=>(st.env x).kill (kilA [(900,900)] pI),a38 st [(900,900)] pI (mI t (zZ R))⟩→(∀ y r,st.env y=.val r→st'.env y=.val r)∧(∀ y j o,st.env y=.ptr j o→j < 1000→st'.env y=.ptr j o)∧(∀ j cs,j < 1000→j≠900→st.mem j=.box cs→(∀ d,PV.killL d cs=cs)→st'.mem j=.box cs)∧st'.mem 900=.box [.val (tx t),.val (num ((zZ R:Nat):Int))]:=fun st' hst=>by
    subst hst
    refine ⟨fun x r hx=>by simp only [hx,PV.kill],fun x j o hx hj=>?_,fun j cs hj q0 hm hcs=>?_,?_⟩
    · simp only [hx,PV.kill]
      unfold kilA a1s
      rw [kk j (by omega)]
      by_cases e0:j=900
      · simp [e0,pI]
      · rw [if_neg e0];simp
    · show a38 st [(900,900)] pI (mI t (zZ R)) j=_
      unfold a38 a0y
      rw [kk j (by omega),if_neg q0]
      simp only [hm,MObj.kill,hcs]
    · show a38 st [(900,900)] pI (mI t (zZ R)) 900=_
      unfold a38 a0y
      rw [kk 900 (by omega),if_pos rfl]
      simp [mI,MObj.ren,PV.renL,PV.ren]
   obtain ⟨f1,f2,f3,f4⟩:=e1 _ rfl
   cases R with
   | ok x k=>exact hok x k rfl _ f1 f2 f3 f4
   | err c z=>exact b81 (herr c z rfl _ f4)
def a4f (t:Tx) (L:Bool→Nat→JZ LJson) (i:Nat):JZ LJson:=if L4 t jnull (b8 t i) then .ok (.mk 1 0 [] [] []) (b8 t i+4)
 else if L4 t jtrue (b8 t i) then .ok (.mk 2 1 [] [] []) (b8 t i+4)
 else if L4 t jfalse (b8 t i) then .ok (.mk 2 0 [] [] []) (b8 t i+5)
 else if L4 t [91] (b8 t i) then L false (b8 t i+1)
 else if L4 t [123] (b8 t i) then L true (b8 t i+1)
 else if L4 t [34] (b8 t i) then (match W7 t (b8 t i) with | .err c z=>.err c z | .ok v k=>.ok (.mk 4 0 v [] []) k)
 else (match a9t t (b8 t i) with | .err c z=>.err c z | .ok n k=>.ok (.mk 3 n [] [] []) k)
def PL (t:Tx):Nat→Bool→Nat→JZ LJson
 | 0,_,i=>.err 12 i
 | d+1,o,i=>pmk (obI o) (a6s (a4n t d) t o (b7r o) i)
theorem b8m (t:Tx):∀ d i,a4n t d i=a4f t (PL t d) i
 | 0,i=>by unfold a4n a4f;rfl
 | d+1,i=>by unfold a4n a4f;rfl
theorem a1a {t:Tx} {R:JZ LJson} {i:Nat} {x:LJson} {st:St} (hR:R=.ok x i) (e4:st.env 4=.ptr 4 0) (m0:st.mem 900=.box [.val (tx t),.val (num (i:Int))])
 (m4:∃ cs,st.mem 4=.box cs∧(PV.plL (PV.frzL (N5 st fun _=>true) cs))=[.val (num x.kind),.val (num x.num),.val (tx x.text),.val (.list 1 (x.names.map tx)),.val (.list 5 (x.items.map D8))]) :
 a2y [.c 4 true 5] (oZ (fun x=>.val (D8 x)) R) [ri t (zZ R)] .ret st:=by
 subst hR
 obtain ⟨cs,hm,hcs⟩:=m4
 show a2y [.c 4 true 5] (.inl (.val (D8 x))) [ri t i] .ret st
 rw [Q2]
 refine ⟨?_,by simp [ri,m0]⟩
 obtain ⟨k,n,tt,ns,is⟩:=x
 have h4:st.fin.mem 4=.box (PV.plL (PV.frzL (N5 st fun _=>true) cs)):=by
  simp only [St.fin,St.freeze,hm,MObj.pl]
 have h5:st.fin.env 4=.ptr 4 0:=by simp [I0,e4,PV.frz,PV.pl]
 simp only [O2,Z0,h5,h4,hcs]
 simp [m7,M6,a6,LJson.kind,LJson.num,LJson.text,LJson.names,LJson.items]
theorem a48 {res:List Rs} {t:Tx} {R:JZ LJson} {c:Int} {z:Nat} {st:St} (hR:R=.err c z) (m0:st.mem 900=.box [.val (tx t),.val (num (z:Int))]):a2y res (oZ (fun x=>.val (D8 x)) R) [ri t (zZ R)] (.pan (flt c)) st:=by
 subst hR
 show a2y res (.inr (flt c)) [ri t z] (.pan (flt c)) st
 rw [c0a]
 exact ⟨rfl,by simp [ri,m0]⟩
theorem pnum_le {t:Tx} {i:Nat} (hi:i≤t.length) {n:Int} {k:Nat} (h:a9t t i=.ok n k):k≤t.length:=by
 unfold a9t at h
 split at h
 · cases h
 · split at h
   · cases h;exact (a5l hi).2
   · cases h
theorem b39 {t:Tx} {i:Nat} {v:Tx} {k:Nat} (h:W7 t i=.ok v k):k≤t.length:=by
 have:=a2m t i
 rw [h] at this
 exact (Y1 this.symm).2.2
theorem b8n {t:Tx} {L:Bool→Nat→JZ LJson} (hL:∀ o i x k,L o i=.ok x k→k≤t.length) {i:Nat} (hi:i≤t.length) {x:LJson} {k:Nat} (h:a4f t L i=.ok x k):k≤t.length:=by
 have hk:=O9 hi
 unfold a4f at h
 split at h
 · rename_i hw;cases h;rcases T3 hw with h | h;exact h;cases h
 split at h
 · rename_i hw;cases h;rcases T3 hw with h | h;exact h;cases h
 split at h
 · rename_i hw;cases h;rcases T3 hw with h | h;exact h;cases h
 split at h
 · exact hL _ _ _ _ h
 split at h
 · exact hL _ _ _ _ h
 split at h
 · split at h
   · cases h
   · rename_i hq;cases h;exact b39 hq
 · split at h
   · cases h
   · rename_i hq;cases h;exact pnum_le hk hq
theorem b26 (t:Tx) (d:Nat) (L:Bool→Nat→JZ LJson) (hL:LstI Tryz.prog 227 t d L) (hLb:∀ o i x k,L o i=.ok x k→k≤t.length) (ht:t.length≤1048576) (hd:d≤4):ValI Tryz.prog 180 t d (a4f t L):=fun i hi=>by
 refine ⟨?_,fun x k h=>b8n hLb hi h⟩
 refine c0c ?_
 obtain ⟨R,hR⟩:∃ R,a4f t L i=R:=⟨_,rfl⟩
 rw [hR]
 refine O5 mixed ok180 rfl (fun p hp ι=>by cases R<;>cases hp;rfl) ?_
 have hb:=a30 t i hi ht
 have hk:=O9 hi
 unfold a4f at hR
 obtain ⟨k,hke⟩:∃ k,b8 t i=k:=⟨_,rfl⟩
 rw [hke] at hb hk hR
 have hw:=fun (w:Tx) (h:w.length≤10)=>a5p t w k hk ht h
 have h1:=hw jnull (by simp [jnull])
 have h2:=hw jtrue (by simp [jtrue])
 have h3:=hw jfalse (by simp [jfalse])
 have h4:=hw [91] (by simp)
 have h5:=hw [123] (by simp)
 have hP:=a62 (t.drop k) [34]
 rw [Z3] at hP
 have hQ:=b28 t k hk ht
 have hN:=i_whole t k hk ht
 obtain ⟨Z,hZ⟩:∃ Z,a2y [.c 4 true 5] (oZ (fun x=>.val (D8 x)) R) [ri t (zZ R)]=Z:=⟨_,rfl⟩
 rw [hZ]
 unfold ri at hb h1 h2 h3 h4 h5
 unfold ir180
 rw [b7]
 simp [f5,D5,L6,a7,c8,num,tx,a6,ri,u9]
 refine n8 (id:=900) rfl rfl (by omega) rfl rfl hb ?_
 simp [num,tx,PV.shift,PV.shiftL,a6]
 refine n8 (id:=900) rfl rfl (by omega) rfl rfl h1 ?_
 by_cases b1:L4 t jnull k=true
 · rw [if_pos b1] at hR
   rw [b1]
   simp [num,tx,PV.shift,PV.shiftL,a6]
   rw [← hZ]
   refine a1a hR.symm ?_ ?_ ⟨[.val (num 1),.val (num 0),.val (tx []),.emp 1,.emp 5],by simp [num,tx,u9],?_⟩
   · simp
   · simp [num,tx,jnull]
   · simp [PV.frzL,PV.frz,PV.plL,PV.pl,N5,okId,num,tx,LJson.kind,LJson.num,LJson.text,LJson.names,LJson.items,u9]
 have b1':L4 t jnull k=false:=by simpa using b1
 rw [if_neg b1] at hR
 rw [b1']
 simp [num,tx,PV.shift,PV.shiftL,a6]
 refine n8 (id:=900) rfl rfl (by omega) rfl rfl h2 ?_
 by_cases b2:L4 t jtrue k=true
 · rw [if_pos b2] at hR
   rw [b2]
   simp [num,tx,PV.shift,PV.shiftL,a6]
   rw [← hZ]
   refine a1a hR.symm ?_ ?_ ⟨[.val (num 2),.val (num 1),.val (tx []),.emp 1,.emp 5],by simp [num,tx,u9],?_⟩
   · simp
   · simp [num,tx,jtrue]
   · simp [PV.frzL,PV.frz,PV.plL,PV.pl,N5,okId,num,tx,LJson.kind,LJson.num,LJson.text,LJson.names,LJson.items,u9]
 have b2':L4 t jtrue k=false:=by simpa using b2
 rw [if_neg b2] at hR
 rw [b2']
 simp [num,tx,PV.shift,PV.shiftL,a6]
 refine n8 (id:=900) rfl rfl (by omega) rfl rfl h3 ?_
 by_cases b3:L4 t jfalse k=true
 · rw [if_pos b3] at hR
   rw [b3]
   simp [num,tx,PV.shift,PV.shiftL,a6]
   rw [← hZ]
   refine a1a hR.symm ?_ ?_ ⟨[.val (num 2),.val (num 0),.val (tx []),.emp 1,.emp 5],by simp [num,tx,u9],?_⟩
   · simp
   · simp [num,tx,jfalse]
   · simp [PV.frzL,PV.frz,PV.plL,PV.pl,N5,okId,num,tx,LJson.kind,LJson.num,LJson.text,LJson.names,LJson.items,u9]
 have b3':L4 t jfalse k=false:=by simpa using b3
 rw [if_neg b3] at hR
 rw [b3']
 simp [num,tx,PV.shift,PV.shiftL,a6]
 refine n8 (id:=900) rfl rfl (by omega) rfl rfl h4 ?_
 by_cases b4:L4 t [91] k=true
 · rw [if_pos b4] at hR
   rw [b4]
   have hl:=hL false (k+1) (by have:=(Y0 b4).1;omega)
   rw [hR] at hl
   simp [num,tx,PV.shift,PV.shiftL,a6]
   refine b90 hl (by simp [a9x,num,tx,b7r,obI,u9]) (by simp [num,tx]) (fun x k2 hx st' q1 q2 q3 q4=>?_) (fun c z hc st' q4=>?_)
   · obtain ⟨a1,a2,a3,a4,a5⟩:=x
     rw [m7]
     have p4:=q2 4 4 0 (by simp) (by omega)
     have b4:=q3 4 [.val (num 0),.val (num 0),.val (tx []),.emp 1,.emp 5] (by omega) (by omega) (by simp [num,tx,u9]) (fun d=>by simp [PV.killL,PV.kill])
     simp [num,tx,p4,b4,a6]
     rw [← hZ]
     refine a1a hx ?_ ?_ ⟨[.val (num a1),.val (num a2),.val (tx a3),.val (.list 1 (a4.map tx)),.val (.list 5 (a5.map D8))],by simp [num,tx,u9],?_⟩
     · simp [p4]
     · simp [num,tx,q4]
     · simp [PV.frzL,PV.frz,PV.plL,PV.pl,N5,okId,num,tx,LJson.kind,LJson.num,LJson.text,LJson.names,LJson.items,u9]
   · show Z _ _
     rw [← hZ]
     exact a48 hc q4
 have b4':L4 t [91] k=false:=by simpa using b4
 rw [if_neg b4] at hR
 rw [b4']
 simp [num,tx,PV.shift,PV.shiftL,a6]
 refine n8 (id:=900) rfl rfl (by omega) rfl rfl h5 ?_
 by_cases b5:L4 t [123] k=true
 · rw [if_pos b5] at hR
   rw [b5]
   have hl:=hL true (k+1) (by have:=(Y0 b5).1;omega)
   rw [hR] at hl
   simp [num,tx,PV.shift,PV.shiftL,a6]
   refine b90 hl (by simp [a9x,num,tx,b7r,obI,u9]) (by simp [num,tx]) (fun x k2 hx st' q1 q2 q3 q4=>?_) (fun c z hc st' q4=>?_)
   · obtain ⟨a1,a2,a3,a4,a5⟩:=x
     rw [m7]
     have p4:=q2 4 4 0 (by simp) (by omega)
     have b4:=q3 4 [.val (num 0),.val (num 0),.val (tx []),.emp 1,.emp 5] (by omega) (by omega) (by simp [num,tx,u9]) (fun d=>by simp [PV.killL,PV.kill])
     simp [num,tx,p4,b4,a6]
     rw [← hZ]
     refine a1a hx ?_ ?_ ⟨[.val (num a1),.val (num a2),.val (tx a3),.val (.list 1 (a4.map tx)),.val (.list 5 (a5.map D8))],by simp [num,tx,u9],?_⟩
     · simp [p4]
     · simp [num,tx,q4]
     · simp [PV.frzL,PV.frz,PV.plL,PV.pl,N5,okId,num,tx,LJson.kind,LJson.num,LJson.text,LJson.names,LJson.items,u9]
   · show Z _ _
     rw [← hZ]
     exact a48 hc q4
 have b5':L4 t [123] k=false:=by simpa using b5
 rw [if_neg b5] at hR
 rw [b5']
 simp [num,tx,PV.shift,PV.shiftL,a6,a8,Q8,hk]
 refine S5 rfl rfl (.inl rfl) hP ?_
 by_cases b6:L4 t [34] k=true
 · rw [if_pos b6] at hR
   rw [b6]
   simp [num,tx,PV.shift,PV.shiftL,a6]
   cases hq:W7 t k with
   | err c z=>
    rw [hq] at hQ hR
    unfold JF ri at hQ
    simp only [] at hQ hR
    refine N7 (id:=900) rfl rfl (by omega) rfl (by simp [tx,num,RV.flat]) hQ ?_
    show Z _ _
    rw [← hZ]
    exact a48 hR.symm (by simp [num,tx])
   | ok v k2=>
    rw [hq] at hQ hR
    unfold JF ri at hQ
    simp only [] at hQ hR
    refine n8 (id:=900) rfl rfl (by omega) rfl rfl hQ ?_
    simp [num,tx,PV.shift,PV.shiftL,a6]
    rw [← hZ]
    refine a1a hR.symm ?_ ?_ ⟨[.val (num 4),.val (num 0),.val (tx v),.emp 1,.emp 5],by simp [num,tx,u9],?_⟩
    · simp
    · simp [num,tx]
    · simp [PV.frzL,PV.frz,PV.plL,PV.pl,N5,okId,num,tx,LJson.kind,LJson.num,LJson.text,LJson.names,LJson.items,u9]
 have b6':L4 t [34] k=false:=by simpa using b6
 rw [if_neg b6] at hR
 rw [b6']
 simp [num,tx,PV.shift,PV.shiftL,a6]
 cases hq:a9t t k with
 | err c z=>
  rw [hq] at hN hR
  unfold JF ri at hN
  simp only [] at hN hR
  refine N7 (id:=900) rfl rfl (by omega) rfl (by simp [tx,num,RV.flat]) hN ?_
  show Z _ _
  rw [← hZ]
  exact a48 hR.symm (by simp [num,tx])
 | ok n k2=>
  rw [hq] at hN hR
  unfold JF ri at hN
  simp only [] at hN hR
  rw [m7] at hN
  refine n8 (id:=900) rfl rfl (by omega) rfl rfl hN ?_
  simp [num,tx,PV.shift,PV.shiftL,a6]
  rw [← hZ]
  refine a1a hR.symm ?_ ?_ ⟨[.val (num 3),.val (num n),.val (tx []),.val (.list 1 []),.val (.list 5 [])],by simp [num,tx,u9],?_⟩
  · simp
  · simp [num,tx]
  · simp [PV.frzL,PV.frz,PV.plL,PV.pl,N5,okId,num,tx,LJson.kind,LJson.num,LJson.text,LJson.names,LJson.items,u9]
theorem PL_le (t:Tx):∀ d o i x k,PL t d o i=.ok x k→k≤t.length:=by
 intro d o i x k h
 cases d with
 | zero=>cases h
 | succ d=>
  have h1:=congrArg JZ.jr h
  unfold PL at h1
  rw [b4b,b2o (b5y t d)] at h1
  obtain ⟨v,h2,_⟩:=b4t h1
  exact (a8q (g:=fun _=>True) (fun i x k hx=>⟨trivial,(b59 t d i x k hx).2⟩) h2).2.2.2
theorem b25 (t:Tx) (ht:t.length≤1048576):∀ d,d≤4→ValI Tryz.prog 180 t d (a4n t d)
 | 0,h=>by
  rw [show a4n t 0=a4f t (PL t 0) from funext (b8m t 0)]
  exact b26 t 0 (PL t 0) (fun o i hi=>b9n t o (b7r o) i _ rfl) (PL_le t 0) ht (by omega)
 | d+1,h=>by
  rw [show a4n t (d+1)=a4f t (PL t (d+1)) from funext (b8m t (d+1))]
  refine b26 t (d+1) (PL t (d+1)) (fun o i hi=>?_) (PL_le t (d+1)) ht h
  have:=i_items t d (a4n t d) (b25 t ht d (by omega)) ht (by omega) o (b7r o) i hi _ rfl
  rw [show (4 - ((d+1:Nat):Int))=3 - (d:Int) by omega]
  exact this
end Go.Proofs
end
