/- Fs: merged out of KXm, KXo, KXba, KXbb, KXbc. -/
import Derived.Test.YtfoapolbgpjfaaaGreatDoorPWw
import Derived.Test.YtfoapolbgpjfaaaGreatDoorCa
import Derived.Test.YtfoapolbgpjfaaaGreatDoorAc
import Derived.Test.YtfoapolbgpjfaaaGreatDoorBa
import Derived.Test.YtfoapolbgpjfaaaGreatDoorFo
import Derived.Test.YtfoapolbgpjfaaaGreatDoorPWae
import Derived.Test.YtfoapolbgpjfaaaGreatDoorPWaf
set_option linter.unusedSectionVars false
set_option linter.unusedSimpArgs false
set_option linter.unusedVariables false
set_option maxRecDepth 100000
section
namespace Go.Proofs
open Go.PW Go.KP
attribute [local simp] RV.cells RV.one PV.cells PV.solid PV.one J2 a6 N0 N1 RV.ofCells elems PV.killL
variable [GF]
theorem b0i (k:Nat) (hk:k < 1099511627776):n7 Tryz.prog 63 [.val (num k)] (.ret (.val (tx (lmk k))) []) []:=by
 refine J0 mixed ok63 rfl (fun _=>rfl) ?_
 unfold ir63
 rw [b7]
 unfold lmk
 by_cases h0:k=0
 · subst h0
   simp [d3,x8,M5,a7,c8,num,tx,bs]
 · have h0':¬ (k:Int)≤0:=by omega
   rw [if_neg h0]
   simp [d3,x8,M5,a7,c8,num,h0',h0]
   refine O6 (X:=Nat×Tx) (fun x=>⟨P6 [(0,.val (num x.1)),(3,.val (tx x.2))],P3 []⟩) (fun x=>x.1≤k∧x.2.length+x.1≤k∧b01 x.1 x.2=b01 k []) (fun x=>x.1) (k,[]) (Le.mk _ _ ?_ ?_) ⟨Nat.le_refl _,by simp,rfl⟩ ?_
   · simp [upd,num,tx,bs]
   · simp
   · rintro ⟨m,out⟩ ⟨hm,hlen,hF⟩
     simp only at hm hlen hF
     by_cases hz:m=0
     · subst hz
       rw [b9s] at hF
       subst hF
       have hlk:1+(b01 k []).length≤9223372036854775807:=by omega
       simp [num,tx,x6,R1,a8,hlk]
     · have hp:(0:Int) < (m:Int):=by omega
       have hp2:0 < m:=by omega
       rw [c10 hz] at hF
       have g6:(m:Int).tdiv 10=((m / 10:Nat):Int):=by rw [Int.tdiv_eq_ediv_of_nonneg (by omega)];omega
       have g7:(m:Int).tmod 10=((m % 10:Nat):Int):=by rw [Int.tmod_eq_emod_of_nonneg (by omega)];omega
       have ha:m / 10 < m:=Nat.div_lt_self (by omega) (by omega)
       have hb:m % 10 < 10:=Nat.mod_lt _ (by omega)
       have hl10:(UInt8.ofNat (48+m % 10) :: out).length+m / 10≤k:=by simp only [List.length_cons];omega
       have g8:IntKind.i64.wrap ((m / 10:Nat):Int)=((m / 10:Nat):Int):=wrap_i64 (by omega) (by omega)
       have g4:IntKind.i64.wrap (48+((m % 10:Nat):Int))=48+((m % 10:Nat):Int):=wrap_i64 (by omega) (by omega)
       have g5:IntKind.u8.wrap (48+((m % 10:Nat):Int))=48+((m % 10:Nat):Int):=Y8 (by omega) (by omega)
       have g9:=c29 (m % 10)
       generalize m / 10=a at *
       generalize m % 10=b at *
       have hsz:1+out.length≤9223372036854775807:=by simp only [List.length_cons] at hl10;omega
       simp [d3,x8,M5,a7,c8,num,tx,hp,hp2,hz,g6,g7,g8,g4,g5,RV.isU8,g9,a8,R1]
       refine ⟨hsz,LoopNext.mk (a,UInt8.ofNat (48+b) :: out) ⟨by omega,hl10,hF⟩ ha (Le.mk _ _ ?_ ?_)⟩
       · simp [num,tx]
       · simp
end Go.Proofs
end
section
namespace Go.Proofs
open Go.PW Go.KP
attribute [local simp] RV.cells RV.one PV.cells PV.solid PV.one J2 a6 N0 N1 RV.ofCells elems PV.killL
variable [GF]
theorem b47 (a b:List Int) (ha:a.length < 1099511627776) (hb:b.length < 1099511627776):n7 Tryz.prog 67 [.val (.list 1 (a.map num)),.val (.list 1 (b.map num))] (.ret (.val (.bool (decide (a=b)))) []) []:=by
 refine J0 mixed ok67 rfl (fun _=>rfl) ?_
 unfold ir67
 rw [b7]
 by_cases hlen:a.length=b.length
 rotate_left
 · have h1:¬ (a.length:Int)=b.length:=by omega
   have h2:a≠b:=fun e=>hlen (by rw [e])
   simp [d3,x8,M5,a7,c8,h1,h2]
 simp [d3,x8,M5,a7,c8,num,hlen]
 refine O6 (X:=Nat) (fun i=>⟨P6 [(0,.val (.list 1 (a.map num))),(1,.val (.list 1 (b.map num))),(12,.val (num b.length)),(13,.val (num i))],P3 []⟩) (fun i=>i≤b.length∧a.take i=b.take i) (fun i=>b.length - i) 0 (Le.mk _ _ ?_ ?_) ?_ ?_
 · simp [upd,num]
 · simp
 · simp
 · rintro i ⟨hi,heq⟩
   simp [num]
   refine O7 (fun h1b=>?_) (fun h1=>?_)
   · have h1:i < a.length:=by omega
     have e1:(a.map num)[i]?.getD .nilptr=num a[i]:=by simp [List.getElem?_eq_getElem h1]
     have e2:(b.map num)[i]?.getD .nilptr=num b[i]:=by simp [List.getElem?_eq_getElem h1b]
     simp [num,h1,h1b,e1,e2,tx]
     by_cases hu:a[i]=b[i]
     · simp [hu]
       refine LoopNext.mk (i+1) ⟨by omega,?_⟩ (by omega) (Le.mk _ _ ?_ ?_)
       · rw [List.take_add_one,List.take_add_one,List.getElem?_eq_getElem h1,List.getElem?_eq_getElem h1b,heq,hu]
       · simp [num,tx];exact wrap_i64 (by omega) (by omega)
       · simp
     · have h2:a≠b:=fun e=>hu (by subst e;rfl)
       simp [hu,h2]
   · have e:i=b.length:=by omega
     subst e
     rw [← hlen,List.take_length,hlen,List.take_length] at heq
     simp [heq]
theorem b9e {α:Type} {a b:List α} {i:Nat} (h1:i < a.length) (h2:i < b.length) (h:a.take i=b.take i) (he:a[i]=b[i]):a.take (i+1)=b.take (i+1):=by
 rw [List.take_add_one,List.take_add_one,List.getElem?_eq_getElem h1,List.getElem?_eq_getElem h2,h,he]
theorem c0o (a b:List Int) (ha:a.length < 1099511627776) (hb:b.length < 1099511627776):n7 Tryz.prog 65 [.val (.list 1 (a.map num)),.val (.list 1 (b.map num))] (.ret (.val (.bool (decide (a=b)))) []) []:=by
 refine J0 mixed ok65 rfl (fun _=>rfl) ?_
 unfold ir65
 rw [b7]
 by_cases hlen:a.length=b.length
 rotate_left
 · have h1:¬ (a.length:Int)=b.length:=by omega
   have h2:a≠b:=fun e=>hlen (by rw [e])
   simp [d3,x8,M5,a7,c8,h1,h2]
 simp [d3,x8,M5,a7,c8,num,hlen]
 refine O6 (X:=Nat) (fun i=>⟨P6 [(0,.val (.list 1 (a.map num))),(1,.val (.list 1 (b.map num))),(5,.val (num i))],P3 []⟩) (fun i=>i≤a.length∧a.take i=b.take i) (fun i=>a.length - i) 0 (Le.mk _ _ ?_ ?_) ?_ ?_
 · simp [upd,num]
 · simp
 · simp
 · rintro i ⟨hi,heq⟩
   simp [num]
   refine O7 (fun h1=>?_) (fun h1=>?_)
   · have h1b:i < b.length:=by omega
     have wi:IntKind.i64.wrap ((i:Int)+1)=((i+1:Nat):Int):=by rw [wrap_i64 (by omega) (by omega)];omega
     simp [num,h1,h1b]
     by_cases hu:a[i]=b[i]
     · simp [hu]
       refine LoopNext.mk (i+1) ⟨by omega,b9e h1 h1b heq hu⟩ (by omega) (Le.mk _ _ ?_ ?_)
       · simp [num,wi]
       · simp
     · have h2:a≠b:=fun e=>hu (by subst e;rfl)
       simp [hu,h2]
   · have e:i=a.length:=by omega
     subst e
     rw [List.take_length,hlen,List.take_length] at heq
     simp [heq]
end Go.Proofs
end
section
namespace Go.Proofs
open Go.PW Go.KP
attribute [local simp] RV.cells RV.one PV.cells PV.solid PV.one J2 a6 N0 N1 RV.ofCells elems PV.killL
variable [GF]
theorem b7c (x:LParcel) (hx:a6y 1048576 x):n7 Tryz.prog 62 [.val (E8 x),.val (E8 x)] (.ret (.val (.bool true)) []) []:=by
 refine J0 mixed ok62 rfl (fun _=>rfl) ?_
 unfold ir62
 rw [b7]
 unfold a6y at hx
 have b0:=hx
 simp [d3,x8,M5,a7,c8,E8,tx,num,a6]
theorem b5b (l:List LParcel) (hx:bdS 1048576 (a6y 1048576) l):n7 Tryz.prog 13 [.val (.list 3 (l.map E8)),.val (.list 3 (l.map E8))] (.ret (.val (.bool true)) []) []:=by
 refine J0 mixed ok13 rfl (fun _=>rfl) ?_
 unfold ir13
 rw [b7]
 have hl:l.length≤1048576:=hx.1
 simp [d3,x8,M5,a7,c8,num]
 refine O6 (X:=Nat) (fun i=>⟨P6 [(0,.val (.list 3 (l.map E8))),(1,.val (.list 3 (l.map E8))),(5,.val (num i))],P3 []⟩) (fun i=>i≤l.length) (fun i=>l.length - i) 0 (Le.mk _ _ ?_ ?_) ?_ ?_
 · simp [upd,num,PV.kill]
 · simp
 · simp
 · intro i hi
   simp [num]
   refine O7 (fun h1=>?_) (fun h1=>?_)
   · have e1:(l.map E8)[i]?.getD .nilptr=E8 l[i]:=by simp [List.getElem?_eq_getElem h1]
     simp [num,h1,e1,E8,tx]
     refine n0 rfl rfl (.inl rfl) (b7c l[i] (hx.2 _ (List.getElem_mem h1))) ?_
     simp
     refine LoopNext.mk (i+1) (by omega) (by omega) (Le.mk _ _ ?_ ?_)
     · simp [num];exact wrap_i64 (by omega) (by omega)
     · simp
   · simp
theorem b2y {K:Kx (PExit→St→Prop)} (xs:List RV) (k i:Nat) (a0 a1 a2:RV) (hi:i < xs.length) (hk:k < 549755813888) (hl:xs.length < 1099511627776) (hx:xs[i]?.getD .nilptr=.agg [a0,a1,a2])
 (hn:∀ st':St,st'.env 0=.own 900→st'.env 1=.val (num ((k+3:Nat):Int))→st'.env 5=.val (num ((i+1:Nat):Int))→st'.mem 900=.row 94 3 (xs.set i (E8 (R2 k)))→K.k .normal st') :
 EC Tryz.prog ir14_l6 ⟨P6 [(0,.own 900),(1,.val (num k)),(5,.val (num i))],P3 [(900,.row 94 3 xs)]⟩ (K:=K):=by
 unfold ir14_l6
 have s1:IntKind.i64.wrap ((k:Int)+1)=(k:Int)+1:=wrap_i64 (by omega) (by omega)
 have s2:IntKind.i64.wrap ((k:Int)+1+1)=(k:Int)+1+1:=wrap_i64 (by omega) (by omega)
 have c1:((k+1:Nat):Int)=(k:Int)+1:=by omega
 have s3:IntKind.i64.wrap ((k:Int)+1+1+1)=(k:Int)+1+1+1:=wrap_i64 (by omega) (by omega)
 have c2:((k+2:Nat):Int)=(k:Int)+1+1:=by omega
 have hmk2:n7 Tryz.prog 63 [.val (.int .i64 ((k:Int)+1+1))] (.ret (.val (.str (bs (lmk (k+2))))) []) []:=by
  have h:=b0i (k+2) (by omega)
  unfold num tx at h
  rwa [c2] at h
 have si:IntKind.i64.wrap ((i:Int)+1)=(i:Int)+1:=wrap_i64 (by omega) (by omega)
 have hx':xs[i]=.agg [a0,a1,a2]:=by rw [← hx];simp [List.getElem?_eq_getElem hi]
 simp [num,hi,hx,s1,s2,s3]
 refine n0 rfl rfl (.inl rfl) hmk2 ?_
 simp [num,hi,hx,tx,s1,s2,s3]
 refine hn _ ?_ ?_ ?_ ?_
 · simp
 · simp only [v6,E3,v8,E1,w5,l8,v7,E2,f6,y7,F0,F1,b8,l3,l4,d8,w6,l7,f5,D9,u9,l6,l5,C1,C2,S0,S1,Option.getD_some,Option.getD_none,A8,n8,k7,B8,k6,j4,C0,j5,B9,B7,B6,F5,t7,j8,B4,s9,j7,B3,A6,B5,t6,B1,j3,s8,B2,F7,F6,A7,A9,j6,B0,t8,j9,z1,f8,A5,A4,A3,F2,q7,i6,A1,p8,f9,A0,y8,A2,p9,z7,f7,p7,z8,F4,F3,y9,p6,i8,z6,s7,i7,H5,H4,I6,H6,I0,H8,H7,I5,H9,I1,I2,I3,I4,x1,w9,w8,J5,J6,J4,E4,n9,C6,u1,I8,l9,N4,J9,J3,L4,L6,L5,N5,N6,G7,G9,G8,H0,H1,K9,u3,K8,C7,C8,C9,u4,S3,D6,u7,N2,N3,F8,J7,J8,Option.map_some,Option.map_none,D0,u5,u0,k8,C4,C5,G0,F9,M2,M1,H3,D7,D8,H2,L7,L8,G3,l1,G4,k9,K4,D5,D4,d9,L3,L9,G6,K5,K7,K6,u2,x9,y6,y0,d4,L2,N8,N7,K2,G5,O9,K3,l2,D2,D3,u6,D1,d7,o0,d6,o9,d5,I7,M3,M4,x4,x5,E6,E5,C3,J4,s1,s2,s3,num]
   simp
   try omega
 · simp [num,si]
 · simp [hi,hx,hx']
   try simp [s1,s2,s3,c1,c2,E8,R2,num,tx]
theorem b07 (l:List LParcel) (k:Nat) (hk:k < 8388608) (hl:l.length≤1048576):a61 Tryz.prog 14 (.own 0) 94 3 (l.map E8) [.val (num k)] (num ((k+3*l.length:Nat):Int)) ((mkL R2 3 l.length k).map E8):=by
 refine b0h mixed ok14 rfl ?_
 unfold ir14
 rw [b7]
 simp [d3,x8,M5,a7,c8,U9,PV.nm,num]
 refine O6 (X:=Nat) (fun i=>⟨P6 [(0,.own 900),(1,.val (num ((k+3*i:Nat):Int))),(5,.val (num i))],P3 [(900,.row 94 3 ((mkU R2 3 l k i).map E8))]⟩) (fun i=>i≤l.length) (fun i=>l.length - i) 0 (Le.mk _ _ ?_ ?_) (Nat.zero_le _) ?_
 · simp [upd,num,PV.kill]
 · simp [b4q]
 · intro i hi
   have hml:=b8k R2 3 l k i hi
   by_cases h1:i < l.length
   · have hmi:i < (mkU R2 3 l k i).length:=by omega
     have hset:=b8j R2 3 l k i h1
     refine b2y ((mkU R2 3 l k i).map E8) (k+3*i) i (num (mkU R2 3 l k i)[i].id) (num (mkU R2 3 l k i)[i].age) (tx (mkU R2 3 l k i)[i].body) (by simpa using hmi) (by omega) (by simp;omega) (by simp [List.getElem?_eq_getElem hmi,E8]) (fun st' q0 q1 q5 qm=>?_)
     simp
     refine LoopNext.mk (i+1) h1 (by omega) (Le.mk _ _ ?_ ?_)
     · simp [q0,q1,q5,num]
       omega
     · rw [← List.map_set,hset] at qm
       simp [qm]
   · have e:i=l.length:=by omega
     subst e
     unfold ir14_l6
     simp [num,hml,b8l,a00]
theorem b08 (n k:Nat) (hk:k < 8388608) (hl:n≤1048576):n7 Tryz.prog 15 [.val (.list 3 ((mkL R2 3 n k).map E8)),.val (num k)] (.ret (.val (num ((k+3*n:Nat):Int))) []) []:=by
 refine J0 mixed ok15 rfl (fun _=>rfl) ?_
 unfold ir15
 rw [b7]
 have hlen:=a00 R2 3 n k
 simp [d3,x8,M5,a7,c8,num]
 refine O6 (X:=Nat) (fun i=>⟨P6 [(0,.val (.list 3 ((mkL R2 3 n k).map E8))),(1,.val (num ((k+3*i:Nat):Int))),(5,.val (num i))],P3 []⟩) (fun i=>i≤n) (fun i=>n - i) 0 (Le.mk _ _ ?_ ?_) (Nat.zero_le _) ?_
 · simp [upd,num,PV.kill]
 · simp
 · intro i hi
   unfold ir15_l6
   by_cases h1:i < n
   · have hi':i < (mkL R2 3 n k).length:=by omega
     have hat:(mkL R2 3 n k)[i]=R2 (k+3*i):=mkL_at h1
     have e1:((mkL R2 3 n k).map E8)[i]?.getD .nilptr=E8 (R2 (k+3*i)):=by simp [List.getElem?_eq_getElem hi',hat]
     generalize hj:k+3*i=j at *
     have hjj:j < 1099511627776:=by omega
     have s1:IntKind.i64.wrap ((j:Int)+1)=((j+1:Nat):Int):=by rw [wrap_i64 (by omega) (by omega)];omega
     have s2:IntKind.i64.wrap (((j+1:Nat):Int)+1)=((j+2:Nat):Int):=by rw [wrap_i64 (by omega) (by omega)];omega
     have s3:IntKind.i64.wrap (((j+2:Nat):Int)+1)=((j+3:Nat):Int):=by rw [wrap_i64 (by omega) (by omega)];omega
     have si:IntKind.i64.wrap ((i:Int)+1)=((i+1:Nat):Int):=by rw [wrap_i64 (by omega) (by omega)];omega
     have hmk2:n7 Tryz.prog 63 [.val (.int .i64 ((j+2:Nat):Int))] (.ret (.val (.str (bs (lmk (j+2))))) []) []:=b0i (j+2) (by omega)
     have hat2:R2 j=⟨(j:Int),((j+1:Nat):Int),lmk (j+2)⟩:=rfl
     generalize hj1:((j+1:Nat):Int)=j1 at *
     generalize hj2:((j+2:Nat):Int)=j2 at *
     simp [num,a00,h1,e1,hat,hat2,E8,tx,s1,s2,s3,si]
     refine S9 rfl rfl (.inl rfl) hmk2 ?_
     simp [num,a00,h1,e1,hat,hat2,E8,tx,s1,s2,s3,si]
     refine LoopNext.mk (i+1) h1 (by omega) (Le.mk _ _ ?_ ?_)
     · simp [num,s1,s2,s3,si]
       omega
     · simp
   · have e:i=n:=by omega
     subst e
     simp [num,a00]
end Go.Proofs
end
section
namespace Go.Proofs
open Go.PW Go.KP
attribute [local simp] RV.cells RV.one PV.cells PV.solid PV.one J2 a6 N0 N1 RV.ofCells elems PV.killL
variable [GH]
theorem pOf_bd {x:LJson} (h:(pOf x).2=true):(pOf x).1.body.length≤8000:=by
 unfold pOf at h ⊢
 by_cases hT:c1l x=true
 · rw [if_pos hT] at h ⊢
   unfold b1n pOK at h
   simp only [Bool.and_eq_true,decide_eq_true_eq] at h
   exact h.2.2.1
 · rw [if_neg hT] at h;cases h
theorem b59 (t:Tx):(rpR t).length≤3∧∀ p∈rpR t,p.body.length≤8000:=by
 unfold rpR rp
 split
 · exact ⟨Nat.zero_le _,by simp⟩
 split
 · exact ⟨Nat.zero_le _,by simp⟩
 split
 · exact ⟨Nat.zero_le _,by simp⟩
 split
 · rename_i h3 ha
   refine ⟨by simp;omega,fun p hp=>?_⟩
   obtain ⟨x,hx,rfl⟩:=List.mem_map.1 hp
   exact pOf_bd (List.all_eq_true.1 ha x hx)
 · exact ⟨Nat.zero_le _,by simp⟩
end Go.Proofs
end
section
namespace Go.Proofs
open Go.PW Go.KP
attribute [local simp] RV.cells RV.one PV.cells PV.solid PV.one J2 a6 N0 N1 RV.ofCells elems PV.killL
variable [GH]
def po (w:LWire):List LParcel×Int:=if 65536 < w.body.length∨4096 < w.ids.length then ([],1) else if rpC w.body≠0 then ([],rpC w.body) else if (rpR w.body).map LParcel.id=w.ids then (rpR w.body,0) else ([],16)
def poR (w:LWire):List LParcel:=(po w).1
def poC (w:LWire):Int:=(po w).2
theorem b5x (w:LWire):n7 Tryz.prog 17 [.val (P8 w)] (.ret (.tup [.val (.list 3 ((poR w).map E8)),.val (num (poC w))]) []) []:=by
 refine J0 mixed ok17 rfl (fun _=>rfl) ?_
 obtain ⟨R,hR⟩:∃ R,po w=R:=⟨_,rfl⟩
 unfold poR poC
 rw [hR]
 unfold po at hR
 obtain ⟨Z,hZ⟩:∃ Z,a45 [.t 2,.t 3] (.tup [.val (.list 3 (R.1.map E8)),.val (num R.2)])=Z:=⟨_,rfl⟩
 rw [hZ]
 unfold ir17
 rw [b7]
 by_cases h1:w.body.length≤65536
 · by_cases h2:w.ids.length≤4096
   · have h1':(w.body.length:Int)≤65536:=by omega
     have h1n:¬ (65536:Int) < (w.body.length:Int):=by omega
     have h2':¬ (4096:Int) < (w.ids.length:Int):=by omega
     rw [if_neg (by omega)] at hR
     have hr:=c0l w.body (by omega)
     unfold rpP at hr
     have e:a3t w.body=Q0 w.body:=by unfold a3t;rw [if_pos h1]
     have e1:(rp (Q0 w.body)).1=rpR w.body:=by unfold rpR;rw [e]
     have e2:(rp (Q0 w.body)).2=rpC w.body:=by unfold rpC;rw [e]
     have hbd:=(b59 w.body).1
     rw [e1,e2] at hr
     generalize rpR w.body=L at *
     generalize rpC w.body=c at *
     simp [d3,x8,M5,a7,c8,P8,num,tx,x6,a8,h1',h2',h1,h1n]
     refine T0 rfl rfl (.inl rfl) hr ?_
     simp [num,tx]
     by_cases h3:c=0
     · rw [if_neg (by omega)] at hR
       simp [num,tx,h3]
       refine O6 (X:=Nat) (fun i=>⟨P6 [(1,.ptr 1 0),(4,.val (.list 3 (L.map E8))),(6,.own 29),(7,.val (num (i:Int)))],P3 [(1,.box [.val (num w.at_),.val (num w.status),.val (tx w.group),.val (tx w.url),.val (.list 1 (w.ids.map num)),.val (tx w.body),.val (.bool w.lost)]),(29,.row 3 1 ((L.take i).map fun x=>num x.id))]⟩)
        (fun i=>i≤L.length) (fun i=>L.length - i) 0 (Le.mk _ _ ?_ ?_) (Nat.zero_le _) ?_
       · simp [num,tx,PV.kill]
       · simp [num,tx,MObj.kill,PV.kill,PV.killL,x6]
       · intro i hi
         have wi:IntKind.i64.wrap ((i:Int)+1)=((i+1:Nat):Int):=by rw [wrap_i64 (by omega) (by omega)];omega
         by_cases h4:i < L.length
         · have hst:(L.take (i+1)).map (fun x=>num x.id)=(L.take i).map (fun x=>num x.id)++[num L[i].id]:=by
            rw [List.take_add_one,List.getElem?_eq_getElem h4,List.map_append];rfl
           obtain ⟨y,hy⟩:∃ y,L[i]=y:=⟨_,rfl⟩
           rw [hy] at hst
           simp [num,tx,h4,hy,E8,elems,a6,RV.one,J2]
           refine ⟨by omega,by omega,?_⟩
           refine LoopNext.mk (i+1) h4 (by omega) (Le.mk _ _ ?_ ?_)
           · simp [num,wi,tx]
           · rw [hst];simp [num,tx,E8]
         · have ei:i=L.length:=by omega
           subst ei
           have hS:=c0o (L.map LParcel.id) w.ids (by simp;omega) (by omega)
           simp [num,tx]
           simp only [List.map_map,Function.comp_def] at hS
           refine n0 rfl rfl (.inr rfl) hS ?_
           by_cases h5:L.map LParcel.id=w.ids
           · obtain rfl:R=(L,0):=by rw [← hR,if_pos h5]
             simp [num,tx,h5]
             rw [← hZ]
             simp [num,O0,PV.pl]
           · obtain rfl:R=([],16):=by rw [← hR,if_neg h5]
             simp [num,tx,h5]
             rw [← hZ]
             simp [num,O0,PV.pl]
     · obtain rfl:R=([],c):=by rw [← hR,if_pos h3]
       simp [num,tx,h3]
       rw [← hZ]
       simp [num,O0,PV.pl]
   · have h1':(w.body.length:Int)≤65536:=by omega
     have h1n:¬ (65536:Int) < (w.body.length:Int):=by omega
     have h2':(4096:Int) < (w.ids.length:Int):=by omega
     obtain rfl:R=([],1):=by rw [← hR,if_pos (by omega)]
     simp [d3,x8,M5,a7,c8,P8,num,tx,x6,a8,h1',h2',h1,h1n]
     rw [← hZ]
     simp [num,O0,PV.pl]
 · have h1':¬ (w.body.length:Int)≤65536:=by omega
   have h1n:(65536:Int) < (w.body.length:Int):=by omega
   obtain rfl:R=([],1):=by rw [← hR,if_pos (by omega)]
   simp [d3,x8,M5,a7,c8,P8,num,tx,x6,a8,h1',h1,h1n]
   rw [← hZ]
   simp [num,O0,PV.pl]
theorem b46 (w:LWire):n7 Tryz.prog 19 [.val (P8 w)] (.ret (.tup [.own 0,.val (num (poC w))]) [⟨94,3,(poR w).map E8⟩]) []:=by
 obtain ⟨R,hR⟩:∃ R,po w=R:=⟨_,rfl⟩
 unfold poR poC
 rw [hR]
 unfold po at hR
 refine b5n (mk:=fun i=>.tup [.own i,.val (num R.2)]) mixed ok19 rfl (fun _=>rfl) ?_
 obtain ⟨Z,hZ⟩:∃ Z,c3f [.t 2,.t 3] (fun i=>.tup [.own i,.val (num R.2)]) 94 3 (R.1.map E8)=Z:=⟨_,rfl⟩
 rw [hZ]
 unfold ir19
 rw [b7]
 by_cases h1:w.body.length≤65536
 · by_cases h2:w.ids.length≤4096
   · have h1':(w.body.length:Int)≤65536:=by omega
     have h1n:¬ (65536:Int) < (w.body.length:Int):=by omega
     have h2':¬ (4096:Int) < (w.ids.length:Int):=by omega
     rw [if_neg (by omega)] at hR
     have hr:=b06 w.body
     have hbd:=(b59 w.body).1
     generalize rpR w.body=L at *
     generalize rpC w.body=c at *
     simp [d3,x8,M5,a7,c8,P8,num,tx,x6,a8,h1',h2',h1,h1n]
     refine b5p rfl rfl rfl (.inl rfl) hr ?_
     simp [num,tx,PV.shift,PV.shiftL,x7]
     by_cases h3:c=0
     · rw [if_neg (by omega)] at hR
       simp [num,tx,h3]
       refine O6 (X:=Nat) (fun i=>⟨P6 [(1,.ptr 1 0),(4,.own 23000),(29,.own 23000),(30,.val (num L.length)),(6,.own 28),(31,.val (num (i:Int)))],P3 [(1,.box [.val (num w.at_),.val (num w.status),.val (tx w.group),.val (tx w.url),.val (.list 1 (w.ids.map num)),.val (tx w.body),.val (.bool w.lost)]),(23000,.row 94 3 (L.map E8)),(28,.row 3 1 ((L.take i).map fun x=>num x.id))]⟩)
        (fun i=>i≤L.length) (fun i=>L.length - i) 0 (Le.mk _ _ ?_ ?_) (Nat.zero_le _) ?_
       · simp [num,tx,PV.kill]
       · simp [num,tx,MObj.kill,PV.kill,PV.killL,x6]
       · intro i hi
         have wi:IntKind.i64.wrap ((i:Int)+1)=((i+1:Nat):Int):=by rw [wrap_i64 (by omega) (by omega)];omega
         by_cases h4:i < L.length
         · have hst:(L.take (i+1)).map (fun x=>num x.id)=(L.take i).map (fun x=>num x.id)++[num L[i].id]:=by
            rw [List.take_add_one,List.getElem?_eq_getElem h4,List.map_append];rfl
           obtain ⟨y,hy⟩:∃ y,L[i]=y:=⟨_,rfl⟩
           rw [hy] at hst
           simp [num,tx,h4,hy,E8,elems,a6,RV.one,J2]
           refine ⟨by omega,by omega,?_⟩
           refine LoopNext.mk (i+1) h4 (by omega) (Le.mk _ _ ?_ ?_)
           · simp [num,wi,tx]
           · rw [hst];simp [num,tx,E8]
         · have ei:i=L.length:=by omega
           subst ei
           have hS:=b47 (L.map LParcel.id) w.ids (by simp;omega) (by omega)
           simp [num,tx]
           simp only [List.map_map,Function.comp_def] at hS
           refine n0 rfl rfl (.inr rfl) hS ?_
           by_cases h5:L.map LParcel.id=w.ids
           · obtain rfl:R=(L,0):=by rw [← hR,if_pos h5]
             simp [num,tx,h5]
             rw [← hZ]
             simp [num]
             exact b4e 23000 (by simp) (by simp) (by simp)
           · obtain rfl:R=([],16):=by rw [← hR,if_neg h5]
             simp [num,tx,h5]
             rw [← hZ]
             simp [num]
             exact U2 3 600 (by omega) (.inl (by omega)) (by omega) (by simp) (by simp)
     · obtain rfl:R=([],c):=by rw [← hR,if_pos h3]
       simp [num,tx,h3]
       rw [← hZ]
       simp [num]
       exact U2 3 600 (by omega) (.inl (by omega)) (by omega) (by simp) (by simp)
   · have h1':(w.body.length:Int)≤65536:=by omega
     have h1n:¬ (65536:Int) < (w.body.length:Int):=by omega
     have h2':(4096:Int) < (w.ids.length:Int):=by omega
     obtain rfl:R=([],1):=by rw [← hR,if_pos (by omega)]
     simp [d3,x8,M5,a7,c8,P8,num,tx,x6,a8,h1',h2',h1,h1n]
     rw [← hZ]
     simp [num]
     exact U2 3 600 (by omega) (.inl (by omega)) (by omega) (by simp) (by simp)
 · have h1':¬ (w.body.length:Int)≤65536:=by omega
   have h1n:(65536:Int) < (w.body.length:Int):=by omega
   obtain rfl:R=([],1):=by rw [← hR,if_pos (by omega)]
   simp [d3,x8,M5,a7,c8,P8,num,tx,x6,a8,h1',h1,h1n]
   rw [← hZ]
   simp [num]
   exact U2 3 600 (by omega) (.inl (by omega)) (by omega) (by simp) (by simp)
theorem c1e (w:LWire):(poR w).length≤3∧∀ p∈poR w,p.body.length≤8000:=by
 unfold poR po
 split
 · exact ⟨Nat.zero_le _,by simp⟩
 split
 · exact ⟨Nat.zero_le _,by simp⟩
 split
 · exact b59 _
 · exact ⟨Nat.zero_le _,by simp⟩
theorem poR_bdS (w:LWire):bdS 1048576 (a6y 1048576) (poR w):=by
 obtain ⟨h1,h2⟩:=c1e w
 exact ⟨by omega,fun p hp=>Nat.le_trans (h2 p hp) (by omega)⟩
end Go.Proofs
end
