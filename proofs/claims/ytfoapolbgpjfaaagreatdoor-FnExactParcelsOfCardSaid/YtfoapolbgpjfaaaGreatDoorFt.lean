/- Ft: merged out of KXbd, KXbe, KXbg, KXbi, KXbk. -/
import Derived.Test.YtfoapolbgpjfaaaGreatDoorCa
import Derived.Test.YtfoapolbgpjfaaaGreatDoorAc
import Derived.Test.YtfoapolbgpjfaaaGreatDoorBa
import Derived.Test.YtfoapolbgpjfaaaGreatDoorFs
import Derived.Test.YtfoapolbgpjfaaaGreatDoorPWae
import Derived.Test.YtfoapolbgpjfaaaGreatDoorPWaf
import Derived.Test.YtfoapolbgpjfaaaGreatDoorPWag
set_option linter.unusedSectionVars false
set_option linter.unusedSimpArgs false
set_option linter.unusedVariables false
set_option maxRecDepth 100000
section
namespace Go.Proofs
open Go.PW Go.KP
attribute [local simp] RV.cells RV.one PV.cells PV.solid PV.one J2 a6 N0 N1 RV.ofCells elems PV.killL
variable [GF]
theorem c2n (l:List Int) (left:Int) (h0:0≤left) (h1:left≤1048576) (hl:l.length≤9223372036854775807):n7 Tryz.prog 64 [.val (.list 1 (l.map num)),.val (num left)] (.ret (.val (num (cut left l.length))) []) []:=by
 refine J0 mixed ok64 rfl (fun _=>rfl) ?_
 unfold ir64
 rw [b7]
 have hw:IntKind.i64.wrap (left - (l.length:Int))=left - l.length:=wrap_i64 (by omega) (by omega)
 by_cases h:left - (l.length:Int) < 0
 · rw [a3e (by omega)]
   simp [d3,x8,M5,a7,c8,num,hw,h]
 · rw [b3k (by omega)]
   simp [d3,x8,M5,a7,c8,num,hw,h]
theorem c2p (l:List Int) (hx:l.length≤1048576):n7 Tryz.prog 68 [.val (.list 1 (l.map num)),.val (.list 1 (l.map num))] (.ret (.val (.bool true)) []) []:=by
 refine J0 mixed ok68 rfl (fun _=>rfl) ?_
 unfold ir68
 rw [b7]
 have hl:l.length≤1048576:=hx
 simp [d3,x8,M5,a7,c8,num]
 refine O6 (X:=Nat) (fun i=>⟨P6 [(0,.val (.list 1 (l.map num))),(1,.val (.list 1 (l.map num))),(5,.val (num i))],P3 []⟩) (fun i=>i≤l.length) (fun i=>l.length - i) 0 (Le.mk _ _ ?_ ?_) ?_ ?_
 · simp [upd,num,PV.kill]
 · simp
 · simp
 · intro i hi
   simp [num]
   refine O7 (fun h1=>?_) (fun h1=>?_)
   · have e1:(l.map num)[i]?.getD .nilptr=num l[i]:=by simp [List.getElem?_eq_getElem h1]
     simp [num,h1,e1,tx]
     refine LoopNext.mk (i+1) (by omega) (by omega) (Le.mk _ _ ?_ ?_)
     · simp [num];exact wrap_i64 (by omega) (by omega)
     · simp
   · simp
theorem c2m (x:LWire) (left:Int) (h0:0≤left) (h1:left≤1048576) (hx:a0k 9223372036854775807 x):n7 Tryz.prog 16 [.val (P8 x),.val (num left)] (.ret (.val (num (cut left (a8r x)))) []) []:=by
 refine J0 mixed ok16 rfl (fun _=>rfl) ?_
 unfold ir16
 rw [b7]
 unfold a0k at hx
 obtain ⟨b0,b1,b2,b3⟩:=hx
 unfold a8r
 have w0:IntKind.i64.wrap (left - ((x.group.length:Nat):Int))=left - ((x.group.length:Nat):Int):=wrap_i64 (by omega) (by omega)
 by_cases k0:left - ((x.group.length:Nat):Int) < 0
 · rw [a3e (by omega)]
   simp [d3,x8,M5,a7,c8,P8,tx,num,a8,a6,w0,k0]
 · skip
   have w1:IntKind.i64.wrap ((left - (x.group.length:Nat)) - ((x.url.length:Nat):Int))=(left - (x.group.length:Nat)) - ((x.url.length:Nat):Int):=wrap_i64 (by omega) (by omega)
   by_cases k1:(left - (x.group.length:Nat)) - ((x.url.length:Nat):Int) < 0
   · rw [a3e (by omega)]
     simp [d3,x8,M5,a7,c8,P8,tx,num,a8,a6,w0,w1,k0,k1]
   · simp [d3,x8,M5,a7,c8,P8,tx,num,a8,a6,w0,w1,k0,k1]
     refine n0 rfl rfl (.inl rfl) (c2n x.ids (left - (x.group.length:Nat) - (x.url.length:Nat)) (by omega) (by omega) b2) ?_
     by_cases k2:(left - (x.group.length:Nat) - (x.url.length:Nat)) - ((x.ids.length:Nat):Int) < 0
     · first | rw [a3e (by omega),a3e (by omega)] | rw [a3e (by omega)]
       simp [P8,tx,num,a8,a6]
     · rw [b3k (show ¬ (left - (x.group.length:Nat) - (x.url.length:Nat)) - ((x.ids.length:Nat):Int) < 0 by omega)]
       simp [P8,tx,num,a8,a6,k0,k1,k2]
       have w3:IntKind.i64.wrap ((left - (x.group.length:Nat) - (x.url.length:Nat) - (x.ids.length:Nat)) - ((x.body.length:Nat):Int))=(left - (x.group.length:Nat) - (x.url.length:Nat) - (x.ids.length:Nat)) - ((x.body.length:Nat):Int):=wrap_i64 (by omega) (by omega)
       by_cases k3:(left - (x.group.length:Nat) - (x.url.length:Nat) - (x.ids.length:Nat)) - ((x.body.length:Nat):Int) < 0
       · rw [a3e (by omega)]
         simp [P8,tx,num,a8,a6,w0,w1,w3,k0,k1,k2,k3]
       · rw [b3k (by omega)]
         simp [P8,tx,num,a8,a6,w0,w1,w3,k0,k1,k2,k3]
         try omega
theorem c2o (x:LWire) (hx:a0k 1048576 x):n7 Tryz.prog 20 [.val (P8 x),.val (P8 x)] (.ret (.val (.bool true)) []) []:=by
 refine J0 mixed ok20 rfl (fun _=>rfl) ?_
 unfold ir20
 rw [b7]
 unfold a0k at hx
 obtain ⟨b0,b1,b2,b3⟩:=hx
 simp [d3,x8,M5,a7,c8,P8,tx,num,a6]
 refine n0 rfl rfl (.inl rfl) (c2p x.ids b2) ?_
 simp [P8,tx,num,a6]
end Go.Proofs
end
section
namespace Go.Proofs
open Go.PW Go.KP
attribute [local simp] RV.cells RV.one PV.cells PV.solid PV.one J2 a6 N0 N1 RV.ofCells elems PV.killL
variable [GF]
theorem b1a (l:List Int) (hx:l.length≤1048576):n7 Tryz.prog 66 [.val (.list 1 (l.map num))] (.ret (.own 0) [⟨3,1,l.map num⟩]) []:=by
 refine call_mk (mk:=fun i=>.own i) mixed ok66 rfl (fun _=>rfl) ?_
 unfold ir66
 rw [b7]
 have hl:l.length≤1048576:=hx
 simp [d3,x8,M5,a7,c8,num,J2]
 refine ⟨by omega,by omega,?_⟩
 refine O6 (X:=Nat) (fun i=>⟨P6 [(0,.val (.list 1 (l.map num))),(3,.own 7),(4,.val (num i))],P3 [(7,.row 3 1 (a58 num (.int .i64 0) l i))]⟩) (fun i=>i≤l.length) (fun i=>l.length - i) 0 (Le.mk _ _ ?_ ?_) ?_ ?_
 · simp [upd,num,PV.kill]
 · simp [upd,num,bs,b9c]
 · simp
 · intro i hi
   have hlen:=c0x num (.int .i64 0) l i hi
   simp [num,J2]
   refine O7 (fun h1=>?_) (fun h1=>?_)
   · have e1:(l.map num)[i]?.getD .nilptr=num l[i]:=by simp [List.getElem?_eq_getElem h1]
     have e2:=upTo_at num (.int .i64 0) l i h1
     have e3:=c0w num (.int .i64 0) l i h1
     have e4:(a58 num (.int .i64 0) l i)[i]'(by omega)=(.int .i64 0):=by
      have h9:=e2
      rw [List.getElem?_eq_getElem (show i < (a58 num (.int .i64 0) l i).length by omega)] at h9
      exact h9
     simp [num,h1,e1,tx,hlen,J2]
     refine LoopNext.mk (i+1) (by omega) (by omega) (Le.mk _ _ ?_ ?_)
     · simp [num];exact wrap_i64 (by omega) (by omega)
     · rw [← e3]
       simp [num,tx,e4]
   · have e1:i=l.length:=by omega
     subst e1
     simp [num,c0y,O0,PV.pl]
theorem b9r {K:Kx (PExit→St→Prop)} (xs:List RV) (k i:Nat) (a0:Int) (hi:i < xs.length) (hk:k < 549755813888) (hl:xs.length < 1099511627776) (hx:xs[i]?.getD .nilptr=.int .i64 a0)
 (hn:∀ st':St,st'.env 0=.own 900→st'.env 1=.val (num ((k+1:Nat):Int))→st'.env 5=.val (num ((i+1:Nat):Int))→st'.mem 900=.row 3 1 (xs.set i (num (a6i k)))→K.k .normal st') :
 EC Tryz.prog ir69_l6 ⟨P6 [(0,.own 900),(1,.val (num k)),(5,.val (num i))],P3 [(900,.row 3 1 xs)]⟩ (K:=K):=by
 unfold ir69_l6
 have s1:IntKind.i64.wrap ((k:Int)+1)=(k:Int)+1:=wrap_i64 (by omega) (by omega)
 have si:IntKind.i64.wrap ((i:Int)+1)=(i:Int)+1:=wrap_i64 (by omega) (by omega)
 have hx':xs[i]=.int .i64 a0:=by rw [← hx];simp [List.getElem?_eq_getElem hi]
 simp [num,hi,hx,s1]
 refine hn _ ?_ ?_ ?_ ?_
 · simp
 · simp only [v6,E3,v8,E1,w5,l8,v7,E2,f6,y7,F0,F1,b8,l3,l4,d8,w6,l7,f5,D9,u9,l6,l5,C1,C2,S0,S1,Option.getD_some,Option.getD_none,A8,n8,k7,B8,k6,j4,C0,j5,B9,B7,B6,F5,t7,j8,B4,s9,j7,B3,A6,B5,t6,B1,j3,s8,B2,F7,F6,A7,A9,j6,B0,t8,j9,z1,f8,A5,A4,A3,F2,q7,i6,A1,p8,f9,A0,y8,A2,p9,z7,f7,p7,z8,F4,F3,y9,p6,i8,z6,s7,i7,H5,H4,I6,H6,I0,H8,H7,I5,H9,I1,I2,I3,I4,x1,w9,w8,J5,J6,J4,E4,n9,C6,u1,I8,l9,N4,J9,J3,L4,L6,L5,N5,N6,G7,G9,G8,H0,H1,K9,u3,K8,C7,C8,C9,u4,S3,D6,u7,N2,N3,F8,J7,J8,Option.map_some,Option.map_none,D0,u5,u0,k8,C4,C5,G0,F9,M2,M1,H3,D7,D8,H2,L7,L8,G3,l1,G4,k9,K4,D5,D4,d9,L3,L9,G6,K5,K7,K6,u2,x9,y6,y0,d4,L2,N8,N7,K2,G5,O9,K3,l2,D2,D3,u6,D1,d7,o0,d6,o9,d5,I7,M3,M4,x4,x5,E6,E5,C3,J4,s1,num]
   simp
   try omega
 · simp [num,si]
 · simp [hi,hx,hx']
   try simp [s1,a6i,num,tx]
theorem b7a (l:List Int) (k:Nat) (hk:k < 8388608) (hl:l.length≤1048576):a61 Tryz.prog 69 (.own 0) 3 1 (l.map num) [.val (num k)] (num ((k+1*l.length:Nat):Int)) ((mkL a6i 1 l.length k).map num):=by
 refine b0h mixed ok69 rfl ?_
 unfold ir69
 rw [b7]
 simp [d3,x8,M5,a7,c8,U9,PV.nm,num]
 refine O6 (X:=Nat) (fun i=>⟨P6 [(0,.own 900),(1,.val (num ((k+1*i:Nat):Int))),(5,.val (num i))],P3 [(900,.row 3 1 ((mkU a6i 1 l k i).map num))]⟩) (fun i=>i≤l.length) (fun i=>l.length - i) 0 (Le.mk _ _ ?_ ?_) (Nat.zero_le _) ?_
 · simp [upd,num,PV.kill]
 · simp [b4q]
 · intro i hi
   have hml:=b8k a6i 1 l k i hi
   by_cases h1:i < l.length
   · have hmi:i < (mkU a6i 1 l k i).length:=by omega
     have hset:=b8j a6i 1 l k i h1
     refine b9r ((mkU a6i 1 l k i).map num) (k+1*i) i (mkU a6i 1 l k i)[i] (by simpa using hmi) (by omega) (by simp;omega) (by simp [List.getElem?_eq_getElem hmi,num]) (fun st' q0 q1 q5 qm=>?_)
     simp
     refine LoopNext.mk (i+1) h1 (by omega) (Le.mk _ _ ?_ ?_)
     · simp [q0,q1,q5,num]
       omega
     · rw [← List.map_set,hset] at qm
       simp [qm]
   · have e:i=l.length:=by omega
     subst e
     unfold ir69_l6
     simp [num,hml,b8l,a00]
end Go.Proofs
end
section
namespace Go.Proofs
open Go.PW Go.KP
attribute [local simp] RV.cells RV.one PV.cells PV.solid PV.one J2 a6 N0 N1 RV.ofCells elems PV.killL
variable [GF]
attribute [local simp] a5j b2b c1r c1s c1p c1q a3d b7k a91 c3j b7y b7z b0s
theorem b5c {α:Type} {f:α→RV} (h:∀ x,(f x).flat=true) (l:List α):∀ x∈l.map f,x.flat=true:=fun x hx=>by
 obtain ⟨y,_,rfl⟩:=List.mem_map.1 hx
 exact h y
theorem c2u (l:List Int) (k j:Nat) (hk:k < 16) (hx:l.length≤1048576):T6 Tryz.prog 66 [.val (.list 1 (l.map num))] (fun _=>.dead) (fun _=>false) (.own (DN k j)) (dyn fun k' j'=>if k'=k∧j'=j then .row 3 1 (l.map num) else .dead):=
 mem_new (b1a l hx) (b5c (fun _=>rfl) l) k j hk
def a0x (x:LWire) (j:Nat):List PV:=[.val (num x.at_),.val (num x.status),.val (tx x.group),.val (tx x.url),.own (DN 10 j),.val (tx x.body),.val (.bool x.lost)]
def a1g (x:LWire) (k:Nat):MObj:=if k=10 then .row 3 1 (x.ids.map num) else .dead
theorem a5l (x:LWire) (k:Nat):((k=10)∧∃ E sz xs,a1g x k=.row E sz xs)∨a1g x k=.dead∧¬ (k=10):=by
 by_cases h:k=10
 · refine .inl ⟨h,?_⟩
   unfold a1g
   subst h;simp
 · refine .inr ⟨?_,h⟩
   unfold a1g
   skip
   simp [h]
theorem b19 (x:LWire) (j:Nat) {S:Nat→Bool} (h:∀ k,(k=10)→S (DN k j)=true):(PV.agg (a0x x j)).onT S:=by
 refine c1n fun p hp=>?_
 simp only [a0x,List.mem_cons,List.not_mem_nil,or_false] at hp
 rcases hp with rfl | rfl | rfl | rfl | rfl | rfl | rfl
 · exact a0z
 · exact a0z
 · exact a0z
 · exact a0z
 · exact b8f (h _ (by simp))
 · exact a0z
 · exact a0z
theorem b5i (x:LWire) (j:Nat) (hx:a0k 1048576 x):T6 Tryz.prog 18 [.val (P8 x)] (fun _=>.dead) (fun _=>false) (.agg (a0x x j)) (dyn fun k i=>if i=j then a1g x k else .dead):=by
 refine b5q mixed ok18 (fun i h=>by cases h) (fun i h=>by cases h) ?_
 unfold ir18
 rw [b7]
 unfold a0k at hx
 obtain ⟨b0,b1,b2,b3⟩:=hx
 simp [P8,tx,num]
 refine callN (rs:=[.list 1 (x.ids.map num)]) (fun k' i'=>k' == 10 && i' == j) rfl (c2u x.ids 10 j (by omega) b2) ?_ ?_ ?_
 · intro k i hk hl
   by_cases h:k=10∧i=j
   · rw [if_pos h]
     exact ⟨by simp [h],a8l,fun cs h=>by cases h⟩
   · rw [if_neg h] at hl;cases hl
 · exact b8f (by simp)
 simp [P8,tx,num]
 refine finM_D _ ?_ ?_ ?_ ?_
 · simp [a0x,a1g,P8,tx,num,O5,Z2]
 · intro k i hk hl
   by_cases h:i=j
   · subst h
     rw [if_pos rfl] at hl ⊢
     rcases a5l x k with ⟨h,E,sz,xs,e⟩ | ⟨h,_⟩
     · subst h<;>simp [a0x,a1g]
     · rw [h] at hl;cases hl
   · rw [if_neg h] at hl;cases hl
 · exact b19 x j fun k _=>by simp
 · intro k i hk
   by_cases h:i=j
   · rw [if_pos h]
     rcases a5l x k with ⟨h,E,sz,xs,e⟩ | ⟨h,_⟩
     · rw [e];exact a8l
     · rw [h];exact a6e
   · rw [if_neg h];exact a6e
end Go.Proofs
end
section
namespace Go.Proofs
open Go.PW Go.KP
attribute [local simp] RV.cells RV.one PV.cells PV.solid PV.one J2 a6 N0 N1 RV.ofCells elems PV.killL
variable [GF]
attribute [local simp] a5j b2b c1r c1s c1p c1q a3d b7k a91 c3j b7y b7z b0s
def a0y (k i:Nat):Bool:=(k == 10) && i == 0
def W6 (x:LWire) (k i:Nat):MObj:=if i=0 then a1g x k else .dead
def a12 (x:LWire):Nat:=x.ids.length
theorem a29 (x:LWire) (k i:Nat):(a0y k i=true∧∃ E sz xs,W6 x k i=.row E sz xs)∨W6 x k i=.dead:=by
 unfold W6
 by_cases h:i=0
 · subst h
   rw [if_pos rfl]
   rcases a5l x k with ⟨h,e⟩ | ⟨h,_⟩
   · refine .inl ⟨?_,e⟩
     unfold a0y
     subst h;rfl
   · exact .inr h
 · rw [if_neg h];exact .inr rfl
theorem a9n (x:LWire) (k i:Nat) (h:(W6 x k i).live=true):a0y k i=true:=by
 rcases a29 x k i with ⟨h',_⟩ | e
 · exact h'
 · rw [e] at h;cases h
theorem a4s (x:LWire) (k i:Nat) {S:Nat→Bool}:(W6 x k i).onT S:=by
 rcases a29 x k i with ⟨_,E,sz,xs,e⟩ | e<;>rw [e]
 · exact a8l
 · exact a6e
theorem a7e (x:LWire) (k i:Nat):∀ cs,W6 x k i≠.box cs:=by
 intro cs h
 rcases a29 x k i with ⟨_,E,sz,xs,e⟩ | e<;>rw [e] at h<;>cases h
theorem a3y (x:LWire) (k i:Nat) (d:Nat→Bool):(W6 x k i).kill d=W6 x k i:=by
 rcases a29 x k i with ⟨_,E,sz,xs,e⟩ | e<;>rw [e]<;>rfl
theorem a4z (x:LWire):(PV.agg (a0x x 0)).onT (TD a0y):=b19 x 0 fun k h=>by
 subst h;simp [a0y]
theorem a9a (x:LWire) (M:Nat→MObj) (h:∀ k j,k < 16→a0y k j=true→M (DN k j)=W6 x k j):Res M (.agg (a0x x 0)) (P8 x):=by
 refine .agg _ _ rfl fun i hi=>?_
 have:i=0∨i=1∨i=2∨i=3∨i=4∨i=5∨i=6:=by simp [a0x] at hi;omega
 rcases this with rfl | rfl | rfl | rfl | rfl | rfl | rfl
 · exact .val _
 · exact .val _
 · exact .val _
 · exact .val _
 · exact .row _ 3 _ _ (by rw [h 10 0 (by omega) (by simp [a0y])];simp [W6,a1g])
 · exact .val _
 · exact .val _
theorem a8s (x:LWire) (hs:a0k 1048576 x):n7 Tryz.prog 18 [.val (P8 x)] (.ret (.val (P8 x)) []) []:=
 ok_of_mem (b5i x 0 hs) (a9a x _ fun k j hk _=>a3d hk)
theorem c0f (x:LWire) (hs:a0k 1048576 x):T6 Tryz.prog 18 [.val (P8 x)] (fun _=>.dead) (fun _=>false) (.agg (a0x x 0)) (dyn (W6 x)):=b5i x 0 hs
theorem b5j (x:LWire) (k:Nat) (hx:a0k 1048576 x) (hk:k+a12 x < 8388608):T6 Tryz.prog 21 [.agg (a0x x 0),.val (num k)] (dyn (W6 x)) (fun _=>false) (.val (num ((k+a12 x:Nat):Int))) (fun _=>.dead):=by
 refine b5q mixed ok21 (fun i h=>c2s h) (fun i h=>by cases h) ?_
 unfold ir21
 rw [b7]
 have hcp:a12 x=x.ids.length:=rfl
 have q0:x.ids.length≤1048576:=hx.2.2.1
 obtain ⟨m1,hm1⟩:∃ m,k+1*x.ids.length=m:=⟨_,rfl⟩
 have h0:=b7a x.ids k (by omega) q0
 rw [hm1] at h0
 have hm:k+a12 x=m1:=by omega
 rw [hm]
 simp [num,tx,a0x,W6,a1g]
 refine rowC (by simp [PV.plain1]) rfl rfl rfl h0 rfl ?_
 simp [num,tx,a0x,W6,a1g]
 refine finM_U ?_
 simp [O5,Z2,num]
end Go.Proofs
end
section
namespace Go.Proofs
open Go.PW Go.KP
attribute [local simp] RV.cells RV.one PV.cells PV.solid PV.one J2 a6 N0 N1 RV.ofCells elems PV.killL
variable [GH]
attribute [local simp] a5j b2b c1r c1s c1p c1q a3d b7k a91 c3j b7y b7z b0s dK_lo dK_DN dM_lo dM_DN inR J1
theorem b03 (p:LWire) (hb:a0k 9223372036854775807 p):n7 Tryz.prog 4 [.val (P8 p)] (.ret (.val (.bool true)) []) []:=by
 refine J0 mixed ok4 rfl (fun _=>rfl) ?_
 unfold ir4
 rw [b7]
 simp [d3,x8,M5,a7,c8,P8,tx,num,a6]
 refine n0 rfl rfl (.inl rfl) (c2m p 1048576 (by omega) (by omega) hb) ?_
 by_cases hz:cut 1048576 (a8r p) < 0
 · simp [num,hz]
 · obtain ⟨hz1,_⟩:=c0g hz (by omega)
   have hs:a0k 1048576 p:=c0u (by omega)
   have hcnt:a12 p≤a8r p:=by unfold a12 a8r;omega
   have hlen:(poR p).length≤1048576:=by have:=(c1e p).1;omega
   have hmk:=b5j p 1 hs (by omega)
   obtain ⟨mk,hmk0⟩:∃ m,1+a12 p=m:=⟨_,rfl⟩
   rw [hmk0] at hmk
   have hne1:¬ (mk:Int) < 0:=by omega
   have hm:=b07 (poR p) 1 (by omega) hlen
   have hh:=b08 (poR p).length 1 (by omega) hlen
   obtain ⟨m1,hm1⟩:∃ m,1+3*(poR p).length=m:=⟨_,rfl⟩
   rw [hm1] at hm hh
   have hne2:¬ (m1:Int) < 0:=by omega
   have hsp:=b5x p
   have hip:=b46 p
   have heq:=b5b (poR p) (poR_bdS p)
   have hfl:=b5c (f:=E8) (fun _=>rfl) (poR p)
   obtain ⟨rw0,hrw⟩:∃ l,(poR p).map E8=l:=⟨_,rfl⟩
   obtain ⟨rk0,hrk⟩:∃ l,(mkL R2 3 (poR p).length 1).map E8=l:=⟨_,rfl⟩
   obtain ⟨c0,hc0⟩:∃ c,poC p=c:=⟨_,rfl⟩
   rw [hrw,hc0] at hsp hip
   rw [hrw] at heq hm hfl
   rw [hrk] at hm hh
   simp [num,hz,a6]
   refine n0 rfl rfl (.inl rfl) (a8s p hs) ?_
   simp [a6,num]
   refine T0 rfl rfl (.inl rfl) hsp ?_
   simp [a6,P8,tx,num]
   refine callN (rs:=[P8 p]) a0y rfl (c0f p hs) (fun k j hk hl=>⟨a9n p k j hl,a4s p k j,a7e p k j⟩) (a4z p) ?_
   simp [a6,tx,num,a0x,a0y,PV.kill,W6,a1g]
   refine callR (rs:=[P8 p]) a0y (W6 p) hip rfl (fun k j hk hT=>?_) (fun k j hk=>⟨a4s p k j,a7e p k j⟩) (fun M hM j hj=>?_) ?_ rfl (by simp [PV.flat,PV.flat.go,RV.flat,num]) ?_ (by omega) (by simp) ?_
   · simp [hk,hT,a3y]
   · have:j=0:=by simp at hj;omega
     subst this
     exact a9a p M hM
   · intro q hq
     simp only [List.mem_cons,List.not_mem_nil,or_false] at hq
     subst hq
     exact a4z p
   · intro q hq x hx
     rw [List.mem_singleton.1 hq] at hx
     exact hfl x hx
   simp [a6,tx,num,PV.shift,PV.shiftL,x7]
   refine n0 rfl rfl (.inr rfl) heq ?_
   simp [a6,tx,num]
   refine S9 rfl rfl (.inl rfl) (a8s p hs) ?_
   simp [a6,tx,num,PV.kill]
   refine callR (rs:=[P8 p,P8 p]) a0y (W6 p) (c2o p hs) rfl (fun k j hk hT=>?_) (fun k j hk=>⟨a4s p k j,a7e p k j⟩) (fun M hM j hj=>?_) ?_ rfl rfl ?_ (by omega) (by simp) ?_
   · simp [hk,hT,a3y]
   · have:j=0∨j=1:=by simp at hj;omega
     rcases this with rfl | rfl
     · exact a9a p M hM
     · exact .val _
   · intro q hq
     simp only [List.mem_cons,List.not_mem_nil,or_false] at hq
     rcases hq with rfl | rfl
     · exact a4z p
     · exact a0z
   · intro r hr;cases hr
   simp [a6,tx,num,PV.shift,PV.kill,x7]
   refine callU (G:=W6 p) a0y hmk ?_ (fun k j hk hl=>⟨a9n p k j hl,?_,a4s p k j⟩) ?_
   · intro q hq
     simp only [List.mem_cons,List.not_mem_nil,or_false] at hq
     rcases hq with rfl | rfl
     · exact a4z p
     · exact a0z
   · have hT:=a9n p k j hl
     simp [hk,hT,a3y]
   simp [a6,tx,num,PV.kill,a0y,hne1]
   refine n0 rfl rfl (.inr rfl) heq ?_
   simp [a6,tx,num,PV.kill,hne1,hne2]
   refine rowC rfl rfl rfl rfl hm rfl ?_
   simp [a6,tx,num,PV.kill,hne1,hne2]
   refine n0 rfl rfl (.inr rfl) hh ?_
   simp [a6,tx,num,PV.kill,hne1,hne2]
   refine n0 rfl rfl (.inl rfl) (a8s p hs) ?_
   simp [a6,P8,tx,num,PV.kill]
   refine b5p rfl rfl rfl (.inl rfl) hip ?_
   simp [a6,tx,num,PV.kill,PV.shift,PV.shiftL,x7]
   refine n0 rfl rfl (.inr rfl) heq ?_
   simp [a6,tx,num,PV.kill]
   refine n0 rfl rfl (.inr rfl) hh ?_
   simp [a6,tx,num,PV.kill,hne2]
end Go.Proofs
end
