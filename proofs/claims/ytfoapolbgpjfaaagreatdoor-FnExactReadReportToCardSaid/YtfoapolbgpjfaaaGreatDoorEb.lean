/- Eb: merged out of KIf, KIg, KIh. -/
import Derived.Test.YtfoapolbgpjfaaaGreatDoorEa
import Derived.Test.YtfoapolbgpjfaaaGreatDoorBa
import Derived.Test.YtfoapolbgpjfaaaGreatDoorCa
import Derived.Test.YtfoapolbgpjfaaaGreatDoorAc
set_option linter.unusedSectionVars false
set_option linter.unusedSimpArgs false
set_option linter.unusedVariables false
set_option maxRecDepth 100000
section
namespace Go.Proofs
open Go.PW Go.KP
attribute [local simp] RV.cells RV.one PV.cells PV.solid PV.one N3 b8 O9 P0 RV.ofCells elems PV.killL
variable [GH]
structure IO (st:St) (u:LUrl):Prop where
 e1:st.env 1=.ptr 1 0
 m1:st.mem 1=.box (d7 u)
section
variable {Ks:Kx (St→Prop)} {kx:Kx (RV→St→Prop)} {st:St} {u:LUrl} {b:Bool}
def b66 (u:LUrl):Bool:=u.hasF || decide (u.frag=[])
theorem b5e (h:IO st u) (hb:st.env 108=.val (.bool b)) (hK:∀ st',IO st' u→st'.env 116=.val (.bool (b && b66 u))→Ks.k st'):EX Tryz.prog ir247_o109 st (Ks:=Ks):=by
 unfold ir247_o109
 have e3:(⟨#[]⟩:ByteArray)=bs []:=rfl
 cases b with
 | false=>
  simp [hb]
  refine hK _ ⟨?_,?_⟩ ?_<;>simp [h.e1,h.m1]
 | true=>
  cases hf:u.hasF with
  | true=>
   simp [hb,h.e1,h.m1,d7,tx,num,hf]
   refine hK _ ⟨?_,?_⟩ ?_<;>simp [h.e1,h.m1,b66,hf]
  | false=>
   simp [hb,h.e1,h.m1,d7,tx,num,hf,e3,R3]
   refine hK _ ⟨?_,?_⟩ ?_<;>simp [h.e1,h.m1,b66,hf]
def b67 (u:LUrl):Bool:=(u.hasQ || decide (u.query=[])) && b66 u
theorem c00 (h:IO st u) (hb:st.env 99=.val (.bool b)) (hK:∀ st',IO st' u→st'.env 116=.val (.bool (b && b67 u))→Ks.k st'):EX Tryz.prog ir247_o100 st (Ks:=Ks):=by
 unfold ir247_o100
 have e3:(⟨#[]⟩:ByteArray)=bs []:=rfl
 cases b with
 | false=>
  simp [hb]
  refine b5e (u:=u) (b:=false) ⟨?_,?_⟩ ?_ (fun st' q1 q2=>hK st' q1 (by simpa using q2))<;>simp [h.e1,h.m1]
 | true=>
  cases hq:u.hasQ with
  | true=>
   simp [hb,h.e1,h.m1,d7,tx,num,hq]
   refine b5e (u:=u) (b:=true) ⟨?_,?_⟩ ?_ (fun st' q1 q2=>hK st' q1 (by rw [q2];simp [b67,hq]))<;>simp [h.e1,h.m1]
  | false=>
   simp [hb,h.e1,h.m1,d7,tx,num,hq,e3,R3]
   refine b5e (u:=u) (b:=decide (u.query=[])) ⟨?_,?_⟩ ?_ (fun st' q1 q2=>hK st' q1 (by rw [q2];simp [b67,hq]))<;>simp [h.e1,h.m1]
def ib94 (u:LUrl):Bool:=!decide (35∈u.query) && b67 u
theorem c4m (h:IO st u) (hb:st.env 93=.val (.bool b)) (hK:∀ st',IO st' u→st'.env 116=.val (.bool (b && ib94 u))→Ks.k st'):EX Tryz.prog ir247_o94 st (Ks:=Ks):=by
 unfold ir247_o94
 have e3:(⟨#[35]⟩:ByteArray)=bs [35]:=rfl
 have e4:(⟨#[47]⟩:ByteArray)=bs [47]:=rfl
 cases b with
 | false=>
  simp [hb]
  refine c00 (u:=u) (b:=false) ⟨?_,?_⟩ ?_ (fun st' q1 q2=>hK st' q1 (by simpa using q2))<;>simp [h.e1,h.m1]
 | true=>
  simp [hb,h.e1,h.m1,d7,tx,num,e3,e4]
  refine Q6 rfl rfl (.inl rfl) (b97 u.query 35) ?_
  simp [hb,h.e1,h.m1,d7,tx,num]
  refine c00 (u:=u) (b:=!decide (35∈u.query)) ⟨?_,?_⟩ ?_ (fun st' q1 q2=>hK st' q1 (by rw [q2];simp [ib94]))<;>simp [h.e1,h.m1,bne]
def ib89 (u:LUrl):Bool:=([47]:Tx).isPrefixOf u.path && ib94 u
theorem c4n (h:IO st u) (hb:st.env 88=.val (.bool b)) (hK:∀ st',IO st' u→st'.env 116=.val (.bool (b && ib89 u))→Ks.k st'):EX Tryz.prog ir247_o89 st (Ks:=Ks):=by
 unfold ir247_o89
 have e3:(⟨#[35]⟩:ByteArray)=bs [35]:=rfl
 have e4:(⟨#[47]⟩:ByteArray)=bs [47]:=rfl
 cases b with
 | false=>
  simp [hb]
  refine c4m (u:=u) (b:=false) ⟨?_,?_⟩ ?_ (fun st' q1 q2=>hK st' q1 (by simpa using q2))<;>simp [h.e1,h.m1]
 | true=>
  simp [hb,h.e1,h.m1,d7,tx,num,e3,e4]
  refine Q6 rfl rfl (.inl rfl) (a5y u.path [47]) ?_
  simp [hb,h.e1,h.m1,d7,tx,num]
  refine c4m (u:=u) (b:=([47]:Tx).isPrefixOf u.path) ⟨?_,?_⟩ ?_ (fun st' q1 q2=>hK st' q1 (by rw [q2];simp [ib89]))<;>simp [h.e1,h.m1,bne]
def ib81 (u:LUrl):Bool:=!(u.port == Y5 u.scheme) && ib89 u
theorem c4o (h:IO st u) (hb:st.env 80=.val (.bool b)) (hK:∀ st',IO st' u→st'.env 116=.val (.bool (b && ib81 u))→Ks.k st'):EX Tryz.prog ir247_o81 st (Ks:=Ks):=by
 unfold ir247_o81
 have e3:(⟨#[35]⟩:ByteArray)=bs [35]:=rfl
 have e4:(⟨#[47]⟩:ByteArray)=bs [47]:=rfl
 cases b with
 | false=>
  simp [hb]
  refine c4n (u:=u) (b:=false) ⟨?_,?_⟩ ?_ (fun st' q1 q2=>hK st' q1 (by simpa using q2))<;>simp [h.e1,h.m1]
 | true=>
  simp [hb,h.e1,h.m1,d7,tx,num,e3,e4]
  refine Q6 rfl rfl (.inl rfl) (c02 u.scheme) ?_
  simp [hb,h.e1,h.m1,d7,tx,num]
  refine c4n (u:=u) (b:=!(u.port == Y5 u.scheme)) ⟨?_,?_⟩ ?_ (fun st' q1 q2=>hK st' q1 (by rw [q2];simp [ib81]))<;>simp [h.e1,h.m1,bne]
def c4t (u:LUrl):Bool:=decide (0≤u.port∧u.port≤65535) && ib81 u
theorem c4p (h:IO st u) (hb:st.env 75=.val (.bool b)) (hK:∀ st',IO st' u→st'.env 116=.val (.bool (b && c4t u))→Ks.k st'):EX Tryz.prog ir247_o76 st (Ks:=Ks):=by
 unfold ir247_o76
 have e3:(⟨#[35]⟩:ByteArray)=bs [35]:=rfl
 have e4:(⟨#[47]⟩:ByteArray)=bs [47]:=rfl
 cases b with
 | false=>
  simp [hb]
  refine c4o (u:=u) (b:=false) ⟨?_,?_⟩ ?_ (fun st' q1 q2=>hK st' q1 (by simpa using q2))<;>simp [h.e1,h.m1]
 | true=>
  simp [hb,h.e1,h.m1,d7,tx,num,e3,e4]
  refine Q6 rfl rfl (.inl rfl) (a0n u.port 0 65535) ?_
  simp [hb,h.e1,h.m1,d7,tx,num]
  refine c4o (u:=u) (b:=decide (0≤u.port∧u.port≤65535)) ⟨?_,?_⟩ ?_ (fun st' q1 q2=>hK st' q1 (by rw [q2];simp [c4t]))<;>simp [h.e1,h.m1,bne]
end
def b6z (u:LUrl):Bool:=(!T9 u.user [47,63,35,64] && a00 u.host) && c4t u
theorem b86 (u:LUrl) (h2:u.user.length < 1048577) (h3:u.host.length < 1048577) (hsh:U0 u.user=true) (st:St) (h:IO st u):EC Tryz.prog ir247_from4 st (K:=⟨a1l [.t 2] (.val (.bool (b6z u)))⟩):=by
 unfold ir247_from4
 have e3:(⟨#[47,63,35,64]⟩:ByteArray)=bs [47,63,35,64]:=rfl
 have hend:∀ b,b=(!T9 u.user [47,63,35,64] && a00 u.host)→∀ st',IO st' u→st'.env 116=.val (.bool (b && c4t u))→a1l [.t 2] (.val (.bool (b6z u))) .ret ⟨upd 2 (st'.env 116) st'.env,st'.mem⟩:=fun b hb st' q1 q2=>by
  rw [q2,hb]
  simp [b6z]
 simp [h.e1,h.m1,d7,tx,num,e3]
 refine Q6 rfl rfl (.inl rfl) (a62 u.user [47,63,35,64] (by omega) (by simp) hsh (by decide)) ?_
 cases hu:T9 u.user [47,63,35,64] with
 | true=>
  simp [h.e1,h.m1,d7,tx,num]
  refine c4p (u:=u) (b:=false) ⟨?_,?_⟩ ?_ (fun st' q1 q2=>?_)
  · simp [h.e1]
  · simp [h.m1]
  · simp
  · simp only [x4,F1,x6,E9,x7,p9,x5,F0,j5,A1,F8,F9,d8,o0,o9,i8,x8,p8,j4,E8,x1,p7,p6,C9,D0,T4,T5,Option.getD_some,Option.getD_none,B6,q9,l8,C6,l7,l1,C8,l2,C7,C5,C4,G5,u6,l5,C2,t8,l4,C1,B4,C3,u0,B9,k8,t7,C0,G7,G6,B5,B7,l3,B8,u7,l6,A4,j7,B3,B2,B1,G0,s9,j9,A9,s0,j8,A8,A2,B0,s8,A6,j6,r9,A7,G4,G3,A3,r8,k7,A5,t6,k6,I3,I2,J4,I4,I8,I6,I5,J3,I7,I9,J0,J1,J2,y7,y6,x9,K5,K6,F7,F2,r5,D4,v6,J6,q7,O0,K9,J7,M3,M5,M4,O1,O2,H5,H7,H6,H8,H9,L9,v8,L8,D5,D6,D7,w5,T6,E5,w9,N8,N9,G8,K7,K8,Option.map_some,Option.map_none,D8,w6,u9,l9,D2,D3,H0,G9,N0,M9,I1,E6,E7,I0,M6,M7,H1,n7,H2,n0,L4,E4,E3,j3,M2,M8,H4,L5,L7,L6,v7,z7,A0,z8,f7,M1,O4,O3,L2,H3,Q1,L3,n8,E1,E2,w7,D9,i7,r6,i6,r7,f8,J5,N1,N2,y8,y9,F4,F3,D1]
    exact hend false (by rw [hu];rfl) st' q1 q2
 | false=>
  simp [h.e1,h.m1,d7,tx,num]
  refine Q6 rfl rfl (.inl rfl) (c4z u.host (by omega)) ?_
  simp [h.e1,h.m1,d7,tx,num]
  refine c4p (u:=u) (b:=a00 u.host) ⟨?_,?_⟩ ?_ (fun st' q1 q2=>?_)
  · simp [h.e1]
  · simp [h.m1]
  · simp
  · simp only [x4,F1,x6,E9,x7,p9,x5,F0,j5,A1,F8,F9,d8,o0,o9,i8,x8,p8,j4,E8,x1,p7,p6,C9,D0,T4,T5,Option.getD_some,Option.getD_none,B6,q9,l8,C6,l7,l1,C8,l2,C7,C5,C4,G5,u6,l5,C2,t8,l4,C1,B4,C3,u0,B9,k8,t7,C0,G7,G6,B5,B7,l3,B8,u7,l6,A4,j7,B3,B2,B1,G0,s9,j9,A9,s0,j8,A8,A2,B0,s8,A6,j6,r9,A7,G4,G3,A3,r8,k7,A5,t6,k6,I3,I2,J4,I4,I8,I6,I5,J3,I7,I9,J0,J1,J2,y7,y6,x9,K5,K6,F7,F2,r5,D4,v6,J6,q7,O0,K9,J7,M3,M5,M4,O1,O2,H5,H7,H6,H8,H9,L9,v8,L8,D5,D6,D7,w5,T6,E5,w9,N8,N9,G8,K7,K8,Option.map_some,Option.map_none,D8,w6,u9,l9,D2,D3,H0,G9,N0,M9,I1,E6,E7,I0,M6,M7,H1,n7,H2,n0,L4,E4,E3,j3,M2,M8,H4,L5,L7,L6,v7,z7,A0,z8,f7,M1,O4,O3,L2,H3,Q1,L3,n8,E1,E2,w7,D9,i7,r6,i6,r7,f8,J5,N1,N2,y8,y9,F4,F3,D1]
    exact hend _ (by rw [hu];simp) st' q1 q2
def a7d (u:LUrl):Bool:=decide (u.user=[]) && decide (u.host=[]) && decide (u.port=0) && decide (u.query=[]) && decide (u.frag=[]) && !u.hasQ && !u.hasF
theorem b7m (u:LUrl):S5 [0,0,0,2,0,0,0,1,1] (a9e u) [tx u.scheme,tx [],tx [],num 0,tx u.path,tx [],tx [],.bool false,.bool false]=some (a7d u):=by
 simp only [a9e,S5,b5l,tx,num,R3,if_true,decide_true]
 unfold a7d
 have e:(u.port == 0)=decide (u.port=0):=by rw [Bool.eq_iff_iff];simp
 rw [e]
 cases decide (u.user=[])<;>cases decide (u.host=[])<;>cases decide (u.port=0)<;>cases decide (u.query=[])<;>cases decide (u.frag=[])<;>cases u.hasQ<;>cases u.hasF<;>rfl
theorem b87 (u:LUrl) (h2:u.user.length < 1048577) (h3:u.host.length < 1048577) (hsh:U0 u.user=true) (st:St) (h:IO st u):EC Tryz.prog ir247_from3 st (K:=⟨a1l [.t 2] (.val (.bool (if a0b u.scheme then b6z u else a7d u)))⟩):=by
 unfold ir247_from3
 have e3:(⟨#[]⟩:ByteArray)=bs []:=rfl
 simp [h.e1,h.m1,d7,tx,num,b8]
 refine f6 rfl rfl (.inl rfl) (b68 u) ?_
 cases hw:a0b u.scheme with
 | true=>
  simp
  rw [if_pos rfl]
  refine b86 u h2 h3 hsh _ ⟨?_,?_⟩<;>simp [h.e1,h.m1]
 | false=>
  rw [if_neg (by simp)]
  have hq:=b7m u
  simp only [a9e,tx,num] at hq
  simp [h.e1,h.m1,d7,tx,num,b8,e3,hq,b1h]
theorem b88 (u:LUrl) (h2:u.user.length < 1048577) (h3:u.host.length < 1048577) (h4:u.path.length < 1048577) (hsh:U0 u.user=true) (hsp:U0 u.path=true) (st:St) (h:IO st u):EC Tryz.prog ir247_from2 st (K:=⟨a1l [.t 2] (.val (.bool (!T9 u.path [63,35] && if a0b u.scheme then b6z u else a7d u)))⟩):=by
 unfold ir247_from2
 have e3:(⟨#[63,35]⟩:ByteArray)=bs [63,35]:=rfl
 simp [h.e1,h.m1,d7,tx,num,e3]
 refine f6 rfl rfl (.inl rfl) (a62 u.path [63,35] (by omega) (by simp) hsp (by decide)) ?_
 cases hp:T9 u.path [63,35] with
 | true=>simp
 | false=>
  simp only [Bool.not_false,Bool.true_and]
  simp
  refine b87 u h2 h3 hsh _ ⟨?_,?_⟩<;>simp [h.e1,h.m1]
section
variable {Ks:Kx (St→Prop)} {kx:Kx (RV→St→Prop)} {st:St} {u:LUrl} {b:Bool}
structure Tiny (u:LUrl):Prop where
 s1:u.scheme.length < 1048577
 s2:u.user.length < 1048577
 s3:u.host.length < 1048577
 s4:u.path.length < 1048577
 s5:u.query.length < 1048577
 s6:u.frag.length < 1048577
 p0:-9223372036854775808≤u.port
 p1:u.port≤9223372036854775807
theorem Tiny.small (h:Tiny u):u.Small:=by
 obtain ⟨s1,s2,s3,s4,s5,s6,p0,p1⟩:=h
 exact ⟨by omega,by omega,by omega,by omega,by omega,by omega,p1⟩
def c2d (u:LUrl):Bool:=!U0 (u.user++u.host++u.path++u.query++u.frag)
theorem c4q (hs:Tiny u) (h:IO st u) (hb:st.env 35=.val (.bool b)) (hK:∀ st',IO st' u→st'.env 52=.val (.bool (b || c2d u))→Ks.k st'):EO Tryz.prog ir247_o36 st (Ks:=Ks) (kx:=kx):=by
 unfold ir247_o36
 obtain ⟨s1,s2,s3,s4,s5,s6,p0,p1⟩:=hs
 cases b with
 | true=>
  simp [hb]
  refine hK _ ⟨?_,?_⟩ ?_<;>simp [h.e1,h.m1]
 | false=>
  simp [hb,h.e1,h.m1,d7,tx,num,b7,P2]
  refine ⟨by omega,by omega,by omega,by omega,?_⟩
  refine f6 rfl rfl (.inl rfl) (b9g (u.user++(u.host++(u.path++(u.query++u.frag)))) (by simp;omega)) ?_
  simp [hb]
  refine hK _ ⟨?_,?_⟩ ?_<;>simp [h.e1,h.m1,c2d]
def b3b (u:LUrl):Bool:=decide (100 < (a1r u).length) || c2d u
theorem c4r (hs:Tiny u) (h:IO st u) (hb:st.env 29=.val (.bool b)) (hK:∀ st',IO st' u→st'.env 52=.val (.bool (b || b3b u))→Ks.k st'):EO Tryz.prog ir247_o30 st (Ks:=Ks) (kx:=kx):=by
 unfold ir247_o30
 cases b with
 | true=>
  simp [hb]
  refine c4q (u:=u) (b:=true) hs ⟨?_,?_⟩ ?_ (fun st' q1 q2=>hK st' q1 (by simpa using q2))<;>simp [h.e1,h.m1]
 | false=>
  have e:((100:Int) < ((a1r u).length:Int))↔100 < (a1r u).length:=by omega
  simp [hb,h.e1,h.m1,d7,tx,num,b8]
  refine f6 rfl rfl (.inl rfl) (c4v u hs.small hs.p0) ?_
  simp [hb,tx,b7,e]
  refine c4q (u:=u) (b:=decide (100 < (a1r u).length)) hs ⟨?_,?_⟩ ?_ (fun st' q1 q2=>hK st' q1 (by rw [q2];simp [b3b]))<;>simp [h.e1,h.m1]
end
theorem b48 (u:LUrl):a83 u=(V9 u.scheme && decide (u.user.length+u.host.length+u.path.length+u.query.length+u.frag.length≤100) && !b3b u && (!T9 u.path [63,35] && if a0b u.scheme then b6z u else a7d u)):=by
 unfold a83 b3b c2d b6z a7d c4t ib81 ib89 ib94 b67 b66
 have e1:decide ((a1r u).length≤100)=!decide (100 < (a1r u).length):=by
  by_cases h:(a1r u).length≤100
  · rw [decide_eq_true h,decide_eq_false (by omega)];rfl
  · rw [decide_eq_false h,decide_eq_true (by omega)];rfl
 have e2:([47]:Tx).isPrefixOf u.path=(decide (0 < u.path.length) && decide ((u.path.getD 0 0).toNat=47)):=by
  cases u.path with
  | nil=>rfl
  | cons c r=>
   rw [Bool.eq_iff_iff]
   simp
   constructor
   · intro h;rw [← h];rfl
   · intro h;exact (UInt8.toNat_inj.1 (by rw [h];rfl)).symm
 have e3:(u.port == Y5 u.scheme)=decide (u.port=Y5 u.scheme):=by rw [Bool.eq_iff_iff];simp
 have e4:decide (u.port≠Y5 u.scheme)=!decide (u.port=Y5 u.scheme):=by simp
 have e5:T9 u.query [35]=decide (35∈u.query):=by
  rw [Bool.eq_iff_iff]
  simp [T9]
 rw [e1,e2,e3,e4,e5]
 cases V9 u.scheme<;>simp only [Bool.false_and,Bool.true_and]
 cases decide (u.user.length+u.host.length+u.path.length+u.query.length+u.frag.length≤100)<;>simp only [Bool.false_and,Bool.true_and]
 cases decide (100 < (a1r u).length)<;>simp only [Bool.false_and,Bool.true_and,Bool.not_true,Bool.not_false,Bool.true_or,Bool.false_or]
 cases U0 (u.user++u.host++u.path++u.query++u.frag)<;>simp only [Bool.false_and,Bool.true_and,Bool.not_true,Bool.not_false]
 cases T9 u.path [63,35]<;>simp only [Bool.false_and,Bool.true_and,Bool.not_true,Bool.not_false]
 split
 · simp only [Bool.and_assoc]
 · rfl
def b72 (u:LUrl):Nat:=u.user.length+u.host.length+u.path.length+u.query.length+u.frag.length
def c0c (u:LUrl):Bool:=!T9 u.path [63,35] && if a0b u.scheme then b6z u else a7d u
theorem b60 (u:LUrl) (hs:Tiny u) (b:Bool) (st':St) (q1:IO st' u) (q2:st'.env 52=.val (.bool (b || b3b u))) (res:Bool) (hres:res=(!(b || b3b u) && c0c u)) :
 CD (st'.env 52) (A:=⟨EC Tryz.prog (.seq (.reg [⟨some 2,.mov (.k (.val (.bool false))),none⟩]) .ret) st' (K:=⟨fun e st'=>ET e st' (Ks:=⟨fun st'=>EC Tryz.prog ir247_from2 st' (K:=⟨a1l [.t 2] (.val (.bool res))⟩)⟩) (K:=⟨a1l [.t 2] (.val (.bool res))⟩)⟩)⟩)
     (B:=⟨EC Tryz.prog .skip st' (K:=⟨fun e st'=>ET e st' (Ks:=⟨fun st'=>EC Tryz.prog ir247_from2 st' (K:=⟨a1l [.t 2] (.val (.bool res))⟩)⟩) (K:=⟨a1l [.t 2] (.val (.bool res))⟩)⟩)⟩):=by
 rw [q2]
 cases hbb:(b || b3b u) with
 | true=>
  rw [hbb] at hres
  have:res=false:=hres
  subst this
  simp
 | false=>
  rw [hbb] at hres
  have:res=c0c u:=hres
  subst this
  simp only [x4,F1,x6,E9,x7,p9,x5,F0,j5,A1,F8,F9,d8,o0,o9,i8,x8,p8,j4,E8,x1,p7,p6,C9,D0,T4,T5,Option.getD_some,Option.getD_none,B6,q9,l8,C6,l7,l1,C8,l2,C7,C5,C4,G5,u6,l5,C2,t8,l4,C1,B4,C3,u0,B9,k8,t7,C0,G7,G6,B5,B7,l3,B8,u7,l6,A4,j7,B3,B2,B1,G0,s9,j9,A9,s0,j8,A8,A2,B0,s8,A6,j6,r9,A7,G4,G3,A3,r8,k7,A5,t6,k6,I3,I2,J4,I4,I8,I6,I5,J3,I7,I9,J0,J1,J2,y7,y6,x9,K5,K6,F7,F2,r5,D4,v6,J6,q7,O0,K9,J7,M3,M5,M4,O1,O2,H5,H7,H6,H8,H9,L9,v8,L8,D5,D6,D7,w5,T6,E5,w9,N8,N9,G8,K7,K8,Option.map_some,Option.map_none,D8,w6,u9,l9,D2,D3,H0,G9,N0,M9,I1,E6,E7,I0,M6,M7,H1,n7,H2,n0,L4,E4,E3,j3,M2,M8,H4,L5,L7,L6,v7,z7,A0,z8,f7,M1,O4,O3,L2,H3,Q1,L3,n8,E1,E2,w7,D9,i7,r6,i6,r7,f8,J5,N1,N2,y8,y9,F4,F3,D1]
  refine O5 (fun h=>by cases h) (fun _=>?_)
  simp only [x4,F1,x6,E9,x7,p9,x5,F0,j5,A1,F8,F9,d8,o0,o9,i8,x8,p8,j4,E8,x1,p7,p6,C9,D0,T4,T5,Option.getD_some,Option.getD_none,B6,q9,l8,C6,l7,l1,C8,l2,C7,C5,C4,G5,u6,l5,C2,t8,l4,C1,B4,C3,u0,B9,k8,t7,C0,G7,G6,B5,B7,l3,B8,u7,l6,A4,j7,B3,B2,B1,G0,s9,j9,A9,s0,j8,A8,A2,B0,s8,A6,j6,r9,A7,G4,G3,A3,r8,k7,A5,t6,k6,I3,I2,J4,I4,I8,I6,I5,J3,I7,I9,J0,J1,J2,y7,y6,x9,K5,K6,F7,F2,r5,D4,v6,J6,q7,O0,K9,J7,M3,M5,M4,O1,O2,H5,H7,H6,H8,H9,L9,v8,L8,D5,D6,D7,w5,T6,E5,w9,N8,N9,G8,K7,K8,Option.map_some,Option.map_none,D8,w6,u9,l9,D2,D3,H0,G9,N0,M9,I1,E6,E7,I0,M6,M7,H1,n7,H2,n0,L4,E4,E3,j3,M2,M8,H4,L5,L7,L6,v7,z7,A0,z8,f7,M1,O4,O3,L2,H3,Q1,L3,n8,E1,E2,w7,D9,i7,r6,i6,r7,f8,J5,N1,N2,y8,y9,F4,F3,D1]
  have h30:b3b u=false:=(Bool.or_eq_false_iff.1 hbb).2
  have h36:c2d u=false:=(Bool.or_eq_false_iff.1 h30).2
  unfold c2d at h36
  have hsh:U0 (u.user++u.host++u.path++u.query++u.frag)=true:=by simpa using h36
  simp only [a6v,Bool.and_eq_true] at hsh
  exact b88 u hs.s2 hs.s3 hs.s4 hsh.1.1.1.1 hsh.1.1.2 st' q1
theorem c05 (u:LUrl) (hs:Tiny u):z6 Tryz.prog 247 [.val (W5 u)] (.ret (.val (.bool (T3 u))) []) []:=by
 refine K4 mixed ok247 rfl (fun _=>rfl) ?_
 unfold ir247
 rw [d9]
 have hs':=hs
 obtain ⟨s1,s2,s3,s4,s5,s6,p0,p1⟩:=hs
 have hres:T3 u=(!((!V9 u.scheme || decide (100 < b72 u)) || b3b u) && c0c u):=by
  rw [← c19,b48]
  have e1:decide (u.user.length+u.host.length+u.path.length+u.query.length+u.frag.length≤100)=!decide (100 < b72 u):=by
   unfold b72
   by_cases h:u.user.length+u.host.length+u.path.length+u.query.length+u.frag.length≤100
   · rw [decide_eq_true h,decide_eq_false (by omega)];rfl
   · rw [decide_eq_false h,decide_eq_true (by omega)];rfl
  rw [e1]
  unfold c0c
  cases V9 u.scheme<;>cases decide (100 < b72 u)<;>cases b3b u<;>rfl
 simp [w8,J8,P1,b9,q8,W5,tx,num,b7]
 refine f6 rfl rfl (.inl rfl) (b9f u.scheme (by omega)) ?_
 cases b1:V9 u.scheme with
 | false=>
  rw [b1] at hres
  simp [tx,num,b7]
  refine c4r (u:=u) (b:=true) hs' ⟨?_,?_⟩ ?_ (fun st' q1 q2=>b60 u hs' true st' q1 q2 _ hres)
  · simp
  · simp [d7,tx,num]
  · simp
 | true=>
  rw [b1] at hres
  have w1:IntKind.i64.wrap ((u.user.length:Int)+u.host.length)=(u.user.length:Int)+u.host.length:=wrap_i64 (by omega) (by omega)
  have w2:IntKind.i64.wrap ((u.user.length:Int)+u.host.length+u.path.length)=(u.user.length:Int)+u.host.length+u.path.length:=wrap_i64 (by omega) (by omega)
  have w3:IntKind.i64.wrap ((u.user.length:Int)+u.host.length+u.path.length+u.query.length)=(u.user.length:Int)+u.host.length+u.path.length+u.query.length:=wrap_i64 (by omega) (by omega)
  have w4:IntKind.i64.wrap ((u.user.length:Int)+u.host.length+u.path.length+u.query.length+u.frag.length)=(u.user.length:Int)+u.host.length+u.path.length+u.query.length+u.frag.length:=wrap_i64 (by omega) (by omega)
  have e:decide ((100:Int) < (u.user.length:Int)+u.host.length+u.path.length+u.query.length+u.frag.length)=decide (100 < b72 u):=by
   unfold b72
   by_cases h:100 < u.user.length+u.host.length+u.path.length+u.query.length+u.frag.length
   · rw [decide_eq_true h,decide_eq_true (by omega)]
   · rw [decide_eq_false h,decide_eq_false (by omega)]
  simp [tx,num,b7,w1,w2,w3,w4,e]
  refine c4r (u:=u) (b:=decide (100 < b72 u)) hs' ⟨?_,?_⟩ ?_ (fun st' q1 q2=>b60 u hs' _ st' q1 q2 _ (by rw [hres];rfl))
  · simp
  · simp [d7,tx,num]
  · simp
end Go.Proofs
end
section
namespace Go.Proofs
open Go.PW Go.KP
attribute [local simp] RV.cells RV.one PV.cells PV.solid PV.one N3 b8 O9 P0 RV.ofCells elems PV.killL
variable [GH]
structure IP (st:St) (u:LUrl):Prop where
 e2:st.env 2=.ptr 2 0
 e7:st.env 7=.ptr 7 0
 m2:st.mem 2=.box (d7 LUrl.zero)
 m7:st.mem 7=.box (d7 u)
theorem b27 (u:LUrl) (hs:Tiny u) (st:St) (h:IP st u):EC Tryz.prog ir208_from15 st (K:=prs (u,T3 u)):=by
 unfold ir208_from15
 obtain ⟨e2,e7,m2,m7⟩:=h
 simp [e2,e7,m2,m7,d7,b8,tx,num]
 refine Q6 rfl rfl (.inl rfl) (c05 u hs) ?_
 simp [e2,e7,m2,m7,d7,b8,tx,num]
 refine a5h (id:=2) ?_ ?_ ?_
 · simp [e2]
 · simp [e2,d7,tx,num]
 · simp
theorem a38 (sc us ho pa qu fr:Tx) (po:Int) (hq hf:Bool) (hs:Tiny ⟨sc,us,R9 ho,po,pa,qu,fr,hq,hf⟩) (hh:ho.length < 1048577) (st:St) (h:IP st ⟨sc,us,[],po,pa,qu,fr,hq,hf⟩) (e12:st.env 12=.val (tx ho)) :
 EC Tryz.prog ir208_from14 st (K:=prs (⟨sc,us,R9 ho,po,pa,qu,fr,hq,hf⟩,T3 ⟨sc,us,R9 ho,po,pa,qu,fr,hq,hf⟩)):=by
 unfold ir208_from14
 obtain ⟨e2,e7,m2,m7⟩:=h
 simp [e2,e7,m2,m7,e12,d7,b8,tx,num]
 refine f6 rfl rfl (.inl rfl) (c03 ho (by omega)) ?_
 simp [e2,e7,m2,m7,d7,b8,tx,num]
 refine b27 ⟨sc,us,R9 ho,po,pa,qu,fr,hq,hf⟩ hs _ ⟨?_,?_,?_,?_⟩<;>simp [e2,e7,m2,m7,d7,tx,num]
theorem b28 (sc us pa qu fr:Tx) (hq hf:Bool) (h1:sc.length < 1048577) (h2:us.length < 1048577) (h3:pa.length < 1048577) (h4:qu.length < 1048577) (h5:fr.length < 1048577) (r:Tx) (hr:r.length < 1048577) (st:St)
 (h:IP st ⟨sc,us,[],0,pa,qu,fr,hq,hf⟩) (e12:st.env 12=.val (tx (F6 r 58))) (e13:st.env 13=.val (tx (O8 r 58))) (e6:st.env 6=.val (.bool (decide (58∈r)))) :
 EC Tryz.prog ir208_from13 st (K:=prs (T8 ⟨sc,us,R9 (F6 r 58),0,pa,qu,fr,hq,hf⟩ r)):=by
 unfold ir208_from13
 obtain ⟨e2,e7,m2,m7⟩:=h
 have hla:=S2 r 58
 have hlb:=X4 r 58
 have hll:(R9 (F6 r 58)).length < 1048577:=by simp [R9];omega
 by_cases hc:58∈r
 · simp [e6,e13,hc,tx]
   have hn:=b7c (O8 r 58) (by omega)
   refine P7 rfl rfl (.inl rfl) hn ?_
   cases hb:(a3g (O8 r 58)).2 with
   | false=>
    have hnone:=a86 hb
    rw [show T8 ⟨sc,us,R9 (F6 r 58),0,pa,qu,fr,hq,hf⟩ r=(LUrl.zero,false) by simp only [T8,a03,hc,hnone,if_true]]
    simp [e2,e7,m2,m7,tx,num,d7]
    refine Z3 _ ?_ ?_ ?_
    · simp [e2]
    · simp [d7,LUrl.zero,tx,num,bs]
    · simp
   | true=>
    have hsome:=b5f hb
    generalize (a3g (O8 r 58)).1=n at *
    simp [e2,e7,m2,m7,tx,num,d7]
    refine f6 rfl rfl (.inl rfl) (a0n n 1 65535) ?_
    by_cases hin:1≤n∧n≤65535
    · rw [decide_eq_true hin]
      simp [e2,e7,m2,m7,tx,num,d7]
      refine f6 rfl rfl (.inl rfl) (c02 sc) ?_
      by_cases hu:n=Y5 sc
      · have hl:a03 sc r=some 0:=by
         simp only [a03,hc,hsome,hin,if_true,and_self]
         rw [if_pos hu]
        rw [show T8 ⟨sc,us,R9 (F6 r 58),0,pa,qu,fr,hq,hf⟩ r=(⟨sc,us,R9 (F6 r 58),0,pa,qu,fr,hq,hf⟩,T3 ⟨sc,us,R9 (F6 r 58),0,pa,qu,fr,hq,hf⟩) by simp only [T8,hl]]
        simp [e2,e7,m2,m7,tx,num,d7,hu]
        refine a38 sc us (F6 r 58) pa qu fr 0 hq hf ⟨h1,h2,hll,h3,h4,h5,by simp,by simp⟩ (by omega) _ ⟨?_,?_,?_,?_⟩ ?_<;>simp [e2,e7,m2,m7,e12,d7,tx,num]
      · have hl:a03 sc r=some n:=by
         simp only [a03,hc,hsome,hin,if_true,and_self]
         rw [if_neg hu]
        rw [show T8 ⟨sc,us,R9 (F6 r 58),0,pa,qu,fr,hq,hf⟩ r=(⟨sc,us,R9 (F6 r 58),n,pa,qu,fr,hq,hf⟩,T3 ⟨sc,us,R9 (F6 r 58),n,pa,qu,fr,hq,hf⟩) by simp only [T8,hl]]
        simp [e2,e7,m2,m7,tx,num,d7,hu]
        refine a38 sc us (F6 r 58) pa qu fr n hq hf ⟨h1,h2,hll,h3,h4,h5,by show _≤n;omega,by show n≤_;omega⟩ (by omega) _ ⟨?_,?_,?_,?_⟩ ?_<;>simp [e2,e7,m2,m7,e12,d7,tx,num]
    · rw [decide_eq_false hin]
      rw [show T8 ⟨sc,us,R9 (F6 r 58),0,pa,qu,fr,hq,hf⟩ r=(LUrl.zero,false) by simp only [T8,a03,hc,hsome,hin,if_true,if_false]]
      simp [e2,e7,m2,m7,tx,num,d7]
      refine Z3 _ ?_ ?_ ?_
      · simp [e2]
      · simp [d7,LUrl.zero,tx,num,bs]
      · simp
 · have hl:a03 sc r=some 0:=by simp only [a03,hc,if_false]
   rw [show T8 ⟨sc,us,R9 (F6 r 58),0,pa,qu,fr,hq,hf⟩ r=(⟨sc,us,R9 (F6 r 58),0,pa,qu,fr,hq,hf⟩,T3 ⟨sc,us,R9 (F6 r 58),0,pa,qu,fr,hq,hf⟩) by simp only [T8,hl]]
   simp [e6,hc]
   refine a38 sc us (F6 r 58) pa qu fr 0 hq hf ⟨h1,h2,hll,h3,h4,h5,by simp,by simp⟩ (by omega) _ ⟨?_,?_,?_,?_⟩ ?_<;>simp [e2,e7,m2,m7,e12,d7,tx,num]
theorem a6x (sc us pa qu fr:Tx) (hq hf:Bool) (h1:sc.length < 1048577) (h2:us.length < 1048577) (h3:pa.length < 1048577) (h4:qu.length < 1048577) (h5:fr.length < 1048577) (r:Tx) (hr:r.length < 1048577) (st:St)
 (h:IP st ⟨sc,us,[],0,pa,qu,fr,hq,hf⟩) (e5:st.env 5=.val (tx r)) :
 EC Tryz.prog ir208_from12 st (K:=prs (T8 ⟨sc,us,R9 (F6 r 58),0,pa,qu,fr,hq,hf⟩ r)):=by
 unfold ir208_from12
 obtain ⟨e2,e7,m2,m7⟩:=h
 have q1:(⟨#[58]⟩:ByteArray)=bs [58]:=rfl
 simp [e5,tx,q1]
 refine a0q rfl rfl (.inl rfl) (b2q r 58 (by omega)) ?_
 simp [e5,tx]
 refine b28 sc us pa qu fr hq hf h1 h2 h3 h4 h5 r hr _ ⟨?_,?_,?_,?_⟩ ?_ ?_ ?_<;>simp [e2,e7,m2,m7,d7,tx,num]
theorem a6y (sc pa qu fr:Tx) (hq hf:Bool) (h1:sc.length < 1048577) (h3:pa.length < 1048577) (h4:qu.length < 1048577) (h5:fr.length < 1048577) (r:Tx) (hr:r.length < 1048577) (st:St)
 (h:IP st ⟨sc,[],[],0,pa,qu,fr,hq,hf⟩) (e5:st.env 5=.val (tx r)) :
 EC Tryz.prog ir208_from11 st (K:=prs (b0h sc pa qu fr hq hf r)):=by
 unfold ir208_from11
 obtain ⟨e2,e7,m2,m7⟩:=h
 have q1:(⟨#[64]⟩:ByteArray)=bs [64]:=rfl
 have hla:=S2 r 64
 have hlb:=X4 r 64
 simp [e5,tx,q1]
 refine a0q rfl rfl (.inl rfl) (b2q r 64 (by omega)) ?_
 unfold b0h
 by_cases hc:64∈r
 · have e:(if 64∈r then O8 r 64 else r)=O8 r 64:=if_pos hc
   rw [if_pos hc,e]
   simp [e5,tx,hc,e2,e7,m2,m7,d7,num]
   refine a6x sc (F6 r 64) pa qu fr hq hf h1 (by omega) h3 h4 h5 (O8 r 64) (by omega) _ ⟨?_,?_,?_,?_⟩ ?_<;>simp [e2,e7,m2,m7,d7,tx,num]
 · have e:(if 64∈r then O8 r 64 else r)=r:=if_neg hc
   rw [if_neg hc,e]
   simp [e5,tx,hc]
   refine a6x sc [] pa qu fr hq hf h1 (by simp) h3 h4 h5 r hr _ ⟨?_,?_,?_,?_⟩ ?_<;>simp [e2,e7,m2,m7,e5,d7,tx,num]
theorem b29 (sc qu fr:Tx) (hq hf:Bool) (h1:sc.length < 1048577) (h4:qu.length < 1048577) (h5:fr.length < 1048577) (r:Tx) (hr:r.length < 1048577) (st:St)
 (h:IP st ⟨sc,[],[],0,[47],qu,fr,hq,hf⟩) (e5:st.env 5=.val (tx r)) :
 EC Tryz.prog ir208_from10 st (K:=prs (a57 sc qu fr hq hf r)):=by
 unfold ir208_from10
 obtain ⟨e2,e7,m2,m7⟩:=h
 have hle:=Y6 r 47
 have hla:=S2 r 47
 simp [e5,tx]
 refine f6 rfl rfl (.inl rfl) (a3z r 47) ?_
 unfold a57
 by_cases hc:47∈r
 · rw [if_pos hc]
   simp [e5,tx,num,hc,e2,e7,m2,m7,d7,b7,P9,hle,a2n]
   refine a6y sc (r.drop (P4 r 47)) qu fr hq hf h1 (by simp;omega) h4 h5 (F6 r 47) (by omega) _ ⟨?_,?_,?_,?_⟩ ?_<;>simp [e2,e7,m2,m7,d7,tx,num,F6]
 · rw [if_neg hc]
   simp [e5,tx,num,hc]
   rw [a0k hc]
   refine a6y sc [47] qu fr hq hf h1 (by simp) h4 h5 r hr _ ⟨?_,?_,?_,?_⟩ ?_<;>simp [e2,e7,m2,m7,e5,d7,tx,num]
theorem b5c (sc:Tx) (h1:sc.length < 1048577) (r:Tx) (hr:r.length < 1048577) (st:St) (h:IP st ⟨sc,[],[],0,[],[],[],false,false⟩) (e5:st.env 5=.val (tx r)) :
 EC Tryz.prog ir208_from7 st (K:=prs (a4g sc r)):=by
 unfold ir208_from7
 obtain ⟨e2,e7,m2,m7⟩:=h
 have q1:(⟨#[35]⟩:ByteArray)=bs [35]:=rfl
 have q2:(⟨#[63]⟩:ByteArray)=bs [63]:=rfl
 have q3:(⟨#[47]⟩:ByteArray)=bs [47]:=rfl
 have e:a4g sc r=a57 sc (O8 (F6 r 35) 63) (O8 r 35) (decide (63∈F6 r 35)) (decide (35∈r)) (F6 (F6 r 35) 63):=rfl
 have hl1:=S2 r 35
 have hl2:=X4 r 35
 have hl3:=S2 (F6 r 35) 63
 have hl4:=X4 (F6 r 35) 63
 rw [e]
 simp [e5,tx,q1]
 refine a0q rfl rfl (.inl rfl) (b2q r 35 (by omega)) ?_
 simp [e5,tx,q2,e2,e7,m2,m7,d7,num]
 refine a0q rfl rfl (.inl rfl) (b2q (F6 r 35) 63 (by omega)) ?_
 simp [e5,tx,q3,e2,e7,m2,m7,d7,num]
 refine b29 sc (O8 (F6 r 35) 63) (O8 r 35) _ _ h1 (by omega) (by omega) (F6 (F6 r 35) 63) (by omega) _ ⟨?_,?_,?_,?_⟩ ?_<;>simp [e2,e7,m2,m7,d7,tx,num]
theorem prefix2 (r:Tx):([47,47]:Tx).isPrefixOf r=decide (r.take 2=[47,47]):=by
 match r with
 | []=>rfl
 | [a]=>simp [List.isPrefixOf]
 | a :: b :: r=>
  rw [Bool.eq_iff_iff]
  simp [List.isPrefixOf]
  constructor
  · rintro ⟨rfl,rfl⟩;exact ⟨rfl,rfl⟩
  · rintro ⟨rfl,rfl⟩;exact ⟨rfl,rfl⟩
theorem b5d (sc:Tx) (h1:sc.length < 1048577) (r:Tx) (hr:r.length < 1048577) (st:St)
 (h:IP st ⟨sc,[],[],0,[],[],[],false,false⟩) (e5:st.env 5=.val (tx r)):EC Tryz.prog ir208_from4 st (K:=prs (if a0b sc then if r.take 2=[47,47] then a4g sc (r.drop 2) else (LUrl.zero,false) else (⟨sc,[],[],0,F6 (F6 r 35) 63,[],[],false,false⟩,T3 ⟨sc,[],[],0,F6 (F6 r 35) 63,[],[],false,false⟩))):=by
 unfold ir208_from4
 obtain ⟨e2,e7,m2,m7⟩:=h
 have q1:(⟨#[35]⟩:ByteArray)=bs [35]:=rfl
 have q2:(⟨#[63]⟩:ByteArray)=bs [63]:=rfl
 have q3:(⟨#[47,47]⟩:ByteArray)=bs [47,47]:=rfl
 have hl1:=S2 r 35
 have hl3:=S2 (F6 r 35) 63
 simp [e2,e7,m2,m7,tx,num,d7,b8]
 refine f6 rfl rfl (.inl rfl) (b68 ⟨sc,[],[],0,[],[],[],false,false⟩) ?_
 by_cases hw:a0b sc=true
 · rw [if_pos hw]
   simp [e5,tx,hw,q3]
   refine P7 rfl rfl (.inl rfl) (b7y r [47,47]) ?_
   rw [prefix2]
   by_cases ht:r.take 2=[47,47]
   · rw [if_pos ht]
     simp [tx,ht]
     refine b5c sc h1 (r.drop 2) (by simp;omega) _ ⟨?_,?_,?_,?_⟩ ?_<;>simp [e2,e7,m2,m7,d7,tx,num]
   · rw [if_neg ht]
     simp [e2,e7,m2,m7,tx,num,d7,ht]
     refine Z3 _ ?_ ?_ ?_
     · simp [e2]
     · simp [d7,LUrl.zero,tx,num,bs]
     · simp
 · rw [if_neg hw]
   simp [e5,tx,hw,q1]
   refine a0q rfl rfl (.inl rfl) (b2q r 35 (by omega)) ?_
   simp [tx,hw,q2]
   refine a0q rfl rfl (.inl rfl) (b2q (F6 r 35) 63 (by omega)) ?_
   simp [e2,e7,m2,m7,tx,num,d7,b8]
   refine Q6 rfl rfl (.inl rfl) (c05 ⟨sc,[],[],0,F6 (F6 r 35) 63,[],[],false,false⟩ ⟨h1,by simp,by simp,by show (F6 (F6 r 35) 63).length < _;omega,by simp,by simp,by simp,by simp⟩) ?_
   simp [e2,e7,m2,m7,tx,num,d7,b8]
   refine a5h (id:=2) ?_ ?_ ?_
   · simp [e2]
   · simp [d7,tx,num]
   · simp
theorem i_parse (t:Tx) (ht:t.length < 1048577):z6 Tryz.prog 208 [.val (tx t)] (.ret (a4e (R5 t)) []) []:=by
 refine K4 mixed ok208 rfl (fun _=>rfl) ?_
 unfold ir208
 rw [d9]
 have q1:(⟨#[58]⟩:ByteArray)=bs [58]:=rfl
 have hla:=S2 t 58
 have hlb:=X4 t 58
 simp [w8,J8,P1,b9,q8,tx,num,q1]
 refine a0q rfl rfl (.inl rfl) (b2q t 58 (by omega)) ?_
 simp [tx,num]
 refine f6 rfl rfl (.inl rfl) (c03 (F6 t 58) (by omega)) ?_
 by_cases hc:58∈t
 · rw [show R5 t=(if a0b (R9 (F6 t 58)) then if (O8 t 58).take 2=[47,47] then a4g (R9 (F6 t 58)) ((O8 t 58).drop 2) else (LUrl.zero,false) else (⟨R9 (F6 t 58),[],[],0,F6 (F6 (O8 t 58) 35) 63,[],[],false,false⟩,T3 ⟨R9 (F6 t 58),[],[],0,F6 (F6 (O8 t 58) 35) 63,[],[],false,false⟩)) by unfold R5;rw [if_pos hc]]
   simp [tx,num,hc]
   refine b5d (R9 (F6 t 58)) (by simp [R9];omega) (O8 t 58) (by omega) _ ⟨?_,?_,?_,?_⟩ ?_<;>simp [d7,tx,num,LUrl.zero,bs]
 · rw [show R5 t=(LUrl.zero,false) by unfold R5;rw [if_neg hc]]
   simp [tx,num,hc]
   refine Z3 _ ?_ ?_ ?_
   · simp
   · simp [d7,LUrl.zero,tx,num,bs]
   · simp
end Go.Proofs
end
section
namespace Go.Proofs
open Go.PW Go.KP
attribute [local simp] RV.cells RV.one PV.cells PV.solid PV.one N3 b8 O9 P0 RV.ofCells elems PV.killL
variable [GH]
theorem tiny_of {u:LUrl} (h:u.Tiny):Tiny u:=⟨h.1,h.2.1,h.2.2.1,h.2.2.2.1,h.2.2.2.2.1,h.2.2.2.2.2.1,by have:=h.2.2.2.2.2.2;omega,by have:=h.2.2.2.2.2.2;omega⟩
def c07 (r:LUrl×Int):PV:=.tup [.val (W5 r.1),.val (num r.2)]
theorem a8n {st:St} {s t id:Nat} {u:LUrl} {n:Int} (h1:st.env s=.ptr id 0) (h2:st.mem id=.box (d7 u)) (h5:st.env t=.val (num n)):R1 [.c s true 9,.t t] st.fin=some (c07 (u,n)):=by
 rw [c0i (n:=9) (rs:=a9e u) h1 (by rw [h2,a9f]) rfl (by omega) h5,b3p]
 rfl
def a1j (t:Tx):LUrl×Int:=if t.length≤65536 then if (R5 t).2 then ((R5 t).1,0) else (LUrl.zero,3) else (LUrl.zero,2)
theorem b9i (t:Tx) (ht:t.length < 1048577):z6 Tryz.prog 155 [.val (tx t)] (.ret (c07 (a1j t)) []) []:=by
 refine K4 mixed ok155 rfl (fun _=>rfl) ?_
 unfold ir155
 rw [d9]
 unfold a1j
 simp [w8,J8,P1,b9,q8,tx]
 refine f6 rfl rfl (.inl rfl) (c4x t) ?_
 by_cases hl:t.length≤65536
 · rw [if_pos hl,if_pos hl]
   simp [tx,num]
   refine P7 rfl rfl (.inl rfl) (i_parse t ht) ?_
   cases hok:(R5 t).2 with
   | true=>
    rw [if_pos rfl]
    simp [tx,num,W5,b8]
    refine a8n (id:=2) ?_ ?_ ?_
    · simp
    · simp [d7,tx,num]
    · simp [num]
   | false=>
    rw [if_neg (by simp)]
    simp [tx,num,W5,b8]
    refine a8n (id:=2) ?_ ?_ ?_
    · simp
    · simp [d7,LUrl.zero,tx,num,bs]
    · simp [num]
 · rw [if_neg hl,if_neg hl]
   simp [tx,num]
   refine a8n (id:=2) ?_ ?_ ?_
   · simp
   · simp [d7,LUrl.zero,tx,num,bs]
   · simp [num]
theorem b7o (u:LUrl) (hs:Tiny u) (st:St) (e4:st.env 4=.ptr 4 0) (m4:st.mem 4=.box (d7 { u with frag:=[],hasF:=false })):EC Tryz.prog ir99_from4 st (K:=⟨a1l [.t 2,.t 3] (Z7 (some (a1r { u with frag:=[],hasF:=false })))⟩):=by
 unfold ir99_from4
 obtain ⟨s1,s2,s3,s4,s5,s6,p0,p1⟩:=hs
 have ht:Tiny { u with frag:=[],hasF:=false }:=⟨s1,s2,s3,s4,s5,by simp,p0,p1⟩
 simp [e4,m4,d7,tx,num,b8]
 refine f6 rfl rfl (.inl rfl) (c4v { u with frag:=[],hasF:=false } ht.small p0) ?_
 simp [Z7]
theorem i_clean (t:Tx) (ht:t.length < 1048577):z6 Tryz.prog 99 [.val (tx t)] (.ret (Z7 (a3h t)) []) []:=by
 refine K4 mixed ok99 rfl (fun _=>rfl) ?_
 unfold ir99
 rw [d9]
 have htn:=tiny_of (b6n ht)
 have hpu:=b9i t ht
 by_cases hl:t.length≤65536
 · cases hok:(R5 t).2 with
   | false=>
    have e1:a3h t=none:=by unfold a3h;rw [if_pos hl,hok];rfl
    have e2:a1j t=(LUrl.zero,3):=by unfold a1j;rw [if_pos hl,hok];rfl
    rw [e1]
    rw [e2] at hpu
    simp [w8,J8,P1,b9,q8,tx]
    refine P7 rfl rfl (.inl rfl) hpu ?_
    simp [tx,num,W5,b8,Z7,bs]
   | true=>
    have e2:a1j t=((R5 t).1,0):=by unfold a1j;rw [if_pos hl,hok];rfl
    rw [e2] at hpu
    cases hw:a0b (R5 t).1.scheme with
    | false=>
     have e1:a3h t=none:=by unfold a3h;rw [if_pos hl,hok,hw];rfl
     rw [e1]
     simp [w8,J8,P1,b9,q8,tx]
     refine P7 rfl rfl (.inl rfl) hpu ?_
     simp [tx,num,W5,b8]
     refine f6 rfl rfl (.inl rfl) (b68 (R5 t).1) ?_
     rw [hw]
     simp [tx,num,Z7,bs]
    | true=>
     have e1:a3h t=some (a1r { (R5 t).1 with frag:=[],hasF:=false }):=by unfold a3h;rw [if_pos hl,hok,hw];rfl
     rw [e1]
     simp [w8,J8,P1,b9,q8,tx]
     refine P7 rfl rfl (.inl rfl) hpu ?_
     simp [tx,num,W5,b8]
     refine f6 rfl rfl (.inl rfl) (b68 (R5 t).1) ?_
     rw [hw]
     simp [tx,num]
     refine b7o (R5 t).1 htn _ ?_ ?_<;>simp [d7,tx,num,bs]
 · have e1:a3h t=none:=by unfold a3h;rw [if_neg hl]
   have e2:a1j t=(LUrl.zero,2):=by unfold a1j;rw [if_neg hl]
   rw [e1]
   rw [e2] at hpu
   simp [w8,J8,P1,b9,q8,tx]
   refine P7 rfl rfl (.inl rfl) hpu ?_
   simp [tx,num,W5,b8,Z7,bs]
structure JT (st:St) (x:LTarget):Prop where
 e1:st.env 1=.ptr 1 0
 m1:st.mem 1=.box [.val (tx x.url),.val (num x.prio),.val (num x.weight)]
theorem c2e (x:LTarget) (url:Tx):z6 Tryz.prog 165 [.val (J9 x),.box [tx url]] (.ret (.val (.bool (decide (x.url=url)))) []) [[tx url]]:=by
 refine a9a mixed ok165 rfl (fun _=>rfl) ?_
 unfold ir165
 rw [d9]
 simp [w8,J8,P1,b9,q8,J9,tx,num,R3,a8i,W0]
theorem b73 {l:List LTarget} {j:Nat} (h:j < l.length):(l.map J9)[j]?.getD .nilptr=J9 l[j]:=by simp [List.getElem?_eq_getElem h]
theorem b5i (l:List LTarget) (g:Nat) (c:RV) (p:LTarget→Bool) (hl:l.length < 1099511627776) (hg:fnB Tryz.prog g=true)
 (hp:∀ x∈l,z6 Tryz.prog g [.val (J9 x),.box [c]] (.ret (.val (.bool (p x))) []) [[c]]) :
 z6 Tryz.prog 216 [.val (.list 3 (l.map J9)),.fn g [.box [c]]] (.ret (.val (num (a2i l p))) []) [[c]]:=by
 refine a9a mixed ok216 rfl (fun _=>rfl) ?_
 unfold ir216
 rw [d9]
 simp [w8,J8,P1,b9,q8,P1,J8]
 refine S1 (X:=Nat) (fun i=>⟨S7 [(0,.val (.list 3 (l.map J9))),(1,.fn g [.ptr 900 0]),(7,.val (num l.length)),(8,.val (num i))],S0 [(900,.box [.val c])]⟩) (fun i=>i≤l.length∧∀ k (hk:k < i) (hk':k < l.length),p l[k]=false) (fun i=>l.length - i) 0 (Le.mk _ _ ?_ ?_) ?_ ?_
 · simp [upd,num]
 · simp
 · simp
 · rintro i ⟨hi,hne⟩
   simp [num]
   refine O5 (fun h1=>?_) (fun h1=>?_)
   · have e1:=b73 h1
     simp [num,h1,e1,J9,tx,hg]
     refine a7k (ids:=[900]) rfl rfl (by simp) (by decide) (by simp [b2w,x4,F1,x6,E9,x7,p9,x5,F0,j5,A1,F8,F9,d8,o0,o9,i8,x8,p8,j4,E8,x1,p7,p6,C9,D0,T4,T5,Option.getD_some,Option.getD_none,B6,q9,l8,C6,l7,l1,C8,l2,C7,C5,C4,G5,u6,l5,C2,t8,l4,C1,B4,C3,u0,B9,k8,t7,C0,G7,G6,B5,B7,l3,B8,u7,l6,A4,j7,B3,B2,B1,G0,s9,j9,A9,s0,j8,A8,A2,B0,s8,A6,j6,r9,A7,G4,G3,A3,r8,k7,A5,t6,k6,I3,I2,J4,I4,I8,I6,I5,J3,I7,I9,J0,J1,J2,y7,y6,x9,K5,K6,F7,F2,r5,D4,v6,J6,q7,O0,K9,J7,M3,M5,M4,O1,O2,H5,H7,H6,H8,H9,L9,v8,L8,D5,D6,D7,w5,T6,E5,w9,N8,N9,G8,K7,K8,Option.map_some,Option.map_none,D8,w6,u9,l9,D2,D3,H0,G9,N0,M9,I1,E6,E7,I0,M6,M7,H1,n7,H2,n0,L4,E4,E3,j3,M2,M8,H4,L5,L7,L6,v7,z7,A0,z8,f7,M1,O4,O3,L2,H3,Q1,L3,n8,E1,E2,w7,D9,i7,r6,i6,r7,f8,J5,N1,N2,y8,y9,F4,F3,D1]) rfl (hp l[i] (List.getElem_mem h1)) ?_
     cases hpi:p l[i] with
     | true=>
      simp [a8i,W0]
      rw [a71 h1 hpi (fun k hk=>hne k hk (by omega))];rfl
     | false=>
      simp
      refine LoopNext.mk (i+1) ⟨by omega,fun k hk hk'=>?_⟩ (by omega) (Le.mk _ _ ?_ ?_)
      · by_cases e:k=i
        · subst e;exact hpi
        · exact hne k (by omega) hk'
      · simp [num];exact wrap_i64 (by omega) (by omega)
      · simp
   · have e:i=l.length:=by omega
     subst e
     simp [num,a8i,W0]
     rw [a6d (fun k hk=>hne k hk hk)]
theorem b0b (l:List LTarget) (g:Nat) (c:RV) (p:LTarget→Bool) (hl:l.length < 1099511627776) (hg:fnB Tryz.prog g=true)
 (hp:∀ x∈l,z6 Tryz.prog g [.val (J9 x),.box [c]] (.ret (.val (.bool (p x))) []) [[c]]) :
 z6 Tryz.prog 164 [.val (.list 3 (l.map J9)),.fn g [.box [c]]] (.ret (.val (.bool (l.any p))) []) [[c]]:=by
 refine a9a mixed ok164 rfl (fun _=>rfl) ?_
 unfold ir164
 rw [d9]
 simp [w8,J8,P1,b9,q8,P1,J8]
 refine a7k (ids:=[900]) rfl rfl (by simp) (by decide) (by simp [b2w,x4,F1,x6,E9,x7,p9,x5,F0,j5,A1,F8,F9,d8,o0,o9,i8,x8,p8,j4,E8,x1,p7,p6,C9,D0,T4,T5,Option.getD_some,Option.getD_none,B6,q9,l8,C6,l7,l1,C8,l2,C7,C5,C4,G5,u6,l5,C2,t8,l4,C1,B4,C3,u0,B9,k8,t7,C0,G7,G6,B5,B7,l3,B8,u7,l6,A4,j7,B3,B2,B1,G0,s9,j9,A9,s0,j8,A8,A2,B0,s8,A6,j6,r9,A7,G4,G3,A3,r8,k7,A5,t6,k6,I3,I2,J4,I4,I8,I6,I5,J3,I7,I9,J0,J1,J2,y7,y6,x9,K5,K6,F7,F2,r5,D4,v6,J6,q7,O0,K9,J7,M3,M5,M4,O1,O2,H5,H7,H6,H8,H9,L9,v8,L8,D5,D6,D7,w5,T6,E5,w9,N8,N9,G8,K7,K8,Option.map_some,Option.map_none,D8,w6,u9,l9,D2,D3,H0,G9,N0,M9,I1,E6,E7,I0,M6,M7,H1,n7,H2,n0,L4,E4,E3,j3,M2,M8,H4,L5,L7,L6,v7,z7,A0,z8,f7,M1,O4,O3,L2,H3,Q1,L3,n8,E1,E2,w7,D9,i7,r6,i6,r7,f8,J5,N1,N2,y8,y9,F4,F3,D1]) rfl (b5i l g c p hl hg hp) ?_
 simp [num,a8i,W0]
 exact b42 l p
theorem c40 (l:List LTarget) (url:Tx) (hl:l.length < 1099511627776):z6 Tryz.prog 108 [.val (.list 3 (l.map J9)),.val (tx url)] (.ret (.val (.bool (l.any fun x=>decide (x.url=url)))) []) []:=by
 refine K4 mixed ok108 rfl (fun _=>rfl) ?_
 unfold ir108
 rw [d9]
 simp [w8,J8,P1,b9,q8,tx]
 refine a7k (ids:=[3]) rfl rfl (by simp) (by decide) (by simp [b2w,x4,F1,x6,E9,x7,p9,x5,F0,j5,A1,F8,F9,d8,o0,o9,i8,x8,p8,j4,E8,x1,p7,p6,C9,D0,T4,T5,Option.getD_some,Option.getD_none,B6,q9,l8,C6,l7,l1,C8,l2,C7,C5,C4,G5,u6,l5,C2,t8,l4,C1,B4,C3,u0,B9,k8,t7,C0,G7,G6,B5,B7,l3,B8,u7,l6,A4,j7,B3,B2,B1,G0,s9,j9,A9,s0,j8,A8,A2,B0,s8,A6,j6,r9,A7,G4,G3,A3,r8,k7,A5,t6,k6,I3,I2,J4,I4,I8,I6,I5,J3,I7,I9,J0,J1,J2,y7,y6,x9,K5,K6,F7,F2,r5,D4,v6,J6,q7,O0,K9,J7,M3,M5,M4,O1,O2,H5,H7,H6,H8,H9,L9,v8,L8,D5,D6,D7,w5,T6,E5,w9,N8,N9,G8,K7,K8,Option.map_some,Option.map_none,D8,w6,u9,l9,D2,D3,H0,G9,N0,M9,I1,E6,E7,I0,M6,M7,H1,n7,H2,n0,L4,E4,E3,j3,M2,M8,H4,L5,L7,L6,v7,z7,A0,z8,f7,M1,O4,O3,L2,H3,Q1,L3,n8,E1,E2,w7,D9,i7,r6,i6,r7,f8,J5,N1,N2,y8,y9,F4,F3,D1,tx]) rfl (b0b l 165 (tx url) (fun x=>decide (x.url=url)) hl (by kernel_rfl) (fun x _=>c2e x url)) ?_
 simp
end Go.Proofs
end
