/- Eb: merged out of KIf, KIg, KIh. -/
import Derived.Test.YtfoapolbgpjfaaaGreatDoorEa
import Derived.Test.YtfoapolbgpjfaaaGreatDoorBa
import Derived.Test.YtfoapolbgpjfaaaGreatDoorCa
import Derived.Test.YtfoapolbgpjfaaaGreatDoorAc
set_option linter.unusedSectionVars false
set_option linter.unusedSimpArgs false
set_option linter.unusedVariables false
set_option maxRecDepth 100000
section
namespace Go.Proofs
open Go.PW Go.KP
attribute [local simp] RV.cells RV.one PV.cells PV.solid PV.one o9 d9 l4 l0 RV.ofCells elems PV.killL
variable [GH]
structure IO (st:St) (u:LUrl):Prop where
 e1:st.env 1=.ptr 1 0
 m1:st.mem 1=.box (b9 u)
section
variable {Ks:Kx (St→Prop)} {kx:Kx (RV→St→Prop)} {st:St} {u:LUrl} {b:Bool}
def b2z (u:LUrl):Bool:=u.hasF || decide (u.frag=[])
theorem b1l (h:IO st u) (hb:st.env 108=.val (.bool b)) (hK:∀ st',IO st' u→st'.env 116=.val (.bool (b && b2z u))→Ks.k st'):EX Tryz.prog ir247_o109 st (Ks:=Ks):=by
 unfold ir247_o109
 have e3:(⟨#[]⟩:ByteArray)=bs []:=rfl
 cases b with
 | false=>
  simp [hb]
  refine hK _ ⟨?_,?_⟩ ?_<;>simp [h.e1,h.m1]
 | true=>
  cases hf:u.hasF with
  | true=>
   simp [hb,h.e1,h.m1,b9,tx,num,hf]
   refine hK _ ⟨?_,?_⟩ ?_<;>simp [h.e1,h.m1,b2z,hf]
  | false=>
   simp [hb,h.e1,h.m1,b9,tx,num,hf,e3,l5]
   refine hK _ ⟨?_,?_⟩ ?_<;>simp [h.e1,h.m1,b2z,hf]
def b20 (u:LUrl):Bool:=(u.hasQ || decide (u.query=[])) && b2z u
theorem b53 (h:IO st u) (hb:st.env 99=.val (.bool b)) (hK:∀ st',IO st' u→st'.env 116=.val (.bool (b && b20 u))→Ks.k st'):EX Tryz.prog ir247_o100 st (Ks:=Ks):=by
 unfold ir247_o100
 have e3:(⟨#[]⟩:ByteArray)=bs []:=rfl
 cases b with
 | false=>
  simp [hb]
  refine b1l (u:=u) (b:=false) ⟨?_,?_⟩ ?_ (fun st' q1 q2=>hK st' q1 (by simpa using q2))<;>simp [h.e1,h.m1]
 | true=>
  cases hq:u.hasQ with
  | true=>
   simp [hb,h.e1,h.m1,b9,tx,num,hq]
   refine b1l (u:=u) (b:=true) ⟨?_,?_⟩ ?_ (fun st' q1 q2=>hK st' q1 (by rw [q2];simp [b20,hq]))<;>simp [h.e1,h.m1]
  | false=>
   simp [hb,h.e1,h.m1,b9,tx,num,hq,e3,l5]
   refine b1l (u:=u) (b:=decide (u.query=[])) ⟨?_,?_⟩ ?_ (fun st' q1 q2=>hK st' q1 (by rw [q2];simp [b20,hq]))<;>simp [h.e1,h.m1]
def ib94 (u:LUrl):Bool:=!decide (35∈u.query) && b20 u
theorem b8s (h:IO st u) (hb:st.env 93=.val (.bool b)) (hK:∀ st',IO st' u→st'.env 116=.val (.bool (b && ib94 u))→Ks.k st'):EX Tryz.prog ir247_o94 st (Ks:=Ks):=by
 unfold ir247_o94
 have e3:(⟨#[35]⟩:ByteArray)=bs [35]:=rfl
 have e4:(⟨#[47]⟩:ByteArray)=bs [47]:=rfl
 cases b with
 | false=>
  simp [hb]
  refine b53 (u:=u) (b:=false) ⟨?_,?_⟩ ?_ (fun st' q1 q2=>hK st' q1 (by simpa using q2))<;>simp [h.e1,h.m1]
 | true=>
  simp [hb,h.e1,h.m1,b9,tx,num,e3,e4]
  refine j6 rfl rfl (.inl rfl) (b5a u.query 35) ?_
  simp [hb,h.e1,h.m1,b9,tx,num]
  refine b53 (u:=u) (b:=!decide (35∈u.query)) ⟨?_,?_⟩ ?_ (fun st' q1 q2=>hK st' q1 (by rw [q2];simp [ib94]))<;>simp [h.e1,h.m1,bne]
def ib89 (u:LUrl):Bool:=([47]:Tx).isPrefixOf u.path && ib94 u
theorem b8t (h:IO st u) (hb:st.env 88=.val (.bool b)) (hK:∀ st',IO st' u→st'.env 116=.val (.bool (b && ib89 u))→Ks.k st'):EX Tryz.prog ir247_o89 st (Ks:=Ks):=by
 unfold ir247_o89
 have e3:(⟨#[35]⟩:ByteArray)=bs [35]:=rfl
 have e4:(⟨#[47]⟩:ByteArray)=bs [47]:=rfl
 cases b with
 | false=>
  simp [hb]
  refine b8s (u:=u) (b:=false) ⟨?_,?_⟩ ?_ (fun st' q1 q2=>hK st' q1 (by simpa using q2))<;>simp [h.e1,h.m1]
 | true=>
  simp [hb,h.e1,h.m1,b9,tx,num,e3,e4]
  refine j6 rfl rfl (.inl rfl) (b3k u.path [47]) ?_
  simp [hb,h.e1,h.m1,b9,tx,num]
  refine b8s (u:=u) (b:=([47]:Tx).isPrefixOf u.path) ⟨?_,?_⟩ ?_ (fun st' q1 q2=>hK st' q1 (by rw [q2];simp [ib89]))<;>simp [h.e1,h.m1,bne]
def ib81 (u:LUrl):Bool:=!(u.port == R2 u.scheme) && ib89 u
theorem b8u (h:IO st u) (hb:st.env 80=.val (.bool b)) (hK:∀ st',IO st' u→st'.env 116=.val (.bool (b && ib81 u))→Ks.k st'):EX Tryz.prog ir247_o81 st (Ks:=Ks):=by
 unfold ir247_o81
 have e3:(⟨#[35]⟩:ByteArray)=bs [35]:=rfl
 have e4:(⟨#[47]⟩:ByteArray)=bs [47]:=rfl
 cases b with
 | false=>
  simp [hb]
  refine b8t (u:=u) (b:=false) ⟨?_,?_⟩ ?_ (fun st' q1 q2=>hK st' q1 (by simpa using q2))<;>simp [h.e1,h.m1]
 | true=>
  simp [hb,h.e1,h.m1,b9,tx,num,e3,e4]
  refine j6 rfl rfl (.inl rfl) (b55 u.scheme) ?_
  simp [hb,h.e1,h.m1,b9,tx,num]
  refine b8t (u:=u) (b:=!(u.port == R2 u.scheme)) ⟨?_,?_⟩ ?_ (fun st' q1 q2=>hK st' q1 (by rw [q2];simp [ib81]))<;>simp [h.e1,h.m1,bne]
def b8y (u:LUrl):Bool:=decide (0≤u.port∧u.port≤65535) && ib81 u
theorem b8v (h:IO st u) (hb:st.env 75=.val (.bool b)) (hK:∀ st',IO st' u→st'.env 116=.val (.bool (b && b8y u))→Ks.k st'):EX Tryz.prog ir247_o76 st (Ks:=Ks):=by
 unfold ir247_o76
 have e3:(⟨#[35]⟩:ByteArray)=bs [35]:=rfl
 have e4:(⟨#[47]⟩:ByteArray)=bs [47]:=rfl
 cases b with
 | false=>
  simp [hb]
  refine b8u (u:=u) (b:=false) ⟨?_,?_⟩ ?_ (fun st' q1 q2=>hK st' q1 (by simpa using q2))<;>simp [h.e1,h.m1]
 | true=>
  simp [hb,h.e1,h.m1,b9,tx,num,e3,e4]
  refine j6 rfl rfl (.inl rfl) (a1d u.port 0 65535) ?_
  simp [hb,h.e1,h.m1,b9,tx,num]
  refine b8u (u:=u) (b:=decide (0≤u.port∧u.port≤65535)) ⟨?_,?_⟩ ?_ (fun st' q1 q2=>hK st' q1 (by rw [q2];simp [b8y]))<;>simp [h.e1,h.m1,bne]
end
def b2t (u:LUrl):Bool:=(!y5 u.user [47,63,35,64] && V3 u.host) && b8y u
theorem b4o (u:LUrl) (h2:u.user.length < 1048577) (h3:u.host.length < 1048577) (hsh:y6 u.user=true) (st:St) (h:IO st u):EC Tryz.prog ir247_from4 st (K:=⟨Z6 [.t 2] (.val (.bool (b2t u)))⟩):=by
 unfold ir247_from4
 have e3:(⟨#[47,63,35,64]⟩:ByteArray)=bs [47,63,35,64]:=rfl
 have hend:∀ b,b=(!y5 u.user [47,63,35,64] && V3 u.host)→∀ st',IO st' u→st'.env 116=.val (.bool (b && b8y u))→Z6 [.t 2] (.val (.bool (b2t u))) .ret ⟨upd 2 (st'.env 116) st'.env,st'.mem⟩:=fun b hb st' q1 q2=>by
  rw [q2,hb]
  simp [b2t]
 simp [h.e1,h.m1,b9,tx,num,e3]
 refine j6 rfl rfl (.inl rfl) (a4j u.user [47,63,35,64] (by omega) (by simp) hsh (by decide)) ?_
 cases hu:y5 u.user [47,63,35,64] with
 | true=>
  simp [h.e1,h.m1,b9,tx,num]
  refine b8v (u:=u) (b:=false) ⟨?_,?_⟩ ?_ (fun st' q1 q2=>?_)
  · simp [h.e1]
  · simp [h.m1]
  · simp
  · simp only [B8,J2,C0,J0,C1,x3,B9,J1,p7,D9,L6,L7,l3,w7,w8,o2,C2,x2,o4,I9,B7,x1,w9,H0,H1,a4s,a4t,Option.getD_some,Option.getD_none,F7,x8,u7,G7,u6,u0,G9,u1,G8,G6,G5,M1,A7,u4,G3,A5,u3,G2,F5,G4,A6,G0,t8,A4,G1,M3,M2,F6,F8,u2,F9,A8,u5,E5,p9,F4,F3,F2,L8,A2,q8,F0,A0,q7,E9,E3,F1,A1,E7,p8,z8,E8,M0,L9,E4,z7,s9,E6,A3,q9,O0,N9,P1,O1,O5,O3,O2,P0,O4,O6,O7,O8,O9,C5,C4,C3,R8,R9,n5,J3,y0,H5,B0,P3,x6,X7,S3,K2,T6,T8,T7,X8,X9,N2,N4,N3,N5,N6,T3,B2,T2,H7,H8,H9,B3,a42,I6,B6,X5,X6,M4,S0,S1,Option.map_some,Option.map_none,I0,B4,A9,u9,H3,H4,M6,M5,U3,U2,N8,I7,I8,N7,T9,U0,M8,v8,M9,v7,S8,I5,I4,o3,T5,U1,N1,S9,T1,T0,B1,D6,D8,D7,n6,T4,Y1,Y0,S6,N0,a1f,S7,w6,I2,I3,B5,I1,o1,y9,n8,z6,n7,P2,U5,U6,C6,C7,J5,J4,H2]
    exact hend false (by rw [hu];rfl) st' q1 q2
 | false=>
  simp [h.e1,h.m1,b9,tx,num]
  refine j6 rfl rfl (.inl rfl) (b84 u.host (by omega)) ?_
  simp [h.e1,h.m1,b9,tx,num]
  refine b8v (u:=u) (b:=V3 u.host) ⟨?_,?_⟩ ?_ (fun st' q1 q2=>?_)
  · simp [h.e1]
  · simp [h.m1]
  · simp
  · simp only [B8,J2,C0,J0,C1,x3,B9,J1,p7,D9,L6,L7,l3,w7,w8,o2,C2,x2,o4,I9,B7,x1,w9,H0,H1,a4s,a4t,Option.getD_some,Option.getD_none,F7,x8,u7,G7,u6,u0,G9,u1,G8,G6,G5,M1,A7,u4,G3,A5,u3,G2,F5,G4,A6,G0,t8,A4,G1,M3,M2,F6,F8,u2,F9,A8,u5,E5,p9,F4,F3,F2,L8,A2,q8,F0,A0,q7,E9,E3,F1,A1,E7,p8,z8,E8,M0,L9,E4,z7,s9,E6,A3,q9,O0,N9,P1,O1,O5,O3,O2,P0,O4,O6,O7,O8,O9,C5,C4,C3,R8,R9,n5,J3,y0,H5,B0,P3,x6,X7,S3,K2,T6,T8,T7,X8,X9,N2,N4,N3,N5,N6,T3,B2,T2,H7,H8,H9,B3,a42,I6,B6,X5,X6,M4,S0,S1,Option.map_some,Option.map_none,I0,B4,A9,u9,H3,H4,M6,M5,U3,U2,N8,I7,I8,N7,T9,U0,M8,v8,M9,v7,S8,I5,I4,o3,T5,U1,N1,S9,T1,T0,B1,D6,D8,D7,n6,T4,Y1,Y0,S6,N0,a1f,S7,w6,I2,I3,B5,I1,o1,y9,n8,z6,n7,P2,U5,U6,C6,C7,J5,J4,H2]
    exact hend _ (by rw [hu];simp) st' q1 q2
def a4q (u:LUrl):Bool:=decide (u.user=[]) && decide (u.host=[]) && decide (u.port=0) && decide (u.query=[]) && decide (u.frag=[]) && !u.hasQ && !u.hasF
theorem b27 (u:LUrl):p5 [0,0,0,2,0,0,0,1,1] (a6i u) [tx u.scheme,tx [],tx [],num 0,tx u.path,tx [],tx [],.bool false,.bool false]=some (a4q u):=by
 simp only [a6i,p5,b1p,tx,num,l5,if_true,decide_true]
 unfold a4q
 have e:(u.port == 0)=decide (u.port=0):=by rw [Bool.eq_iff_iff];simp
 rw [e]
 cases decide (u.user=[])<;>cases decide (u.host=[])<;>cases decide (u.port=0)<;>cases decide (u.query=[])<;>cases decide (u.frag=[])<;>cases u.hasQ<;>cases u.hasF<;>rfl
theorem b4p (u:LUrl) (h2:u.user.length < 1048577) (h3:u.host.length < 1048577) (hsh:y6 u.user=true) (st:St) (h:IO st u):EC Tryz.prog ir247_from3 st (K:=⟨Z6 [.t 2] (.val (.bool (if K7 u.scheme then b2t u else a4q u)))⟩):=by
 unfold ir247_from3
 have e3:(⟨#[]⟩:ByteArray)=bs []:=rfl
 simp [h.e1,h.m1,b9,tx,num,d9]
 refine b8 rfl rfl (.inl rfl) (a8r u) ?_
 cases hw:K7 u.scheme with
 | true=>
  simp
  rw [if_pos rfl]
  refine b4o u h2 h3 hsh _ ⟨?_,?_⟩<;>simp [h.e1,h.m1]
 | false=>
  rw [if_neg (by simp)]
  have hq:=b27 u
  simp only [a6i,tx,num] at hq
  simp [h.e1,h.m1,b9,tx,num,d9,e3,hq,a8a]
theorem b4q (u:LUrl) (h2:u.user.length < 1048577) (h3:u.host.length < 1048577) (h4:u.path.length < 1048577) (hsh:y6 u.user=true) (hsp:y6 u.path=true) (st:St) (h:IO st u):EC Tryz.prog ir247_from2 st (K:=⟨Z6 [.t 2] (.val (.bool (!y5 u.path [63,35] && if K7 u.scheme then b2t u else a4q u)))⟩):=by
 unfold ir247_from2
 have e3:(⟨#[63,35]⟩:ByteArray)=bs [63,35]:=rfl
 simp [h.e1,h.m1,b9,tx,num,e3]
 refine b8 rfl rfl (.inl rfl) (a4j u.path [63,35] (by omega) (by simp) hsp (by decide)) ?_
 cases hp:y5 u.path [63,35] with
 | true=>simp
 | false=>
  simp only [Bool.not_false,Bool.true_and]
  simp
  refine b4p u h2 h3 hsh _ ⟨?_,?_⟩<;>simp [h.e1,h.m1]
section
variable {Ks:Kx (St→Prop)} {kx:Kx (RV→St→Prop)} {st:St} {u:LUrl} {b:Bool}
structure Tiny (u:LUrl):Prop where
 s1:u.scheme.length < 1048577
 s2:u.user.length < 1048577
 s3:u.host.length < 1048577
 s4:u.path.length < 1048577
 s5:u.query.length < 1048577
 s6:u.frag.length < 1048577
 p0:-9223372036854775808≤u.port
 p1:u.port≤9223372036854775807
theorem Tiny.small (h:Tiny u):u.Small:=by
 obtain ⟨s1,s2,s3,s4,s5,s6,p0,p1⟩:=h
 exact ⟨by omega,by omega,by omega,by omega,by omega,by omega,p1⟩
def b64 (u:LUrl):Bool:=!y6 (u.user++u.host++u.path++u.query++u.frag)
theorem b8w (hs:Tiny u) (h:IO st u) (hb:st.env 35=.val (.bool b)) (hK:∀ st',IO st' u→st'.env 52=.val (.bool (b || b64 u))→Ks.k st'):EO Tryz.prog ir247_o36 st (Ks:=Ks) (kx:=kx):=by
 unfold ir247_o36
 obtain ⟨s1,s2,s3,s4,s5,s6,p0,p1⟩:=hs
 cases b with
 | true=>
  simp [hb]
  refine hK _ ⟨?_,?_⟩ ?_<;>simp [h.e1,h.m1]
 | false=>
  simp [hb,h.e1,h.m1,b9,tx,num,b7,j9]
  refine ⟨by omega,by omega,by omega,by omega,?_⟩
  refine b8 rfl rfl (.inl rfl) (b4v (u.user++(u.host++(u.path++(u.query++u.frag)))) (by simp;omega)) ?_
  simp [hb]
  refine hK _ ⟨?_,?_⟩ ?_<;>simp [h.e1,h.m1,b64]
def a9v (u:LUrl):Bool:=decide (100 < (a0x u).length) || b64 u
theorem b8x (hs:Tiny u) (h:IO st u) (hb:st.env 29=.val (.bool b)) (hK:∀ st',IO st' u→st'.env 52=.val (.bool (b || a9v u))→Ks.k st'):EO Tryz.prog ir247_o30 st (Ks:=Ks) (kx:=kx):=by
 unfold ir247_o30
 cases b with
 | true=>
  simp [hb]
  refine b8w (u:=u) (b:=true) hs ⟨?_,?_⟩ ?_ (fun st' q1 q2=>hK st' q1 (by simpa using q2))<;>simp [h.e1,h.m1]
 | false=>
  have e:((100:Int) < ((a0x u).length:Int))↔100 < (a0x u).length:=by omega
  simp [hb,h.e1,h.m1,b9,tx,num,d9]
  refine b8 rfl rfl (.inl rfl) (b4t u hs.small hs.p0) ?_
  simp [hb,tx,b7,e]
  refine b8w (u:=u) (b:=decide (100 < (a0x u).length)) hs ⟨?_,?_⟩ ?_ (fun st' q1 q2=>hK st' q1 (by rw [q2];simp [a9v]))<;>simp [h.e1,h.m1]
end
theorem b1g (u:LUrl):a6a u=(J9 u.scheme && decide (u.user.length+u.host.length+u.path.length+u.query.length+u.frag.length≤100) && !a9v u && (!y5 u.path [63,35] && if K7 u.scheme then b2t u else a4q u)):=by
 unfold a6a a9v b64 b2t a4q b8y ib81 ib89 ib94 b20 b2z
 have e1:decide ((a0x u).length≤100)=!decide (100 < (a0x u).length):=by
  by_cases h:(a0x u).length≤100
  · rw [decide_eq_true h,decide_eq_false (by omega)];rfl
  · rw [decide_eq_false h,decide_eq_true (by omega)];rfl
 have e2:([47]:Tx).isPrefixOf u.path=(decide (0 < u.path.length) && decide ((u.path.getD 0 0).toNat=47)):=by
  cases u.path with
  | nil=>rfl
  | cons c r=>
   rw [Bool.eq_iff_iff]
   simp
   constructor
   · intro h;rw [← h];rfl
   · intro h;exact (UInt8.toNat_inj.1 (by rw [h];rfl)).symm
 have e3:(u.port == R2 u.scheme)=decide (u.port=R2 u.scheme):=by rw [Bool.eq_iff_iff];simp
 have e4:decide (u.port≠R2 u.scheme)=!decide (u.port=R2 u.scheme):=by simp
 have e5:y5 u.query [35]=decide (35∈u.query):=by
  rw [Bool.eq_iff_iff]
  simp [y5]
 rw [e1,e2,e3,e4,e5]
 cases J9 u.scheme<;>simp only [Bool.false_and,Bool.true_and]
 cases decide (u.user.length+u.host.length+u.path.length+u.query.length+u.frag.length≤100)<;>simp only [Bool.false_and,Bool.true_and]
 cases decide (100 < (a0x u).length)<;>simp only [Bool.false_and,Bool.true_and,Bool.not_true,Bool.not_false,Bool.true_or,Bool.false_or]
 cases y6 (u.user++u.host++u.path++u.query++u.frag)<;>simp only [Bool.false_and,Bool.true_and,Bool.not_true,Bool.not_false]
 cases y5 u.path [63,35]<;>simp only [Bool.false_and,Bool.true_and,Bool.not_true,Bool.not_false]
 split
 · simp only [Bool.and_assoc]
 · rfl
def b3s (u:LUrl):Nat:=u.user.length+u.host.length+u.path.length+u.query.length+u.frag.length
def b5i (u:LUrl):Bool:=!y5 u.path [63,35] && if K7 u.scheme then b2t u else a4q u
theorem b2u (u:LUrl) (hs:Tiny u) (b:Bool) (st':St) (q1:IO st' u) (q2:st'.env 52=.val (.bool (b || a9v u))) (res:Bool) (hres:res=(!(b || a9v u) && b5i u)) :
 CD (st'.env 52) (A:=⟨EC Tryz.prog (.seq (.reg [⟨some 2,.mov (.k (.val (.bool false))),none⟩]) .ret) st' (K:=⟨fun e st'=>ET e st' (Ks:=⟨fun st'=>EC Tryz.prog ir247_from2 st' (K:=⟨Z6 [.t 2] (.val (.bool res))⟩)⟩) (K:=⟨Z6 [.t 2] (.val (.bool res))⟩)⟩)⟩)
     (B:=⟨EC Tryz.prog .skip st' (K:=⟨fun e st'=>ET e st' (Ks:=⟨fun st'=>EC Tryz.prog ir247_from2 st' (K:=⟨Z6 [.t 2] (.val (.bool res))⟩)⟩) (K:=⟨Z6 [.t 2] (.val (.bool res))⟩)⟩)⟩):=by
 rw [q2]
 cases hbb:(b || a9v u) with
 | true=>
  rw [hbb] at hres
  have:res=false:=hres
  subst this
  simp
 | false=>
  rw [hbb] at hres
  have:res=b5i u:=hres
  subst this
  simp only [B8,J2,C0,J0,C1,x3,B9,J1,p7,D9,L6,L7,l3,w7,w8,o2,C2,x2,o4,I9,B7,x1,w9,H0,H1,a4s,a4t,Option.getD_some,Option.getD_none,F7,x8,u7,G7,u6,u0,G9,u1,G8,G6,G5,M1,A7,u4,G3,A5,u3,G2,F5,G4,A6,G0,t8,A4,G1,M3,M2,F6,F8,u2,F9,A8,u5,E5,p9,F4,F3,F2,L8,A2,q8,F0,A0,q7,E9,E3,F1,A1,E7,p8,z8,E8,M0,L9,E4,z7,s9,E6,A3,q9,O0,N9,P1,O1,O5,O3,O2,P0,O4,O6,O7,O8,O9,C5,C4,C3,R8,R9,n5,J3,y0,H5,B0,P3,x6,X7,S3,K2,T6,T8,T7,X8,X9,N2,N4,N3,N5,N6,T3,B2,T2,H7,H8,H9,B3,a42,I6,B6,X5,X6,M4,S0,S1,Option.map_some,Option.map_none,I0,B4,A9,u9,H3,H4,M6,M5,U3,U2,N8,I7,I8,N7,T9,U0,M8,v8,M9,v7,S8,I5,I4,o3,T5,U1,N1,S9,T1,T0,B1,D6,D8,D7,n6,T4,Y1,Y0,S6,N0,a1f,S7,w6,I2,I3,B5,I1,o1,y9,n8,z6,n7,P2,U5,U6,C6,C7,J5,J4,H2]
  refine j7 (fun h=>by cases h) (fun _=>?_)
  simp only [B8,J2,C0,J0,C1,x3,B9,J1,p7,D9,L6,L7,l3,w7,w8,o2,C2,x2,o4,I9,B7,x1,w9,H0,H1,a4s,a4t,Option.getD_some,Option.getD_none,F7,x8,u7,G7,u6,u0,G9,u1,G8,G6,G5,M1,A7,u4,G3,A5,u3,G2,F5,G4,A6,G0,t8,A4,G1,M3,M2,F6,F8,u2,F9,A8,u5,E5,p9,F4,F3,F2,L8,A2,q8,F0,A0,q7,E9,E3,F1,A1,E7,p8,z8,E8,M0,L9,E4,z7,s9,E6,A3,q9,O0,N9,P1,O1,O5,O3,O2,P0,O4,O6,O7,O8,O9,C5,C4,C3,R8,R9,n5,J3,y0,H5,B0,P3,x6,X7,S3,K2,T6,T8,T7,X8,X9,N2,N4,N3,N5,N6,T3,B2,T2,H7,H8,H9,B3,a42,I6,B6,X5,X6,M4,S0,S1,Option.map_some,Option.map_none,I0,B4,A9,u9,H3,H4,M6,M5,U3,U2,N8,I7,I8,N7,T9,U0,M8,v8,M9,v7,S8,I5,I4,o3,T5,U1,N1,S9,T1,T0,B1,D6,D8,D7,n6,T4,Y1,Y0,S6,N0,a1f,S7,w6,I2,I3,B5,I1,o1,y9,n8,z6,n7,P2,U5,U6,C6,C7,J5,J4,H2]
  have h30:a9v u=false:=(Bool.or_eq_false_iff.1 hbb).2
  have h36:b64 u=false:=(Bool.or_eq_false_iff.1 h30).2
  unfold b64 at h36
  have hsh:y6 (u.user++u.host++u.path++u.query++u.frag)=true:=by simpa using h36
  simp only [a4c,Bool.and_eq_true] at hsh
  exact b4q u hs.s2 hs.s3 hs.s4 hsh.1.1.1.1 hsh.1.1.2 st' q1
theorem a7l (u:LUrl) (hs:Tiny u):f9 Tryz.prog 247 [.val (p6 u)] (.ret (.val (.bool (n0 u))) []) []:=by
 refine f8 mixed ok247 rfl (fun _=>rfl) ?_
 unfold ir247
 rw [d8]
 have hs':=hs
 obtain ⟨s1,s2,s3,s4,s5,s6,p0,p1⟩:=hs
 have hres:n0 u=(!((!J9 u.scheme || decide (100 < b3s u)) || a9v u) && b5i u):=by
  rw [← b61,b1g]
  have e1:decide (u.user.length+u.host.length+u.path.length+u.query.length+u.frag.length≤100)=!decide (100 < b3s u):=by
   unfold b3s
   by_cases h:u.user.length+u.host.length+u.path.length+u.query.length+u.frag.length≤100
   · rw [decide_eq_true h,decide_eq_false (by omega)];rfl
   · rw [decide_eq_false h,decide_eq_true (by omega)];rfl
  rw [e1]
  unfold b5i
  cases J9 u.scheme<;>cases decide (100 < b3s u)<;>cases a9v u<;>rfl
 simp [f7,j4,k9,d7,f5,p6,tx,num,b7]
 refine b8 rfl rfl (.inl rfl) (b4u u.scheme (by omega)) ?_
 cases b1:J9 u.scheme with
 | false=>
  rw [b1] at hres
  simp [tx,num,b7]
  refine b8x (u:=u) (b:=true) hs' ⟨?_,?_⟩ ?_ (fun st' q1 q2=>b2u u hs' true st' q1 q2 _ hres)
  · simp
  · simp [b9,tx,num]
  · simp
 | true=>
  rw [b1] at hres
  have w1:IntKind.i64.wrap ((u.user.length:Int)+u.host.length)=(u.user.length:Int)+u.host.length:=wrap_i64 (by omega) (by omega)
  have w2:IntKind.i64.wrap ((u.user.length:Int)+u.host.length+u.path.length)=(u.user.length:Int)+u.host.length+u.path.length:=wrap_i64 (by omega) (by omega)
  have w3:IntKind.i64.wrap ((u.user.length:Int)+u.host.length+u.path.length+u.query.length)=(u.user.length:Int)+u.host.length+u.path.length+u.query.length:=wrap_i64 (by omega) (by omega)
  have w4:IntKind.i64.wrap ((u.user.length:Int)+u.host.length+u.path.length+u.query.length+u.frag.length)=(u.user.length:Int)+u.host.length+u.path.length+u.query.length+u.frag.length:=wrap_i64 (by omega) (by omega)
  have e:decide ((100:Int) < (u.user.length:Int)+u.host.length+u.path.length+u.query.length+u.frag.length)=decide (100 < b3s u):=by
   unfold b3s
   by_cases h:100 < u.user.length+u.host.length+u.path.length+u.query.length+u.frag.length
   · rw [decide_eq_true h,decide_eq_true (by omega)]
   · rw [decide_eq_false h,decide_eq_false (by omega)]
  simp [tx,num,b7,w1,w2,w3,w4,e]
  refine b8x (u:=u) (b:=decide (100 < b3s u)) hs' ⟨?_,?_⟩ ?_ (fun st' q1 q2=>b2u u hs' _ st' q1 q2 _ (by rw [hres];rfl))
  · simp
  · simp [b9,tx,num]
  · simp
end Go.Proofs
end
section
namespace Go.Proofs
open Go.PW Go.KP
attribute [local simp] RV.cells RV.one PV.cells PV.solid PV.one o9 d9 l4 l0 RV.ofCells elems PV.killL
variable [GH]
structure IP (st:St) (u:LUrl):Prop where
 e2:st.env 2=.ptr 2 0
 e7:st.env 7=.ptr 7 0
 m2:st.mem 2=.box (b9 LUrl.zero)
 m7:st.mem 7=.box (b9 u)
theorem a9s (u:LUrl) (hs:Tiny u) (st:St) (h:IP st u):EC Tryz.prog ir208_from15 st (K:=prs (u,n0 u)):=by
 unfold ir208_from15
 obtain ⟨e2,e7,m2,m7⟩:=h
 simp [e2,e7,m2,m7,b9,d9,tx,num]
 refine j6 rfl rfl (.inl rfl) (a7l u hs) ?_
 simp [e2,e7,m2,m7,b9,d9,tx,num]
 refine a28 (id:=2) ?_ ?_ ?_
 · simp [e2]
 · simp [e2,b9,tx,num]
 · simp
theorem a11 (sc us ho pa qu fr:Tx) (po:Int) (hq hf:Bool) (hs:Tiny ⟨sc,us,o8 ho,po,pa,qu,fr,hq,hf⟩) (hh:ho.length < 1048577) (st:St) (h:IP st ⟨sc,us,[],po,pa,qu,fr,hq,hf⟩) (e12:st.env 12=.val (tx ho)) :
 EC Tryz.prog ir208_from14 st (K:=prs (⟨sc,us,o8 ho,po,pa,qu,fr,hq,hf⟩,n0 ⟨sc,us,o8 ho,po,pa,qu,fr,hq,hf⟩)):=by
 unfold ir208_from14
 obtain ⟨e2,e7,m2,m7⟩:=h
 simp [e2,e7,m2,m7,e12,b9,d9,tx,num]
 refine b8 rfl rfl (.inl rfl) (b57 ho (by omega)) ?_
 simp [e2,e7,m2,m7,b9,d9,tx,num]
 refine a9s ⟨sc,us,o8 ho,po,pa,qu,fr,hq,hf⟩ hs _ ⟨?_,?_,?_,?_⟩<;>simp [e2,e7,m2,m7,b9,tx,num]
theorem a9t (sc us pa qu fr:Tx) (hq hf:Bool) (h1:sc.length < 1048577) (h2:us.length < 1048577) (h3:pa.length < 1048577) (h4:qu.length < 1048577) (h5:fr.length < 1048577) (r:Tx) (hr:r.length < 1048577) (st:St)
 (h:IP st ⟨sc,us,[],0,pa,qu,fr,hq,hf⟩) (e12:st.env 12=.val (tx (i6 r 58))) (e13:st.env 13=.val (tx (k7 r 58))) (e6:st.env 6=.val (.bool (decide (58∈r)))) :
 EC Tryz.prog ir208_from13 st (K:=prs (y4 ⟨sc,us,o8 (i6 r 58),0,pa,qu,fr,hq,hf⟩ r)):=by
 unfold ir208_from13
 obtain ⟨e2,e7,m2,m7⟩:=h
 have hla:=o7 r 58
 have hlb:=Q1 r 58
 have hll:(o8 (i6 r 58)).length < 1048577:=by simp [o8];omega
 by_cases hc:58∈r
 · simp [e6,e13,hc,tx]
   have hn:=b82 (k7 r 58) (by omega)
   refine a0d rfl rfl (.inl rfl) hn ?_
   cases hb:(a2n (k7 r 58)).2 with
   | false=>
    have hnone:=b63 hb
    rw [show y4 ⟨sc,us,o8 (i6 r 58),0,pa,qu,fr,hq,hf⟩ r=(LUrl.zero,false) by simp only [y4,Z7,hc,hnone,if_true]]
    simp [e2,e7,m2,m7,tx,num,b9]
    refine S5 _ ?_ ?_ ?_
    · simp [e2]
    · simp [b9,LUrl.zero,tx,num,bs]
    · simp
   | true=>
    have hsome:=inum_le hb
    generalize (a2n (k7 r 58)).1=n at *
    simp [e2,e7,m2,m7,tx,num,b9]
    refine b8 rfl rfl (.inl rfl) (a1d n 1 65535) ?_
    by_cases hin:1≤n∧n≤65535
    · rw [decide_eq_true hin]
      simp [e2,e7,m2,m7,tx,num,b9]
      refine b8 rfl rfl (.inl rfl) (b55 sc) ?_
      by_cases hu:n=R2 sc
      · have hl:Z7 sc r=some 0:=by
         simp only [Z7,hc,hsome,hin,if_true,and_self]
         rw [if_pos hu]
        rw [show y4 ⟨sc,us,o8 (i6 r 58),0,pa,qu,fr,hq,hf⟩ r=(⟨sc,us,o8 (i6 r 58),0,pa,qu,fr,hq,hf⟩,n0 ⟨sc,us,o8 (i6 r 58),0,pa,qu,fr,hq,hf⟩) by simp only [y4,hl]]
        simp [e2,e7,m2,m7,tx,num,b9,hu]
        refine a11 sc us (i6 r 58) pa qu fr 0 hq hf ⟨h1,h2,hll,h3,h4,h5,by simp,by simp⟩ (by omega) _ ⟨?_,?_,?_,?_⟩ ?_<;>simp [e2,e7,m2,m7,e12,b9,tx,num]
      · have hl:Z7 sc r=some n:=by
         simp only [Z7,hc,hsome,hin,if_true,and_self]
         rw [if_neg hu]
        rw [show y4 ⟨sc,us,o8 (i6 r 58),0,pa,qu,fr,hq,hf⟩ r=(⟨sc,us,o8 (i6 r 58),n,pa,qu,fr,hq,hf⟩,n0 ⟨sc,us,o8 (i6 r 58),n,pa,qu,fr,hq,hf⟩) by simp only [y4,hl]]
        simp [e2,e7,m2,m7,tx,num,b9,hu]
        refine a11 sc us (i6 r 58) pa qu fr n hq hf ⟨h1,h2,hll,h3,h4,h5,by show _≤n;omega,by show n≤_;omega⟩ (by omega) _ ⟨?_,?_,?_,?_⟩ ?_<;>simp [e2,e7,m2,m7,e12,b9,tx,num]
    · rw [decide_eq_false hin]
      rw [show y4 ⟨sc,us,o8 (i6 r 58),0,pa,qu,fr,hq,hf⟩ r=(LUrl.zero,false) by simp only [y4,Z7,hc,hsome,hin,if_true,if_false]]
      simp [e2,e7,m2,m7,tx,num,b9]
      refine S5 _ ?_ ?_ ?_
      · simp [e2]
      · simp [b9,LUrl.zero,tx,num,bs]
      · simp
 · have hl:Z7 sc r=some 0:=by simp only [Z7,hc,if_false]
   rw [show y4 ⟨sc,us,o8 (i6 r 58),0,pa,qu,fr,hq,hf⟩ r=(⟨sc,us,o8 (i6 r 58),0,pa,qu,fr,hq,hf⟩,n0 ⟨sc,us,o8 (i6 r 58),0,pa,qu,fr,hq,hf⟩) by simp only [y4,hl]]
   simp [e6,hc]
   refine a11 sc us (i6 r 58) pa qu fr 0 hq hf ⟨h1,h2,hll,h3,h4,h5,by simp,by simp⟩ (by omega) _ ⟨?_,?_,?_,?_⟩ ?_<;>simp [e2,e7,m2,m7,e12,b9,tx,num]
theorem a4d (sc us pa qu fr:Tx) (hq hf:Bool) (h1:sc.length < 1048577) (h2:us.length < 1048577) (h3:pa.length < 1048577) (h4:qu.length < 1048577) (h5:fr.length < 1048577) (r:Tx) (hr:r.length < 1048577) (st:St)
 (h:IP st ⟨sc,us,[],0,pa,qu,fr,hq,hf⟩) (e5:st.env 5=.val (tx r)) :
 EC Tryz.prog ir208_from12 st (K:=prs (y4 ⟨sc,us,o8 (i6 r 58),0,pa,qu,fr,hq,hf⟩ r)):=by
 unfold ir208_from12
 obtain ⟨e2,e7,m2,m7⟩:=h
 have q1:(⟨#[58]⟩:ByteArray)=bs [58]:=rfl
 simp [e5,tx,q1]
 refine V8 rfl rfl (.inl rfl) (a9d r 58 (by omega)) ?_
 simp [e5,tx]
 refine a9t sc us pa qu fr hq hf h1 h2 h3 h4 h5 r hr _ ⟨?_,?_,?_,?_⟩ ?_ ?_ ?_<;>simp [e2,e7,m2,m7,b9,tx,num]
theorem a4e (sc pa qu fr:Tx) (hq hf:Bool) (h1:sc.length < 1048577) (h3:pa.length < 1048577) (h4:qu.length < 1048577) (h5:fr.length < 1048577) (r:Tx) (hr:r.length < 1048577) (st:St)
 (h:IP st ⟨sc,[],[],0,pa,qu,fr,hq,hf⟩) (e5:st.env 5=.val (tx r)) :
 EC Tryz.prog ir208_from11 st (K:=prs (a7f sc pa qu fr hq hf r)):=by
 unfold ir208_from11
 obtain ⟨e2,e7,m2,m7⟩:=h
 have q1:(⟨#[64]⟩:ByteArray)=bs [64]:=rfl
 have hla:=o7 r 64
 have hlb:=Q1 r 64
 simp [e5,tx,q1]
 refine V8 rfl rfl (.inl rfl) (a9d r 64 (by omega)) ?_
 unfold a7f
 by_cases hc:64∈r
 · have e:(if 64∈r then k7 r 64 else r)=k7 r 64:=if_pos hc
   rw [if_pos hc,e]
   simp [e5,tx,hc,e2,e7,m2,m7,b9,num]
   refine a4d sc (i6 r 64) pa qu fr hq hf h1 (by omega) h3 h4 h5 (k7 r 64) (by omega) _ ⟨?_,?_,?_,?_⟩ ?_<;>simp [e2,e7,m2,m7,b9,tx,num]
 · have e:(if 64∈r then k7 r 64 else r)=r:=if_neg hc
   rw [if_neg hc,e]
   simp [e5,tx,hc]
   refine a4d sc [] pa qu fr hq hf h1 (by simp) h3 h4 h5 r hr _ ⟨?_,?_,?_,?_⟩ ?_<;>simp [e2,e7,m2,m7,e5,b9,tx,num]
theorem a9u (sc qu fr:Tx) (hq hf:Bool) (h1:sc.length < 1048577) (h4:qu.length < 1048577) (h5:fr.length < 1048577) (r:Tx) (hr:r.length < 1048577) (st:St)
 (h:IP st ⟨sc,[],[],0,[47],qu,fr,hq,hf⟩) (e5:st.env 5=.val (tx r)) :
 EC Tryz.prog ir208_from10 st (K:=prs (a3w sc qu fr hq hf r)):=by
 unfold ir208_from10
 obtain ⟨e2,e7,m2,m7⟩:=h
 have hle:=U8 r 47
 have hla:=o7 r 47
 simp [e5,tx]
 refine b8 rfl rfl (.inl rfl) (b3j r 47) ?_
 unfold a3w
 by_cases hc:47∈r
 · rw [if_pos hc]
   simp [e5,tx,num,hc,e2,e7,m2,m7,b9,b7,l6,hle,a0p]
   refine a4e sc (r.drop (k8 r 47)) qu fr hq hf h1 (by simp;omega) h4 h5 (i6 r 47) (by omega) _ ⟨?_,?_,?_,?_⟩ ?_<;>simp [e2,e7,m2,m7,b9,tx,num,i6]
 · rw [if_neg hc]
   simp [e5,tx,num,hc]
   rw [a2m hc]
   refine a4e sc [47] qu fr hq hf h1 (by simp) h4 h5 r hr _ ⟨?_,?_,?_,?_⟩ ?_<;>simp [e2,e7,m2,m7,e5,b9,tx,num]
theorem b1j (sc:Tx) (h1:sc.length < 1048577) (r:Tx) (hr:r.length < 1048577) (st:St) (h:IP st ⟨sc,[],[],0,[],[],[],false,false⟩) (e5:st.env 5=.val (tx r)) :
 EC Tryz.prog ir208_from7 st (K:=prs (a22 sc r)):=by
 unfold ir208_from7
 obtain ⟨e2,e7,m2,m7⟩:=h
 have q1:(⟨#[35]⟩:ByteArray)=bs [35]:=rfl
 have q2:(⟨#[63]⟩:ByteArray)=bs [63]:=rfl
 have q3:(⟨#[47]⟩:ByteArray)=bs [47]:=rfl
 have e:a22 sc r=a3w sc (k7 (i6 r 35) 63) (k7 r 35) (decide (63∈i6 r 35)) (decide (35∈r)) (i6 (i6 r 35) 63):=rfl
 have hl1:=o7 r 35
 have hl2:=Q1 r 35
 have hl3:=o7 (i6 r 35) 63
 have hl4:=Q1 (i6 r 35) 63
 rw [e]
 simp [e5,tx,q1]
 refine V8 rfl rfl (.inl rfl) (a9d r 35 (by omega)) ?_
 simp [e5,tx,q2,e2,e7,m2,m7,b9,num]
 refine V8 rfl rfl (.inl rfl) (a9d (i6 r 35) 63 (by omega)) ?_
 simp [e5,tx,q3,e2,e7,m2,m7,b9,num]
 refine a9u sc (k7 (i6 r 35) 63) (k7 r 35) _ _ h1 (by omega) (by omega) (i6 (i6 r 35) 63) (by omega) _ ⟨?_,?_,?_,?_⟩ ?_<;>simp [e2,e7,m2,m7,b9,tx,num]
theorem prefix2 (r:Tx):([47,47]:Tx).isPrefixOf r=decide (r.take 2=[47,47]):=by
 match r with
 | []=>rfl
 | [a]=>simp [List.isPrefixOf]
 | a :: b :: r=>
  rw [Bool.eq_iff_iff]
  simp [List.isPrefixOf]
  constructor
  · rintro ⟨rfl,rfl⟩;exact ⟨rfl,rfl⟩
  · rintro ⟨rfl,rfl⟩;exact ⟨rfl,rfl⟩
theorem b1k (sc:Tx) (h1:sc.length < 1048577) (r:Tx) (hr:r.length < 1048577) (st:St)
 (h:IP st ⟨sc,[],[],0,[],[],[],false,false⟩) (e5:st.env 5=.val (tx r)):EC Tryz.prog ir208_from4 st (K:=prs (if K7 sc then if r.take 2=[47,47] then a22 sc (r.drop 2) else (LUrl.zero,false) else (⟨sc,[],[],0,i6 (i6 r 35) 63,[],[],false,false⟩,n0 ⟨sc,[],[],0,i6 (i6 r 35) 63,[],[],false,false⟩))):=by
 unfold ir208_from4
 obtain ⟨e2,e7,m2,m7⟩:=h
 have q1:(⟨#[35]⟩:ByteArray)=bs [35]:=rfl
 have q2:(⟨#[63]⟩:ByteArray)=bs [63]:=rfl
 have q3:(⟨#[47,47]⟩:ByteArray)=bs [47,47]:=rfl
 have hl1:=o7 r 35
 have hl3:=o7 (i6 r 35) 63
 simp [e2,e7,m2,m7,tx,num,b9,d9]
 refine b8 rfl rfl (.inl rfl) (a8r ⟨sc,[],[],0,[],[],[],false,false⟩) ?_
 by_cases hw:K7 sc=true
 · rw [if_pos hw]
   simp [e5,tx,hw,q3]
   refine a0d rfl rfl (.inl rfl) (b3l r [47,47]) ?_
   rw [prefix2]
   by_cases ht:r.take 2=[47,47]
   · rw [if_pos ht]
     simp [tx,ht]
     refine b1j sc h1 (r.drop 2) (by simp;omega) _ ⟨?_,?_,?_,?_⟩ ?_<;>simp [e2,e7,m2,m7,b9,tx,num]
   · rw [if_neg ht]
     simp [e2,e7,m2,m7,tx,num,b9,ht]
     refine S5 _ ?_ ?_ ?_
     · simp [e2]
     · simp [b9,LUrl.zero,tx,num,bs]
     · simp
 · rw [if_neg hw]
   simp [e5,tx,hw,q1]
   refine V8 rfl rfl (.inl rfl) (a9d r 35 (by omega)) ?_
   simp [tx,hw,q2]
   refine V8 rfl rfl (.inl rfl) (a9d (i6 r 35) 63 (by omega)) ?_
   simp [e2,e7,m2,m7,tx,num,b9,d9]
   refine j6 rfl rfl (.inl rfl) (a7l ⟨sc,[],[],0,i6 (i6 r 35) 63,[],[],false,false⟩ ⟨h1,by simp,by simp,by show (i6 (i6 r 35) 63).length < _;omega,by simp,by simp,by simp,by simp⟩) ?_
   simp [e2,e7,m2,m7,tx,num,b9,d9]
   refine a28 (id:=2) ?_ ?_ ?_
   · simp [e2]
   · simp [b9,tx,num]
   · simp
theorem a7k (t:Tx) (ht:t.length < 1048577):f9 Tryz.prog 208 [.val (tx t)] (.ret (U7 (o0 t)) []) []:=by
 refine f8 mixed ok208 rfl (fun _=>rfl) ?_
 unfold ir208
 rw [d8]
 have q1:(⟨#[58]⟩:ByteArray)=bs [58]:=rfl
 have hla:=o7 t 58
 have hlb:=Q1 t 58
 simp [f7,j4,k9,d7,f5,tx,num,q1]
 refine V8 rfl rfl (.inl rfl) (a9d t 58 (by omega)) ?_
 simp [tx,num]
 refine b8 rfl rfl (.inl rfl) (b57 (i6 t 58) (by omega)) ?_
 by_cases hc:58∈t
 · rw [show o0 t=(if K7 (o8 (i6 t 58)) then if (k7 t 58).take 2=[47,47] then a22 (o8 (i6 t 58)) ((k7 t 58).drop 2) else (LUrl.zero,false) else (⟨o8 (i6 t 58),[],[],0,i6 (i6 (k7 t 58) 35) 63,[],[],false,false⟩,n0 ⟨o8 (i6 t 58),[],[],0,i6 (i6 (k7 t 58) 35) 63,[],[],false,false⟩)) by unfold o0;rw [if_pos hc]]
   simp [tx,num,hc]
   refine b1k (o8 (i6 t 58)) (by simp [o8];omega) (k7 t 58) (by omega) _ ⟨?_,?_,?_,?_⟩ ?_<;>simp [b9,tx,num,LUrl.zero,bs]
 · rw [show o0 t=(LUrl.zero,false) by unfold o0;rw [if_neg hc]]
   simp [tx,num,hc]
   refine S5 _ ?_ ?_ ?_
   · simp
   · simp [b9,LUrl.zero,tx,num,bs]
   · simp
end Go.Proofs
end
section
namespace Go.Proofs
open Go.PW Go.KP
attribute [local simp] RV.cells RV.one PV.cells PV.solid PV.one o9 d9 l4 l0 RV.ofCells elems PV.killL
variable [GH]
theorem b0u {u:LUrl} (h:u.Tiny):Tiny u:=⟨h.1,h.2.1,h.2.2.1,h.2.2.2.1,h.2.2.2.2.1,h.2.2.2.2.2.1,by have:=h.2.2.2.2.2.2;omega,by have:=h.2.2.2.2.2.2;omega⟩
def a7n (r:LUrl×Int):PV:=.tup [.val (p6 r.1),.val (num r.2)]
theorem a5x {st:St} {s t id:Nat} {u:LUrl} {n:Int} (h1:st.env s=.ptr id 0) (h2:st.mem id=.box (b9 u)) (h5:st.env t=.val (num n)):J8 [.c s true 9,.t t] st.fin=some (a7n (u,n)):=by
 rw [b5o (n:=9) (rs:=a6i u) h1 (by rw [h2,a6j]) rfl (by omega) h5,b0d]
 rfl
def a6c (t:Tx):LUrl×Int:=if t.length≤65536 then if (o0 t).2 then ((o0 t).1,0) else (LUrl.zero,3) else (LUrl.zero,2)
theorem b4w (t:Tx) (ht:t.length < 1048577):f9 Tryz.prog 155 [.val (tx t)] (.ret (a7n (a6c t)) []) []:=by
 refine f8 mixed ok155 rfl (fun _=>rfl) ?_
 unfold ir155
 rw [d8]
 unfold a6c
 simp [f7,j4,k9,d7,f5,tx]
 refine b8 rfl rfl (.inl rfl) (i_long t) ?_
 by_cases hl:t.length≤65536
 · rw [if_pos hl,if_pos hl]
   simp [tx,num]
   refine a0d rfl rfl (.inl rfl) (a7k t ht) ?_
   cases hok:(o0 t).2 with
   | true=>
    rw [if_pos rfl]
    simp [tx,num,p6,d9]
    refine a5x (id:=2) ?_ ?_ ?_
    · simp
    · simp [b9,tx,num]
    · simp [num]
   | false=>
    rw [if_neg (by simp)]
    simp [tx,num,p6,d9]
    refine a5x (id:=2) ?_ ?_ ?_
    · simp
    · simp [b9,LUrl.zero,tx,num,bs]
    · simp [num]
 · rw [if_neg hl,if_neg hl]
   simp [tx,num]
   refine a5x (id:=2) ?_ ?_ ?_
   · simp
   · simp [b9,LUrl.zero,tx,num,bs]
   · simp [num]
structure JT (st:St) (x:LTarget):Prop where
 e1:st.env 1=.ptr 1 0
 m1:st.mem 1=.box [.val (tx x.url),.val (num x.prio),.val (num x.weight)]
end Go.Proofs
end
