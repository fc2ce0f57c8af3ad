/- Eb: merged out of KIf, KIg, KIh, KIi, KIq, KIw. -/
import Derived.Test.YtgdapgcjmfeocaaGreatDoorEa
import Derived.Test.YtgdapgcjmfeocaaGreatDoorBa
import Derived.Test.YtgdapgcjmfeocaaGreatDoorCa
import Derived.Test.YtgdapgcjmfeocaaGreatDoorAc
set_option linter.unusedSectionVars false
set_option linter.unusedSimpArgs false
set_option linter.unusedVariables false
set_option maxRecDepth 100000
section
namespace Go.Proofs
open Go.PW Go.KP
attribute [local simp] RV.cells RV.one PV.cells PV.solid PV.one t8 f9 H0 A5 RV.ofCells elems PV.killL
variable [GH]
structure IO (st:St) (u:LUrl):Prop where
 e1:st.env 1=.ptr 1 0
 m1:st.mem 1=.box (f7 u)
section
variable {Ks:Kx (St→Prop)} {kx:Kx (RV→St→Prop)} {st:St} {u:LUrl} {b:Bool}
def b8f (u:LUrl):Bool:=u.hasF || decide (u.frag=[])
theorem b58 (h:IO st u) (hb:st.env 108=.val (.bool b)) (hK:∀ st',IO st' u→st'.env 116=.val (.bool (b && b8f u))→Ks.k st'):EX Tryz.prog ir240_o109 st (Ks:=Ks):=by
 unfold ir240_o109
 have e3:(⟨#[]⟩:ByteArray)=bs []:=rfl
 cases b with
 | false=>
  simp [hb]
  refine hK _ ⟨?_,?_⟩ ?_<;>simp [h.e1,h.m1]
 | true=>
  cases hf:u.hasF with
  | true=>
   simp [hb,h.e1,h.m1,f7,tx,num,hf]
   refine hK _ ⟨?_,?_⟩ ?_<;>simp [h.e1,h.m1,b8f,hf]
  | false=>
   simp [hb,h.e1,h.m1,f7,tx,num,hf,e3,G9]
   refine hK _ ⟨?_,?_⟩ ?_<;>simp [h.e1,h.m1,b8f,hf]
def b8g (u:LUrl):Bool:=(u.hasQ || decide (u.query=[])) && b8f u
theorem c2v (h:IO st u) (hb:st.env 99=.val (.bool b)) (hK:∀ st',IO st' u→st'.env 116=.val (.bool (b && b8g u))→Ks.k st'):EX Tryz.prog ir240_o100 st (Ks:=Ks):=by
 unfold ir240_o100
 have e3:(⟨#[]⟩:ByteArray)=bs []:=rfl
 cases b with
 | false=>
  simp [hb]
  refine b58 (u:=u) (b:=false) ⟨?_,?_⟩ ?_ (fun st' q1 q2=>hK st' q1 (by simpa using q2))<;>simp [h.e1,h.m1]
 | true=>
  cases hq:u.hasQ with
  | true=>
   simp [hb,h.e1,h.m1,f7,tx,num,hq]
   refine b58 (u:=u) (b:=true) ⟨?_,?_⟩ ?_ (fun st' q1 q2=>hK st' q1 (by rw [q2];simp [b8g,hq]))<;>simp [h.e1,h.m1]
  | false=>
   simp [hb,h.e1,h.m1,f7,tx,num,hq,e3,G9]
   refine b58 (u:=u) (b:=decide (u.query=[])) ⟨?_,?_⟩ ?_ (fun st' q1 q2=>hK st' q1 (by rw [q2];simp [b8g,hq]))<;>simp [h.e1,h.m1]
def ib94 (u:LUrl):Bool:=!decide (35∈u.query) && b8g u
theorem c69 (h:IO st u) (hb:st.env 93=.val (.bool b)) (hK:∀ st',IO st' u→st'.env 116=.val (.bool (b && ib94 u))→Ks.k st'):EX Tryz.prog ir240_o94 st (Ks:=Ks):=by
 unfold ir240_o94
 have e3:(⟨#[35]⟩:ByteArray)=bs [35]:=rfl
 have e4:(⟨#[47]⟩:ByteArray)=bs [47]:=rfl
 cases b with
 | false=>
  simp [hb]
  refine c2v (u:=u) (b:=false) ⟨?_,?_⟩ ?_ (fun st' q1 q2=>hK st' q1 (by simpa using q2))<;>simp [h.e1,h.m1]
 | true=>
  simp [hb,h.e1,h.m1,f7,tx,num,e3,e4]
  refine m0 rfl rfl (.inl rfl) (c11 u.query 35) ?_
  simp [hb,h.e1,h.m1,f7,tx,num]
  refine c2v (u:=u) (b:=!decide (35∈u.query)) ⟨?_,?_⟩ ?_ (fun st' q1 q2=>hK st' q1 (by rw [q2];simp [ib94]))<;>simp [h.e1,h.m1,bne]
def ib89 (u:LUrl):Bool:=([47]:Tx).isPrefixOf u.path && ib94 u
theorem c7a (h:IO st u) (hb:st.env 88=.val (.bool b)) (hK:∀ st',IO st' u→st'.env 116=.val (.bool (b && ib89 u))→Ks.k st'):EX Tryz.prog ir240_o89 st (Ks:=Ks):=by
 unfold ir240_o89
 have e3:(⟨#[35]⟩:ByteArray)=bs [35]:=rfl
 have e4:(⟨#[47]⟩:ByteArray)=bs [47]:=rfl
 cases b with
 | false=>
  simp [hb]
  refine c69 (u:=u) (b:=false) ⟨?_,?_⟩ ?_ (fun st' q1 q2=>hK st' q1 (by simpa using q2))<;>simp [h.e1,h.m1]
 | true=>
  simp [hb,h.e1,h.m1,f7,tx,num,e3,e4]
  refine m0 rfl rfl (.inl rfl) (b9h u.path [47]) ?_
  simp [hb,h.e1,h.m1,f7,tx,num]
  refine c69 (u:=u) (b:=([47]:Tx).isPrefixOf u.path) ⟨?_,?_⟩ ?_ (fun st' q1 q2=>hK st' q1 (by rw [q2];simp [ib89]))<;>simp [h.e1,h.m1,bne]
def ib81 (u:LUrl):Bool:=!(u.port == Z3 u.scheme) && ib89 u
theorem c7b (h:IO st u) (hb:st.env 80=.val (.bool b)) (hK:∀ st',IO st' u→st'.env 116=.val (.bool (b && ib81 u))→Ks.k st'):EX Tryz.prog ir240_o81 st (Ks:=Ks):=by
 unfold ir240_o81
 have e3:(⟨#[35]⟩:ByteArray)=bs [35]:=rfl
 have e4:(⟨#[47]⟩:ByteArray)=bs [47]:=rfl
 cases b with
 | false=>
  simp [hb]
  refine c7a (u:=u) (b:=false) ⟨?_,?_⟩ ?_ (fun st' q1 q2=>hK st' q1 (by simpa using q2))<;>simp [h.e1,h.m1]
 | true=>
  simp [hb,h.e1,h.m1,f7,tx,num,e3,e4]
  refine m0 rfl rfl (.inl rfl) (c2x u.scheme) ?_
  simp [hb,h.e1,h.m1,f7,tx,num]
  refine c7a (u:=u) (b:=!(u.port == Z3 u.scheme)) ⟨?_,?_⟩ ?_ (fun st' q1 q2=>hK st' q1 (by rw [q2];simp [ib81]))<;>simp [h.e1,h.m1,bne]
def c7g (u:LUrl):Bool:=decide (0≤u.port∧u.port≤65535) && ib81 u
theorem c7c (h:IO st u) (hb:st.env 75=.val (.bool b)) (hK:∀ st',IO st' u→st'.env 116=.val (.bool (b && c7g u))→Ks.k st'):EX Tryz.prog ir240_o76 st (Ks:=Ks):=by
 unfold ir240_o76
 have e3:(⟨#[35]⟩:ByteArray)=bs [35]:=rfl
 have e4:(⟨#[47]⟩:ByteArray)=bs [47]:=rfl
 cases b with
 | false=>
  simp [hb]
  refine c7b (u:=u) (b:=false) ⟨?_,?_⟩ ?_ (fun st' q1 q2=>hK st' q1 (by simpa using q2))<;>simp [h.e1,h.m1]
 | true=>
  simp [hb,h.e1,h.m1,f7,tx,num,e3,e4]
  refine m0 rfl rfl (.inl rfl) (P6 u.port 0 65535) ?_
  simp [hb,h.e1,h.m1,f7,tx,num]
  refine c7b (u:=u) (b:=decide (0≤u.port∧u.port≤65535)) ⟨?_,?_⟩ ?_ (fun st' q1 q2=>hK st' q1 (by rw [q2];simp [c7g]))<;>simp [h.e1,h.m1,bne]
end
def b78 (u:LUrl):Bool:=(!Q2 u.user [47,63,35,64] && a1d u.host) && c7g u
theorem c0w (u:LUrl) (h2:u.user.length < 1048577) (h3:u.host.length < 1048577) (hsh:S7 u.user=true) (st:St) (h:IO st u):EC Tryz.prog ir240_from4 st (K:=⟨a1i [.t 2] (.val (.bool (b78 u)))⟩):=by
 unfold ir240_from4
 have e3:(⟨#[47,63,35,64]⟩:ByteArray)=bs [47,63,35,64]:=rfl
 have hend:∀ b,b=(!Q2 u.user [47,63,35,64] && a1d u.host)→∀ st',IO st' u→st'.env 116=.val (.bool (b && c7g u))→a1i [.t 2] (.val (.bool (b78 u))) .ret ⟨upd 2 (st'.env 116) st'.env,st'.mem⟩:=fun b hb st' q1 q2=>by
  rw [q2,hb]
  simp [b78]
 simp [h.e1,h.m1,f7,tx,num,e3]
 refine m0 rfl rfl (.inl rfl) (a7u u.user [47,63,35,64] (by omega) (by simp) hsh (by decide)) ?_
 cases hu:Q2 u.user [47,63,35,64] with
 | true=>
  simp [h.e1,h.m1,f7,tx,num]
  refine c7c (u:=u) (b:=false) ⟨?_,?_⟩ ?_ (fun st' q1 q2=>?_)
  · simp [h.e1]
  · simp [h.m1]
  · simp
  · simp only [y5,G3,y7,G1,y8,t6,y6,G2,m8,B2,H6,H7,k6,p9,q7,l4,y9,s8,l6,G0,y4,q9,q8,E1,E3,a04,a05,Option.getD_some,Option.getD_none,C7,u2,o9,D7,o8,o2,D9,o3,D8,D6,D5,I1,w9,o6,D3,w7,o5,D2,C5,D4,w8,D0,o1,w6,D1,I3,I2,C6,C8,o4,C9,x1,o7,B5,n5,C4,C3,C2,H8,v8,n7,C0,v6,n6,B9,B3,C1,v7,B7,n0,u9,B8,I0,H9,B4,u7,n9,B6,w5,n8,K2,J9,L5,K3,K7,K5,K4,L4,K6,K8,K9,L2,L3,z7,z6,z1,M8,M9,A8,G4,u3,E7,x3,L7,t7,R5,N2,M0,O4,O6,O5,R6,R7,J2,J4,J3,J5,J6,O1,x6,O0,E8,E9,F0,x7,a09,F7,y0,R3,R4,I4,N0,N1,Option.map_some,Option.map_none,F1,x8,x2,p5,E5,E6,I6,I5,P1,P0,J8,F8,F9,J7,O7,O8,I7,p7,I8,p6,N6,F6,F5,l5,O3,O9,J1,N7,N9,N8,x5,A9,B1,B0,l0,O2,S0,R9,N3,I9,V3,N4,p8,F3,F4,x9,F2,l3,u5,l2,u6,l1,L6,P2,P3,z8,A0,G6,G5,E4]
    exact hend false (by rw [hu];rfl) st' q1 q2
 | false=>
  simp [h.e1,h.m1,f7,tx,num]
  refine m0 rfl rfl (.inl rfl) (c7o u.host (by omega)) ?_
  simp [h.e1,h.m1,f7,tx,num]
  refine c7c (u:=u) (b:=a1d u.host) ⟨?_,?_⟩ ?_ (fun st' q1 q2=>?_)
  · simp [h.e1]
  · simp [h.m1]
  · simp
  · simp only [y5,G3,y7,G1,y8,t6,y6,G2,m8,B2,H6,H7,k6,p9,q7,l4,y9,s8,l6,G0,y4,q9,q8,E1,E3,a04,a05,Option.getD_some,Option.getD_none,C7,u2,o9,D7,o8,o2,D9,o3,D8,D6,D5,I1,w9,o6,D3,w7,o5,D2,C5,D4,w8,D0,o1,w6,D1,I3,I2,C6,C8,o4,C9,x1,o7,B5,n5,C4,C3,C2,H8,v8,n7,C0,v6,n6,B9,B3,C1,v7,B7,n0,u9,B8,I0,H9,B4,u7,n9,B6,w5,n8,K2,J9,L5,K3,K7,K5,K4,L4,K6,K8,K9,L2,L3,z7,z6,z1,M8,M9,A8,G4,u3,E7,x3,L7,t7,R5,N2,M0,O4,O6,O5,R6,R7,J2,J4,J3,J5,J6,O1,x6,O0,E8,E9,F0,x7,a09,F7,y0,R3,R4,I4,N0,N1,Option.map_some,Option.map_none,F1,x8,x2,p5,E5,E6,I6,I5,P1,P0,J8,F8,F9,J7,O7,O8,I7,p7,I8,p6,N6,F6,F5,l5,O3,O9,J1,N7,N9,N8,x5,A9,B1,B0,l0,O2,S0,R9,N3,I9,V3,N4,p8,F3,F4,x9,F2,l3,u5,l2,u6,l1,L6,P2,P3,z8,A0,G6,G5,E4]
    exact hend _ (by rw [hu];simp) st' q1 q2
def a8a (u:LUrl):Bool:=decide (u.user=[]) && decide (u.host=[]) && decide (u.port=0) && decide (u.query=[]) && decide (u.frag=[]) && !u.hasQ && !u.hasF
theorem b83 (u:LUrl):M2 [0,0,0,2,0,0,0,1,1] (b0h u) [tx u.scheme,tx [],tx [],num 0,tx u.path,tx [],tx [],.bool false,.bool false]=some (a8a u):=by
 simp only [b0h,M2,a3g,tx,num,G9,if_true,decide_true]
 unfold a8a
 have e:(u.port == 0)=decide (u.port=0):=by rw [Bool.eq_iff_iff];simp
 rw [e]
 cases decide (u.user=[])<;>cases decide (u.host=[])<;>cases decide (u.port=0)<;>cases decide (u.query=[])<;>cases decide (u.frag=[])<;>cases u.hasQ<;>cases u.hasF<;>rfl
theorem c0x (u:LUrl) (h2:u.user.length < 1048577) (h3:u.host.length < 1048577) (hsh:S7 u.user=true) (st:St) (h:IO st u):EC Tryz.prog ir240_from3 st (K:=⟨a1i [.t 2] (.val (.bool (if Z1 u.scheme then b78 u else a8a u)))⟩):=by
 unfold ir240_from3
 have e3:(⟨#[]⟩:ByteArray)=bs []:=rfl
 simp [h.e1,h.m1,f7,tx,num,f9]
 refine b6 rfl rfl (.inl rfl) (b8h u) ?_
 cases hw:Z1 u.scheme with
 | true=>
  simp
  rw [if_pos rfl]
  refine c0w u h2 h3 hsh _ ⟨?_,?_⟩<;>simp [h.e1,h.m1]
 | false=>
  rw [if_neg (by simp)]
  have hq:=b83 u
  simp only [b0h,tx,num] at hq
  simp [h.e1,h.m1,f7,tx,num,f9,e3,hq,a2l]
theorem c0y (u:LUrl) (h2:u.user.length < 1048577) (h3:u.host.length < 1048577) (h4:u.path.length < 1048577) (hsh:S7 u.user=true) (hsp:S7 u.path=true) (st:St) (h:IO st u):EC Tryz.prog ir240_from2 st (K:=⟨a1i [.t 2] (.val (.bool (!Q2 u.path [63,35] && if Z1 u.scheme then b78 u else a8a u)))⟩):=by
 unfold ir240_from2
 have e3:(⟨#[63,35]⟩:ByteArray)=bs [63,35]:=rfl
 simp [h.e1,h.m1,f7,tx,num,e3]
 refine b6 rfl rfl (.inl rfl) (a7u u.path [63,35] (by omega) (by simp) hsp (by decide)) ?_
 cases hp:Q2 u.path [63,35] with
 | true=>simp
 | false=>
  simp only [Bool.not_false,Bool.true_and]
  simp
  refine c0x u h2 h3 hsh _ ⟨?_,?_⟩<;>simp [h.e1,h.m1]
section
variable {Ks:Kx (St→Prop)} {kx:Kx (RV→St→Prop)} {st:St} {u:LUrl} {b:Bool}
structure Tiny (u:LUrl):Prop where
 s1:u.scheme.length < 1048577
 s2:u.user.length < 1048577
 s3:u.host.length < 1048577
 s4:u.path.length < 1048577
 s5:u.query.length < 1048577
 s6:u.frag.length < 1048577
 p0:-9223372036854775808≤u.port
 p1:u.port≤9223372036854775807
theorem Tiny.small (h:Tiny u):u.Small:=by
 obtain ⟨s1,s2,s3,s4,s5,s6,p0,p1⟩:=h
 exact ⟨by omega,by omega,by omega,by omega,by omega,by omega,p1⟩
def c4j (u:LUrl):Bool:=!S7 (u.user++u.host++u.path++u.query++u.frag)
theorem c7d (hs:Tiny u) (h:IO st u) (hb:st.env 35=.val (.bool b)) (hK:∀ st',IO st' u→st'.env 52=.val (.bool (b || c4j u))→Ks.k st'):EO Tryz.prog ir240_o36 st (Ks:=Ks) (kx:=kx):=by
 unfold ir240_o36
 obtain ⟨s1,s2,s3,s4,s5,s6,p0,p1⟩:=hs
 cases b with
 | true=>
  simp [hb]
  refine hK _ ⟨?_,?_⟩ ?_<;>simp [h.e1,h.m1]
 | false=>
  simp [hb,h.e1,h.m1,f7,tx,num,b9,H3]
  refine ⟨by omega,by omega,by omega,by omega,?_⟩
  refine b6 rfl rfl (.inl rfl) (c05 (u.user++(u.host++(u.path++(u.query++u.frag)))) (by simp;omega)) ?_
  simp [hb]
  refine hK _ ⟨?_,?_⟩ ?_<;>simp [h.e1,h.m1,c4j]
def b4f (u:LUrl):Bool:=decide (100 < (a2a u).length) || c4j u
theorem c7e (hs:Tiny u) (h:IO st u) (hb:st.env 29=.val (.bool b)) (hK:∀ st',IO st' u→st'.env 52=.val (.bool (b || b4f u))→Ks.k st'):EO Tryz.prog ir240_o30 st (Ks:=Ks) (kx:=kx):=by
 unfold ir240_o30
 cases b with
 | true=>
  simp [hb]
  refine c7d (u:=u) (b:=true) hs ⟨?_,?_⟩ ?_ (fun st' q1 q2=>hK st' q1 (by simpa using q2))<;>simp [h.e1,h.m1]
 | false=>
  have e:((100:Int) < ((a2a u).length:Int))↔100 < (a2a u).length:=by omega
  simp [hb,h.e1,h.m1,f7,tx,num,f9]
  refine b6 rfl rfl (.inl rfl) (c7i u hs.small hs.p0) ?_
  simp [hb,tx,b9,e]
  refine c7d (u:=u) (b:=decide (100 < (a2a u).length)) hs ⟨?_,?_⟩ ?_ (fun st' q1 q2=>hK st' q1 (by rw [q2];simp [b4f]))<;>simp [h.e1,h.m1]
end
theorem b52 (u:LUrl):a95 u=(U2 u.scheme && decide (u.user.length+u.host.length+u.path.length+u.query.length+u.frag.length≤100) && !b4f u && (!Q2 u.path [63,35] && if Z1 u.scheme then b78 u else a8a u)):=by
 unfold a95 b4f c4j b78 a8a c7g ib81 ib89 ib94 b8g b8f
 have e1:decide ((a2a u).length≤100)=!decide (100 < (a2a u).length):=by
  by_cases h:(a2a u).length≤100
  · rw [decide_eq_true h,decide_eq_false (by omega)];rfl
  · rw [decide_eq_false h,decide_eq_true (by omega)];rfl
 have e2:([47]:Tx).isPrefixOf u.path=(decide (0 < u.path.length) && decide ((u.path.getD 0 0).toNat=47)):=by
  cases u.path with
  | nil=>rfl
  | cons c r=>
   rw [Bool.eq_iff_iff]
   simp
   constructor
   · intro h;rw [← h];rfl
   · intro h;exact (UInt8.toNat_inj.1 (by rw [h];rfl)).symm
 have e3:(u.port == Z3 u.scheme)=decide (u.port=Z3 u.scheme):=by rw [Bool.eq_iff_iff];simp
 have e4:decide (u.port≠Z3 u.scheme)=!decide (u.port=Z3 u.scheme):=by simp
 have e5:Q2 u.query [35]=decide (35∈u.query):=by
  rw [Bool.eq_iff_iff]
  simp [Q2]
 rw [e1,e2,e3,e4,e5]
 cases U2 u.scheme<;>simp only [Bool.false_and,Bool.true_and]
 cases decide (u.user.length+u.host.length+u.path.length+u.query.length+u.frag.length≤100)<;>simp only [Bool.false_and,Bool.true_and]
 cases decide (100 < (a2a u).length)<;>simp only [Bool.false_and,Bool.true_and,Bool.not_true,Bool.not_false,Bool.true_or,Bool.false_or]
 cases S7 (u.user++u.host++u.path++u.query++u.frag)<;>simp only [Bool.false_and,Bool.true_and,Bool.not_true,Bool.not_false]
 cases Q2 u.path [63,35]<;>simp only [Bool.false_and,Bool.true_and,Bool.not_true,Bool.not_false]
 split
 · simp only [Bool.and_assoc]
 · rfl
def b9u (u:LUrl):Nat:=u.user.length+u.host.length+u.path.length+u.query.length+u.frag.length
def c16 (u:LUrl):Bool:=!Q2 u.path [63,35] && if Z1 u.scheme then b78 u else a8a u
theorem b79 (u:LUrl) (hs:Tiny u) (b:Bool) (st':St) (q1:IO st' u) (q2:st'.env 52=.val (.bool (b || b4f u))) (res:Bool) (hres:res=(!(b || b4f u) && c16 u)) :
 CD (st'.env 52) (A:=⟨EC Tryz.prog (.seq (.reg [⟨some 2,.mov (.k (.val (.bool false))),none⟩]) .ret) st' (K:=⟨fun e st'=>ET e st' (Ks:=⟨fun st'=>EC Tryz.prog ir240_from2 st' (K:=⟨a1i [.t 2] (.val (.bool res))⟩)⟩) (K:=⟨a1i [.t 2] (.val (.bool res))⟩)⟩)⟩)
     (B:=⟨EC Tryz.prog .skip st' (K:=⟨fun e st'=>ET e st' (Ks:=⟨fun st'=>EC Tryz.prog ir240_from2 st' (K:=⟨a1i [.t 2] (.val (.bool res))⟩)⟩) (K:=⟨a1i [.t 2] (.val (.bool res))⟩)⟩)⟩):=by
 rw [q2]
 cases hbb:(b || b4f u) with
 | true=>
  rw [hbb] at hres
  have:res=false:=hres
  subst this
  simp
 | false=>
  rw [hbb] at hres
  have:res=c16 u:=hres
  subst this
  simp only [y5,G3,y7,G1,y8,t6,y6,G2,m8,B2,H6,H7,k6,p9,q7,l4,y9,s8,l6,G0,y4,q9,q8,E1,E3,a04,a05,Option.getD_some,Option.getD_none,C7,u2,o9,D7,o8,o2,D9,o3,D8,D6,D5,I1,w9,o6,D3,w7,o5,D2,C5,D4,w8,D0,o1,w6,D1,I3,I2,C6,C8,o4,C9,x1,o7,B5,n5,C4,C3,C2,H8,v8,n7,C0,v6,n6,B9,B3,C1,v7,B7,n0,u9,B8,I0,H9,B4,u7,n9,B6,w5,n8,K2,J9,L5,K3,K7,K5,K4,L4,K6,K8,K9,L2,L3,z7,z6,z1,M8,M9,A8,G4,u3,E7,x3,L7,t7,R5,N2,M0,O4,O6,O5,R6,R7,J2,J4,J3,J5,J6,O1,x6,O0,E8,E9,F0,x7,a09,F7,y0,R3,R4,I4,N0,N1,Option.map_some,Option.map_none,F1,x8,x2,p5,E5,E6,I6,I5,P1,P0,J8,F8,F9,J7,O7,O8,I7,p7,I8,p6,N6,F6,F5,l5,O3,O9,J1,N7,N9,N8,x5,A9,B1,B0,l0,O2,S0,R9,N3,I9,V3,N4,p8,F3,F4,x9,F2,l3,u5,l2,u6,l1,L6,P2,P3,z8,A0,G6,G5,E4]
  refine f6 (fun h=>by cases h) (fun _=>?_)
  simp only [y5,G3,y7,G1,y8,t6,y6,G2,m8,B2,H6,H7,k6,p9,q7,l4,y9,s8,l6,G0,y4,q9,q8,E1,E3,a04,a05,Option.getD_some,Option.getD_none,C7,u2,o9,D7,o8,o2,D9,o3,D8,D6,D5,I1,w9,o6,D3,w7,o5,D2,C5,D4,w8,D0,o1,w6,D1,I3,I2,C6,C8,o4,C9,x1,o7,B5,n5,C4,C3,C2,H8,v8,n7,C0,v6,n6,B9,B3,C1,v7,B7,n0,u9,B8,I0,H9,B4,u7,n9,B6,w5,n8,K2,J9,L5,K3,K7,K5,K4,L4,K6,K8,K9,L2,L3,z7,z6,z1,M8,M9,A8,G4,u3,E7,x3,L7,t7,R5,N2,M0,O4,O6,O5,R6,R7,J2,J4,J3,J5,J6,O1,x6,O0,E8,E9,F0,x7,a09,F7,y0,R3,R4,I4,N0,N1,Option.map_some,Option.map_none,F1,x8,x2,p5,E5,E6,I6,I5,P1,P0,J8,F8,F9,J7,O7,O8,I7,p7,I8,p6,N6,F6,F5,l5,O3,O9,J1,N7,N9,N8,x5,A9,B1,B0,l0,O2,S0,R9,N3,I9,V3,N4,p8,F3,F4,x9,F2,l3,u5,l2,u6,l1,L6,P2,P3,z8,A0,G6,G5,E4]
  have h30:b4f u=false:=(Bool.or_eq_false_iff.1 hbb).2
  have h36:c4j u=false:=(Bool.or_eq_false_iff.1 h30).2
  unfold c4j at h36
  have hsh:S7 (u.user++u.host++u.path++u.query++u.frag)=true:=by simpa using h36
  simp only [a7m,Bool.and_eq_true] at hsh
  exact c0y u hs.s2 hs.s3 hs.s4 hsh.1.1.1.1 hsh.1.1.2 st' q1
theorem c22 (u:LUrl) (hs:Tiny u):d8 Tryz.prog 240 [.val (V7 u)] (.ret (.val (.bool (Q5 u))) []) []:=by
 refine f5 mixed ok240 rfl (fun _=>rfl) ?_
 unfold ir240
 rw [b7]
 have hs':=hs
 obtain ⟨s1,s2,s3,s4,s5,s6,p0,p1⟩:=hs
 have hres:Q5 u=(!((!U2 u.scheme || decide (100 < b9u u)) || b4f u) && c16 u):=by
  rw [← c4f,b52]
  have e1:decide (u.user.length+u.host.length+u.path.length+u.query.length+u.frag.length≤100)=!decide (100 < b9u u):=by
   unfold b9u
   by_cases h:u.user.length+u.host.length+u.path.length+u.query.length+u.frag.length≤100
   · rw [decide_eq_true h,decide_eq_false (by omega)];rfl
   · rw [decide_eq_false h,decide_eq_true (by omega)];rfl
  rw [e1]
  unfold c16
  cases U2 u.scheme<;>cases decide (100 < b9u u)<;>cases b4f u<;>rfl
 simp [d9,i6,j6,b8,d7,V7,tx,num,b9]
 refine b6 rfl rfl (.inl rfl) (c03 u.scheme (by omega)) ?_
 cases b1:U2 u.scheme with
 | false=>
  rw [b1] at hres
  simp [tx,num,b9]
  refine c7e (u:=u) (b:=true) hs' ⟨?_,?_⟩ ?_ (fun st' q1 q2=>b79 u hs' true st' q1 q2 _ hres)
  · simp
  · simp [f7,tx,num]
  · simp
 | true=>
  rw [b1] at hres
  have w1:IntKind.i64.wrap ((u.user.length:Int)+u.host.length)=(u.user.length:Int)+u.host.length:=wrap_i64 (by omega) (by omega)
  have w2:IntKind.i64.wrap ((u.user.length:Int)+u.host.length+u.path.length)=(u.user.length:Int)+u.host.length+u.path.length:=wrap_i64 (by omega) (by omega)
  have w3:IntKind.i64.wrap ((u.user.length:Int)+u.host.length+u.path.length+u.query.length)=(u.user.length:Int)+u.host.length+u.path.length+u.query.length:=wrap_i64 (by omega) (by omega)
  have w4:IntKind.i64.wrap ((u.user.length:Int)+u.host.length+u.path.length+u.query.length+u.frag.length)=(u.user.length:Int)+u.host.length+u.path.length+u.query.length+u.frag.length:=wrap_i64 (by omega) (by omega)
  have e:decide ((100:Int) < (u.user.length:Int)+u.host.length+u.path.length+u.query.length+u.frag.length)=decide (100 < b9u u):=by
   unfold b9u
   by_cases h:100 < u.user.length+u.host.length+u.path.length+u.query.length+u.frag.length
   · rw [decide_eq_true h,decide_eq_true (by omega)]
   · rw [decide_eq_false h,decide_eq_false (by omega)]
  simp [tx,num,b9,w1,w2,w3,w4,e]
  refine c7e (u:=u) (b:=decide (100 < b9u u)) hs' ⟨?_,?_⟩ ?_ (fun st' q1 q2=>b79 u hs' _ st' q1 q2 _ (by rw [hres];rfl))
  · simp
  · simp [f7,tx,num]
  · simp
end Go.Proofs
end
section
namespace Go.Proofs
open Go.PW Go.KP
attribute [local simp] RV.cells RV.one PV.cells PV.solid PV.one t8 f9 H0 A5 RV.ofCells elems PV.killL
variable [GH]
structure IP (st:St) (u:LUrl):Prop where
 e2:st.env 2=.ptr 2 0
 e7:st.env 7=.ptr 7 0
 m2:st.mem 2=.box (f7 LUrl.zero)
 m7:st.mem 7=.box (f7 u)
theorem b4a (u:LUrl) (hs:Tiny u) (st:St) (h:IP st u):EC Tryz.prog ir226_from15 st (K:=prs (u,Q5 u)):=by
 unfold ir226_from15
 obtain ⟨e2,e7,m2,m7⟩:=h
 simp [e2,e7,m2,m7,f7,f9,tx,num]
 refine m0 rfl rfl (.inl rfl) (c22 u hs) ?_
 simp [e2,e7,m2,m7,f7,f9,tx,num]
 refine a57 (id:=2) ?_ ?_ ?_
 · simp [e2]
 · simp [e2,f7,tx,num]
 · simp
theorem a4o (sc us ho pa qu fr:Tx) (po:Int) (hq hf:Bool) (hs:Tiny ⟨sc,us,Q0 ho,po,pa,qu,fr,hq,hf⟩) (hh:ho.length < 1048577) (st:St) (h:IP st ⟨sc,us,[],po,pa,qu,fr,hq,hf⟩) (e12:st.env 12=.val (tx ho)) :
 EC Tryz.prog ir226_from14 st (K:=prs (⟨sc,us,Q0 ho,po,pa,qu,fr,hq,hf⟩,Q5 ⟨sc,us,Q0 ho,po,pa,qu,fr,hq,hf⟩)):=by
 unfold ir226_from14
 obtain ⟨e2,e7,m2,m7⟩:=h
 simp [e2,e7,m2,m7,e12,f7,f9,tx,num]
 refine b6 rfl rfl (.inl rfl) (c2y ho (by omega)) ?_
 simp [e2,e7,m2,m7,f7,f9,tx,num]
 refine b4a ⟨sc,us,Q0 ho,po,pa,qu,fr,hq,hf⟩ hs _ ⟨?_,?_,?_,?_⟩<;>simp [e2,e7,m2,m7,f7,tx,num]
theorem b4b (sc us pa qu fr:Tx) (hq hf:Bool) (h1:sc.length < 1048577) (h2:us.length < 1048577) (h3:pa.length < 1048577) (h4:qu.length < 1048577) (h5:fr.length < 1048577) (r:Tx) (hr:r.length < 1048577) (st:St)
 (h:IP st ⟨sc,us,[],0,pa,qu,fr,hq,hf⟩) (e12:st.env 12=.val (tx (j8 r 58))) (e13:st.env 13=.val (tx (A3 r 58))) (e6:st.env 6=.val (.bool (decide (58∈r)))) :
 EC Tryz.prog ir226_from13 st (K:=prs (S4 ⟨sc,us,Q0 (j8 r 58),0,pa,qu,fr,hq,hf⟩ r)):=by
 unfold ir226_from13
 obtain ⟨e2,e7,m2,m7⟩:=h
 have hla:=Q3 r 58
 have hlb:=X3 r 58
 have hll:(Q0 (j8 r 58)).length < 1048577:=by simp [Q0];omega
 by_cases hc:58∈r
 · simp [e6,e13,hc,tx]
   have hn:=c7m (A3 r 58) (by omega)
   refine V4 rfl rfl (.inl rfl) hn ?_
   cases hb:(a5i (A3 r 58)).2 with
   | false=>
    have hnone:=c4h hb
    rw [show S4 ⟨sc,us,Q0 (j8 r 58),0,pa,qu,fr,hq,hf⟩ r=(LUrl.zero,false) by simp only [S4,a1l,hc,hnone,if_true]]
    simp [e2,e7,m2,m7,tx,num,f7]
    refine a0g _ ?_ ?_ ?_
    · simp [e2]
    · simp [f7,LUrl.zero,tx,num,bs]
    · simp
   | true=>
    have hsome:=inum_le hb
    generalize (a5i (A3 r 58)).1=n at *
    simp [e2,e7,m2,m7,tx,num,f7]
    refine b6 rfl rfl (.inl rfl) (P6 n 1 65535) ?_
    by_cases hin:1≤n∧n≤65535
    · rw [decide_eq_true hin]
      simp [e2,e7,m2,m7,tx,num,f7]
      refine b6 rfl rfl (.inl rfl) (c2x sc) ?_
      by_cases hu:n=Z3 sc
      · have hl:a1l sc r=some 0:=by
         simp only [a1l,hc,hsome,hin,if_true,and_self]
         rw [if_pos hu]
        rw [show S4 ⟨sc,us,Q0 (j8 r 58),0,pa,qu,fr,hq,hf⟩ r=(⟨sc,us,Q0 (j8 r 58),0,pa,qu,fr,hq,hf⟩,Q5 ⟨sc,us,Q0 (j8 r 58),0,pa,qu,fr,hq,hf⟩) by simp only [S4,hl]]
        simp [e2,e7,m2,m7,tx,num,f7,hu]
        refine a4o sc us (j8 r 58) pa qu fr 0 hq hf ⟨h1,h2,hll,h3,h4,h5,by simp,by simp⟩ (by omega) _ ⟨?_,?_,?_,?_⟩ ?_<;>simp [e2,e7,m2,m7,e12,f7,tx,num]
      · have hl:a1l sc r=some n:=by
         simp only [a1l,hc,hsome,hin,if_true,and_self]
         rw [if_neg hu]
        rw [show S4 ⟨sc,us,Q0 (j8 r 58),0,pa,qu,fr,hq,hf⟩ r=(⟨sc,us,Q0 (j8 r 58),n,pa,qu,fr,hq,hf⟩,Q5 ⟨sc,us,Q0 (j8 r 58),n,pa,qu,fr,hq,hf⟩) by simp only [S4,hl]]
        simp [e2,e7,m2,m7,tx,num,f7,hu]
        refine a4o sc us (j8 r 58) pa qu fr n hq hf ⟨h1,h2,hll,h3,h4,h5,by show _≤n;omega,by show n≤_;omega⟩ (by omega) _ ⟨?_,?_,?_,?_⟩ ?_<;>simp [e2,e7,m2,m7,e12,f7,tx,num]
    · rw [decide_eq_false hin]
      rw [show S4 ⟨sc,us,Q0 (j8 r 58),0,pa,qu,fr,hq,hf⟩ r=(LUrl.zero,false) by simp only [S4,a1l,hc,hsome,hin,if_true,if_false]]
      simp [e2,e7,m2,m7,tx,num,f7]
      refine a0g _ ?_ ?_ ?_
      · simp [e2]
      · simp [f7,LUrl.zero,tx,num,bs]
      · simp
 · have hl:a1l sc r=some 0:=by simp only [a1l,hc,if_false]
   rw [show S4 ⟨sc,us,Q0 (j8 r 58),0,pa,qu,fr,hq,hf⟩ r=(⟨sc,us,Q0 (j8 r 58),0,pa,qu,fr,hq,hf⟩,Q5 ⟨sc,us,Q0 (j8 r 58),0,pa,qu,fr,hq,hf⟩) by simp only [S4,hl]]
   simp [e6,hc]
   refine a4o sc us (j8 r 58) pa qu fr 0 hq hf ⟨h1,h2,hll,h3,h4,h5,by simp,by simp⟩ (by omega) _ ⟨?_,?_,?_,?_⟩ ?_<;>simp [e2,e7,m2,m7,e12,f7,tx,num]
theorem a7p (sc us pa qu fr:Tx) (hq hf:Bool) (h1:sc.length < 1048577) (h2:us.length < 1048577) (h3:pa.length < 1048577) (h4:qu.length < 1048577) (h5:fr.length < 1048577) (r:Tx) (hr:r.length < 1048577) (st:St)
 (h:IP st ⟨sc,us,[],0,pa,qu,fr,hq,hf⟩) (e5:st.env 5=.val (tx r)) :
 EC Tryz.prog ir226_from12 st (K:=prs (S4 ⟨sc,us,Q0 (j8 r 58),0,pa,qu,fr,hq,hf⟩ r)):=by
 unfold ir226_from12
 obtain ⟨e2,e7,m2,m7⟩:=h
 have q1:(⟨#[58]⟩:ByteArray)=bs [58]:=rfl
 simp [e5,tx,q1]
 refine a0x rfl rfl (.inl rfl) (b3o r 58 (by omega)) ?_
 simp [e5,tx]
 refine b4b sc us pa qu fr hq hf h1 h2 h3 h4 h5 r hr _ ⟨?_,?_,?_,?_⟩ ?_ ?_ ?_<;>simp [e2,e7,m2,m7,f7,tx,num]
theorem a7q (sc pa qu fr:Tx) (hq hf:Bool) (h1:sc.length < 1048577) (h3:pa.length < 1048577) (h4:qu.length < 1048577) (h5:fr.length < 1048577) (r:Tx) (hr:r.length < 1048577) (st:St)
 (h:IP st ⟨sc,[],[],0,pa,qu,fr,hq,hf⟩) (e5:st.env 5=.val (tx r)) :
 EC Tryz.prog ir226_from11 st (K:=prs (b1m sc pa qu fr hq hf r)):=by
 unfold ir226_from11
 obtain ⟨e2,e7,m2,m7⟩:=h
 have q1:(⟨#[64]⟩:ByteArray)=bs [64]:=rfl
 have hla:=Q3 r 64
 have hlb:=X3 r 64
 simp [e5,tx,q1]
 refine a0x rfl rfl (.inl rfl) (b3o r 64 (by omega)) ?_
 unfold b1m
 by_cases hc:64∈r
 · have e:(if 64∈r then A3 r 64 else r)=A3 r 64:=if_pos hc
   rw [if_pos hc,e]
   simp [e5,tx,hc,e2,e7,m2,m7,f7,num]
   refine a7p sc (j8 r 64) pa qu fr hq hf h1 (by omega) h3 h4 h5 (A3 r 64) (by omega) _ ⟨?_,?_,?_,?_⟩ ?_<;>simp [e2,e7,m2,m7,f7,tx,num]
 · have e:(if 64∈r then A3 r 64 else r)=r:=if_neg hc
   rw [if_neg hc,e]
   simp [e5,tx,hc]
   refine a7p sc [] pa qu fr hq hf h1 (by simp) h3 h4 h5 r hr _ ⟨?_,?_,?_,?_⟩ ?_<;>simp [e2,e7,m2,m7,e5,f7,tx,num]
theorem b4c (sc qu fr:Tx) (hq hf:Bool) (h1:sc.length < 1048577) (h4:qu.length < 1048577) (h5:fr.length < 1048577) (r:Tx) (hr:r.length < 1048577) (st:St)
 (h:IP st ⟨sc,[],[],0,[47],qu,fr,hq,hf⟩) (e5:st.env 5=.val (tx r)) :
 EC Tryz.prog ir226_from10 st (K:=prs (a64 sc qu fr hq hf r)):=by
 unfold ir226_from10
 obtain ⟨e2,e7,m2,m7⟩:=h
 have hle:=a0k r 47
 have hla:=Q3 r 47
 simp [e5,tx]
 refine b6 rfl rfl (.inl rfl) (b9g r 47) ?_
 unfold a64
 by_cases hc:47∈r
 · rw [if_pos hc]
   simp [e5,tx,num,hc,e2,e7,m2,m7,f7,b9,Q6,hle,a3a]
   refine a7q sc (r.drop (J0 r 47)) qu fr hq hf h1 (by simp;omega) h4 h5 (j8 r 47) (by omega) _ ⟨?_,?_,?_,?_⟩ ?_<;>simp [e2,e7,m2,m7,f7,tx,num,j8]
 · rw [if_neg hc]
   simp [e5,tx,num,hc]
   rw [a0t hc]
   refine a7q sc [47] qu fr hq hf h1 (by simp) h4 h5 r hr _ ⟨?_,?_,?_,?_⟩ ?_<;>simp [e2,e7,m2,m7,e5,f7,tx,num]
theorem b56 (sc:Tx) (h1:sc.length < 1048577) (r:Tx) (hr:r.length < 1048577) (st:St) (h:IP st ⟨sc,[],[],0,[],[],[],false,false⟩) (e5:st.env 5=.val (tx r)) :
 EC Tryz.prog ir226_from7 st (K:=prs (a39 sc r)):=by
 unfold ir226_from7
 obtain ⟨e2,e7,m2,m7⟩:=h
 have q1:(⟨#[35]⟩:ByteArray)=bs [35]:=rfl
 have q2:(⟨#[63]⟩:ByteArray)=bs [63]:=rfl
 have q3:(⟨#[47]⟩:ByteArray)=bs [47]:=rfl
 have e:a39 sc r=a64 sc (A3 (j8 r 35) 63) (A3 r 35) (decide (63∈j8 r 35)) (decide (35∈r)) (j8 (j8 r 35) 63):=rfl
 have hl1:=Q3 r 35
 have hl2:=X3 r 35
 have hl3:=Q3 (j8 r 35) 63
 have hl4:=X3 (j8 r 35) 63
 rw [e]
 simp [e5,tx,q1]
 refine a0x rfl rfl (.inl rfl) (b3o r 35 (by omega)) ?_
 simp [e5,tx,q2,e2,e7,m2,m7,f7,num]
 refine a0x rfl rfl (.inl rfl) (b3o (j8 r 35) 63 (by omega)) ?_
 simp [e5,tx,q3,e2,e7,m2,m7,f7,num]
 refine b4c sc (A3 (j8 r 35) 63) (A3 r 35) _ _ h1 (by omega) (by omega) (j8 (j8 r 35) 63) (by omega) _ ⟨?_,?_,?_,?_⟩ ?_<;>simp [e2,e7,m2,m7,f7,tx,num]
theorem prefix2 (r:Tx):([47,47]:Tx).isPrefixOf r=decide (r.take 2=[47,47]):=by
 match r with
 | []=>rfl
 | [a]=>simp [List.isPrefixOf]
 | a :: b :: r=>
  rw [Bool.eq_iff_iff]
  simp [List.isPrefixOf]
  constructor
  · rintro ⟨rfl,rfl⟩;exact ⟨rfl,rfl⟩
  · rintro ⟨rfl,rfl⟩;exact ⟨rfl,rfl⟩
theorem b57 (sc:Tx) (h1:sc.length < 1048577) (r:Tx) (hr:r.length < 1048577) (st:St)
 (h:IP st ⟨sc,[],[],0,[],[],[],false,false⟩) (e5:st.env 5=.val (tx r)):EC Tryz.prog ir226_from4 st (K:=prs (if Z1 sc then if r.take 2=[47,47] then a39 sc (r.drop 2) else (LUrl.zero,false) else (⟨sc,[],[],0,j8 (j8 r 35) 63,[],[],false,false⟩,Q5 ⟨sc,[],[],0,j8 (j8 r 35) 63,[],[],false,false⟩))):=by
 unfold ir226_from4
 obtain ⟨e2,e7,m2,m7⟩:=h
 have q1:(⟨#[35]⟩:ByteArray)=bs [35]:=rfl
 have q2:(⟨#[63]⟩:ByteArray)=bs [63]:=rfl
 have q3:(⟨#[47,47]⟩:ByteArray)=bs [47,47]:=rfl
 have hl1:=Q3 r 35
 have hl3:=Q3 (j8 r 35) 63
 simp [e2,e7,m2,m7,tx,num,f7,f9]
 refine b6 rfl rfl (.inl rfl) (b8h ⟨sc,[],[],0,[],[],[],false,false⟩) ?_
 by_cases hw:Z1 sc=true
 · rw [if_pos hw]
   simp [e5,tx,hw,q3]
   refine V4 rfl rfl (.inl rfl) (b9i r [47,47]) ?_
   rw [prefix2]
   by_cases ht:r.take 2=[47,47]
   · rw [if_pos ht]
     simp [tx,ht]
     refine b56 sc h1 (r.drop 2) (by simp;omega) _ ⟨?_,?_,?_,?_⟩ ?_<;>simp [e2,e7,m2,m7,f7,tx,num]
   · rw [if_neg ht]
     simp [e2,e7,m2,m7,tx,num,f7,ht]
     refine a0g _ ?_ ?_ ?_
     · simp [e2]
     · simp [f7,LUrl.zero,tx,num,bs]
     · simp
 · rw [if_neg hw]
   simp [e5,tx,hw,q1]
   refine a0x rfl rfl (.inl rfl) (b3o r 35 (by omega)) ?_
   simp [tx,hw,q2]
   refine a0x rfl rfl (.inl rfl) (b3o (j8 r 35) 63 (by omega)) ?_
   simp [e2,e7,m2,m7,tx,num,f7,f9]
   refine m0 rfl rfl (.inl rfl) (c22 ⟨sc,[],[],0,j8 (j8 r 35) 63,[],[],false,false⟩ ⟨h1,by simp,by simp,by show (j8 (j8 r 35) 63).length < _;omega,by simp,by simp,by simp,by simp⟩) ?_
   simp [e2,e7,m2,m7,tx,num,f7,f9]
   refine a57 (id:=2) ?_ ?_ ?_
   · simp [e2]
   · simp [f7,tx,num]
   · simp
theorem i_parse (t:Tx) (ht:t.length < 1048577):d8 Tryz.prog 226 [.val (tx t)] (.ret (a4u (A6 t)) []) []:=by
 refine f5 mixed ok226 rfl (fun _=>rfl) ?_
 unfold ir226
 rw [b7]
 have q1:(⟨#[58]⟩:ByteArray)=bs [58]:=rfl
 have hla:=Q3 t 58
 have hlb:=X3 t 58
 simp [d9,i6,j6,b8,d7,tx,num,q1]
 refine a0x rfl rfl (.inl rfl) (b3o t 58 (by omega)) ?_
 simp [tx,num]
 refine b6 rfl rfl (.inl rfl) (c2y (j8 t 58) (by omega)) ?_
 by_cases hc:58∈t
 · rw [show A6 t=(if Z1 (Q0 (j8 t 58)) then if (A3 t 58).take 2=[47,47] then a39 (Q0 (j8 t 58)) ((A3 t 58).drop 2) else (LUrl.zero,false) else (⟨Q0 (j8 t 58),[],[],0,j8 (j8 (A3 t 58) 35) 63,[],[],false,false⟩,Q5 ⟨Q0 (j8 t 58),[],[],0,j8 (j8 (A3 t 58) 35) 63,[],[],false,false⟩)) by unfold A6;rw [if_pos hc]]
   simp [tx,num,hc]
   refine b57 (Q0 (j8 t 58)) (by simp [Q0];omega) (A3 t 58) (by omega) _ ⟨?_,?_,?_,?_⟩ ?_<;>simp [f7,tx,num,LUrl.zero,bs]
 · rw [show A6 t=(LUrl.zero,false) by unfold A6;rw [if_neg hc]]
   simp [tx,num,hc]
   refine a0g _ ?_ ?_ ?_
   · simp
   · simp [f7,LUrl.zero,tx,num,bs]
   · simp
end Go.Proofs
end
section
namespace Go.Proofs
open Go.PW Go.KP
attribute [local simp] RV.cells RV.one PV.cells PV.solid PV.one t8 f9 H0 A5 RV.ofCells elems PV.killL
variable [GH]
theorem tiny_of {u:LUrl} (h:u.Tiny):Tiny u:=⟨h.1,h.2.1,h.2.2.1,h.2.2.2.1,h.2.2.2.2.1,h.2.2.2.2.2.1,by have:=h.2.2.2.2.2.2;omega,by have:=h.2.2.2.2.2.2;omega⟩
def c23 (r:LUrl×Int):PV:=.tup [.val (V7 r.1),.val (num r.2)]
theorem a9t {st:St} {s t id:Nat} {u:LUrl} {n:Int} (h1:st.env s=.ptr id 0) (h2:st.mem id=.box (f7 u)) (h5:st.env t=.val (num n)):a0e [.c s true 9,.t t] st.fin=some (c23 (u,n)):=by
 rw [c2b (n:=9) (rs:=b0h u) h1 (by rw [h2,b0i]) rfl (by omega) h5,b4r]
 rfl
def a1z (t:Tx):LUrl×Int:=if t.length≤65536 then if (A6 t).2 then ((A6 t).1,0) else (LUrl.zero,3) else (LUrl.zero,2)
theorem c09 (t:Tx) (ht:t.length < 1048577):d8 Tryz.prog 200 [.val (tx t)] (.ret (c23 (a1z t)) []) []:=by
 refine f5 mixed ok200 rfl (fun _=>rfl) ?_
 unfold ir200
 rw [b7]
 unfold a1z
 simp [d9,i6,j6,b8,d7,tx]
 refine b6 rfl rfl (.inl rfl) (i_long t) ?_
 by_cases hl:t.length≤65536
 · rw [if_pos hl,if_pos hl]
   simp [tx,num]
   refine V4 rfl rfl (.inl rfl) (i_parse t ht) ?_
   cases hok:(A6 t).2 with
   | true=>
    rw [if_pos rfl]
    simp [tx,num,V7,f9]
    refine a9t (id:=2) ?_ ?_ ?_
    · simp
    · simp [f7,tx,num]
    · simp [num]
   | false=>
    rw [if_neg (by simp)]
    simp [tx,num,V7,f9]
    refine a9t (id:=2) ?_ ?_ ?_
    · simp
    · simp [f7,LUrl.zero,tx,num,bs]
    · simp [num]
 · rw [if_neg hl,if_neg hl]
   simp [tx,num]
   refine a9t (id:=2) ?_ ?_ ?_
   · simp
   · simp [f7,LUrl.zero,tx,num,bs]
   · simp [num]
theorem b88 (u:LUrl) (hs:Tiny u) (st:St) (e4:st.env 4=.ptr 4 0) (m4:st.mem 4=.box (f7 { u with frag:=[],hasF:=false })):EC Tryz.prog ir164_from4 st (K:=⟨a1i [.t 2,.t 3] (W5 (some (a2a { u with frag:=[],hasF:=false })))⟩):=by
 unfold ir164_from4
 obtain ⟨s1,s2,s3,s4,s5,s6,p0,p1⟩:=hs
 have ht:Tiny { u with frag:=[],hasF:=false }:=⟨s1,s2,s3,s4,s5,by simp,p0,p1⟩
 simp [e4,m4,f7,tx,num,f9]
 refine b6 rfl rfl (.inl rfl) (c7i { u with frag:=[],hasF:=false } ht.small p0) ?_
 simp [W5]
theorem c2z (t:Tx) (ht:t.length < 1048577):d8 Tryz.prog 164 [.val (tx t)] (.ret (W5 (a1t t)) []) []:=by
 refine f5 mixed ok164 rfl (fun _=>rfl) ?_
 unfold ir164
 rw [b7]
 have htn:=tiny_of (b7v ht)
 have hpu:=c09 t ht
 by_cases hl:t.length≤65536
 · cases hok:(A6 t).2 with
   | false=>
    have e1:a1t t=none:=by unfold a1t;rw [if_pos hl,hok];rfl
    have e2:a1z t=(LUrl.zero,3):=by unfold a1z;rw [if_pos hl,hok];rfl
    rw [e1]
    rw [e2] at hpu
    simp [d9,i6,j6,b8,d7,tx]
    refine V4 rfl rfl (.inl rfl) hpu ?_
    simp [tx,num,V7,f9,W5,bs]
   | true=>
    have e2:a1z t=((A6 t).1,0):=by unfold a1z;rw [if_pos hl,hok];rfl
    rw [e2] at hpu
    cases hw:Z1 (A6 t).1.scheme with
    | false=>
     have e1:a1t t=none:=by unfold a1t;rw [if_pos hl,hok,hw];rfl
     rw [e1]
     simp [d9,i6,j6,b8,d7,tx]
     refine V4 rfl rfl (.inl rfl) hpu ?_
     simp [tx,num,V7,f9]
     refine b6 rfl rfl (.inl rfl) (b8h (A6 t).1) ?_
     rw [hw]
     simp [tx,num,W5,bs]
    | true=>
     have e1:a1t t=some (a2a { (A6 t).1 with frag:=[],hasF:=false }):=by unfold a1t;rw [if_pos hl,hok,hw];rfl
     rw [e1]
     simp [d9,i6,j6,b8,d7,tx]
     refine V4 rfl rfl (.inl rfl) hpu ?_
     simp [tx,num,V7,f9]
     refine b6 rfl rfl (.inl rfl) (b8h (A6 t).1) ?_
     rw [hw]
     simp [tx,num]
     refine b88 (A6 t).1 htn _ ?_ ?_<;>simp [f7,tx,num,bs]
 · have e1:a1t t=none:=by unfold a1t;rw [if_neg hl]
   have e2:a1z t=(LUrl.zero,2):=by unfold a1z;rw [if_neg hl]
   rw [e1]
   rw [e2] at hpu
   simp [d9,i6,j6,b8,d7,tx]
   refine V4 rfl rfl (.inl rfl) hpu ?_
   simp [tx,num,V7,f9,W5,bs]
structure JT (st:St) (x:LTarget):Prop where
 e1:st.env 1=.ptr 1 0
 m1:st.mem 1=.box [.val (tx x.url),.val (num x.prio),.val (num x.weight)]
theorem c68 {Ks:Kx (St→Prop)} {kx:Kx (RV→St→Prop)} {st:St} {x:LTarget} {b:Bool} (h:JT st x) (hb:st.env 17=.val (.bool b)) (hK:∀ st',st'.env 2=.val (.bool (b && (decide (1≤x.prio∧x.prio≤9) && decide (1≤x.weight∧x.weight≤9))))→Ks.k st'):EO Tryz.prog ir169_o18 st (Ks:=Ks) (kx:=kx):=by
 unfold ir169_o18
 cases b with
 | false=>
  simp [hb]
  exact hK _ (by simp)
 | true=>
  simp [hb,h.e1,h.m1,num]
  refine b6 rfl rfl (.inl rfl) (P6 x.prio 1 9) ?_
  cases hp:decide (1≤x.prio∧x.prio≤9) with
  | false=>
   simp
   exact hK _ (by simp [hp])
  | true=>
   simp [h.e1,h.m1,num]
   refine b6 rfl rfl (.inl rfl) (P6 x.weight 1 9) ?_
   simp
   exact hK _ (by rw [hp];simp)
theorem b2z (x:LTarget) (hx:x.url.length < 1048577):d8 Tryz.prog 169 [.val (i7 x)] (.ret (.val (.bool (N5 x))) []) []:=by
 refine f5 mixed ok169 rfl (fun _=>rfl) ?_
 unfold ir169
 rw [b7,← b54,Bool.and_assoc]
 simp [d9,i6,j6,b8,d7,i7,tx,num]
 refine V4 rfl rfl (.inl rfl) (c2z x.url hx) ?_
 cases hc:a1t x.url with
 | none=>
  simp
  refine c68 (x:=x) (b:=false) ⟨?_,?_⟩ ?_ (fun st' q=>?_)
  · simp
  · simp [tx,num]
  · simp
  · simp [q]
 | some u=>
  simp [tx,G9]
  refine c68 (x:=x) (b:=decide (u=x.url)) ⟨?_,?_⟩ ?_ (fun st' q=>?_)
  · simp
  · simp [tx,num]
  · simp
  · simp [q]
theorem c4m (x:LTarget) (url:Tx):d8 Tryz.prog 228 [.val (i7 x),.box [tx url]] (.ret (.val (.bool (decide (x.url=url)))) []) [[tx url]]:=by
 refine T2 mixed ok228 rfl (fun _=>rfl) ?_
 unfold ir228
 rw [b7]
 simp [d9,i6,j6,b8,d7,i7,tx,num,G9,Q8,P9]
theorem b1x {l:List LTarget} {j:Nat} (h:j < l.length):(l.map i7)[j]?.getD .nilptr=i7 l[j]:=by simp [List.getElem?_eq_getElem h]
theorem b6a (l:List LTarget) (g:Nat) (c:RV) (p:LTarget→Bool) (hl:l.length < 1099511627776) (hg:fnB Tryz.prog g=true)
 (hp:∀ x∈l,d8 Tryz.prog g [.val (i7 x),.box [c]] (.ret (.val (.bool (p x))) []) [[c]]) :
 d8 Tryz.prog 205 [.val (.list 3 (l.map i7)),.fn g [.box [c]]] (.ret (.val (num (a0j l p))) []) [[c]]:=by
 refine T2 mixed ok205 rfl (fun _=>rfl) ?_
 unfold ir205
 rw [b7]
 simp [d9,i6,j6,b8,d7,j6,i6]
 refine j7 (X:=Nat) (fun i=>⟨l8 [(0,.val (.list 3 (l.map i7))),(1,.fn g [.ptr 900 0]),(7,.val (num l.length)),(8,.val (num i))],l9 [(900,.box [.val c])]⟩) (fun i=>i≤l.length∧∀ k (hk:k < i) (hk':k < l.length),p l[k]=false) (fun i=>l.length - i) 0 (Le.mk _ _ ?_ ?_) ?_ ?_
 · simp [upd,num]
 · simp
 · simp
 · rintro i ⟨hi,hne⟩
   simp [num]
   refine f6 (fun h1=>?_) (fun h1=>?_)
   · have e1:=b1x h1
     simp [num,h1,e1,i7,tx,hg]
     refine S3 (ids:=[900]) rfl rfl (by simp) (by decide) (by simp [a11,y5,G3,y7,G1,y8,t6,y6,G2,m8,B2,H6,H7,k6,p9,q7,l4,y9,s8,l6,G0,y4,q9,q8,E1,E3,a04,a05,Option.getD_some,Option.getD_none,C7,u2,o9,D7,o8,o2,D9,o3,D8,D6,D5,I1,w9,o6,D3,w7,o5,D2,C5,D4,w8,D0,o1,w6,D1,I3,I2,C6,C8,o4,C9,x1,o7,B5,n5,C4,C3,C2,H8,v8,n7,C0,v6,n6,B9,B3,C1,v7,B7,n0,u9,B8,I0,H9,B4,u7,n9,B6,w5,n8,K2,J9,L5,K3,K7,K5,K4,L4,K6,K8,K9,L2,L3,z7,z6,z1,M8,M9,A8,G4,u3,E7,x3,L7,t7,R5,N2,M0,O4,O6,O5,R6,R7,J2,J4,J3,J5,J6,O1,x6,O0,E8,E9,F0,x7,a09,F7,y0,R3,R4,I4,N0,N1,Option.map_some,Option.map_none,F1,x8,x2,p5,E5,E6,I6,I5,P1,P0,J8,F8,F9,J7,O7,O8,I7,p7,I8,p6,N6,F6,F5,l5,O3,O9,J1,N7,N9,N8,x5,A9,B1,B0,l0,O2,S0,R9,N3,I9,V3,N4,p8,F3,F4,x9,F2,l3,u5,l2,u6,l1,L6,P2,P3,z8,A0,G6,G5,E4]) rfl (hp l[i] (List.getElem_mem h1)) ?_
     cases hpi:p l[i] with
     | true=>
      simp [Q8,P9]
      rw [X9 h1 hpi (fun k hk=>hne k hk (by omega))];rfl
     | false=>
      simp
      refine LoopNext.mk (i+1) ⟨by omega,fun k hk hk'=>?_⟩ (by omega) (Le.mk _ _ ?_ ?_)
      · by_cases e:k=i
        · subst e;exact hpi
        · exact hne k (by omega) hk'
      · simp [num];exact wrap_i64 (by omega) (by omega)
      · simp
   · have e:i=l.length:=by omega
     subst e
     simp [num,Q8,P9]
     rw [W3 (fun k hk=>hne k hk hk)]
theorem b1f (l:List LTarget) (g:Nat) (c:RV) (p:LTarget→Bool) (hl:l.length < 1099511627776) (hg:fnB Tryz.prog g=true)
 (hp:∀ x∈l,d8 Tryz.prog g [.val (i7 x),.box [c]] (.ret (.val (.bool (p x))) []) [[c]]) :
 d8 Tryz.prog 167 [.val (.list 3 (l.map i7)),.fn g [.box [c]]] (.ret (.val (.bool (l.any p))) []) [[c]]:=by
 refine T2 mixed ok167 rfl (fun _=>rfl) ?_
 unfold ir167
 rw [b7]
 simp [d9,i6,j6,b8,d7,j6,i6]
 refine S3 (ids:=[900]) rfl rfl (by simp) (by decide) (by simp [a11,y5,G3,y7,G1,y8,t6,y6,G2,m8,B2,H6,H7,k6,p9,q7,l4,y9,s8,l6,G0,y4,q9,q8,E1,E3,a04,a05,Option.getD_some,Option.getD_none,C7,u2,o9,D7,o8,o2,D9,o3,D8,D6,D5,I1,w9,o6,D3,w7,o5,D2,C5,D4,w8,D0,o1,w6,D1,I3,I2,C6,C8,o4,C9,x1,o7,B5,n5,C4,C3,C2,H8,v8,n7,C0,v6,n6,B9,B3,C1,v7,B7,n0,u9,B8,I0,H9,B4,u7,n9,B6,w5,n8,K2,J9,L5,K3,K7,K5,K4,L4,K6,K8,K9,L2,L3,z7,z6,z1,M8,M9,A8,G4,u3,E7,x3,L7,t7,R5,N2,M0,O4,O6,O5,R6,R7,J2,J4,J3,J5,J6,O1,x6,O0,E8,E9,F0,x7,a09,F7,y0,R3,R4,I4,N0,N1,Option.map_some,Option.map_none,F1,x8,x2,p5,E5,E6,I6,I5,P1,P0,J8,F8,F9,J7,O7,O8,I7,p7,I8,p6,N6,F6,F5,l5,O3,O9,J1,N7,N9,N8,x5,A9,B1,B0,l0,O2,S0,R9,N3,I9,V3,N4,p8,F3,F4,x9,F2,l3,u5,l2,u6,l1,L6,P2,P3,z8,A0,G6,G5,E4]) rfl (b6a l g c p hl hg hp) ?_
 simp [num,Q8,P9]
 exact a4b l p
theorem c7p (l:List LTarget) (url:Tx) (hl:l.length < 1099511627776):d8 Tryz.prog 204 [.val (.list 3 (l.map i7)),.val (tx url)] (.ret (.val (.bool (l.any fun x=>decide (x.url=url)))) []) []:=by
 refine f5 mixed ok204 rfl (fun _=>rfl) ?_
 unfold ir204
 rw [b7]
 simp [d9,i6,j6,b8,d7,tx]
 refine S3 (ids:=[3]) rfl rfl (by simp) (by decide) (by simp [a11,y5,G3,y7,G1,y8,t6,y6,G2,m8,B2,H6,H7,k6,p9,q7,l4,y9,s8,l6,G0,y4,q9,q8,E1,E3,a04,a05,Option.getD_some,Option.getD_none,C7,u2,o9,D7,o8,o2,D9,o3,D8,D6,D5,I1,w9,o6,D3,w7,o5,D2,C5,D4,w8,D0,o1,w6,D1,I3,I2,C6,C8,o4,C9,x1,o7,B5,n5,C4,C3,C2,H8,v8,n7,C0,v6,n6,B9,B3,C1,v7,B7,n0,u9,B8,I0,H9,B4,u7,n9,B6,w5,n8,K2,J9,L5,K3,K7,K5,K4,L4,K6,K8,K9,L2,L3,z7,z6,z1,M8,M9,A8,G4,u3,E7,x3,L7,t7,R5,N2,M0,O4,O6,O5,R6,R7,J2,J4,J3,J5,J6,O1,x6,O0,E8,E9,F0,x7,a09,F7,y0,R3,R4,I4,N0,N1,Option.map_some,Option.map_none,F1,x8,x2,p5,E5,E6,I6,I5,P1,P0,J8,F8,F9,J7,O7,O8,I7,p7,I8,p6,N6,F6,F5,l5,O3,O9,J1,N7,N9,N8,x5,A9,B1,B0,l0,O2,S0,R9,N3,I9,V3,N4,p8,F3,F4,x9,F2,l3,u5,l2,u6,l1,L6,P2,P3,z8,A0,G6,G5,E4,tx]) rfl (b1f l 228 (tx url) (fun x=>decide (x.url=url)) hl (by kernel_rfl) (fun x _=>c4m x url)) ?_
 simp
end Go.Proofs
end
section
namespace Go.Proofs
open Go.PW Go.KP
attribute [local simp] RV.cells RV.one PV.cells PV.solid PV.one t8 f9 H0 A5 RV.ofCells elems PV.killL
variable [GH]
theorem any_url (l:List LTarget) (url:Tx):(l.any fun x=>decide (x.url=url))=decide (url∈l.map fun t=>t.url):=by
 rw [Bool.eq_iff_iff]
 simp only [List.any_eq_true,decide_eq_true_eq,List.mem_map]
theorem b02 (l:List LTarget) (hl:l.length < 1099511627776):d8 Tryz.prog 166 [.val (.list 3 (l.map i7))] (.ret (.val (.bool (W7 l))) []) []:=by
 refine f5 mixed ok166 rfl (fun _=>rfl) ?_
 unfold ir166
 rw [b7]
 simp [d9,i6,j6,b8,d7]
 refine j7 (X:=Nat) (fun i=>⟨l8 [(0,.val (.list 3 (l.map i7))),(5,.val (.list 3 (l.map i7))),(6,.val (num l.length)),(7,.val (num i))],l9 []⟩) (fun i=>i≤l.length∧W7 (l.take i)=true) (fun i=>l.length - i) 0 (Le.mk _ _ ?_ ?_) ?_ ?_
 · simp [upd,num]
 · simp
 · simp [W7,S5]
 · rintro i ⟨hi,hinv⟩
   simp [num]
   refine f6 (fun h1=>?_) (fun h1=>?_)
   · have e1:=b1x h1
     simp [num,h1,e1,i7,tx,show i≤l.length by omega]
     have hh:=c7p (l.take i) l[i].url (by simp;omega)
     rw [any_url,List.map_take] at hh
     refine b6 rfl rfl (.inl rfl) hh ?_
     have ht:=a8s l i h1
     by_cases hm:l[i].url∈(l.take i).map fun t=>t.url
     · rw [decide_eq_true hm]
       have:W7 l=false:=b3z l (i+1) (by rw [ht,hinv,decide_eq_false (fun h=>h hm)];rfl)
       rw [this]
       simp
     · rw [decide_eq_false hm]
       simp
       refine LoopNext.mk (i+1) ⟨by omega,?_⟩ (by omega) (Le.mk _ _ ?_ ?_)
       · rw [ht,hinv,decide_eq_true hm];rfl
       · simp [num];exact wrap_i64 (by omega) (by omega)
       · simp
   · have e:i=l.length:=by omega
     subst e
     rw [List.take_length] at hinv
     rw [hinv]
     simp
def tgs (l:List LPeer):List LTarget:=l.map fun p=>p.target
theorem b01 (l:List LPeer) (hl:l.length < 1099511627776):d8 Tryz.prog 129 [.val (M5 l)] (.ret (.val (.list 3 ((tgs l).map i7))) []) []:=by
 refine f5 mixed ok129 rfl (fun _=>rfl) ?_
 unfold ir129
 rw [b7]
 simp [d9,i6,j6,b8,d7,M5,elems]
 refine j7 (X:=Nat) (fun i=>⟨l8 [(3,.own 6),(7,.val (M5 l)),(8,.val (num l.length)),(9,.val (num i))],l9 [(6,.row 162 3 ((tgs (l.take i)).map i7))]⟩) (fun i=>i≤l.length) (fun i=>l.length - i) 0 (Le.mk _ _ ?_ ?_) ?_ ?_
 · simp [upd,num,M5,PV.kill]
 · simp [upd,tgs]
 · simp
 · intro i hi
   simp [num,M5]
   refine f6 (fun h1=>?_) (fun h1=>?_)
   · have e1:=a8z h1
     rw [List.getD_eq_getElem?_getD] at e1
     have hlen:(tgs (l.take i)).length=i:=by simp [tgs];omega
     have hsucc:(tgs (l.take (i+1))).map i7=(tgs (l.take i)).map i7++[i7 l[i].target]:=by
      unfold tgs
      rw [List.take_add_one,List.getElem?_eq_getElem h1,List.map_append,List.map_append]
      rfl
     simp [num,M5,h1,e1,A7,tx,elems,f9,hlen,RV.one]
     refine ⟨by omega,by omega,?_⟩
     refine LoopNext.mk (i+1) (by omega) (by omega) (Le.mk _ _ ?_ ?_)
     · simp [M5,num];exact wrap_i64 (by omega) (by omega)
     · rw [hsucc]
       simp [i7,num,tx]
   · have e1:i=l.length:=by omega
     subst e1
     simp [num,M5,V2]
structure JP (st:St) (x:LPeer):Prop where
 e1:st.env 1=.ptr 1 0
 m1:st.mem 1=.box (R8 x)
section
variable {Ks:Kx (St→Prop)} {kx:Kx (RV→St→Prop)} {st:St} {x:LPeer} {b:Bool}
theorem c6l (h:JP st x) (hb:st.env 19=.val (.bool b)) (hK:∀ st',st'.env 2=.val (.bool (b || b34 x))→Ks.k st'):EO Tryz.prog ir171_o20 st (Ks:=Ks) (kx:=kx):=by
 unfold ir171_o20
 cases b with
 | true=>
  simp [hb]
  exact hK _ (by simp)
 | false=>
  by_cases h0:x.fails=0
  · by_cases h1:x.retry=0
    · simp [hb,h.e1,h.m1,R8,num,h0,h1]
      exact hK _ (by simp [b34,h0,h1])
    · simp [hb,h.e1,h.m1,R8,num,h0,h1]
      exact hK _ (by simp [b34,h0,h1])
  · simp [hb,h.e1,h.m1,R8,num,h0]
    exact hK _ (by simp [b34,h0])
theorem c6m (h:JP st x) (hb:st.env 13=.val (.bool b)) (hK:∀ st',st'.env 2=.val (.bool (b || c30 x))→Ks.k st'):EO Tryz.prog ir171_o14 st (Ks:=Ks) (kx:=kx):=by
 unfold ir171_o14
 cases b with
 | true=>
  simp [hb]
  refine c6l (x:=x) (b:=true) ⟨?_,?_⟩ ?_ (fun st' q2=>hK st' (by simpa using q2))<;>simp [h.e1,h.m1]
 | false=>
  simp [hb,h.e1,h.m1,R8,num]
  refine b6 rfl rfl (.inl rfl) (P6 x.retry 0 1000032) ?_
  simp [hb]
  refine c6l (x:=x) (b:=!decide (0≤x.retry∧x.retry≤1000032)) ⟨?_,?_⟩ ?_ (fun st' q2=>hK st' (by rw [q2];simp [c30]))<;>simp [h.e1,h.m1]
theorem qops8 (h:JP st x) (hb:st.env 7=.val (.bool b)) (hK:∀ st',st'.env 2=.val (.bool (b || c0a x))→Ks.k st'):EO Tryz.prog ir171_o8 st (Ks:=Ks) (kx:=kx):=by
 unfold ir171_o8
 cases b with
 | true=>
  simp [hb]
  refine c6m (x:=x) (b:=true) ⟨?_,?_⟩ ?_ (fun st' q2=>hK st' (by simpa using q2))<;>simp [h.e1,h.m1]
 | false=>
  simp [hb,h.e1,h.m1,R8,num]
  refine b6 rfl rfl (.inl rfl) (P6 x.fails 0 1000000) ?_
  simp [hb]
  refine c6m (x:=x) (b:=!decide (0≤x.fails∧x.fails≤1000000)) ⟨?_,?_⟩ ?_ (fun st' q2=>hK st' (by rw [q2];simp [c0a]))<;>simp [h.e1,h.m1]
end
theorem c08 (x:LPeer) (hx:x.target.url.length < 1048577):d8 Tryz.prog 171 [.val (A7 x)] (.ret (.val (.bool (!a3m x))) []) []:=by
 refine f5 mixed ok171 rfl (fun _=>rfl) ?_
 unfold ir171
 rw [b7,b2p,Bool.not_not]
 simp [d9,i6,j6,b8,d7,A7,tx,num,f9]
 refine b6 rfl rfl (.inl rfl) (b2z x.target hx) ?_
 simp
 refine qops8 (x:=x) (b:=!N5 x.target) ⟨?_,?_⟩ ?_ (fun st' q=>?_)
 · simp
 · simp [R8,tx,num]
 · simp
 · simp [q]
theorem b6b (l:List LPeer) (g:Nat) (p:LPeer→Bool) (hl:l.length < 1099511627776) (hg:fnB Tryz.prog g=true)
 (hp:∀ x∈l,d8 Tryz.prog g [.val (A7 x)] (.ret (.val (.bool (p x))) []) []) :
 d8 Tryz.prog 206 [.val (M5 l),.fn g []] (.ret (.val (num (a0j l p))) []) []:=by
 refine f5 mixed ok206 rfl (fun _=>rfl) ?_
 unfold ir206
 rw [b7]
 simp [d9,i6,j6,b8,d7,j6,i6,M5]
 refine j7 (X:=Nat) (fun i=>⟨l8 [(0,.val (M5 l)),(1,.fn g []),(7,.val (num l.length)),(8,.val (num i))],l9 []⟩) (fun i=>i≤l.length∧∀ k (hk:k < i) (hk':k < l.length),p l[k]=false) (fun i=>l.length - i) 0 (Le.mk _ _ ?_ ?_) ?_ ?_
 · simp [upd,num,M5]
 · simp
 · simp
 · rintro i ⟨hi,hne⟩
   simp [num,M5]
   refine f6 (fun h1=>?_) (fun h1=>?_)
   · have e1:=a8z h1
     rw [List.getD_eq_getElem?_getD] at e1
     simp [num,M5,h1,e1,A7,tx,hg]
     refine b6 rfl rfl (.inl rfl) (hp l[i] (List.getElem_mem h1)) ?_
     cases hpi:p l[i] with
     | true=>
      simp
      rw [X9 h1 hpi (fun k hk=>hne k hk (by omega))];rfl
     | false=>
      simp
      refine LoopNext.mk (i+1) ⟨by omega,fun k hk hk'=>?_⟩ (by omega) (Le.mk _ _ ?_ ?_)
      · by_cases e:k=i
        · subst e;exact hpi
        · exact hne k (by omega) hk'
      · simp [num,M5];exact wrap_i64 (by omega) (by omega)
      · simp
   · have e:i=l.length:=by omega
     subst e
     simp [num]
     rw [W3 (fun k hk=>hne k hk hk)]
theorem b1g (l:List LPeer) (g:Nat) (p:LPeer→Bool) (hl:l.length < 1099511627776) (hg:fnB Tryz.prog g=true)
 (hp:∀ x∈l,d8 Tryz.prog g [.val (A7 x)] (.ret (.val (.bool (p x))) []) []) :
 d8 Tryz.prog 170 [.val (M5 l),.fn g []] (.ret (.val (.bool (l.any p))) []) []:=by
 refine f5 mixed ok170 rfl (fun _=>rfl) ?_
 unfold ir170
 rw [b7,← a4b l p]
 simp [d9,i6,j6,b8,d7,j6,i6,M5]
 refine b6 rfl rfl (.inl rfl) (b6b l g p hl hg hp) ?_
 simp [num]
theorem c4t (l:List LPeer) (hl:l.length < 1099511627776) (hs:∀ p∈l,p.target.url.length < 1048577):d8 Tryz.prog 127 [.val (M5 l)] (.ret (.val (.bool (X8 l))) []) []:=by
 refine f5 mixed ok127 rfl (fun _=>rfl) ?_
 unfold ir127
 rw [b7]
 by_cases h4:4 < l.length
 · have h4':(4:Int) < l.length:=by omega
   have e:X8 l=false:=by
    unfold X8
    rw [decide_eq_false (by omega)];rfl
   simp [d9,i6,j6,b8,d7,M5,h4',e]
 · have h4':¬ (4:Int) < l.length:=by omega
   have e:X8 l=(W7 (tgs l) && !(l.any fun x=>!a3m x)):=by
    unfold X8 tgs
    rw [decide_eq_true (by omega),b3y,Bool.true_and,Bool.and_comm]
    congr 1
    rw [Bool.eq_iff_iff]
    simp
   rw [e]
   simp [d9,i6,j6,b8,d7,M5,h4']
   refine b6 rfl rfl (.inl rfl) (b01 l hl) ?_
   simp
   refine b6 rfl rfl (.inl rfl) (b02 (tgs l) (by simp [tgs];omega)) ?_
   cases hu:W7 (tgs l) with
   | false=>simp
   | true=>
    simp only [Bool.true_and]
    simp
    refine b6 rfl rfl (.inl rfl) (b1g l 171 (fun x=>!a3m x) hl (by kernel_rfl) (fun x hx=>c08 x (hs x hx))) ?_
    simp
end Go.Proofs
end
section
namespace Go.Proofs
open Go.PW Go.KP
attribute [local simp] RV.cells RV.one PV.cells PV.solid PV.one t8 f9 H0 A5 RV.ofCells elems PV.killL
variable [GF]
theorem a8c (l:List LTarget) (g:Nat) (p:LTarget→Bool) (hl:l.length < 1099511627776) (hg:fnB Tryz.prog g=true)
 (hp:∀ x∈l,d8 Tryz.prog g [.val (i7 x)] (.ret (.val (.bool (p x))) []) []) :
 d8 Tryz.prog 205 [.val (.list 3 (l.map i7)),.fn g []] (.ret (.val (num (a0j l p))) []) []:=by
 refine f5 mixed ok205 rfl (fun _=>rfl) ?_
 unfold ir205
 rw [b7]
 simp [d9,i6,j6,b8,d7,j6,i6]
 refine j7 (X:=Nat) (fun i=>⟨l8 [(0,.val (.list 3 (l.map i7))),(1,.fn g []),(7,.val (num l.length)),(8,.val (num i))],l9 []⟩) (fun i=>i≤l.length∧∀ k (hk:k < i) (hk':k < l.length),p l[k]=false) (fun i=>l.length - i) 0 (Le.mk _ _ ?_ ?_) ?_ ?_
 · simp [upd,num]
 · simp
 · simp
 · rintro i ⟨hi,hne⟩
   simp [num]
   refine f6 (fun h1=>?_) (fun h1=>?_)
   · have e1:(l.map i7)[i]?.getD .nilptr=i7 l[i]:=by simp [List.getElem?_eq_getElem h1]
     simp [num,h1,e1,i7,tx,num,hg]
     refine b6 rfl rfl (.inl rfl) (hp l[i] (List.getElem_mem h1)) ?_
     cases hpi:p l[i] with
     | true=>
      simp
      rw [X9 h1 hpi (fun k hk=>hne k hk (by omega))];rfl
     | false=>
      simp
      refine LoopNext.mk (i+1) ⟨by omega,fun k hk hk'=>?_⟩ (by omega) (Le.mk _ _ ?_ ?_)
      · by_cases e:k=i
        · subst e;exact hpi
        · exact hne k (by omega) hk'
      · simp [num];exact wrap_i64 (by omega) (by omega)
      · simp
   · have e:i=l.length:=by omega
     subst e
     simp [num]
     rw [W3 (fun k hk=>hne k hk hk)]
theorem a5y (l:List LTarget) (g:Nat) (p:LTarget→Bool) (hl:l.length < 1099511627776) (hg:fnB Tryz.prog g=true)
 (hp:∀ x∈l,d8 Tryz.prog g [.val (i7 x)] (.ret (.val (.bool (p x))) []) []) :
 d8 Tryz.prog 167 [.val (.list 3 (l.map i7)),.fn g []] (.ret (.val (.bool (l.any p))) []) []:=by
 refine f5 mixed ok167 rfl (fun _=>rfl) ?_
 unfold ir167
 rw [b7]
 simp [d9,i6,j6,b8,d7,j6,i6]
 refine b6 rfl rfl (.inl rfl) (a8c l g p hl hg hp) ?_
 simp [num]
 exact a4b l p
end Go.Proofs
end
section
namespace Go.Proofs
open Go.PW Go.KP
attribute [local simp] RV.cells RV.one PV.cells PV.solid PV.one t8 f9 H0 A5 RV.ofCells elems PV.killL
variable [GH]
theorem c1a (t:LTarget) (ht:t.url.length < 1048577):d8 Tryz.prog 168 [.val (i7 t)] (.ret (.val (.bool (!N5 t))) []) []:=by
 refine f5 mixed ok168 rfl (fun _=>rfl) ?_
 unfold ir168
 rw [b7]
 have h:=b2z t ht
 simp [d9,i6,j6,b8,d7,i7,tx,num]
 refine b6 rfl rfl (.inl rfl) h ?_
 simp
theorem b6c (g:LGroup) (b1 b2 b3 b4 b5:Bool) (hW:d8 Tryz.prog 137 [.val (tx g.name)] (.ret (.val (.bool b1)) []) []) (hA:d8 Tryz.prog 60 [.val (num g.age),.val (num 1),.val (num 100)] (.ret (.val (.bool b2)) []) [])
 (hT:d8 Tryz.prog 60 [.val (num g.targets.length),.val (num 1),.val (num 4)] (.ret (.val (.bool b3)) []) []) (hU:d8 Tryz.prog 166 [.val (.list 3 (g.targets.map i7))] (.ret (.val (.bool b4)) []) [])
 (hC:d8 Tryz.prog 167 [.val (.list 3 (g.targets.map i7)),.fn 168 []] (.ret (.val (.bool b5)) []) []) :
 d8 Tryz.prog 126 [.val (H1 g)] (.ret (.val (.bool (b1 && b2 && b3 && b4 && !b5))) []) []:=by
 refine f5 mixed ok126 rfl (fun _=>rfl) ?_
 unfold ir126
 rw [b7]
 simp [d9,i6,j6,b8,d7,H1,tx,num]
 refine b6 rfl rfl (.inl rfl) hW ?_
 cases b1 with
 | false=>simp
 | true=>
  simp [num]
  refine b6 rfl rfl (.inl rfl) hA ?_
  cases b2 with
  | false=>simp
  | true=>
   simp [num]
   refine b6 rfl rfl (.inl rfl) hT ?_
   cases b3 with
   | false=>simp
   | true=>
    simp [num]
    refine b6 rfl rfl (.inl rfl) hU ?_
    cases b4 with
    | false=>simp
    | true=>
     simp [num]
     refine b6 rfl rfl (.inl rfl) hC ?_
     cases b5<;>simp
theorem c4v (g:LGroup) (hb:a07 1048576 g):d8 Tryz.prog 126 [.val (H1 g)] (.ret (.val (.bool (a19 g))) []) []:=by
 have hnl:g.name.length≤1048576:=hb.1
 have htl:g.targets.length≤1048576:=hb.2.1
 have hC:=a5y g.targets 168 (fun t=>!N5 t) (by omega) (by kernel_rfl) (fun x hx=>c1a x (by have:=hb.2.2 x hx;unfold T0 at this;omega))
 have h:=b6c g _ _ _ _ _ (b20 g.name (by omega)) (P6 g.age 1 100) (P6 g.targets.length 1 4) (b02 g.targets (by omega)) hC
 have q3:(1≤g.targets.length∧g.targets.length≤4)↔((1:Int)≤g.targets.length∧(g.targets.length:Int)≤4):=by omega
 have e:a19 g=(a0m g.name && decide (1≤g.age∧g.age≤100) && decide ((1:Int)≤g.targets.length∧(g.targets.length:Int)≤4) && W7 g.targets && !(g.targets.any fun t=>!N5 t)):=by
  unfold a19
  rw [decide_eq_decide.2 q3,b5b,List.not_any_eq_all_not]
  simp only [Bool.not_not]
  cases a0m g.name<;>cases decide (1≤g.age∧g.age≤100)<;>cases decide ((1:Int)≤g.targets.length∧(g.targets.length:Int)≤4)<;>cases g.targets.all N5<;>simp
 rw [e]
 exact h
end Go.Proofs
end
