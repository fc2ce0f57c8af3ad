/- Eb: merged out of KIf, KIg, KIh, KIi, KIq, KIw. -/
import Derived.Test.YtapjdgcfakhpaaaGreatDoorEa
import Derived.Test.YtapjdgcfakhpaaaGreatDoorBa
import Derived.Test.YtapjdgcfakhpaaaGreatDoorCa
import Derived.Test.YtapjdgcfakhpaaaGreatDoorAc
set_option linter.unusedSectionVars false
set_option linter.unusedSimpArgs false
set_option linter.unusedVariables false
set_option maxRecDepth 100000
section
namespace Go.Proofs
open Go.PW Go.KP
attribute [local simp] RV.cells RV.one PV.cells PV.solid PV.one x6 j2 J4 I7 RV.ofCells elems PV.killL
variable [GH]
structure IO (st:St) (u:LUrl):Prop where
 e1:st.env 1=.ptr 1 0
 m1:st.mem 1=.box (i8 u)
section
variable {Ks:Kx (St→Prop)} {kx:Kx (RV→St→Prop)} {st:St} {u:LUrl} {b:Bool}
def b76 (u:LUrl):Bool:=u.hasF || decide (u.frag=[])
theorem b56 (h:IO st u) (hb:st.env 108=.val (.bool b)) (hK:∀ st',IO st' u→st'.env 116=.val (.bool (b && b76 u))→Ks.k st'):EX Tryz.prog ir273_o109 st (Ks:=Ks):=by
 unfold ir273_o109
 have e3:(⟨#[]⟩:ByteArray)=bs []:=rfl
 cases b with
 | false=>
  simp [hb]
  refine hK _ ⟨?_,?_⟩ ?_<;>simp [h.e1,h.m1]
 | true=>
  cases hf:u.hasF with
  | true=>
   simp [hb,h.e1,h.m1,i8,tx,num,hf]
   refine hK _ ⟨?_,?_⟩ ?_<;>simp [h.e1,h.m1,b76,hf]
  | false=>
   simp [hb,h.e1,h.m1,i8,tx,num,hf,e3,I6]
   refine hK _ ⟨?_,?_⟩ ?_<;>simp [h.e1,h.m1,b76,hf]
def b77 (u:LUrl):Bool:=(u.hasQ || decide (u.query=[])) && b76 u
theorem c2f (h:IO st u) (hb:st.env 99=.val (.bool b)) (hK:∀ st',IO st' u→st'.env 116=.val (.bool (b && b77 u))→Ks.k st'):EX Tryz.prog ir273_o100 st (Ks:=Ks):=by
 unfold ir273_o100
 have e3:(⟨#[]⟩:ByteArray)=bs []:=rfl
 cases b with
 | false=>
  simp [hb]
  refine b56 (u:=u) (b:=false) ⟨?_,?_⟩ ?_ (fun st' q1 q2=>hK st' q1 (by simpa using q2))<;>simp [h.e1,h.m1]
 | true=>
  cases hq:u.hasQ with
  | true=>
   simp [hb,h.e1,h.m1,i8,tx,num,hq]
   refine b56 (u:=u) (b:=true) ⟨?_,?_⟩ ?_ (fun st' q1 q2=>hK st' q1 (by rw [q2];simp [b77,hq]))<;>simp [h.e1,h.m1]
  | false=>
   simp [hb,h.e1,h.m1,i8,tx,num,hq,e3,I6]
   refine b56 (u:=u) (b:=decide (u.query=[])) ⟨?_,?_⟩ ?_ (fun st' q1 q2=>hK st' q1 (by rw [q2];simp [b77,hq]))<;>simp [h.e1,h.m1]
def ib94 (u:LUrl):Bool:=!decide (35∈u.query) && b77 u
theorem c6n (h:IO st u) (hb:st.env 93=.val (.bool b)) (hK:∀ st',IO st' u→st'.env 116=.val (.bool (b && ib94 u))→Ks.k st'):EX Tryz.prog ir273_o94 st (Ks:=Ks):=by
 unfold ir273_o94
 have e3:(⟨#[35]⟩:ByteArray)=bs [35]:=rfl
 have e4:(⟨#[47]⟩:ByteArray)=bs [47]:=rfl
 cases b with
 | false=>
  simp [hb]
  refine c2f (u:=u) (b:=false) ⟨?_,?_⟩ ?_ (fun st' q1 q2=>hK st' q1 (by simpa using q2))<;>simp [h.e1,h.m1]
 | true=>
  simp [hb,h.e1,h.m1,i8,tx,num,e3,e4]
  refine p7 rfl rfl (.inl rfl) (c1n u.query 35) ?_
  simp [hb,h.e1,h.m1,i8,tx,num]
  refine c2f (u:=u) (b:=!decide (35∈u.query)) ⟨?_,?_⟩ ?_ (fun st' q1 q2=>hK st' q1 (by rw [q2];simp [ib94]))<;>simp [h.e1,h.m1,bne]
def ib89 (u:LUrl):Bool:=([47]:Tx).isPrefixOf u.path && ib94 u
theorem c6o (h:IO st u) (hb:st.env 88=.val (.bool b)) (hK:∀ st',IO st' u→st'.env 116=.val (.bool (b && ib89 u))→Ks.k st'):EX Tryz.prog ir273_o89 st (Ks:=Ks):=by
 unfold ir273_o89
 have e3:(⟨#[35]⟩:ByteArray)=bs [35]:=rfl
 have e4:(⟨#[47]⟩:ByteArray)=bs [47]:=rfl
 cases b with
 | false=>
  simp [hb]
  refine c6n (u:=u) (b:=false) ⟨?_,?_⟩ ?_ (fun st' q1 q2=>hK st' q1 (by simpa using q2))<;>simp [h.e1,h.m1]
 | true=>
  simp [hb,h.e1,h.m1,i8,tx,num,e3,e4]
  refine p7 rfl rfl (.inl rfl) (b85 u.path [47]) ?_
  simp [hb,h.e1,h.m1,i8,tx,num]
  refine c6n (u:=u) (b:=([47]:Tx).isPrefixOf u.path) ⟨?_,?_⟩ ?_ (fun st' q1 q2=>hK st' q1 (by rw [q2];simp [ib89]))<;>simp [h.e1,h.m1,bne]
def ib81 (u:LUrl):Bool:=!(u.port == a0h u.scheme) && ib89 u
theorem c6p (h:IO st u) (hb:st.env 80=.val (.bool b)) (hK:∀ st',IO st' u→st'.env 116=.val (.bool (b && ib81 u))→Ks.k st'):EX Tryz.prog ir273_o81 st (Ks:=Ks):=by
 unfold ir273_o81
 have e3:(⟨#[35]⟩:ByteArray)=bs [35]:=rfl
 have e4:(⟨#[47]⟩:ByteArray)=bs [47]:=rfl
 cases b with
 | false=>
  simp [hb]
  refine c6o (u:=u) (b:=false) ⟨?_,?_⟩ ?_ (fun st' q1 q2=>hK st' q1 (by simpa using q2))<;>simp [h.e1,h.m1]
 | true=>
  simp [hb,h.e1,h.m1,i8,tx,num,e3,e4]
  refine p7 rfl rfl (.inl rfl) (c2h u.scheme) ?_
  simp [hb,h.e1,h.m1,i8,tx,num]
  refine c6o (u:=u) (b:=!(u.port == a0h u.scheme)) ⟨?_,?_⟩ ?_ (fun st' q1 q2=>hK st' q1 (by rw [q2];simp [ib81]))<;>simp [h.e1,h.m1,bne]
def c6t (u:LUrl):Bool:=decide (0≤u.port∧u.port≤65535) && ib81 u
theorem c6q (h:IO st u) (hb:st.env 75=.val (.bool b)) (hK:∀ st',IO st' u→st'.env 116=.val (.bool (b && c6t u))→Ks.k st'):EX Tryz.prog ir273_o76 st (Ks:=Ks):=by
 unfold ir273_o76
 have e3:(⟨#[35]⟩:ByteArray)=bs [35]:=rfl
 have e4:(⟨#[47]⟩:ByteArray)=bs [47]:=rfl
 cases b with
 | false=>
  simp [hb]
  refine c6p (u:=u) (b:=false) ⟨?_,?_⟩ ?_ (fun st' q1 q2=>hK st' q1 (by simpa using q2))<;>simp [h.e1,h.m1]
 | true=>
  simp [hb,h.e1,h.m1,i8,tx,num,e3,e4]
  refine p7 rfl rfl (.inl rfl) (R4 u.port 0 65535) ?_
  simp [hb,h.e1,h.m1,i8,tx,num]
  refine c6p (u:=u) (b:=decide (0≤u.port∧u.port≤65535)) ⟨?_,?_⟩ ?_ (fun st' q1 q2=>hK st' q1 (by rw [q2];simp [c6t]))<;>simp [h.e1,h.m1,bne]
end
def b70 (u:LUrl):Bool:=(!R8 u.user [47,63,35,64] && a1s u.host) && c6t u
theorem c0h (u:LUrl) (h2:u.user.length < 1048577) (h3:u.host.length < 1048577) (hsh:U4 u.user=true) (st:St) (h:IO st u):EC Tryz.prog ir273_from4 st (K:=⟨a1n [.t 2] (.val (.bool (b70 u)))⟩):=by
 unfold ir273_from4
 have e3:(⟨#[47,63,35,64]⟩:ByteArray)=bs [47,63,35,64]:=rfl
 have hend:∀ b,b=(!R8 u.user [47,63,35,64] && a1s u.host)→∀ st',IO st' u→st'.env 116=.val (.bool (b && c6t u))→a1n [.t 2] (.val (.bool (b70 u))) .ret ⟨upd 2 (st'.env 116) st'.env,st'.mem⟩:=fun b hb st' q1 q2=>by
  rw [q2,hb]
  simp [b70]
 simp [h.e1,h.m1,i8,tx,num,e3]
 refine p7 rfl rfl (.inl rfl) (a7r u.user [47,63,35,64] (by omega) (by simp) hsh (by decide)) ?_
 cases hu:R8 u.user [47,63,35,64] with
 | true=>
  simp [h.e1,h.m1,i8,tx,num]
  refine c6q (u:=u) (b:=false) ⟨?_,?_⟩ ?_ (fun st' q1 q2=>?_)
  · simp [h.e1]
  · simp [h.m1]
  · simp
  · simp only [B0,I1,B2,H9,B3,x1,B1,I0,p9,D1,J5,J6,l5,w5,w6,o0,B4,w9,p6,H8,A9,w8,w7,G0,G1,a1i,a1j,Option.getD_some,Option.getD_none,E7,x7,u7,F7,u6,u0,F9,u1,F8,F6,F5,K2,z8,u4,F3,z6,u3,F2,E5,F4,z7,F0,t8,z1,F1,K4,K3,E6,E8,u2,E9,A0,u5,D4,q8,E4,E3,E2,J7,y8,s8,D9,y6,q9,D8,D2,E1,y7,D6,q7,y5,D7,J9,J8,D3,y4,t7,D5,y9,t6,M3,M2,N4,M4,M8,M6,M5,N3,M7,M9,N0,N1,N2,B7,B6,B5,O5,O6,C7,I2,x8,G5,A2,N6,x2,T2,P0,N7,Q2,Q4,Q3,T3,T4,L5,L7,L6,L8,L9,P9,A4,P8,G6,G7,G8,A5,a1o,H5,A8,T0,T1,K5,O7,O8,Option.map_some,Option.map_none,G9,A6,A1,u9,G3,G4,K7,K6,Q9,Q8,M1,H6,H7,M0,Q5,Q6,K8,v7,K9,v6,P4,H4,H3,p5,Q1,Q7,L4,P5,P7,P6,A3,C8,D0,C9,l9,Q0,T7,T6,P1,L2,X5,P2,v8,H1,H2,A7,H0,n0,x9,m8,y0,m0,N5,R0,R1,B8,B9,I4,I3,G2]
    exact hend false (by rw [hu];rfl) st' q1 q2
 | false=>
  simp [h.e1,h.m1,i8,tx,num]
  refine p7 rfl rfl (.inl rfl) (c60 u.host (by omega)) ?_
  simp [h.e1,h.m1,i8,tx,num]
  refine c6q (u:=u) (b:=a1s u.host) ⟨?_,?_⟩ ?_ (fun st' q1 q2=>?_)
  · simp [h.e1]
  · simp [h.m1]
  · simp
  · simp only [B0,I1,B2,H9,B3,x1,B1,I0,p9,D1,J5,J6,l5,w5,w6,o0,B4,w9,p6,H8,A9,w8,w7,G0,G1,a1i,a1j,Option.getD_some,Option.getD_none,E7,x7,u7,F7,u6,u0,F9,u1,F8,F6,F5,K2,z8,u4,F3,z6,u3,F2,E5,F4,z7,F0,t8,z1,F1,K4,K3,E6,E8,u2,E9,A0,u5,D4,q8,E4,E3,E2,J7,y8,s8,D9,y6,q9,D8,D2,E1,y7,D6,q7,y5,D7,J9,J8,D3,y4,t7,D5,y9,t6,M3,M2,N4,M4,M8,M6,M5,N3,M7,M9,N0,N1,N2,B7,B6,B5,O5,O6,C7,I2,x8,G5,A2,N6,x2,T2,P0,N7,Q2,Q4,Q3,T3,T4,L5,L7,L6,L8,L9,P9,A4,P8,G6,G7,G8,A5,a1o,H5,A8,T0,T1,K5,O7,O8,Option.map_some,Option.map_none,G9,A6,A1,u9,G3,G4,K7,K6,Q9,Q8,M1,H6,H7,M0,Q5,Q6,K8,v7,K9,v6,P4,H4,H3,p5,Q1,Q7,L4,P5,P7,P6,A3,C8,D0,C9,l9,Q0,T7,T6,P1,L2,X5,P2,v8,H1,H2,A7,H0,n0,x9,m8,y0,m0,N5,R0,R1,B8,B9,I4,I3,G2]
    exact hend _ (by rw [hu];simp) st' q1 q2
def a72 (u:LUrl):Bool:=decide (u.user=[]) && decide (u.host=[]) && decide (u.port=0) && decide (u.query=[]) && decide (u.frag=[]) && !u.hasQ && !u.hasF
theorem b8q (u:LUrl):N9 [0,0,0,2,0,0,0,1,1] (b0d u) [tx u.scheme,tx [],tx [],num 0,tx u.path,tx [],tx [],.bool false,.bool false]=some (a72 u):=by
 simp only [b0d,N9,a3t,tx,num,I6,if_true,decide_true]
 unfold a72
 have e:(u.port == 0)=decide (u.port=0):=by rw [Bool.eq_iff_iff];simp
 rw [e]
 cases decide (u.user=[])<;>cases decide (u.host=[])<;>cases decide (u.port=0)<;>cases decide (u.query=[])<;>cases decide (u.frag=[])<;>cases u.hasQ<;>cases u.hasF<;>rfl
theorem c0i (u:LUrl) (h2:u.user.length < 1048577) (h3:u.host.length < 1048577) (hsh:U4 u.user=true) (st:St) (h:IO st u):EC Tryz.prog ir273_from3 st (K:=⟨a1n [.t 2] (.val (.bool (if a0f u.scheme then b70 u else a72 u)))⟩):=by
 unfold ir273_from3
 have e3:(⟨#[]⟩:ByteArray)=bs []:=rfl
 simp [h.e1,h.m1,i8,tx,num,j2]
 refine b6 rfl rfl (.inl rfl) (b78 u) ?_
 cases hw:a0f u.scheme with
 | true=>
  simp
  rw [if_pos rfl]
  refine c0h u h2 h3 hsh _ ⟨?_,?_⟩<;>simp [h.e1,h.m1]
 | false=>
  rw [if_neg (by simp)]
  have hq:=b8q u
  simp only [b0d,tx,num] at hq
  simp [h.e1,h.m1,i8,tx,num,j2,e3,hq,a25]
theorem c0j (u:LUrl) (h2:u.user.length < 1048577) (h3:u.host.length < 1048577) (h4:u.path.length < 1048577) (hsh:U4 u.user=true) (hsp:U4 u.path=true) (st:St) (h:IO st u):EC Tryz.prog ir273_from2 st (K:=⟨a1n [.t 2] (.val (.bool (!R8 u.path [63,35] && if a0f u.scheme then b70 u else a72 u)))⟩):=by
 unfold ir273_from2
 have e3:(⟨#[63,35]⟩:ByteArray)=bs [63,35]:=rfl
 simp [h.e1,h.m1,i8,tx,num,e3]
 refine b6 rfl rfl (.inl rfl) (a7r u.path [63,35] (by omega) (by simp) hsp (by decide)) ?_
 cases hp:R8 u.path [63,35] with
 | true=>simp
 | false=>
  simp only [Bool.not_false,Bool.true_and]
  simp
  refine c0i u h2 h3 hsh _ ⟨?_,?_⟩<;>simp [h.e1,h.m1]
section
variable {Ks:Kx (St→Prop)} {kx:Kx (RV→St→Prop)} {st:St} {u:LUrl} {b:Bool}
structure Tiny (u:LUrl):Prop where
 s1:u.scheme.length < 1048577
 s2:u.user.length < 1048577
 s3:u.host.length < 1048577
 s4:u.path.length < 1048577
 s5:u.query.length < 1048577
 s6:u.frag.length < 1048577
 p0:-9223372036854775808≤u.port
 p1:u.port≤9223372036854775807
theorem Tiny.small (h:Tiny u):u.Small:=by
 obtain ⟨s1,s2,s3,s4,s5,s6,p0,p1⟩:=h
 exact ⟨by omega,by omega,by omega,by omega,by omega,by omega,p1⟩
def c31 (u:LUrl):Bool:=!U4 (u.user++u.host++u.path++u.query++u.frag)
theorem c6r (hs:Tiny u) (h:IO st u) (hb:st.env 35=.val (.bool b)) (hK:∀ st',IO st' u→st'.env 52=.val (.bool (b || c31 u))→Ks.k st'):EO Tryz.prog ir273_o36 st (Ks:=Ks) (kx:=kx):=by
 unfold ir273_o36
 obtain ⟨s1,s2,s3,s4,s5,s6,p0,p1⟩:=hs
 cases b with
 | true=>
  simp [hb]
  refine hK _ ⟨?_,?_⟩ ?_<;>simp [h.e1,h.m1]
 | false=>
  simp [hb,h.e1,h.m1,i8,tx,num,b9,J1]
  refine ⟨by omega,by omega,by omega,by omega,?_⟩
  refine b6 rfl rfl (.inl rfl) (c0q (u.user++(u.host++(u.path++(u.query++u.frag)))) (by simp;omega)) ?_
  simp [hb]
  refine hK _ ⟨?_,?_⟩ ?_<;>simp [h.e1,h.m1,c31]
def b37 (u:LUrl):Bool:=decide (100 < (a2q u).length) || c31 u
theorem c6s (hs:Tiny u) (h:IO st u) (hb:st.env 29=.val (.bool b)) (hK:∀ st',IO st' u→st'.env 52=.val (.bool (b || b37 u))→Ks.k st'):EO Tryz.prog ir273_o30 st (Ks:=Ks) (kx:=kx):=by
 unfold ir273_o30
 cases b with
 | true=>
  simp [hb]
  refine c6r (u:=u) (b:=true) hs ⟨?_,?_⟩ ?_ (fun st' q1 q2=>hK st' q1 (by simpa using q2))<;>simp [h.e1,h.m1]
 | false=>
  have e:((100:Int) < ((a2q u).length:Int))↔100 < (a2q u).length:=by omega
  simp [hb,h.e1,h.m1,i8,tx,num,j2]
  refine b6 rfl rfl (.inl rfl) (c6v u hs.small hs.p0) ?_
  simp [hb,tx,b9,e]
  refine c6r (u:=u) (b:=decide (100 < (a2q u).length)) hs ⟨?_,?_⟩ ?_ (fun st' q1 q2=>hK st' q1 (by rw [q2];simp [b37]))<;>simp [h.e1,h.m1]
end
theorem b50 (u:LUrl):a9y u=(W4 u.scheme && decide (u.user.length+u.host.length+u.path.length+u.query.length+u.frag.length≤100) && !b37 u && (!R8 u.path [63,35] && if a0f u.scheme then b70 u else a72 u)):=by
 unfold a9y b37 c31 b70 a72 c6t ib81 ib89 ib94 b77 b76
 have e1:decide ((a2q u).length≤100)=!decide (100 < (a2q u).length):=by
  by_cases h:(a2q u).length≤100
  · rw [decide_eq_true h,decide_eq_false (by omega)];rfl
  · rw [decide_eq_false h,decide_eq_true (by omega)];rfl
 have e2:([47]:Tx).isPrefixOf u.path=(decide (0 < u.path.length) && decide ((u.path.getD 0 0).toNat=47)):=by
  cases u.path with
  | nil=>rfl
  | cons c r=>
   rw [Bool.eq_iff_iff]
   simp
   constructor
   · intro h;rw [← h];rfl
   · intro h;exact (UInt8.toNat_inj.1 (by rw [h];rfl)).symm
 have e3:(u.port == a0h u.scheme)=decide (u.port=a0h u.scheme):=by rw [Bool.eq_iff_iff];simp
 have e4:decide (u.port≠a0h u.scheme)=!decide (u.port=a0h u.scheme):=by simp
 have e5:R8 u.query [35]=decide (35∈u.query):=by
  rw [Bool.eq_iff_iff]
  simp [R8]
 rw [e1,e2,e3,e4,e5]
 cases W4 u.scheme<;>simp only [Bool.false_and,Bool.true_and]
 cases decide (u.user.length+u.host.length+u.path.length+u.query.length+u.frag.length≤100)<;>simp only [Bool.false_and,Bool.true_and]
 cases decide (100 < (a2q u).length)<;>simp only [Bool.false_and,Bool.true_and,Bool.not_true,Bool.not_false,Bool.true_or,Bool.false_or]
 cases U4 (u.user++u.host++u.path++u.query++u.frag)<;>simp only [Bool.false_and,Bool.true_and,Bool.not_true,Bool.not_false]
 cases R8 u.path [63,35]<;>simp only [Bool.false_and,Bool.true_and,Bool.not_true,Bool.not_false]
 split
 · simp only [Bool.and_assoc]
 · rfl
def b9j (u:LUrl):Nat:=u.user.length+u.host.length+u.path.length+u.query.length+u.frag.length
def c1s (u:LUrl):Bool:=!R8 u.path [63,35] && if a0f u.scheme then b70 u else a72 u
theorem b71 (u:LUrl) (hs:Tiny u) (b:Bool) (st':St) (q1:IO st' u) (q2:st'.env 52=.val (.bool (b || b37 u))) (res:Bool) (hres:res=(!(b || b37 u) && c1s u)) :
 CD (st'.env 52) (A:=⟨EC Tryz.prog (.seq (.reg [⟨some 2,.mov (.k (.val (.bool false))),none⟩]) .ret) st' (K:=⟨fun e st'=>ET e st' (Ks:=⟨fun st'=>EC Tryz.prog ir273_from2 st' (K:=⟨a1n [.t 2] (.val (.bool res))⟩)⟩) (K:=⟨a1n [.t 2] (.val (.bool res))⟩)⟩)⟩)
     (B:=⟨EC Tryz.prog .skip st' (K:=⟨fun e st'=>ET e st' (Ks:=⟨fun st'=>EC Tryz.prog ir273_from2 st' (K:=⟨a1n [.t 2] (.val (.bool res))⟩)⟩) (K:=⟨a1n [.t 2] (.val (.bool res))⟩)⟩)⟩):=by
 rw [q2]
 cases hbb:(b || b37 u) with
 | true=>
  rw [hbb] at hres
  have:res=false:=hres
  subst this
  simp
 | false=>
  rw [hbb] at hres
  have:res=c1s u:=hres
  subst this
  simp only [B0,I1,B2,H9,B3,x1,B1,I0,p9,D1,J5,J6,l5,w5,w6,o0,B4,w9,p6,H8,A9,w8,w7,G0,G1,a1i,a1j,Option.getD_some,Option.getD_none,E7,x7,u7,F7,u6,u0,F9,u1,F8,F6,F5,K2,z8,u4,F3,z6,u3,F2,E5,F4,z7,F0,t8,z1,F1,K4,K3,E6,E8,u2,E9,A0,u5,D4,q8,E4,E3,E2,J7,y8,s8,D9,y6,q9,D8,D2,E1,y7,D6,q7,y5,D7,J9,J8,D3,y4,t7,D5,y9,t6,M3,M2,N4,M4,M8,M6,M5,N3,M7,M9,N0,N1,N2,B7,B6,B5,O5,O6,C7,I2,x8,G5,A2,N6,x2,T2,P0,N7,Q2,Q4,Q3,T3,T4,L5,L7,L6,L8,L9,P9,A4,P8,G6,G7,G8,A5,a1o,H5,A8,T0,T1,K5,O7,O8,Option.map_some,Option.map_none,G9,A6,A1,u9,G3,G4,K7,K6,Q9,Q8,M1,H6,H7,M0,Q5,Q6,K8,v7,K9,v6,P4,H4,H3,p5,Q1,Q7,L4,P5,P7,P6,A3,C8,D0,C9,l9,Q0,T7,T6,P1,L2,X5,P2,v8,H1,H2,A7,H0,n0,x9,m8,y0,m0,N5,R0,R1,B8,B9,I4,I3,G2]
  refine j1 (fun h=>by cases h) (fun _=>?_)
  simp only [B0,I1,B2,H9,B3,x1,B1,I0,p9,D1,J5,J6,l5,w5,w6,o0,B4,w9,p6,H8,A9,w8,w7,G0,G1,a1i,a1j,Option.getD_some,Option.getD_none,E7,x7,u7,F7,u6,u0,F9,u1,F8,F6,F5,K2,z8,u4,F3,z6,u3,F2,E5,F4,z7,F0,t8,z1,F1,K4,K3,E6,E8,u2,E9,A0,u5,D4,q8,E4,E3,E2,J7,y8,s8,D9,y6,q9,D8,D2,E1,y7,D6,q7,y5,D7,J9,J8,D3,y4,t7,D5,y9,t6,M3,M2,N4,M4,M8,M6,M5,N3,M7,M9,N0,N1,N2,B7,B6,B5,O5,O6,C7,I2,x8,G5,A2,N6,x2,T2,P0,N7,Q2,Q4,Q3,T3,T4,L5,L7,L6,L8,L9,P9,A4,P8,G6,G7,G8,A5,a1o,H5,A8,T0,T1,K5,O7,O8,Option.map_some,Option.map_none,G9,A6,A1,u9,G3,G4,K7,K6,Q9,Q8,M1,H6,H7,M0,Q5,Q6,K8,v7,K9,v6,P4,H4,H3,p5,Q1,Q7,L4,P5,P7,P6,A3,C8,D0,C9,l9,Q0,T7,T6,P1,L2,X5,P2,v8,H1,H2,A7,H0,n0,x9,m8,y0,m0,N5,R0,R1,B8,B9,I4,I3,G2]
  have h30:b37 u=false:=(Bool.or_eq_false_iff.1 hbb).2
  have h36:c31 u=false:=(Bool.or_eq_false_iff.1 h30).2
  unfold c31 at h36
  have hsh:U4 (u.user++u.host++u.path++u.query++u.frag)=true:=by simpa using h36
  simp only [a7j,Bool.and_eq_true] at hsh
  exact c0j u hs.s2 hs.s3 hs.s4 hsh.1.1.1.1 hsh.1.1.2 st' q1
theorem c2k (u:LUrl) (hs:Tiny u):f8 Tryz.prog 273 [.val (X7 u)] (.ret (.val (.bool (S2 u))) []) []:=by
 refine i7 mixed ok273 rfl (fun _=>rfl) ?_
 unfold ir273
 rw [b7]
 have hs':=hs
 obtain ⟨s1,s2,s3,s4,s5,s6,p0,p1⟩:=hs
 have hres:S2 u=(!((!W4 u.scheme || decide (100 < b9j u)) || b37 u) && c1s u):=by
  rw [← c3x,b50]
  have e1:decide (u.user.length+u.host.length+u.path.length+u.query.length+u.frag.length≤100)=!decide (100 < b9j u):=by
   unfold b9j
   by_cases h:u.user.length+u.host.length+u.path.length+u.query.length+u.frag.length≤100
   · rw [decide_eq_true h,decide_eq_false (by omega)];rfl
   · rw [decide_eq_false h,decide_eq_true (by omega)];rfl
  rw [e1]
  unfold c1s
  cases W4 u.scheme<;>cases decide (100 < b9j u)<;>cases b37 u<;>rfl
 simp [i6,j3,j9,b8,f6,X7,tx,num,b9]
 refine b6 rfl rfl (.inl rfl) (c0o u.scheme (by omega)) ?_
 cases b1:W4 u.scheme with
 | false=>
  rw [b1] at hres
  simp [tx,num,b9]
  refine c6s (u:=u) (b:=true) hs' ⟨?_,?_⟩ ?_ (fun st' q1 q2=>b71 u hs' true st' q1 q2 _ hres)
  · simp
  · simp [i8,tx,num]
  · simp
 | true=>
  rw [b1] at hres
  have w1:IntKind.i64.wrap ((u.user.length:Int)+u.host.length)=(u.user.length:Int)+u.host.length:=wrap_i64 (by omega) (by omega)
  have w2:IntKind.i64.wrap ((u.user.length:Int)+u.host.length+u.path.length)=(u.user.length:Int)+u.host.length+u.path.length:=wrap_i64 (by omega) (by omega)
  have w3:IntKind.i64.wrap ((u.user.length:Int)+u.host.length+u.path.length+u.query.length)=(u.user.length:Int)+u.host.length+u.path.length+u.query.length:=wrap_i64 (by omega) (by omega)
  have w4:IntKind.i64.wrap ((u.user.length:Int)+u.host.length+u.path.length+u.query.length+u.frag.length)=(u.user.length:Int)+u.host.length+u.path.length+u.query.length+u.frag.length:=wrap_i64 (by omega) (by omega)
  have e:decide ((100:Int) < (u.user.length:Int)+u.host.length+u.path.length+u.query.length+u.frag.length)=decide (100 < b9j u):=by
   unfold b9j
   by_cases h:100 < u.user.length+u.host.length+u.path.length+u.query.length+u.frag.length
   · rw [decide_eq_true h,decide_eq_true (by omega)]
   · rw [decide_eq_false h,decide_eq_false (by omega)]
  simp [tx,num,b9,w1,w2,w3,w4,e]
  refine c6s (u:=u) (b:=decide (100 < b9j u)) hs' ⟨?_,?_⟩ ?_ (fun st' q1 q2=>b71 u hs' _ st' q1 q2 _ (by rw [hres];rfl))
  · simp
  · simp [i8,tx,num]
  · simp
end Go.Proofs
end
section
namespace Go.Proofs
open Go.PW Go.KP
attribute [local simp] RV.cells RV.one PV.cells PV.solid PV.one x6 j2 J4 I7 RV.ofCells elems PV.killL
variable [GH]
structure IP (st:St) (u:LUrl):Prop where
 e2:st.env 2=.ptr 2 0
 e7:st.env 7=.ptr 7 0
 m2:st.mem 2=.box (i8 LUrl.zero)
 m7:st.mem 7=.box (i8 u)
theorem b33 (u:LUrl) (hs:Tiny u) (st:St) (h:IP st u):EC Tryz.prog ir207_from15 st (K:=prs (u,S2 u)):=by
 unfold ir207_from15
 obtain ⟨e2,e7,m2,m7⟩:=h
 simp [e2,e7,m2,m7,i8,j2,tx,num]
 refine p7 rfl rfl (.inl rfl) (c2k u hs) ?_
 simp [e2,e7,m2,m7,i8,j2,tx,num]
 refine a6c (id:=2) ?_ ?_ ?_
 · simp [e2]
 · simp [e2,i8,tx,num]
 · simp
theorem a4v (sc us ho pa qu fr:Tx) (po:Int) (hq hf:Bool) (hs:Tiny ⟨sc,us,R7 ho,po,pa,qu,fr,hq,hf⟩) (hh:ho.length < 1048577) (st:St) (h:IP st ⟨sc,us,[],po,pa,qu,fr,hq,hf⟩) (e12:st.env 12=.val (tx ho)) :
 EC Tryz.prog ir207_from14 st (K:=prs (⟨sc,us,R7 ho,po,pa,qu,fr,hq,hf⟩,S2 ⟨sc,us,R7 ho,po,pa,qu,fr,hq,hf⟩)):=by
 unfold ir207_from14
 obtain ⟨e2,e7,m2,m7⟩:=h
 simp [e2,e7,m2,m7,e12,i8,j2,tx,num]
 refine b6 rfl rfl (.inl rfl) (c2i ho (by omega)) ?_
 simp [e2,e7,m2,m7,i8,j2,tx,num]
 refine b33 ⟨sc,us,R7 ho,po,pa,qu,fr,hq,hf⟩ hs _ ⟨?_,?_,?_,?_⟩<;>simp [e2,e7,m2,m7,i8,tx,num]
theorem b34 (sc us pa qu fr:Tx) (hq hf:Bool) (h1:sc.length < 1048577) (h2:us.length < 1048577) (h3:pa.length < 1048577) (h4:qu.length < 1048577) (h5:fr.length < 1048577) (r:Tx) (hr:r.length < 1048577) (st:St)
 (h:IP st ⟨sc,us,[],0,pa,qu,fr,hq,hf⟩) (e12:st.env 12=.val (tx (l0 r 58))) (e13:st.env 13=.val (tx (C1 r 58))) (e6:st.env 6=.val (.bool (decide (58∈r)))) :
 EC Tryz.prog ir207_from13 st (K:=prs (U1 ⟨sc,us,R7 (l0 r 58),0,pa,qu,fr,hq,hf⟩ r)):=by
 unfold ir207_from13
 obtain ⟨e2,e7,m2,m7⟩:=h
 have hla:=R9 r 58
 have hlb:=Z0 r 58
 have hll:(R7 (l0 r 58)).length < 1048577:=by simp [R7];omega
 by_cases hc:58∈r
 · simp [e6,e13,hc,tx]
   have hn:=c6y (C1 r 58) (by omega)
   refine X6 rfl rfl (.inl rfl) hn ?_
   cases hb:(a5l (C1 r 58)).2 with
   | false=>
    have hnone:=c3z hb
    rw [show U1 ⟨sc,us,R7 (l0 r 58),0,pa,qu,fr,hq,hf⟩ r=(LUrl.zero,false) by simp only [U1,a1y,hc,hnone,if_true]]
    simp [e2,e7,m2,m7,tx,num,i8]
    refine a0s _ ?_ ?_ ?_
    · simp [e2]
    · simp [i8,LUrl.zero,tx,num,bs]
    · simp
   | true=>
    have hsome:=inum_le hb
    generalize (a5l (C1 r 58)).1=n at *
    simp [e2,e7,m2,m7,tx,num,i8]
    refine b6 rfl rfl (.inl rfl) (R4 n 1 65535) ?_
    by_cases hin:1≤n∧n≤65535
    · rw [decide_eq_true hin]
      simp [e2,e7,m2,m7,tx,num,i8]
      refine b6 rfl rfl (.inl rfl) (c2h sc) ?_
      by_cases hu:n=a0h sc
      · have hl:a1y sc r=some 0:=by
         simp only [a1y,hc,hsome,hin,if_true,and_self]
         rw [if_pos hu]
        rw [show U1 ⟨sc,us,R7 (l0 r 58),0,pa,qu,fr,hq,hf⟩ r=(⟨sc,us,R7 (l0 r 58),0,pa,qu,fr,hq,hf⟩,S2 ⟨sc,us,R7 (l0 r 58),0,pa,qu,fr,hq,hf⟩) by simp only [U1,hl]]
        simp [e2,e7,m2,m7,tx,num,i8,hu]
        refine a4v sc us (l0 r 58) pa qu fr 0 hq hf ⟨h1,h2,hll,h3,h4,h5,by simp,by simp⟩ (by omega) _ ⟨?_,?_,?_,?_⟩ ?_<;>simp [e2,e7,m2,m7,e12,i8,tx,num]
      · have hl:a1y sc r=some n:=by
         simp only [a1y,hc,hsome,hin,if_true,and_self]
         rw [if_neg hu]
        rw [show U1 ⟨sc,us,R7 (l0 r 58),0,pa,qu,fr,hq,hf⟩ r=(⟨sc,us,R7 (l0 r 58),n,pa,qu,fr,hq,hf⟩,S2 ⟨sc,us,R7 (l0 r 58),n,pa,qu,fr,hq,hf⟩) by simp only [U1,hl]]
        simp [e2,e7,m2,m7,tx,num,i8,hu]
        refine a4v sc us (l0 r 58) pa qu fr n hq hf ⟨h1,h2,hll,h3,h4,h5,by show _≤n;omega,by show n≤_;omega⟩ (by omega) _ ⟨?_,?_,?_,?_⟩ ?_<;>simp [e2,e7,m2,m7,e12,i8,tx,num]
    · rw [decide_eq_false hin]
      rw [show U1 ⟨sc,us,R7 (l0 r 58),0,pa,qu,fr,hq,hf⟩ r=(LUrl.zero,false) by simp only [U1,a1y,hc,hsome,hin,if_true,if_false]]
      simp [e2,e7,m2,m7,tx,num,i8]
      refine a0s _ ?_ ?_ ?_
      · simp [e2]
      · simp [i8,LUrl.zero,tx,num,bs]
      · simp
 · have hl:a1y sc r=some 0:=by simp only [a1y,hc,if_false]
   rw [show U1 ⟨sc,us,R7 (l0 r 58),0,pa,qu,fr,hq,hf⟩ r=(⟨sc,us,R7 (l0 r 58),0,pa,qu,fr,hq,hf⟩,S2 ⟨sc,us,R7 (l0 r 58),0,pa,qu,fr,hq,hf⟩) by simp only [U1,hl]]
   simp [e6,hc]
   refine a4v sc us (l0 r 58) pa qu fr 0 hq hf ⟨h1,h2,hll,h3,h4,h5,by simp,by simp⟩ (by omega) _ ⟨?_,?_,?_,?_⟩ ?_<;>simp [e2,e7,m2,m7,e12,i8,tx,num]
theorem a7m (sc us pa qu fr:Tx) (hq hf:Bool) (h1:sc.length < 1048577) (h2:us.length < 1048577) (h3:pa.length < 1048577) (h4:qu.length < 1048577) (h5:fr.length < 1048577) (r:Tx) (hr:r.length < 1048577) (st:St)
 (h:IP st ⟨sc,us,[],0,pa,qu,fr,hq,hf⟩) (e5:st.env 5=.val (tx r)) :
 EC Tryz.prog ir207_from12 st (K:=prs (U1 ⟨sc,us,R7 (l0 r 58),0,pa,qu,fr,hq,hf⟩ r)):=by
 unfold ir207_from12
 obtain ⟨e2,e7,m2,m7⟩:=h
 have q1:(⟨#[58]⟩:ByteArray)=bs [58]:=rfl
 simp [e5,tx,q1]
 refine a1a rfl rfl (.inl rfl) (b3i r 58 (by omega)) ?_
 simp [e5,tx]
 refine b34 sc us pa qu fr hq hf h1 h2 h3 h4 h5 r hr _ ⟨?_,?_,?_,?_⟩ ?_ ?_ ?_<;>simp [e2,e7,m2,m7,i8,tx,num]
theorem a7n (sc pa qu fr:Tx) (hq hf:Bool) (h1:sc.length < 1048577) (h3:pa.length < 1048577) (h4:qu.length < 1048577) (h5:fr.length < 1048577) (r:Tx) (hr:r.length < 1048577) (st:St)
 (h:IP st ⟨sc,[],[],0,pa,qu,fr,hq,hf⟩) (e5:st.env 5=.val (tx r)) :
 EC Tryz.prog ir207_from11 st (K:=prs (b1h sc pa qu fr hq hf r)):=by
 unfold ir207_from11
 obtain ⟨e2,e7,m2,m7⟩:=h
 have q1:(⟨#[64]⟩:ByteArray)=bs [64]:=rfl
 have hla:=R9 r 64
 have hlb:=Z0 r 64
 simp [e5,tx,q1]
 refine a1a rfl rfl (.inl rfl) (b3i r 64 (by omega)) ?_
 unfold b1h
 by_cases hc:64∈r
 · have e:(if 64∈r then C1 r 64 else r)=C1 r 64:=if_pos hc
   rw [if_pos hc,e]
   simp [e5,tx,hc,e2,e7,m2,m7,i8,num]
   refine a7m sc (l0 r 64) pa qu fr hq hf h1 (by omega) h3 h4 h5 (C1 r 64) (by omega) _ ⟨?_,?_,?_,?_⟩ ?_<;>simp [e2,e7,m2,m7,i8,tx,num]
 · have e:(if 64∈r then C1 r 64 else r)=r:=if_neg hc
   rw [if_neg hc,e]
   simp [e5,tx,hc]
   refine a7m sc [] pa qu fr hq hf h1 (by simp) h3 h4 h5 r hr _ ⟨?_,?_,?_,?_⟩ ?_<;>simp [e2,e7,m2,m7,e5,i8,tx,num]
theorem b35 (sc qu fr:Tx) (hq hf:Bool) (h1:sc.length < 1048577) (h4:qu.length < 1048577) (h5:fr.length < 1048577) (r:Tx) (hr:r.length < 1048577) (st:St)
 (h:IP st ⟨sc,[],[],0,[47],qu,fr,hq,hf⟩) (e5:st.env 5=.val (tx r)) :
 EC Tryz.prog ir207_from10 st (K:=prs (a65 sc qu fr hq hf r)):=by
 unfold ir207_from10
 obtain ⟨e2,e7,m2,m7⟩:=h
 have hle:=a0w r 47
 have hla:=R9 r 47
 simp [e5,tx]
 refine b6 rfl rfl (.inl rfl) (b84 r 47) ?_
 unfold a65
 by_cases hc:47∈r
 · rw [if_pos hc]
   simp [e5,tx,num,hc,e2,e7,m2,m7,i8,b9,S4,hle,a3n]
   refine a7n sc (r.drop (L3 r 47)) qu fr hq hf h1 (by simp;omega) h4 h5 (l0 r 47) (by omega) _ ⟨?_,?_,?_,?_⟩ ?_<;>simp [e2,e7,m2,m7,i8,tx,num,l0]
 · rw [if_neg hc]
   simp [e5,tx,num,hc]
   rw [a07 hc]
   refine a7n sc [47] qu fr hq hf h1 (by simp) h4 h5 r hr _ ⟨?_,?_,?_,?_⟩ ?_<;>simp [e2,e7,m2,m7,e5,i8,tx,num]
theorem b54 (sc:Tx) (h1:sc.length < 1048577) (r:Tx) (hr:r.length < 1048577) (st:St) (h:IP st ⟨sc,[],[],0,[],[],[],false,false⟩) (e5:st.env 5=.val (tx r)) :
 EC Tryz.prog ir207_from7 st (K:=prs (a4k sc r)):=by
 unfold ir207_from7
 obtain ⟨e2,e7,m2,m7⟩:=h
 have q1:(⟨#[35]⟩:ByteArray)=bs [35]:=rfl
 have q2:(⟨#[63]⟩:ByteArray)=bs [63]:=rfl
 have q3:(⟨#[47]⟩:ByteArray)=bs [47]:=rfl
 have e:a4k sc r=a65 sc (C1 (l0 r 35) 63) (C1 r 35) (decide (63∈l0 r 35)) (decide (35∈r)) (l0 (l0 r 35) 63):=rfl
 have hl1:=R9 r 35
 have hl2:=Z0 r 35
 have hl3:=R9 (l0 r 35) 63
 have hl4:=Z0 (l0 r 35) 63
 rw [e]
 simp [e5,tx,q1]
 refine a1a rfl rfl (.inl rfl) (b3i r 35 (by omega)) ?_
 simp [e5,tx,q2,e2,e7,m2,m7,i8,num]
 refine a1a rfl rfl (.inl rfl) (b3i (l0 r 35) 63 (by omega)) ?_
 simp [e5,tx,q3,e2,e7,m2,m7,i8,num]
 refine b35 sc (C1 (l0 r 35) 63) (C1 r 35) _ _ h1 (by omega) (by omega) (l0 (l0 r 35) 63) (by omega) _ ⟨?_,?_,?_,?_⟩ ?_<;>simp [e2,e7,m2,m7,i8,tx,num]
theorem prefix2 (r:Tx):([47,47]:Tx).isPrefixOf r=decide (r.take 2=[47,47]):=by
 match r with
 | []=>rfl
 | [a]=>simp [List.isPrefixOf]
 | a :: b :: r=>
  rw [Bool.eq_iff_iff]
  simp [List.isPrefixOf]
  constructor
  · rintro ⟨rfl,rfl⟩;exact ⟨rfl,rfl⟩
  · rintro ⟨rfl,rfl⟩;exact ⟨rfl,rfl⟩
theorem b55 (sc:Tx) (h1:sc.length < 1048577) (r:Tx) (hr:r.length < 1048577) (st:St)
 (h:IP st ⟨sc,[],[],0,[],[],[],false,false⟩) (e5:st.env 5=.val (tx r)):EC Tryz.prog ir207_from4 st (K:=prs (if a0f sc then if r.take 2=[47,47] then a4k sc (r.drop 2) else (LUrl.zero,false) else (⟨sc,[],[],0,l0 (l0 r 35) 63,[],[],false,false⟩,S2 ⟨sc,[],[],0,l0 (l0 r 35) 63,[],[],false,false⟩))):=by
 unfold ir207_from4
 obtain ⟨e2,e7,m2,m7⟩:=h
 have q1:(⟨#[35]⟩:ByteArray)=bs [35]:=rfl
 have q2:(⟨#[63]⟩:ByteArray)=bs [63]:=rfl
 have q3:(⟨#[47,47]⟩:ByteArray)=bs [47,47]:=rfl
 have hl1:=R9 r 35
 have hl3:=R9 (l0 r 35) 63
 simp [e2,e7,m2,m7,tx,num,i8,j2]
 refine b6 rfl rfl (.inl rfl) (b78 ⟨sc,[],[],0,[],[],[],false,false⟩) ?_
 by_cases hw:a0f sc=true
 · rw [if_pos hw]
   simp [e5,tx,hw,q3]
   refine X6 rfl rfl (.inl rfl) (b86 r [47,47]) ?_
   rw [prefix2]
   by_cases ht:r.take 2=[47,47]
   · rw [if_pos ht]
     simp [tx,ht]
     refine b54 sc h1 (r.drop 2) (by simp;omega) _ ⟨?_,?_,?_,?_⟩ ?_<;>simp [e2,e7,m2,m7,i8,tx,num]
   · rw [if_neg ht]
     simp [e2,e7,m2,m7,tx,num,i8,ht]
     refine a0s _ ?_ ?_ ?_
     · simp [e2]
     · simp [i8,LUrl.zero,tx,num,bs]
     · simp
 · rw [if_neg hw]
   simp [e5,tx,hw,q1]
   refine a1a rfl rfl (.inl rfl) (b3i r 35 (by omega)) ?_
   simp [tx,hw,q2]
   refine a1a rfl rfl (.inl rfl) (b3i (l0 r 35) 63 (by omega)) ?_
   simp [e2,e7,m2,m7,tx,num,i8,j2]
   refine p7 rfl rfl (.inl rfl) (c2k ⟨sc,[],[],0,l0 (l0 r 35) 63,[],[],false,false⟩ ⟨h1,by simp,by simp,by show (l0 (l0 r 35) 63).length < _;omega,by simp,by simp,by simp,by simp⟩) ?_
   simp [e2,e7,m2,m7,tx,num,i8,j2]
   refine a6c (id:=2) ?_ ?_ ?_
   · simp [e2]
   · simp [i8,tx,num]
   · simp
theorem i_parse (t:Tx) (ht:t.length < 1048577):f8 Tryz.prog 207 [.val (tx t)] (.ret (a40 (C4 t)) []) []:=by
 refine i7 mixed ok207 rfl (fun _=>rfl) ?_
 unfold ir207
 rw [b7]
 have q1:(⟨#[58]⟩:ByteArray)=bs [58]:=rfl
 have hla:=R9 t 58
 have hlb:=Z0 t 58
 simp [i6,j3,j9,b8,f6,tx,num,q1]
 refine a1a rfl rfl (.inl rfl) (b3i t 58 (by omega)) ?_
 simp [tx,num]
 refine b6 rfl rfl (.inl rfl) (c2i (l0 t 58) (by omega)) ?_
 by_cases hc:58∈t
 · rw [show C4 t=(if a0f (R7 (l0 t 58)) then if (C1 t 58).take 2=[47,47] then a4k (R7 (l0 t 58)) ((C1 t 58).drop 2) else (LUrl.zero,false) else (⟨R7 (l0 t 58),[],[],0,l0 (l0 (C1 t 58) 35) 63,[],[],false,false⟩,S2 ⟨R7 (l0 t 58),[],[],0,l0 (l0 (C1 t 58) 35) 63,[],[],false,false⟩)) by unfold C4;rw [if_pos hc]]
   simp [tx,num,hc]
   refine b55 (R7 (l0 t 58)) (by simp [R7];omega) (C1 t 58) (by omega) _ ⟨?_,?_,?_,?_⟩ ?_<;>simp [i8,tx,num,LUrl.zero,bs]
 · rw [show C4 t=(LUrl.zero,false) by unfold C4;rw [if_neg hc]]
   simp [tx,num,hc]
   refine a0s _ ?_ ?_ ?_
   · simp
   · simp [i8,LUrl.zero,tx,num,bs]
   · simp
end Go.Proofs
end
section
namespace Go.Proofs
open Go.PW Go.KP
attribute [local simp] RV.cells RV.one PV.cells PV.solid PV.one x6 j2 J4 I7 RV.ofCells elems PV.killL
variable [GH]
theorem tiny_of {u:LUrl} (h:u.Tiny):Tiny u:=⟨h.1,h.2.1,h.2.2.1,h.2.2.2.1,h.2.2.2.2.1,h.2.2.2.2.2.1,by have:=h.2.2.2.2.2.2;omega,by have:=h.2.2.2.2.2.2;omega⟩
def c2o (r:LUrl×Int):PV:=.tup [.val (X7 r.1),.val (num r.2)]
theorem a9l {st:St} {s t id:Nat} {u:LUrl} {n:Int} (h1:st.env s=.ptr id 0) (h2:st.mem id=.box (i8 u)) (h5:st.env t=.val (num n)):a02 [.c s true 9,.t t] st.fin=some (c2o (u,n)):=by
 rw [c1x (n:=9) (rs:=b0d u) h1 (by rw [h2,b0e]) rfl (by omega) h5,b4h]
 rfl
def a2e (t:Tx):LUrl×Int:=if t.length≤65536 then if (C4 t).2 then ((C4 t).1,0) else (LUrl.zero,3) else (LUrl.zero,2)
theorem c0u (t:Tx) (ht:t.length < 1048577):f8 Tryz.prog 205 [.val (tx t)] (.ret (c2o (a2e t)) []) []:=by
 refine i7 mixed ok205 rfl (fun _=>rfl) ?_
 unfold ir205
 rw [b7]
 unfold a2e
 simp [i6,j3,j9,b8,f6,tx]
 refine b6 rfl rfl (.inl rfl) (i_long t) ?_
 by_cases hl:t.length≤65536
 · rw [if_pos hl,if_pos hl]
   simp [tx,num]
   refine X6 rfl rfl (.inl rfl) (i_parse t ht) ?_
   cases hok:(C4 t).2 with
   | true=>
    rw [if_pos rfl]
    simp [tx,num,X7,j2]
    refine a9l (id:=2) ?_ ?_ ?_
    · simp
    · simp [i8,tx,num]
    · simp [num]
   | false=>
    rw [if_neg (by simp)]
    simp [tx,num,X7,j2]
    refine a9l (id:=2) ?_ ?_ ?_
    · simp
    · simp [i8,LUrl.zero,tx,num,bs]
    · simp [num]
 · rw [if_neg hl,if_neg hl]
   simp [tx,num]
   refine a9l (id:=2) ?_ ?_ ?_
   · simp
   · simp [i8,LUrl.zero,tx,num,bs]
   · simp [num]
theorem b8v (u:LUrl) (hs:Tiny u) (st:St) (e4:st.env 4=.ptr 4 0) (m4:st.mem 4=.box (i8 { u with frag:=[],hasF:=false })):EC Tryz.prog ir196_from4 st (K:=⟨a1n [.t 2,.t 3] (Y4 (some (a2q { u with frag:=[],hasF:=false })))⟩):=by
 unfold ir196_from4
 obtain ⟨s1,s2,s3,s4,s5,s6,p0,p1⟩:=hs
 have ht:Tiny { u with frag:=[],hasF:=false }:=⟨s1,s2,s3,s4,s5,by simp,p0,p1⟩
 simp [e4,m4,i8,tx,num,j2]
 refine b6 rfl rfl (.inl rfl) (c6v { u with frag:=[],hasF:=false } ht.small p0) ?_
 simp [Y4]
theorem c2j (t:Tx) (ht:t.length < 1048577):f8 Tryz.prog 196 [.val (tx t)] (.ret (Y4 (a16 t)) []) []:=by
 refine i7 mixed ok196 rfl (fun _=>rfl) ?_
 unfold ir196
 rw [b7]
 have htn:=tiny_of (b7r ht)
 have hpu:=c0u t ht
 by_cases hl:t.length≤65536
 · cases hok:(C4 t).2 with
   | false=>
    have e1:a16 t=none:=by unfold a16;rw [if_pos hl,hok];rfl
    have e2:a2e t=(LUrl.zero,3):=by unfold a2e;rw [if_pos hl,hok];rfl
    rw [e1]
    rw [e2] at hpu
    simp [i6,j3,j9,b8,f6,tx]
    refine X6 rfl rfl (.inl rfl) hpu ?_
    simp [tx,num,X7,j2,Y4,bs]
   | true=>
    have e2:a2e t=((C4 t).1,0):=by unfold a2e;rw [if_pos hl,hok];rfl
    rw [e2] at hpu
    cases hw:a0f (C4 t).1.scheme with
    | false=>
     have e1:a16 t=none:=by unfold a16;rw [if_pos hl,hok,hw];rfl
     rw [e1]
     simp [i6,j3,j9,b8,f6,tx]
     refine X6 rfl rfl (.inl rfl) hpu ?_
     simp [tx,num,X7,j2]
     refine b6 rfl rfl (.inl rfl) (b78 (C4 t).1) ?_
     rw [hw]
     simp [tx,num,Y4,bs]
    | true=>
     have e1:a16 t=some (a2q { (C4 t).1 with frag:=[],hasF:=false }):=by unfold a16;rw [if_pos hl,hok,hw];rfl
     rw [e1]
     simp [i6,j3,j9,b8,f6,tx]
     refine X6 rfl rfl (.inl rfl) hpu ?_
     simp [tx,num,X7,j2]
     refine b6 rfl rfl (.inl rfl) (b78 (C4 t).1) ?_
     rw [hw]
     simp [tx,num]
     refine b8v (C4 t).1 htn _ ?_ ?_<;>simp [i8,tx,num,bs]
 · have e1:a16 t=none:=by unfold a16;rw [if_neg hl]
   have e2:a2e t=(LUrl.zero,2):=by unfold a2e;rw [if_neg hl]
   rw [e1]
   rw [e2] at hpu
   simp [i6,j3,j9,b8,f6,tx]
   refine X6 rfl rfl (.inl rfl) hpu ?_
   simp [tx,num,X7,j2,Y4,bs]
structure JT (st:St) (x:LTarget):Prop where
 e1:st.env 1=.ptr 1 0
 m1:st.mem 1=.box [.val (tx x.url),.val (num x.prio),.val (num x.weight)]
theorem c6m {Ks:Kx (St→Prop)} {kx:Kx (RV→St→Prop)} {st:St} {x:LTarget} {b:Bool} (h:JT st x) (hb:st.env 17=.val (.bool b)) (hK:∀ st',st'.env 2=.val (.bool (b && (decide (1≤x.prio∧x.prio≤9) && decide (1≤x.weight∧x.weight≤9))))→Ks.k st'):EO Tryz.prog ir239_o18 st (Ks:=Ks) (kx:=kx):=by
 unfold ir239_o18
 cases b with
 | false=>
  simp [hb]
  exact hK _ (by simp)
 | true=>
  simp [hb,h.e1,h.m1,num]
  refine b6 rfl rfl (.inl rfl) (R4 x.prio 1 9) ?_
  cases hp:decide (1≤x.prio∧x.prio≤9) with
  | false=>
   simp
   exact hK _ (by simp [hp])
  | true=>
   simp [h.e1,h.m1,num]
   refine b6 rfl rfl (.inl rfl) (R4 x.weight 1 9) ?_
   simp
   exact hK _ (by rw [hp];simp)
theorem b2r (x:LTarget) (hx:x.url.length < 1048577):f8 Tryz.prog 239 [.val (j4 x)] (.ret (.val (.bool (P3 x))) []) []:=by
 refine i7 mixed ok239 rfl (fun _=>rfl) ?_
 unfold ir239
 rw [b7,← b52,Bool.and_assoc]
 simp [i6,j3,j9,b8,f6,j4,tx,num]
 refine X6 rfl rfl (.inl rfl) (c2j x.url hx) ?_
 cases hc:a16 x.url with
 | none=>
  simp
  refine c6m (x:=x) (b:=false) ⟨?_,?_⟩ ?_ (fun st' q=>?_)
  · simp
  · simp [tx,num]
  · simp
  · simp [q]
 | some u=>
  simp [tx,I6]
  refine c6m (x:=x) (b:=decide (u=x.url)) ⟨?_,?_⟩ ?_ (fun st' q=>?_)
  · simp
  · simp [tx,num]
  · simp
  · simp [q]
theorem c35 (x:LTarget) (url:Tx):f8 Tryz.prog 334 [.val (j4 x),.box [tx url]] (.ret (.val (.bool (decide (x.url=url)))) []) [[tx url]]:=by
 refine V3 mixed ok334 rfl (fun _=>rfl) ?_
 unfold ir334
 rw [b7]
 simp [i6,j3,j9,b8,f6,j4,tx,num,I6,S7,R6]
theorem b1t {l:List LTarget} {j:Nat} (h:j < l.length):(l.map j4)[j]?.getD .nilptr=j4 l[j]:=by simp [List.getElem?_eq_getElem h]
theorem b59 (l:List LTarget) (g:Nat) (c:RV) (p:LTarget→Bool) (hl:l.length < 1099511627776) (hg:fnB Tryz.prog g=true)
 (hp:∀ x∈l,f8 Tryz.prog g [.val (j4 x),.box [c]] (.ret (.val (.bool (p x))) []) [[c]]) :
 f8 Tryz.prog 299 [.val (.list 3 (l.map j4)),.fn g [.box [c]]] (.ret (.val (num (a0v l p))) []) [[c]]:=by
 refine V3 mixed ok299 rfl (fun _=>rfl) ?_
 unfold ir299
 rw [b7]
 simp [i6,j3,j9,b8,f6,j9,j3]
 refine l3 (X:=Nat) (fun i=>⟨x5 [(0,.val (.list 3 (l.map j4))),(1,.fn g [.ptr 900 0]),(7,.val (num l.length)),(8,.val (num i))],x4 [(900,.box [.val c])]⟩) (fun i=>i≤l.length∧∀ k (hk:k < i) (hk':k < l.length),p l[k]=false) (fun i=>l.length - i) 0 (Le.mk _ _ ?_ ?_) ?_ ?_
 · simp [upd,num]
 · simp
 · simp
 · rintro i ⟨hi,hne⟩
   simp [num]
   refine j1 (fun h1=>?_) (fun h1=>?_)
   · have e1:=b1t h1
     simp [num,h1,e1,j4,tx,hg]
     refine U0 (ids:=[900]) rfl rfl (by simp) (by decide) (by simp [a2g,B0,I1,B2,H9,B3,x1,B1,I0,p9,D1,J5,J6,l5,w5,w6,o0,B4,w9,p6,H8,A9,w8,w7,G0,G1,a1i,a1j,Option.getD_some,Option.getD_none,E7,x7,u7,F7,u6,u0,F9,u1,F8,F6,F5,K2,z8,u4,F3,z6,u3,F2,E5,F4,z7,F0,t8,z1,F1,K4,K3,E6,E8,u2,E9,A0,u5,D4,q8,E4,E3,E2,J7,y8,s8,D9,y6,q9,D8,D2,E1,y7,D6,q7,y5,D7,J9,J8,D3,y4,t7,D5,y9,t6,M3,M2,N4,M4,M8,M6,M5,N3,M7,M9,N0,N1,N2,B7,B6,B5,O5,O6,C7,I2,x8,G5,A2,N6,x2,T2,P0,N7,Q2,Q4,Q3,T3,T4,L5,L7,L6,L8,L9,P9,A4,P8,G6,G7,G8,A5,a1o,H5,A8,T0,T1,K5,O7,O8,Option.map_some,Option.map_none,G9,A6,A1,u9,G3,G4,K7,K6,Q9,Q8,M1,H6,H7,M0,Q5,Q6,K8,v7,K9,v6,P4,H4,H3,p5,Q1,Q7,L4,P5,P7,P6,A3,C8,D0,C9,l9,Q0,T7,T6,P1,L2,X5,P2,v8,H1,H2,A7,H0,n0,x9,m8,y0,m0,N5,R0,R1,B8,B9,I4,I3,G2]) rfl (hp l[i] (List.getElem_mem h1)) ?_
     cases hpi:p l[i] with
     | true=>
      simp [S7,R6]
      rw [Z6 h1 hpi (fun k hk=>hne k hk (by omega))];rfl
     | false=>
      simp
      refine LoopNext.mk (i+1) ⟨by omega,fun k hk hk'=>?_⟩ (by omega) (Le.mk _ _ ?_ ?_)
      · by_cases e:k=i
        · subst e;exact hpi
        · exact hne k (by omega) hk'
      · simp [num];exact wrap_i64 (by omega) (by omega)
      · simp
   · have e:i=l.length:=by omega
     subst e
     simp [num,S7,R6]
     rw [Y3 (fun k hk=>hne k hk hk)]
theorem b09 (l:List LTarget) (g:Nat) (c:RV) (p:LTarget→Bool) (hl:l.length < 1099511627776) (hg:fnB Tryz.prog g=true)
 (hp:∀ x∈l,f8 Tryz.prog g [.val (j4 x),.box [c]] (.ret (.val (.bool (p x))) []) [[c]]) :
 f8 Tryz.prog 237 [.val (.list 3 (l.map j4)),.fn g [.box [c]]] (.ret (.val (.bool (l.any p))) []) [[c]]:=by
 refine V3 mixed ok237 rfl (fun _=>rfl) ?_
 unfold ir237
 rw [b7]
 simp [i6,j3,j9,b8,f6,j9,j3]
 refine U0 (ids:=[900]) rfl rfl (by simp) (by decide) (by simp [a2g,B0,I1,B2,H9,B3,x1,B1,I0,p9,D1,J5,J6,l5,w5,w6,o0,B4,w9,p6,H8,A9,w8,w7,G0,G1,a1i,a1j,Option.getD_some,Option.getD_none,E7,x7,u7,F7,u6,u0,F9,u1,F8,F6,F5,K2,z8,u4,F3,z6,u3,F2,E5,F4,z7,F0,t8,z1,F1,K4,K3,E6,E8,u2,E9,A0,u5,D4,q8,E4,E3,E2,J7,y8,s8,D9,y6,q9,D8,D2,E1,y7,D6,q7,y5,D7,J9,J8,D3,y4,t7,D5,y9,t6,M3,M2,N4,M4,M8,M6,M5,N3,M7,M9,N0,N1,N2,B7,B6,B5,O5,O6,C7,I2,x8,G5,A2,N6,x2,T2,P0,N7,Q2,Q4,Q3,T3,T4,L5,L7,L6,L8,L9,P9,A4,P8,G6,G7,G8,A5,a1o,H5,A8,T0,T1,K5,O7,O8,Option.map_some,Option.map_none,G9,A6,A1,u9,G3,G4,K7,K6,Q9,Q8,M1,H6,H7,M0,Q5,Q6,K8,v7,K9,v6,P4,H4,H3,p5,Q1,Q7,L4,P5,P7,P6,A3,C8,D0,C9,l9,Q0,T7,T6,P1,L2,X5,P2,v8,H1,H2,A7,H0,n0,x9,m8,y0,m0,N5,R0,R1,B8,B9,I4,I3,G2]) rfl (b59 l g c p hl hg hp) ?_
 simp [num,S7,R6]
 exact a4l l p
theorem c61 (l:List LTarget) (url:Tx) (hl:l.length < 1099511627776):f8 Tryz.prog 298 [.val (.list 3 (l.map j4)),.val (tx url)] (.ret (.val (.bool (l.any fun x=>decide (x.url=url)))) []) []:=by
 refine i7 mixed ok298 rfl (fun _=>rfl) ?_
 unfold ir298
 rw [b7]
 simp [i6,j3,j9,b8,f6,tx]
 refine U0 (ids:=[3]) rfl rfl (by simp) (by decide) (by simp [a2g,B0,I1,B2,H9,B3,x1,B1,I0,p9,D1,J5,J6,l5,w5,w6,o0,B4,w9,p6,H8,A9,w8,w7,G0,G1,a1i,a1j,Option.getD_some,Option.getD_none,E7,x7,u7,F7,u6,u0,F9,u1,F8,F6,F5,K2,z8,u4,F3,z6,u3,F2,E5,F4,z7,F0,t8,z1,F1,K4,K3,E6,E8,u2,E9,A0,u5,D4,q8,E4,E3,E2,J7,y8,s8,D9,y6,q9,D8,D2,E1,y7,D6,q7,y5,D7,J9,J8,D3,y4,t7,D5,y9,t6,M3,M2,N4,M4,M8,M6,M5,N3,M7,M9,N0,N1,N2,B7,B6,B5,O5,O6,C7,I2,x8,G5,A2,N6,x2,T2,P0,N7,Q2,Q4,Q3,T3,T4,L5,L7,L6,L8,L9,P9,A4,P8,G6,G7,G8,A5,a1o,H5,A8,T0,T1,K5,O7,O8,Option.map_some,Option.map_none,G9,A6,A1,u9,G3,G4,K7,K6,Q9,Q8,M1,H6,H7,M0,Q5,Q6,K8,v7,K9,v6,P4,H4,H3,p5,Q1,Q7,L4,P5,P7,P6,A3,C8,D0,C9,l9,Q0,T7,T6,P1,L2,X5,P2,v8,H1,H2,A7,H0,n0,x9,m8,y0,m0,N5,R0,R1,B8,B9,I4,I3,G2,tx]) rfl (b09 l 334 (tx url) (fun x=>decide (x.url=url)) hl (by kernel_rfl) (fun x _=>c35 x url)) ?_
 simp
end Go.Proofs
end
section
namespace Go.Proofs
open Go.PW Go.KP
attribute [local simp] RV.cells RV.one PV.cells PV.solid PV.one x6 j2 J4 I7 RV.ofCells elems PV.killL
variable [GH]
theorem any_url (l:List LTarget) (url:Tx):(l.any fun x=>decide (x.url=url))=decide (url∈l.map fun t=>t.url):=by
 rw [Bool.eq_iff_iff]
 simp only [List.any_eq_true,decide_eq_true_eq,List.mem_map]
theorem b0y (l:List LTarget) (hl:l.length < 1099511627776):f8 Tryz.prog 236 [.val (.list 3 (l.map j4))] (.ret (.val (.bool (Y6 l))) []) []:=by
 refine i7 mixed ok236 rfl (fun _=>rfl) ?_
 unfold ir236
 rw [b7]
 simp [i6,j3,j9,b8,f6]
 refine l3 (X:=Nat) (fun i=>⟨x5 [(0,.val (.list 3 (l.map j4))),(5,.val (.list 3 (l.map j4))),(6,.val (num l.length)),(7,.val (num i))],x4 []⟩) (fun i=>i≤l.length∧Y6 (l.take i)=true) (fun i=>l.length - i) 0 (Le.mk _ _ ?_ ?_) ?_ ?_
 · simp [upd,num]
 · simp
 · simp [Y6,U2]
 · rintro i ⟨hi,hinv⟩
   simp [num]
   refine j1 (fun h1=>?_) (fun h1=>?_)
   · have e1:=b1t h1
     simp [num,h1,e1,j4,tx,show i≤l.length by omega]
     have hh:=c61 (l.take i) l[i].url (by simp;omega)
     rw [any_url,List.map_take] at hh
     refine b6 rfl rfl (.inl rfl) hh ?_
     have ht:=a8m l i h1
     by_cases hm:l[i].url∈(l.take i).map fun t=>t.url
     · rw [decide_eq_true hm]
       have:Y6 l=false:=b3u l (i+1) (by rw [ht,hinv,decide_eq_false (fun h=>h hm)];rfl)
       rw [this]
       simp
     · rw [decide_eq_false hm]
       simp
       refine LoopNext.mk (i+1) ⟨by omega,?_⟩ (by omega) (Le.mk _ _ ?_ ?_)
       · rw [ht,hinv,decide_eq_true hm];rfl
       · simp [num];exact wrap_i64 (by omega) (by omega)
       · simp
   · have e:i=l.length:=by omega
     subst e
     rw [List.take_length] at hinv
     rw [hinv]
     simp
def tgs (l:List LPeer):List LTarget:=l.map fun p=>p.target
theorem b0x (l:List LPeer) (hl:l.length < 1099511627776):f8 Tryz.prog 177 [.val (O1 l)] (.ret (.val (.list 3 ((tgs l).map j4))) []) []:=by
 refine i7 mixed ok177 rfl (fun _=>rfl) ?_
 unfold ir177
 rw [b7]
 simp [i6,j3,j9,b8,f6,O1,elems]
 refine l3 (X:=Nat) (fun i=>⟨x5 [(3,.own 6),(7,.val (O1 l)),(8,.val (num l.length)),(9,.val (num i))],x4 [(6,.row 185 3 ((tgs (l.take i)).map j4))]⟩) (fun i=>i≤l.length) (fun i=>l.length - i) 0 (Le.mk _ _ ?_ ?_) ?_ ?_
 · simp [upd,num,O1,PV.kill]
 · simp [upd,tgs]
 · simp
 · intro i hi
   simp [num,O1]
   refine j1 (fun h1=>?_) (fun h1=>?_)
   · have e1:=a8s h1
     rw [List.getD_eq_getElem?_getD] at e1
     have hlen:(tgs (l.take i)).length=i:=by simp [tgs];omega
     have hsucc:(tgs (l.take (i+1))).map j4=(tgs (l.take i)).map j4++[j4 l[i].target]:=by
      unfold tgs
      rw [List.take_add_one,List.getElem?_eq_getElem h1,List.map_append,List.map_append]
      rfl
     simp [num,O1,h1,e1,C6,tx,elems,j2,hlen,RV.one]
     refine ⟨by omega,by omega,?_⟩
     refine LoopNext.mk (i+1) (by omega) (by omega) (Le.mk _ _ ?_ ?_)
     · simp [O1,num];exact wrap_i64 (by omega) (by omega)
     · rw [hsucc]
       simp [j4,num,tx]
   · have e1:i=l.length:=by omega
     subst e1
     simp [num,O1,a00]
structure JP (st:St) (x:LPeer):Prop where
 e1:st.env 1=.ptr 1 0
 m1:st.mem 1=.box (T5 x)
section
variable {Ks:Kx (St→Prop)} {kx:Kx (RV→St→Prop)} {st:St} {x:LPeer} {b:Bool}
theorem c50 (h:JP st x) (hb:st.env 19=.val (.bool b)) (hK:∀ st',st'.env 2=.val (.bool (b || b30 x))→Ks.k st'):EO Tryz.prog ir241_o20 st (Ks:=Ks) (kx:=kx):=by
 unfold ir241_o20
 cases b with
 | true=>
  simp [hb]
  exact hK _ (by simp)
 | false=>
  by_cases h0:x.fails=0
  · by_cases h1:x.retry=0
    · simp [hb,h.e1,h.m1,T5,num,h0,h1]
      exact hK _ (by simp [b30,h0,h1])
    · simp [hb,h.e1,h.m1,T5,num,h0,h1]
      exact hK _ (by simp [b30,h0,h1])
  · simp [hb,h.e1,h.m1,T5,num,h0]
    exact hK _ (by simp [b30,h0])
theorem c52 (h:JP st x) (hb:st.env 13=.val (.bool b)) (hK:∀ st',st'.env 2=.val (.bool (b || c3j x))→Ks.k st'):EO Tryz.prog ir241_o14 st (Ks:=Ks) (kx:=kx):=by
 unfold ir241_o14
 cases b with
 | true=>
  simp [hb]
  refine c50 (x:=x) (b:=true) ⟨?_,?_⟩ ?_ (fun st' q2=>hK st' (by simpa using q2))<;>simp [h.e1,h.m1]
 | false=>
  simp [hb,h.e1,h.m1,T5,num]
  refine b6 rfl rfl (.inl rfl) (R4 x.retry 0 1000032) ?_
  simp [hb]
  refine c50 (x:=x) (b:=!decide (0≤x.retry∧x.retry≤1000032)) ⟨?_,?_⟩ ?_ (fun st' q2=>hK st' (by rw [q2];simp [c3j]))<;>simp [h.e1,h.m1]
theorem qops8 (h:JP st x) (hb:st.env 7=.val (.bool b)) (hK:∀ st',st'.env 2=.val (.bool (b || b9y x))→Ks.k st'):EO Tryz.prog ir241_o8 st (Ks:=Ks) (kx:=kx):=by
 unfold ir241_o8
 cases b with
 | true=>
  simp [hb]
  refine c52 (x:=x) (b:=true) ⟨?_,?_⟩ ?_ (fun st' q2=>hK st' (by simpa using q2))<;>simp [h.e1,h.m1]
 | false=>
  simp [hb,h.e1,h.m1,T5,num]
  refine b6 rfl rfl (.inl rfl) (R4 x.fails 0 1000000) ?_
  simp [hb]
  refine c52 (x:=x) (b:=!decide (0≤x.fails∧x.fails≤1000000)) ⟨?_,?_⟩ ?_ (fun st' q2=>hK st' (by rw [q2];simp [b9y]))<;>simp [h.e1,h.m1]
end
theorem c0t (x:LPeer) (hx:x.target.url.length < 1048577):f8 Tryz.prog 241 [.val (C6 x)] (.ret (.val (.bool (!a3w x))) []) []:=by
 refine i7 mixed ok241 rfl (fun _=>rfl) ?_
 unfold ir241
 rw [b7,b2h,Bool.not_not]
 simp [i6,j3,j9,b8,f6,C6,tx,num,j2]
 refine b6 rfl rfl (.inl rfl) (b2r x.target hx) ?_
 simp
 refine qops8 (x:=x) (b:=!P3 x.target) ⟨?_,?_⟩ ?_ (fun st' q=>?_)
 · simp
 · simp [T5,tx,num]
 · simp
 · simp [q]
theorem b6a (l:List LPeer) (g:Nat) (p:LPeer→Bool) (hl:l.length < 1099511627776) (hg:fnB Tryz.prog g=true)
 (hp:∀ x∈l,f8 Tryz.prog g [.val (C6 x)] (.ret (.val (.bool (p x))) []) []) :
 f8 Tryz.prog 300 [.val (O1 l),.fn g []] (.ret (.val (num (a0v l p))) []) []:=by
 refine i7 mixed ok300 rfl (fun _=>rfl) ?_
 unfold ir300
 rw [b7]
 simp [i6,j3,j9,b8,f6,j9,j3,O1]
 refine l3 (X:=Nat) (fun i=>⟨x5 [(0,.val (O1 l)),(1,.fn g []),(7,.val (num l.length)),(8,.val (num i))],x4 []⟩) (fun i=>i≤l.length∧∀ k (hk:k < i) (hk':k < l.length),p l[k]=false) (fun i=>l.length - i) 0 (Le.mk _ _ ?_ ?_) ?_ ?_
 · simp [upd,num,O1]
 · simp
 · simp
 · rintro i ⟨hi,hne⟩
   simp [num,O1]
   refine j1 (fun h1=>?_) (fun h1=>?_)
   · have e1:=a8s h1
     rw [List.getD_eq_getElem?_getD] at e1
     simp [num,O1,h1,e1,C6,tx,hg]
     refine b6 rfl rfl (.inl rfl) (hp l[i] (List.getElem_mem h1)) ?_
     cases hpi:p l[i] with
     | true=>
      simp
      rw [Z6 h1 hpi (fun k hk=>hne k hk (by omega))];rfl
     | false=>
      simp
      refine LoopNext.mk (i+1) ⟨by omega,fun k hk hk'=>?_⟩ (by omega) (Le.mk _ _ ?_ ?_)
      · by_cases e:k=i
        · subst e;exact hpi
        · exact hne k (by omega) hk'
      · simp [num,O1];exact wrap_i64 (by omega) (by omega)
      · simp
   · have e:i=l.length:=by omega
     subst e
     simp [num]
     rw [Y3 (fun k hk=>hne k hk hk)]
theorem b1a (l:List LPeer) (g:Nat) (p:LPeer→Bool) (hl:l.length < 1099511627776) (hg:fnB Tryz.prog g=true)
 (hp:∀ x∈l,f8 Tryz.prog g [.val (C6 x)] (.ret (.val (.bool (p x))) []) []) :
 f8 Tryz.prog 240 [.val (O1 l),.fn g []] (.ret (.val (.bool (l.any p))) []) []:=by
 refine i7 mixed ok240 rfl (fun _=>rfl) ?_
 unfold ir240
 rw [b7,← a4l l p]
 simp [i6,j3,j9,b8,f6,j9,j3,O1]
 refine b6 rfl rfl (.inl rfl) (b6a l g p hl hg hp) ?_
 simp [num]
theorem c4d (l:List LPeer) (hl:l.length < 1099511627776) (hs:∀ p∈l,p.target.url.length < 1048577):f8 Tryz.prog 175 [.val (O1 l)] (.ret (.val (.bool (Z5 l))) []) []:=by
 refine i7 mixed ok175 rfl (fun _=>rfl) ?_
 unfold ir175
 rw [b7]
 by_cases h4:4 < l.length
 · have h4':(4:Int) < l.length:=by omega
   have e:Z5 l=false:=by
    unfold Z5
    rw [decide_eq_false (by omega)];rfl
   simp [i6,j3,j9,b8,f6,O1,h4',e]
 · have h4':¬ (4:Int) < l.length:=by omega
   have e:Z5 l=(Y6 (tgs l) && !(l.any fun x=>!a3w x)):=by
    unfold Z5 tgs
    rw [decide_eq_true (by omega),b3t,Bool.true_and,Bool.and_comm]
    congr 1
    rw [Bool.eq_iff_iff]
    simp
   rw [e]
   simp [i6,j3,j9,b8,f6,O1,h4']
   refine b6 rfl rfl (.inl rfl) (b0x l hl) ?_
   simp
   refine b6 rfl rfl (.inl rfl) (b0y (tgs l) (by simp [tgs];omega)) ?_
   cases hu:Y6 (tgs l) with
   | false=>simp
   | true=>
    simp only [Bool.true_and]
    simp
    refine b6 rfl rfl (.inl rfl) (b1a l 241 (fun x=>!a3w x) hl (by kernel_rfl) (fun x hx=>c0t x (hs x hx))) ?_
    simp
end Go.Proofs
end
section
namespace Go.Proofs
open Go.PW Go.KP
attribute [local simp] RV.cells RV.one PV.cells PV.solid PV.one x6 j2 J4 I7 RV.ofCells elems PV.killL
variable [GF]
theorem a74 (l:List LTarget) (g:Nat) (p:LTarget→Bool) (hl:l.length < 1099511627776) (hg:fnB Tryz.prog g=true)
 (hp:∀ x∈l,f8 Tryz.prog g [.val (j4 x)] (.ret (.val (.bool (p x))) []) []) :
 f8 Tryz.prog 299 [.val (.list 3 (l.map j4)),.fn g []] (.ret (.val (num (a0v l p))) []) []:=by
 refine i7 mixed ok299 rfl (fun _=>rfl) ?_
 unfold ir299
 rw [b7]
 simp [i6,j3,j9,b8,f6,j9,j3]
 refine l3 (X:=Nat) (fun i=>⟨x5 [(0,.val (.list 3 (l.map j4))),(1,.fn g []),(7,.val (num l.length)),(8,.val (num i))],x4 []⟩) (fun i=>i≤l.length∧∀ k (hk:k < i) (hk':k < l.length),p l[k]=false) (fun i=>l.length - i) 0 (Le.mk _ _ ?_ ?_) ?_ ?_
 · simp [upd,num]
 · simp
 · simp
 · rintro i ⟨hi,hne⟩
   simp [num]
   refine j1 (fun h1=>?_) (fun h1=>?_)
   · have e1:(l.map j4)[i]?.getD .nilptr=j4 l[i]:=by simp [List.getElem?_eq_getElem h1]
     simp [num,h1,e1,j4,tx,num,hg]
     refine b6 rfl rfl (.inl rfl) (hp l[i] (List.getElem_mem h1)) ?_
     cases hpi:p l[i] with
     | true=>
      simp
      rw [Z6 h1 hpi (fun k hk=>hne k hk (by omega))];rfl
     | false=>
      simp
      refine LoopNext.mk (i+1) ⟨by omega,fun k hk hk'=>?_⟩ (by omega) (Le.mk _ _ ?_ ?_)
      · by_cases e:k=i
        · subst e;exact hpi
        · exact hne k (by omega) hk'
      · simp [num];exact wrap_i64 (by omega) (by omega)
      · simp
   · have e:i=l.length:=by omega
     subst e
     simp [num]
     rw [Y3 (fun k hk=>hne k hk hk)]
theorem a54 (l:List LTarget) (g:Nat) (p:LTarget→Bool) (hl:l.length < 1099511627776) (hg:fnB Tryz.prog g=true)
 (hp:∀ x∈l,f8 Tryz.prog g [.val (j4 x)] (.ret (.val (.bool (p x))) []) []) :
 f8 Tryz.prog 237 [.val (.list 3 (l.map j4)),.fn g []] (.ret (.val (.bool (l.any p))) []) []:=by
 refine i7 mixed ok237 rfl (fun _=>rfl) ?_
 unfold ir237
 rw [b7]
 simp [i6,j3,j9,b8,f6,j9,j3]
 refine b6 rfl rfl (.inl rfl) (a74 l g p hl hg hp) ?_
 simp [num]
 exact a4l l p
end Go.Proofs
end
section
namespace Go.Proofs
open Go.PW Go.KP
attribute [local simp] RV.cells RV.one PV.cells PV.solid PV.one x6 j2 J4 I7 RV.ofCells elems PV.killL
variable [GH]
theorem c0v (t:LTarget) (ht:t.url.length < 1048577):f8 Tryz.prog 238 [.val (j4 t)] (.ret (.val (.bool (!P3 t))) []) []:=by
 refine i7 mixed ok238 rfl (fun _=>rfl) ?_
 unfold ir238
 rw [b7]
 have h:=b2r t ht
 simp [i6,j3,j9,b8,f6,j4,tx,num]
 refine b6 rfl rfl (.inl rfl) h ?_
 simp
theorem b6c (g:LGroup) (b1 b2 b3 b4 b5:Bool) (hW:f8 Tryz.prog 185 [.val (tx g.name)] (.ret (.val (.bool b1)) []) []) (hA:f8 Tryz.prog 114 [.val (num g.age),.val (num 1),.val (num 100)] (.ret (.val (.bool b2)) []) [])
 (hT:f8 Tryz.prog 114 [.val (num g.targets.length),.val (num 1),.val (num 4)] (.ret (.val (.bool b3)) []) []) (hU:f8 Tryz.prog 236 [.val (.list 3 (g.targets.map j4))] (.ret (.val (.bool b4)) []) [])
 (hC:f8 Tryz.prog 237 [.val (.list 3 (g.targets.map j4)),.fn 238 []] (.ret (.val (.bool b5)) []) []) :
 f8 Tryz.prog 174 [.val (I8 g)] (.ret (.val (.bool (b1 && b2 && b3 && b4 && !b5))) []) []:=by
 refine i7 mixed ok174 rfl (fun _=>rfl) ?_
 unfold ir174
 rw [b7]
 simp [i6,j3,j9,b8,f6,I8,tx,num]
 refine b6 rfl rfl (.inl rfl) hW ?_
 cases b1 with
 | false=>simp
 | true=>
  simp [num]
  refine b6 rfl rfl (.inl rfl) hA ?_
  cases b2 with
  | false=>simp
  | true=>
   simp [num]
   refine b6 rfl rfl (.inl rfl) hT ?_
   cases b3 with
   | false=>simp
   | true=>
    simp [num]
    refine b6 rfl rfl (.inl rfl) hU ?_
    cases b4 with
    | false=>simp
    | true=>
     simp [num]
     refine b6 rfl rfl (.inl rfl) hC ?_
     cases b5<;>simp
theorem c4e (g:LGroup) (hb:a1l 1048576 g):f8 Tryz.prog 174 [.val (I8 g)] (.ret (.val (.bool (a2p g))) []) []:=by
 have hnl:g.name.length≤1048576:=hb.1
 have htl:g.targets.length≤1048576:=hb.2.1
 have hC:=a54 g.targets 238 (fun t=>!P3 t) (by omega) (by kernel_rfl) (fun x hx=>c0v x (by have:=hb.2.2 x hx;unfold V1 at this;omega))
 have h:=b6c g _ _ _ _ _ (b2s g.name (by omega)) (R4 g.age 1 100) (R4 g.targets.length 1 4) (b0y g.targets (by omega)) hC
 have q3:(1≤g.targets.length∧g.targets.length≤4)↔((1:Int)≤g.targets.length∧(g.targets.length:Int)≤4):=by omega
 have e:a2p g=(a0z g.name && decide (1≤g.age∧g.age≤100) && decide ((1:Int)≤g.targets.length∧(g.targets.length:Int)≤4) && Y6 g.targets && !(g.targets.any fun t=>!P3 t)):=by
  unfold a2p
  rw [decide_eq_decide.2 q3,b48,List.not_any_eq_all_not]
  simp only [Bool.not_not]
  cases a0z g.name<;>cases decide (1≤g.age∧g.age≤100)<;>cases decide ((1:Int)≤g.targets.length∧(g.targets.length:Int)≤4)<;>cases g.targets.all P3<;>simp
 rw [e]
 exact h
end Go.Proofs
end
