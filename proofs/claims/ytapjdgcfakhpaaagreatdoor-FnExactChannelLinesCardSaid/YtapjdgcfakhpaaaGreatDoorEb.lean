/- Eb: merged out of KIf, KIg, KIh, KIi, KIq, KIw. -/
import Derived.Test.YtapjdgcfakhpaaaGreatDoorEa
import Derived.Test.YtapjdgcfakhpaaaGreatDoorBa
import Derived.Test.YtapjdgcfakhpaaaGreatDoorCa
import Derived.Test.YtapjdgcfakhpaaaGreatDoorAc
set_option linter.unusedSectionVars false
set_option linter.unusedSimpArgs false
set_option linter.unusedVariables false
set_option maxRecDepth 100000
section
namespace Go.Proofs
open Go.PW Go.KP
attribute [local simp] RV.cells RV.one PV.cells PV.solid PV.one G6 i7 M3 L4 RV.ofCells elems PV.killL
variable [GH]
structure IO (st:St) (u:LUrl):Prop where
 e1:st.env 1=.ptr 1 0
 m1:st.mem 1=.box (f5 u)
section
variable {Ks:Kx (St→Prop)} {kx:Kx (RV→St→Prop)} {st:St} {u:LUrl} {b:Bool}
def c1u (u:LUrl):Bool:=u.hasF || decide (u.frag=[])
theorem b9t (h:IO st u) (hb:st.env 108=.val (.bool b)) (hK:∀ st',IO st' u→st'.env 116=.val (.bool (b && c1u u))→Ks.k st'):EX Tryz.prog ir273_o109 st (Ks:=Ks):=by
 unfold ir273_o109
 have e3:(⟨#[]⟩:ByteArray)=bs []:=rfl
 cases b with
 | false=>
  simp [hb]
  refine hK _ ⟨?_,?_⟩ ?_<;>simp [h.e1,h.m1]
 | true=>
  cases hf:u.hasF with
  | true=>
   simp [hb,h.e1,h.m1,f5,tx,num,hf]
   refine hK _ ⟨?_,?_⟩ ?_<;>simp [h.e1,h.m1,c1u,hf]
  | false=>
   simp [hb,h.e1,h.m1,f5,tx,num,hf,e3,L7]
   refine hK _ ⟨?_,?_⟩ ?_<;>simp [h.e1,h.m1,c1u,hf]
def c1v (u:LUrl):Bool:=(u.hasQ || decide (u.query=[])) && c1u u
theorem c6l (h:IO st u) (hb:st.env 99=.val (.bool b)) (hK:∀ st',IO st' u→st'.env 116=.val (.bool (b && c1v u))→Ks.k st'):EX Tryz.prog ir273_o100 st (Ks:=Ks):=by
 unfold ir273_o100
 have e3:(⟨#[]⟩:ByteArray)=bs []:=rfl
 cases b with
 | false=>
  simp [hb]
  refine b9t (u:=u) (b:=false) ⟨?_,?_⟩ ?_ (fun st' q1 q2=>hK st' q1 (by simpa using q2))<;>simp [h.e1,h.m1]
 | true=>
  cases hq:u.hasQ with
  | true=>
   simp [hb,h.e1,h.m1,f5,tx,num,hq]
   refine b9t (u:=u) (b:=true) ⟨?_,?_⟩ ?_ (fun st' q1 q2=>hK st' q1 (by rw [q2];simp [c1v,hq]))<;>simp [h.e1,h.m1]
  | false=>
   simp [hb,h.e1,h.m1,f5,tx,num,hq,e3,L7]
   refine b9t (u:=u) (b:=decide (u.query=[])) ⟨?_,?_⟩ ?_ (fun st' q1 q2=>hK st' q1 (by rw [q2];simp [c1v,hq]))<;>simp [h.e1,h.m1]
def ib94 (u:LUrl):Bool:=!decide (35∈u.query) && c1v u
theorem d0o (h:IO st u) (hb:st.env 93=.val (.bool b)) (hK:∀ st',IO st' u→st'.env 116=.val (.bool (b && ib94 u))→Ks.k st'):EX Tryz.prog ir273_o94 st (Ks:=Ks):=by
 unfold ir273_o94
 have e3:(⟨#[35]⟩:ByteArray)=bs [35]:=rfl
 have e4:(⟨#[47]⟩:ByteArray)=bs [47]:=rfl
 cases b with
 | false=>
  simp [hb]
  refine c6l (u:=u) (b:=false) ⟨?_,?_⟩ ?_ (fun st' q1 q2=>hK st' q1 (by simpa using q2))<;>simp [h.e1,h.m1]
 | true=>
  simp [hb,h.e1,h.m1,f5,tx,num,e3,e4]
  refine l6 rfl rfl (.inl rfl) (c5r u.query 35) ?_
  simp [hb,h.e1,h.m1,f5,tx,num]
  refine c6l (u:=u) (b:=!decide (35∈u.query)) ⟨?_,?_⟩ ?_ (fun st' q1 q2=>hK st' q1 (by rw [q2];simp [ib94]))<;>simp [h.e1,h.m1,bne]
def ib89 (u:LUrl):Bool:=([47]:Tx).isPrefixOf u.path && ib94 u
theorem d0p (h:IO st u) (hb:st.env 88=.val (.bool b)) (hK:∀ st',IO st' u→st'.env 116=.val (.bool (b && ib89 u))→Ks.k st'):EX Tryz.prog ir273_o89 st (Ks:=Ks):=by
 unfold ir273_o89
 have e3:(⟨#[35]⟩:ByteArray)=bs [35]:=rfl
 have e4:(⟨#[47]⟩:ByteArray)=bs [47]:=rfl
 cases b with
 | false=>
  simp [hb]
  refine d0o (u:=u) (b:=false) ⟨?_,?_⟩ ?_ (fun st' q1 q2=>hK st' q1 (by simpa using q2))<;>simp [h.e1,h.m1]
 | true=>
  simp [hb,h.e1,h.m1,f5,tx,num,e3,e4]
  refine l6 rfl rfl (.inl rfl) (c2z u.path [47]) ?_
  simp [hb,h.e1,h.m1,f5,tx,num]
  refine d0o (u:=u) (b:=([47]:Tx).isPrefixOf u.path) ⟨?_,?_⟩ ?_ (fun st' q1 q2=>hK st' q1 (by rw [q2];simp [ib89]))<;>simp [h.e1,h.m1,bne]
def ib81 (u:LUrl):Bool:=!(u.port == a02 u.scheme) && ib89 u
theorem d0q (h:IO st u) (hb:st.env 80=.val (.bool b)) (hK:∀ st',IO st' u→st'.env 116=.val (.bool (b && ib81 u))→Ks.k st'):EX Tryz.prog ir273_o81 st (Ks:=Ks):=by
 unfold ir273_o81
 have e3:(⟨#[35]⟩:ByteArray)=bs [35]:=rfl
 have e4:(⟨#[47]⟩:ByteArray)=bs [47]:=rfl
 cases b with
 | false=>
  simp [hb]
  refine d0p (u:=u) (b:=false) ⟨?_,?_⟩ ?_ (fun st' q1 q2=>hK st' q1 (by simpa using q2))<;>simp [h.e1,h.m1]
 | true=>
  simp [hb,h.e1,h.m1,f5,tx,num,e3,e4]
  refine l6 rfl rfl (.inl rfl) (c6n u.scheme) ?_
  simp [hb,h.e1,h.m1,f5,tx,num]
  refine d0p (u:=u) (b:=!(u.port == a02 u.scheme)) ⟨?_,?_⟩ ?_ (fun st' q1 q2=>hK st' q1 (by rw [q2];simp [ib81]))<;>simp [h.e1,h.m1,bne]
def d0u (u:LUrl):Bool:=decide (0≤u.port∧u.port≤65535) && ib81 u
theorem d0r (h:IO st u) (hb:st.env 75=.val (.bool b)) (hK:∀ st',IO st' u→st'.env 116=.val (.bool (b && d0u u))→Ks.k st'):EX Tryz.prog ir273_o76 st (Ks:=Ks):=by
 unfold ir273_o76
 have e3:(⟨#[35]⟩:ByteArray)=bs [35]:=rfl
 have e4:(⟨#[47]⟩:ByteArray)=bs [47]:=rfl
 cases b with
 | false=>
  simp [hb]
  refine d0q (u:=u) (b:=false) ⟨?_,?_⟩ ?_ (fun st' q1 q2=>hK st' q1 (by simpa using q2))<;>simp [h.e1,h.m1]
 | true=>
  simp [hb,h.e1,h.m1,f5,tx,num,e3,e4]
  refine l6 rfl rfl (.inl rfl) (R9 u.port 0 65535) ?_
  simp [hb,h.e1,h.m1,f5,tx,num]
  refine d0q (u:=u) (b:=decide (0≤u.port∧u.port≤65535)) ⟨?_,?_⟩ ?_ (fun st' q1 q2=>hK st' q1 (by rw [q2];simp [d0u]))<;>simp [h.e1,h.m1,bne]
end
def c1o (u:LUrl):Bool:=(!S1 u.user [47,63,35,64] && a2i u.host) && d0u u
theorem c4g (u:LUrl) (h2:u.user.length < 1048577) (h3:u.host.length < 1048577) (hsh:U1 u.user=true) (st:St) (h:IO st u):EC Tryz.prog ir273_from4 st (K:=⟨a2m [.t 2] (.val (.bool (c1o u)))⟩):=by
 unfold ir273_from4
 have e3:(⟨#[47,63,35,64]⟩:ByteArray)=bs [47,63,35,64]:=rfl
 have hend:∀ b,b=(!S1 u.user [47,63,35,64] && a2i u.host)→∀ st',IO st' u→st'.env 116=.val (.bool (b && d0u u))→a2m [.t 2] (.val (.bool (c1o u))) .ret ⟨upd 2 (st'.env 116) st'.env,st'.mem⟩:=fun b hb st' q1 q2=>by
  rw [q2,hb]
  simp [c1o]
 simp [h.e1,h.m1,f5,tx,num,e3]
 refine l6 rfl rfl (.inl rfl) (a94 u.user [47,63,35,64] (by omega) (by simp) hsh (by decide)) ?_
 cases hu:S1 u.user [47,63,35,64] with
 | true=>
  simp [h.e1,h.m1,f5,tx,num]
  refine d0r (u:=u) (b:=false) ⟨?_,?_⟩ ?_ (fun st' q1 q2=>?_)
  · simp [h.e1]
  · simp [h.m1]
  · simp
  · simp only [y8,G1,z1,F9,z6,s8,y9,G0,l9,B1,H1,H2,j7,p8,p9,l1,z7,q9,l3,F8,y7,q8,q7,D9,E1,a05,a06,Option.getD_some,Option.getD_none,C6,u6,o8,D6,o7,o0,D8,o2,D7,D5,D4,H6,x3,o5,D2,x1,o4,D1,C4,D3,x2,C9,n9,w9,D0,H8,H7,C5,C7,o3,C8,x4,o6,B4,n0,C3,C2,C1,H3,w7,n6,B9,w5,n5,B8,B2,C0,w6,B6,m8,v8,B7,H5,H4,B3,v7,n8,B5,w8,n7,J6,J5,K9,J7,K3,J9,J8,K8,K2,K4,K5,K6,K7,A1,A0,z8,M5,M6,A4,G2,u7,E5,x7,L3,t6,Q6,M9,M0,O1,O3,O2,Q7,Q8,I8,J0,I9,J1,J2,N8,x9,N7,E6,E7,E8,y0,a09,F5,y6,Q4,Q5,H9,M7,M8,Option.map_some,Option.map_none,E9,y4,x6,o9,E3,E4,I2,I1,O8,O7,J4,F6,F7,J3,O4,O5,I4,p6,I5,p5,N2,F4,F3,l2,O0,O6,I7,N4,N6,N5,x8,A8,B0,A9,k7,N9,R0,Q9,N0,I6,U8,N1,p7,F1,F2,y5,F0,l0,u9,k9,v6,k8,L2,O9,P0,A2,A3,G4,G3,E2]
    exact hend false (by rw [hu];rfl) st' q1 q2
 | false=>
  simp [h.e1,h.m1,f5,tx,num]
  refine l6 rfl rfl (.inl rfl) (d02 u.host (by omega)) ?_
  simp [h.e1,h.m1,f5,tx,num]
  refine d0r (u:=u) (b:=a2i u.host) ⟨?_,?_⟩ ?_ (fun st' q1 q2=>?_)
  · simp [h.e1]
  · simp [h.m1]
  · simp
  · simp only [y8,G1,z1,F9,z6,s8,y9,G0,l9,B1,H1,H2,j7,p8,p9,l1,z7,q9,l3,F8,y7,q8,q7,D9,E1,a05,a06,Option.getD_some,Option.getD_none,C6,u6,o8,D6,o7,o0,D8,o2,D7,D5,D4,H6,x3,o5,D2,x1,o4,D1,C4,D3,x2,C9,n9,w9,D0,H8,H7,C5,C7,o3,C8,x4,o6,B4,n0,C3,C2,C1,H3,w7,n6,B9,w5,n5,B8,B2,C0,w6,B6,m8,v8,B7,H5,H4,B3,v7,n8,B5,w8,n7,J6,J5,K9,J7,K3,J9,J8,K8,K2,K4,K5,K6,K7,A1,A0,z8,M5,M6,A4,G2,u7,E5,x7,L3,t6,Q6,M9,M0,O1,O3,O2,Q7,Q8,I8,J0,I9,J1,J2,N8,x9,N7,E6,E7,E8,y0,a09,F5,y6,Q4,Q5,H9,M7,M8,Option.map_some,Option.map_none,E9,y4,x6,o9,E3,E4,I2,I1,O8,O7,J4,F6,F7,J3,O4,O5,I4,p6,I5,p5,N2,F4,F3,l2,O0,O6,I7,N4,N6,N5,x8,A8,B0,A9,k7,N9,R0,Q9,N0,I6,U8,N1,p7,F1,F2,y5,F0,l0,u9,k9,v6,k8,L2,O9,P0,A2,A3,G4,G3,E2]
    exact hend _ (by rw [hu];simp) st' q1 q2
def b0h (u:LUrl):Bool:=decide (u.user=[]) && decide (u.host=[]) && decide (u.port=0) && decide (u.query=[]) && decide (u.frag=[]) && !u.hasQ && !u.hasF
theorem c2d (u:LUrl):P4 [0,0,0,2,0,0,0,1,1] (b21 u) [tx u.scheme,tx [],tx [],num 0,tx u.path,tx [],tx [],.bool false,.bool false]=some (b0h u):=by
 simp only [b21,P4,a4y,tx,num,L7,if_true,decide_true]
 unfold b0h
 have e:(u.port == 0)=decide (u.port=0):=by rw [Bool.eq_iff_iff];simp
 rw [e]
 cases decide (u.user=[])<;>cases decide (u.host=[])<;>cases decide (u.port=0)<;>cases decide (u.query=[])<;>cases decide (u.frag=[])<;>cases u.hasQ<;>cases u.hasF<;>rfl
theorem c4h (u:LUrl) (h2:u.user.length < 1048577) (h3:u.host.length < 1048577) (hsh:U1 u.user=true) (st:St) (h:IO st u):EC Tryz.prog ir273_from3 st (K:=⟨a2m [.t 2] (.val (.bool (if a0x u.scheme then c1o u else b0h u)))⟩):=by
 unfold ir273_from3
 have e3:(⟨#[]⟩:ByteArray)=bs []:=rfl
 simp [h.e1,h.m1,f5,tx,num,i7]
 refine b7 rfl rfl (.inl rfl) (c1w u) ?_
 cases hw:a0x u.scheme with
 | true=>
  simp
  rw [if_pos rfl]
  refine c4g u h2 h3 hsh _ ⟨?_,?_⟩<;>simp [h.e1,h.m1]
 | false=>
  rw [if_neg (by simp)]
  have hq:=c2d u
  simp only [b21,tx,num] at hq
  simp [h.e1,h.m1,f5,tx,num,i7,e3,hq,a31]
theorem c4i (u:LUrl) (h2:u.user.length < 1048577) (h3:u.host.length < 1048577) (h4:u.path.length < 1048577) (hsh:U1 u.user=true) (hsp:U1 u.path=true) (st:St) (h:IO st u):EC Tryz.prog ir273_from2 st (K:=⟨a2m [.t 2] (.val (.bool (!S1 u.path [63,35] && if a0x u.scheme then c1o u else b0h u)))⟩):=by
 unfold ir273_from2
 have e3:(⟨#[63,35]⟩:ByteArray)=bs [63,35]:=rfl
 simp [h.e1,h.m1,f5,tx,num,e3]
 refine b7 rfl rfl (.inl rfl) (a94 u.path [63,35] (by omega) (by simp) hsp (by decide)) ?_
 cases hp:S1 u.path [63,35] with
 | true=>simp
 | false=>
  simp only [Bool.not_false,Bool.true_and]
  simp
  refine c4h u h2 h3 hsh _ ⟨?_,?_⟩<;>simp [h.e1,h.m1]
section
variable {Ks:Kx (St→Prop)} {kx:Kx (RV→St→Prop)} {st:St} {u:LUrl} {b:Bool}
structure Tiny (u:LUrl):Prop where
 s1:u.scheme.length < 1048577
 s2:u.user.length < 1048577
 s3:u.host.length < 1048577
 s4:u.path.length < 1048577
 s5:u.query.length < 1048577
 s6:u.frag.length < 1048577
 p0:-9223372036854775808≤u.port
 p1:u.port≤9223372036854775807
theorem Tiny.small (h:Tiny u):u.Small:=by
 obtain ⟨s1,s2,s3,s4,s5,s6,p0,p1⟩:=h
 exact ⟨by omega,by omega,by omega,by omega,by omega,by omega,p1⟩
def c7y (u:LUrl):Bool:=!U1 (u.user++u.host++u.path++u.query++u.frag)
theorem d0s (hs:Tiny u) (h:IO st u) (hb:st.env 35=.val (.bool b)) (hK:∀ st',IO st' u→st'.env 52=.val (.bool (b || c7y u))→Ks.k st'):EO Tryz.prog ir273_o36 st (Ks:=Ks) (kx:=kx):=by
 unfold ir273_o36
 obtain ⟨s1,s2,s3,s4,s5,s6,p0,p1⟩:=hs
 cases b with
 | true=>
  simp [hb]
  refine hK _ ⟨?_,?_⟩ ?_<;>simp [h.e1,h.m1]
 | false=>
  simp [hb,h.e1,h.m1,f5,tx,num,b8,l4]
  refine ⟨by omega,by omega,by omega,by omega,?_⟩
  refine b7 rfl rfl (.inl rfl) (c4p (u.user++(u.host++(u.path++(u.query++u.frag)))) (by simp;omega)) ?_
  simp [hb]
  refine hK _ ⟨?_,?_⟩ ?_<;>simp [h.e1,h.m1,c7y]
def b7m (u:LUrl):Bool:=decide (100 < (a3m u).length) || c7y u
theorem d0t (hs:Tiny u) (h:IO st u) (hb:st.env 29=.val (.bool b)) (hK:∀ st',IO st' u→st'.env 52=.val (.bool (b || b7m u))→Ks.k st'):EO Tryz.prog ir273_o30 st (Ks:=Ks) (kx:=kx):=by
 unfold ir273_o30
 cases b with
 | true=>
  simp [hb]
  refine d0s (u:=u) (b:=true) hs ⟨?_,?_⟩ ?_ (fun st' q1 q2=>hK st' q1 (by simpa using q2))<;>simp [h.e1,h.m1]
 | false=>
  have e:((100:Int) < ((a3m u).length:Int))↔100 < (a3m u).length:=by omega
  simp [hb,h.e1,h.m1,f5,tx,num,i7]
  refine b7 rfl rfl (.inl rfl) (d0x u hs.small hs.p0) ?_
  simp [hb,tx,b8,e]
  refine d0s (u:=u) (b:=decide (100 < (a3m u).length)) hs ⟨?_,?_⟩ ?_ (fun st' q1 q2=>hK st' q1 (by rw [q2];simp [b7m]))<;>simp [h.e1,h.m1]
end
theorem b9n (u:LUrl):b2l u=(W3 u.scheme && decide (u.user.length+u.host.length+u.path.length+u.query.length+u.frag.length≤100) && !b7m u && (!S1 u.path [63,35] && if a0x u.scheme then c1o u else b0h u)):=by
 unfold b2l b7m c7y c1o b0h d0u ib81 ib89 ib94 c1v c1u
 have e1:decide ((a3m u).length≤100)=!decide (100 < (a3m u).length):=by
  by_cases h:(a3m u).length≤100
  · rw [decide_eq_true h,decide_eq_false (by omega)];rfl
  · rw [decide_eq_false h,decide_eq_true (by omega)];rfl
 have e2:([47]:Tx).isPrefixOf u.path=(decide (0 < u.path.length) && decide ((u.path.getD 0 0).toNat=47)):=by
  cases u.path with
  | nil=>rfl
  | cons c r=>
   rw [Bool.eq_iff_iff]
   simp
   constructor
   · intro h;rw [← h];rfl
   · intro h;exact (UInt8.toNat_inj.1 (by rw [h];rfl)).symm
 have e3:(u.port == a02 u.scheme)=decide (u.port=a02 u.scheme):=by rw [Bool.eq_iff_iff];simp
 have e4:decide (u.port≠a02 u.scheme)=!decide (u.port=a02 u.scheme):=by simp
 have e5:S1 u.query [35]=decide (35∈u.query):=by
  rw [Bool.eq_iff_iff]
  simp [S1]
 rw [e1,e2,e3,e4,e5]
 cases W3 u.scheme<;>simp only [Bool.false_and,Bool.true_and]
 cases decide (u.user.length+u.host.length+u.path.length+u.query.length+u.frag.length≤100)<;>simp only [Bool.false_and,Bool.true_and]
 cases decide (100 < (a3m u).length)<;>simp only [Bool.false_and,Bool.true_and,Bool.not_true,Bool.not_false,Bool.true_or,Bool.false_or]
 cases U1 (u.user++u.host++u.path++u.query++u.frag)<;>simp only [Bool.false_and,Bool.true_and,Bool.not_true,Bool.not_false]
 cases S1 u.path [63,35]<;>simp only [Bool.false_and,Bool.true_and,Bool.not_true,Bool.not_false]
 split
 · simp only [Bool.and_assoc]
 · rfl
def c3e (u:LUrl):Nat:=u.user.length+u.host.length+u.path.length+u.query.length+u.frag.length
def c5x (u:LUrl):Bool:=!S1 u.path [63,35] && if a0x u.scheme then c1o u else b0h u
theorem c1p (u:LUrl) (hs:Tiny u) (b:Bool) (st':St) (q1:IO st' u) (q2:st'.env 52=.val (.bool (b || b7m u))) (res:Bool) (hres:res=(!(b || b7m u) && c5x u)) :
 CD (st'.env 52) (A:=⟨EC Tryz.prog (.seq (.reg [⟨some 2,.mov (.k (.val (.bool false))),none⟩]) .ret) st' (K:=⟨fun e st'=>ET e st' (Ks:=⟨fun st'=>EC Tryz.prog ir273_from2 st' (K:=⟨a2m [.t 2] (.val (.bool res))⟩)⟩) (K:=⟨a2m [.t 2] (.val (.bool res))⟩)⟩)⟩)
     (B:=⟨EC Tryz.prog .skip st' (K:=⟨fun e st'=>ET e st' (Ks:=⟨fun st'=>EC Tryz.prog ir273_from2 st' (K:=⟨a2m [.t 2] (.val (.bool res))⟩)⟩) (K:=⟨a2m [.t 2] (.val (.bool res))⟩)⟩)⟩):=by
 rw [q2]
 cases hbb:(b || b7m u) with
 | true=>
  rw [hbb] at hres
  have:res=false:=hres
  subst this
  simp
 | false=>
  rw [hbb] at hres
  have:res=c5x u:=hres
  subst this
  simp only [y8,G1,z1,F9,z6,s8,y9,G0,l9,B1,H1,H2,j7,p8,p9,l1,z7,q9,l3,F8,y7,q8,q7,D9,E1,a05,a06,Option.getD_some,Option.getD_none,C6,u6,o8,D6,o7,o0,D8,o2,D7,D5,D4,H6,x3,o5,D2,x1,o4,D1,C4,D3,x2,C9,n9,w9,D0,H8,H7,C5,C7,o3,C8,x4,o6,B4,n0,C3,C2,C1,H3,w7,n6,B9,w5,n5,B8,B2,C0,w6,B6,m8,v8,B7,H5,H4,B3,v7,n8,B5,w8,n7,J6,J5,K9,J7,K3,J9,J8,K8,K2,K4,K5,K6,K7,A1,A0,z8,M5,M6,A4,G2,u7,E5,x7,L3,t6,Q6,M9,M0,O1,O3,O2,Q7,Q8,I8,J0,I9,J1,J2,N8,x9,N7,E6,E7,E8,y0,a09,F5,y6,Q4,Q5,H9,M7,M8,Option.map_some,Option.map_none,E9,y4,x6,o9,E3,E4,I2,I1,O8,O7,J4,F6,F7,J3,O4,O5,I4,p6,I5,p5,N2,F4,F3,l2,O0,O6,I7,N4,N6,N5,x8,A8,B0,A9,k7,N9,R0,Q9,N0,I6,U8,N1,p7,F1,F2,y5,F0,l0,u9,k9,v6,k8,L2,O9,P0,A2,A3,G4,G3,E2]
  refine f7 (fun h=>by cases h) (fun _=>?_)
  simp only [y8,G1,z1,F9,z6,s8,y9,G0,l9,B1,H1,H2,j7,p8,p9,l1,z7,q9,l3,F8,y7,q8,q7,D9,E1,a05,a06,Option.getD_some,Option.getD_none,C6,u6,o8,D6,o7,o0,D8,o2,D7,D5,D4,H6,x3,o5,D2,x1,o4,D1,C4,D3,x2,C9,n9,w9,D0,H8,H7,C5,C7,o3,C8,x4,o6,B4,n0,C3,C2,C1,H3,w7,n6,B9,w5,n5,B8,B2,C0,w6,B6,m8,v8,B7,H5,H4,B3,v7,n8,B5,w8,n7,J6,J5,K9,J7,K3,J9,J8,K8,K2,K4,K5,K6,K7,A1,A0,z8,M5,M6,A4,G2,u7,E5,x7,L3,t6,Q6,M9,M0,O1,O3,O2,Q7,Q8,I8,J0,I9,J1,J2,N8,x9,N7,E6,E7,E8,y0,a09,F5,y6,Q4,Q5,H9,M7,M8,Option.map_some,Option.map_none,E9,y4,x6,o9,E3,E4,I2,I1,O8,O7,J4,F6,F7,J3,O4,O5,I4,p6,I5,p5,N2,F4,F3,l2,O0,O6,I7,N4,N6,N5,x8,A8,B0,A9,k7,N9,R0,Q9,N0,I6,U8,N1,p7,F1,F2,y5,F0,l0,u9,k9,v6,k8,L2,O9,P0,A2,A3,G4,G3,E2]
  have h30:b7m u=false:=(Bool.or_eq_false_iff.1 hbb).2
  have h36:c7y u=false:=(Bool.or_eq_false_iff.1 h30).2
  unfold c7y at h36
  have hsh:U1 (u.user++u.host++u.path++u.query++u.frag)=true:=by simpa using h36
  simp only [a9w,Bool.and_eq_true] at hsh
  exact c4i u hs.s2 hs.s3 hs.s4 hsh.1.1.1.1 hsh.1.1.2 st' q1
theorem c6q (u:LUrl) (hs:Tiny u):d8 Tryz.prog 273 [.val (X5 u)] (.ret (.val (.bool (R6 u))) []) []:=by
 refine f8 mixed ok273 rfl (fun _=>rfl) ?_
 unfold ir273
 rw [b6]
 have hs':=hs
 obtain ⟨s1,s2,s3,s4,s5,s6,p0,p1⟩:=hs
 have hres:R6 u=(!((!W3 u.scheme || decide (100 < c3e u)) || b7m u) && c5x u):=by
  rw [← c7u,b9n]
  have e1:decide (u.user.length+u.host.length+u.path.length+u.query.length+u.frag.length≤100)=!decide (100 < c3e u):=by
   unfold c3e
   by_cases h:u.user.length+u.host.length+u.path.length+u.query.length+u.frag.length≤100
   · rw [decide_eq_true h,decide_eq_false (by omega)];rfl
   · rw [decide_eq_false h,decide_eq_true (by omega)];rfl
  rw [e1]
  unfold c5x
  cases W3 u.scheme<;>cases decide (100 < c3e u)<;>cases b7m u<;>rfl
 simp [d9,i6,j9,b9,d7,X5,tx,num,b8]
 refine b7 rfl rfl (.inl rfl) (c4n u.scheme (by omega)) ?_
 cases b1:W3 u.scheme with
 | false=>
  rw [b1] at hres
  simp [tx,num,b8]
  refine d0t (u:=u) (b:=true) hs' ⟨?_,?_⟩ ?_ (fun st' q1 q2=>c1p u hs' true st' q1 q2 _ hres)
  · simp
  · simp [f5,tx,num]
  · simp
 | true=>
  rw [b1] at hres
  have w1:IntKind.i64.wrap ((u.user.length:Int)+u.host.length)=(u.user.length:Int)+u.host.length:=wrap_i64 (by omega) (by omega)
  have w2:IntKind.i64.wrap ((u.user.length:Int)+u.host.length+u.path.length)=(u.user.length:Int)+u.host.length+u.path.length:=wrap_i64 (by omega) (by omega)
  have w3:IntKind.i64.wrap ((u.user.length:Int)+u.host.length+u.path.length+u.query.length)=(u.user.length:Int)+u.host.length+u.path.length+u.query.length:=wrap_i64 (by omega) (by omega)
  have w4:IntKind.i64.wrap ((u.user.length:Int)+u.host.length+u.path.length+u.query.length+u.frag.length)=(u.user.length:Int)+u.host.length+u.path.length+u.query.length+u.frag.length:=wrap_i64 (by omega) (by omega)
  have e:decide ((100:Int) < (u.user.length:Int)+u.host.length+u.path.length+u.query.length+u.frag.length)=decide (100 < c3e u):=by
   unfold c3e
   by_cases h:100 < u.user.length+u.host.length+u.path.length+u.query.length+u.frag.length
   · rw [decide_eq_true h,decide_eq_true (by omega)]
   · rw [decide_eq_false h,decide_eq_false (by omega)]
  simp [tx,num,b8,w1,w2,w3,w4,e]
  refine d0t (u:=u) (b:=decide (100 < c3e u)) hs' ⟨?_,?_⟩ ?_ (fun st' q1 q2=>c1p u hs' _ st' q1 q2 _ (by rw [hres];rfl))
  · simp
  · simp [f5,tx,num]
  · simp
end Go.Proofs
end
section
namespace Go.Proofs
open Go.PW Go.KP
attribute [local simp] RV.cells RV.one PV.cells PV.solid PV.one G6 i7 M3 L4 RV.ofCells elems PV.killL
variable [GH]
structure IP (st:St) (u:LUrl):Prop where
 e2:st.env 2=.ptr 2 0
 e7:st.env 7=.ptr 7 0
 m2:st.mem 2=.box (f5 LUrl.zero)
 m7:st.mem 7=.box (f5 u)
theorem b7i (u:LUrl) (hs:Tiny u) (st:St) (h:IP st u):EC Tryz.prog ir207_from15 st (K:=prs (u,R6 u)):=by
 unfold ir207_from15
 obtain ⟨e2,e7,m2,m7⟩:=h
 simp [e2,e7,m2,m7,f5,i7,tx,num]
 refine l6 rfl rfl (.inl rfl) (c6q u hs) ?_
 simp [e2,e7,m2,m7,f5,i7,tx,num]
 refine a72 (id:=2) ?_ ?_ ?_
 · simp [e2]
 · simp [e2,f5,tx,num]
 · simp
theorem a6d (sc us ho pa qu fr:Tx) (po:Int) (hq hf:Bool) (hs:Tiny ⟨sc,us,R8 ho,po,pa,qu,fr,hq,hf⟩) (hh:ho.length < 1048577) (st:St) (h:IP st ⟨sc,us,[],po,pa,qu,fr,hq,hf⟩) (e12:st.env 12=.val (tx ho)) :
 EC Tryz.prog ir207_from14 st (K:=prs (⟨sc,us,R8 ho,po,pa,qu,fr,hq,hf⟩,R6 ⟨sc,us,R8 ho,po,pa,qu,fr,hq,hf⟩)):=by
 unfold ir207_from14
 obtain ⟨e2,e7,m2,m7⟩:=h
 simp [e2,e7,m2,m7,e12,f5,i7,tx,num]
 refine b7 rfl rfl (.inl rfl) (c6o ho (by omega)) ?_
 simp [e2,e7,m2,m7,f5,i7,tx,num]
 refine b7i ⟨sc,us,R8 ho,po,pa,qu,fr,hq,hf⟩ hs _ ⟨?_,?_,?_,?_⟩<;>simp [e2,e7,m2,m7,f5,tx,num]
theorem b7j (sc us pa qu fr:Tx) (hq hf:Bool) (h1:sc.length < 1048577) (h2:us.length < 1048577) (h3:pa.length < 1048577) (h4:qu.length < 1048577) (h5:fr.length < 1048577) (r:Tx) (hr:r.length < 1048577) (st:St)
 (h:IP st ⟨sc,us,[],0,pa,qu,fr,hq,hf⟩) (e12:st.env 12=.val (tx (k6 r 58))) (e13:st.env 13=.val (tx (G9 r 58))) (e6:st.env 6=.val (.bool (decide (58∈r)))) :
 EC Tryz.prog ir207_from13 st (K:=prs (T7 ⟨sc,us,R8 (k6 r 58),0,pa,qu,fr,hq,hf⟩ r)):=by
 unfold ir207_from13
 obtain ⟨e2,e7,m2,m7⟩:=h
 have hla:=S3 r 58
 have hlb:=a0d r 58
 have hll:(R8 (k6 r 58)).length < 1048577:=by simp [R8];omega
 by_cases hc:58∈r
 · simp [e6,e13,hc,tx]
   have hn:=d00 (G9 r 58) (by omega)
   refine Z0 rfl rfl (.inl rfl) hn ?_
   cases hb:(a7b (G9 r 58)).2 with
   | false=>
    have hnone:=c7w hb
    rw [show T7 ⟨sc,us,R8 (k6 r 58),0,pa,qu,fr,hq,hf⟩ r=(LUrl.zero,false) by simp only [T7,a2q,hc,hnone,if_true]]
    simp [e2,e7,m2,m7,tx,num,f5]
    refine a1e _ ?_ ?_ ?_
    · simp [e2]
    · simp [f5,LUrl.zero,tx,num,bs]
    · simp
   | true=>
    have hsome:=inum_le hb
    generalize (a7b (G9 r 58)).1=n at *
    simp [e2,e7,m2,m7,tx,num,f5]
    refine b7 rfl rfl (.inl rfl) (R9 n 1 65535) ?_
    by_cases hin:1≤n∧n≤65535
    · rw [decide_eq_true hin]
      simp [e2,e7,m2,m7,tx,num,f5]
      refine b7 rfl rfl (.inl rfl) (c6n sc) ?_
      by_cases hu:n=a02 sc
      · have hl:a2q sc r=some 0:=by
         simp only [a2q,hc,hsome,hin,if_true,and_self]
         rw [if_pos hu]
        rw [show T7 ⟨sc,us,R8 (k6 r 58),0,pa,qu,fr,hq,hf⟩ r=(⟨sc,us,R8 (k6 r 58),0,pa,qu,fr,hq,hf⟩,R6 ⟨sc,us,R8 (k6 r 58),0,pa,qu,fr,hq,hf⟩) by simp only [T7,hl]]
        simp [e2,e7,m2,m7,tx,num,f5,hu]
        refine a6d sc us (k6 r 58) pa qu fr 0 hq hf ⟨h1,h2,hll,h3,h4,h5,by simp,by simp⟩ (by omega) _ ⟨?_,?_,?_,?_⟩ ?_<;>simp [e2,e7,m2,m7,e12,f5,tx,num]
      · have hl:a2q sc r=some n:=by
         simp only [a2q,hc,hsome,hin,if_true,and_self]
         rw [if_neg hu]
        rw [show T7 ⟨sc,us,R8 (k6 r 58),0,pa,qu,fr,hq,hf⟩ r=(⟨sc,us,R8 (k6 r 58),n,pa,qu,fr,hq,hf⟩,R6 ⟨sc,us,R8 (k6 r 58),n,pa,qu,fr,hq,hf⟩) by simp only [T7,hl]]
        simp [e2,e7,m2,m7,tx,num,f5,hu]
        refine a6d sc us (k6 r 58) pa qu fr n hq hf ⟨h1,h2,hll,h3,h4,h5,by show _≤n;omega,by show n≤_;omega⟩ (by omega) _ ⟨?_,?_,?_,?_⟩ ?_<;>simp [e2,e7,m2,m7,e12,f5,tx,num]
    · rw [decide_eq_false hin]
      rw [show T7 ⟨sc,us,R8 (k6 r 58),0,pa,qu,fr,hq,hf⟩ r=(LUrl.zero,false) by simp only [T7,a2q,hc,hsome,hin,if_true,if_false]]
      simp [e2,e7,m2,m7,tx,num,f5]
      refine a1e _ ?_ ?_ ?_
      · simp [e2]
      · simp [f5,LUrl.zero,tx,num,bs]
      · simp
 · have hl:a2q sc r=some 0:=by simp only [a2q,hc,if_false]
   rw [show T7 ⟨sc,us,R8 (k6 r 58),0,pa,qu,fr,hq,hf⟩ r=(⟨sc,us,R8 (k6 r 58),0,pa,qu,fr,hq,hf⟩,R6 ⟨sc,us,R8 (k6 r 58),0,pa,qu,fr,hq,hf⟩) by simp only [T7,hl]]
   simp [e6,hc]
   refine a6d sc us (k6 r 58) pa qu fr 0 hq hf ⟨h1,h2,hll,h3,h4,h5,by simp,by simp⟩ (by omega) _ ⟨?_,?_,?_,?_⟩ ?_<;>simp [e2,e7,m2,m7,e12,f5,tx,num]
theorem a9z (sc us pa qu fr:Tx) (hq hf:Bool) (h1:sc.length < 1048577) (h2:us.length < 1048577) (h3:pa.length < 1048577) (h4:qu.length < 1048577) (h5:fr.length < 1048577) (r:Tx) (hr:r.length < 1048577) (st:St)
 (h:IP st ⟨sc,us,[],0,pa,qu,fr,hq,hf⟩) (e5:st.env 5=.val (tx r)) :
 EC Tryz.prog ir207_from12 st (K:=prs (T7 ⟨sc,us,R8 (k6 r 58),0,pa,qu,fr,hq,hf⟩ r)):=by
 unfold ir207_from12
 obtain ⟨e2,e7,m2,m7⟩:=h
 have q1:(⟨#[58]⟩:ByteArray)=bs [58]:=rfl
 simp [e5,tx,q1]
 refine a14 rfl rfl (.inl rfl) (b6r r 58 (by omega)) ?_
 simp [e5,tx]
 refine b7j sc us pa qu fr hq hf h1 h2 h3 h4 h5 r hr _ ⟨?_,?_,?_,?_⟩ ?_ ?_ ?_<;>simp [e2,e7,m2,m7,f5,tx,num]
theorem a90 (sc pa qu fr:Tx) (hq hf:Bool) (h1:sc.length < 1048577) (h3:pa.length < 1048577) (h4:qu.length < 1048577) (h5:fr.length < 1048577) (r:Tx) (hr:r.length < 1048577) (st:St)
 (h:IP st ⟨sc,[],[],0,pa,qu,fr,hq,hf⟩) (e5:st.env 5=.val (tx r)) :
 EC Tryz.prog ir207_from11 st (K:=prs (b4a sc pa qu fr hq hf r)):=by
 unfold ir207_from11
 obtain ⟨e2,e7,m2,m7⟩:=h
 have q1:(⟨#[64]⟩:ByteArray)=bs [64]:=rfl
 have hla:=S3 r 64
 have hlb:=a0d r 64
 simp [e5,tx,q1]
 refine a14 rfl rfl (.inl rfl) (b6r r 64 (by omega)) ?_
 unfold b4a
 by_cases hc:64∈r
 · have e:(if 64∈r then G9 r 64 else r)=G9 r 64:=if_pos hc
   rw [if_pos hc,e]
   simp [e5,tx,hc,e2,e7,m2,m7,f5,num]
   refine a9z sc (k6 r 64) pa qu fr hq hf h1 (by omega) h3 h4 h5 (G9 r 64) (by omega) _ ⟨?_,?_,?_,?_⟩ ?_<;>simp [e2,e7,m2,m7,f5,tx,num]
 · have e:(if 64∈r then G9 r 64 else r)=r:=if_neg hc
   rw [if_neg hc,e]
   simp [e5,tx,hc]
   refine a9z sc [] pa qu fr hq hf h1 (by simp) h3 h4 h5 r hr _ ⟨?_,?_,?_,?_⟩ ?_<;>simp [e2,e7,m2,m7,e5,f5,tx,num]
theorem b7k (sc qu fr:Tx) (hq hf:Bool) (h1:sc.length < 1048577) (h4:qu.length < 1048577) (h5:fr.length < 1048577) (r:Tx) (hr:r.length < 1048577) (st:St)
 (h:IP st ⟨sc,[],[],0,[47],qu,fr,hq,hf⟩) (e5:st.env 5=.val (tx r)) :
 EC Tryz.prog ir207_from10 st (K:=prs (a9a sc qu fr hq hf r)):=by
 unfold ir207_from10
 obtain ⟨e2,e7,m2,m7⟩:=h
 have hle:=a1j r 47
 have hla:=S3 r 47
 simp [e5,tx]
 refine b7 rfl rfl (.inl rfl) (c2y r 47) ?_
 unfold a9a
 by_cases hc:47∈r
 · rw [if_pos hc]
   simp [e5,tx,num,hc,e2,e7,m2,m7,f5,b8,S5,hle,a4s]
   refine a90 sc (r.drop (N3 r 47)) qu fr hq hf h1 (by simp;omega) h4 h5 (k6 r 47) (by omega) _ ⟨?_,?_,?_,?_⟩ ?_<;>simp [e2,e7,m2,m7,f5,tx,num,k6]
 · rw [if_neg hc]
   simp [e5,tx,num,hc]
   rw [a1z hc]
   refine a90 sc [47] qu fr hq hf h1 (by simp) h4 h5 r hr _ ⟨?_,?_,?_,?_⟩ ?_<;>simp [e2,e7,m2,m7,e5,f5,tx,num]
theorem b9r (sc:Tx) (h1:sc.length < 1048577) (r:Tx) (hr:r.length < 1048577) (st:St) (h:IP st ⟨sc,[],[],0,[],[],[],false,false⟩) (e5:st.env 5=.val (tx r)) :
 EC Tryz.prog ir207_from7 st (K:=prs (a5x sc r)):=by
 unfold ir207_from7
 obtain ⟨e2,e7,m2,m7⟩:=h
 have q1:(⟨#[35]⟩:ByteArray)=bs [35]:=rfl
 have q2:(⟨#[63]⟩:ByteArray)=bs [63]:=rfl
 have q3:(⟨#[47]⟩:ByteArray)=bs [47]:=rfl
 have e:a5x sc r=a9a sc (G9 (k6 r 35) 63) (G9 r 35) (decide (63∈k6 r 35)) (decide (35∈r)) (k6 (k6 r 35) 63):=rfl
 have hl1:=S3 r 35
 have hl2:=a0d r 35
 have hl3:=S3 (k6 r 35) 63
 have hl4:=a0d (k6 r 35) 63
 rw [e]
 simp [e5,tx,q1]
 refine a14 rfl rfl (.inl rfl) (b6r r 35 (by omega)) ?_
 simp [e5,tx,q2,e2,e7,m2,m7,f5,num]
 refine a14 rfl rfl (.inl rfl) (b6r (k6 r 35) 63 (by omega)) ?_
 simp [e5,tx,q3,e2,e7,m2,m7,f5,num]
 refine b7k sc (G9 (k6 r 35) 63) (G9 r 35) _ _ h1 (by omega) (by omega) (k6 (k6 r 35) 63) (by omega) _ ⟨?_,?_,?_,?_⟩ ?_<;>simp [e2,e7,m2,m7,f5,tx,num]
theorem prefix2 (r:Tx):([47,47]:Tx).isPrefixOf r=decide (r.take 2=[47,47]):=by
 match r with
 | []=>rfl
 | [a]=>simp [List.isPrefixOf]
 | a :: b :: r=>
  rw [Bool.eq_iff_iff]
  simp [List.isPrefixOf]
  constructor
  · rintro ⟨rfl,rfl⟩;exact ⟨rfl,rfl⟩
  · rintro ⟨rfl,rfl⟩;exact ⟨rfl,rfl⟩
theorem b9s (sc:Tx) (h1:sc.length < 1048577) (r:Tx) (hr:r.length < 1048577) (st:St)
 (h:IP st ⟨sc,[],[],0,[],[],[],false,false⟩) (e5:st.env 5=.val (tx r)):EC Tryz.prog ir207_from4 st (K:=prs (if a0x sc then if r.take 2=[47,47] then a5x sc (r.drop 2) else (LUrl.zero,false) else (⟨sc,[],[],0,k6 (k6 r 35) 63,[],[],false,false⟩,R6 ⟨sc,[],[],0,k6 (k6 r 35) 63,[],[],false,false⟩))):=by
 unfold ir207_from4
 obtain ⟨e2,e7,m2,m7⟩:=h
 have q1:(⟨#[35]⟩:ByteArray)=bs [35]:=rfl
 have q2:(⟨#[63]⟩:ByteArray)=bs [63]:=rfl
 have q3:(⟨#[47,47]⟩:ByteArray)=bs [47,47]:=rfl
 have hl1:=S3 r 35
 have hl3:=S3 (k6 r 35) 63
 simp [e2,e7,m2,m7,tx,num,f5,i7]
 refine b7 rfl rfl (.inl rfl) (c1w ⟨sc,[],[],0,[],[],[],false,false⟩) ?_
 by_cases hw:a0x sc=true
 · rw [if_pos hw]
   simp [e5,tx,hw,q3]
   refine Z0 rfl rfl (.inl rfl) (c22 r [47,47]) ?_
   rw [prefix2]
   by_cases ht:r.take 2=[47,47]
   · rw [if_pos ht]
     simp [tx,ht]
     refine b9r sc h1 (r.drop 2) (by simp;omega) _ ⟨?_,?_,?_,?_⟩ ?_<;>simp [e2,e7,m2,m7,f5,tx,num]
   · rw [if_neg ht]
     simp [e2,e7,m2,m7,tx,num,f5,ht]
     refine a1e _ ?_ ?_ ?_
     · simp [e2]
     · simp [f5,LUrl.zero,tx,num,bs]
     · simp
 · rw [if_neg hw]
   simp [e5,tx,hw,q1]
   refine a14 rfl rfl (.inl rfl) (b6r r 35 (by omega)) ?_
   simp [tx,hw,q2]
   refine a14 rfl rfl (.inl rfl) (b6r (k6 r 35) 63 (by omega)) ?_
   simp [e2,e7,m2,m7,tx,num,f5,i7]
   refine l6 rfl rfl (.inl rfl) (c6q ⟨sc,[],[],0,k6 (k6 r 35) 63,[],[],false,false⟩ ⟨h1,by simp,by simp,by show (k6 (k6 r 35) 63).length < _;omega,by simp,by simp,by simp,by simp⟩) ?_
   simp [e2,e7,m2,m7,tx,num,f5,i7]
   refine a72 (id:=2) ?_ ?_ ?_
   · simp [e2]
   · simp [f5,tx,num]
   · simp
theorem i_parse (t:Tx) (ht:t.length < 1048577):d8 Tryz.prog 207 [.val (tx t)] (.ret (a6k (I3 t)) []) []:=by
 refine f8 mixed ok207 rfl (fun _=>rfl) ?_
 unfold ir207
 rw [b6]
 have q1:(⟨#[58]⟩:ByteArray)=bs [58]:=rfl
 have hla:=S3 t 58
 have hlb:=a0d t 58
 simp [d9,i6,j9,b9,d7,tx,num,q1]
 refine a14 rfl rfl (.inl rfl) (b6r t 58 (by omega)) ?_
 simp [tx,num]
 refine b7 rfl rfl (.inl rfl) (c6o (k6 t 58) (by omega)) ?_
 by_cases hc:58∈t
 · rw [show I3 t=(if a0x (R8 (k6 t 58)) then if (G9 t 58).take 2=[47,47] then a5x (R8 (k6 t 58)) ((G9 t 58).drop 2) else (LUrl.zero,false) else (⟨R8 (k6 t 58),[],[],0,k6 (k6 (G9 t 58) 35) 63,[],[],false,false⟩,R6 ⟨R8 (k6 t 58),[],[],0,k6 (k6 (G9 t 58) 35) 63,[],[],false,false⟩)) by unfold I3;rw [if_pos hc]]
   simp [tx,num,hc]
   refine b9s (R8 (k6 t 58)) (by simp [R8];omega) (G9 t 58) (by omega) _ ⟨?_,?_,?_,?_⟩ ?_<;>simp [f5,tx,num,LUrl.zero,bs]
 · rw [show I3 t=(LUrl.zero,false) by unfold I3;rw [if_neg hc]]
   simp [tx,num,hc]
   refine a1e _ ?_ ?_ ?_
   · simp
   · simp [f5,LUrl.zero,tx,num,bs]
   · simp
end Go.Proofs
end
section
namespace Go.Proofs
open Go.PW Go.KP
attribute [local simp] RV.cells RV.one PV.cells PV.solid PV.one G6 i7 M3 L4 RV.ofCells elems PV.killL
variable [GH]
theorem tiny_of {u:LUrl} (h:u.Tiny):Tiny u:=⟨h.1,h.2.1,h.2.2.1,h.2.2.2.1,h.2.2.2.2.1,h.2.2.2.2.2.1,by have:=h.2.2.2.2.2.2;omega,by have:=h.2.2.2.2.2.2;omega⟩
def c6r (r:LUrl×Int):PV:=.tup [.val (X5 r.1),.val (num r.2)]
theorem b14 {st:St} {s t id:Nat} {u:LUrl} {n:Int} (h1:st.env s=.ptr id 0) (h2:st.mem id=.box (f5 u)) (h5:st.env t=.val (num n)):T9 [.c s true 9,.t t] st.fin=some (c6r (u,n)):=by
 rw [c55 (n:=9) (rs:=b21 u) h1 (by rw [h2,b22]) rfl (by omega) h5,b78]
 rfl
def a3c (t:Tx):LUrl×Int:=if t.length≤65536 then if (I3 t).2 then ((I3 t).1,0) else (LUrl.zero,3) else (LUrl.zero,2)
theorem c4t (t:Tx) (ht:t.length < 1048577):d8 Tryz.prog 205 [.val (tx t)] (.ret (c6r (a3c t)) []) []:=by
 refine f8 mixed ok205 rfl (fun _=>rfl) ?_
 unfold ir205
 rw [b6]
 unfold a3c
 simp [d9,i6,j9,b9,d7,tx]
 refine b7 rfl rfl (.inl rfl) (i_long t) ?_
 by_cases hl:t.length≤65536
 · rw [if_pos hl,if_pos hl]
   simp [tx,num]
   refine Z0 rfl rfl (.inl rfl) (i_parse t ht) ?_
   cases hok:(I3 t).2 with
   | true=>
    rw [if_pos rfl]
    simp [tx,num,X5,i7]
    refine b14 (id:=2) ?_ ?_ ?_
    · simp
    · simp [f5,tx,num]
    · simp [num]
   | false=>
    rw [if_neg (by simp)]
    simp [tx,num,X5,i7]
    refine b14 (id:=2) ?_ ?_ ?_
    · simp
    · simp [f5,LUrl.zero,tx,num,bs]
    · simp [num]
 · rw [if_neg hl,if_neg hl]
   simp [tx,num]
   refine b14 (id:=2) ?_ ?_ ?_
   · simp
   · simp [f5,LUrl.zero,tx,num,bs]
   · simp [num]
theorem c2o (u:LUrl) (hs:Tiny u) (st:St) (e4:st.env 4=.ptr 4 0) (m4:st.mem 4=.box (f5 { u with frag:=[],hasF:=false })):EC Tryz.prog ir196_from4 st (K:=⟨a2m [.t 2,.t 3] (Z2 (some (a3m { u with frag:=[],hasF:=false })))⟩):=by
 unfold ir196_from4
 obtain ⟨s1,s2,s3,s4,s5,s6,p0,p1⟩:=hs
 have ht:Tiny { u with frag:=[],hasF:=false }:=⟨s1,s2,s3,s4,s5,by simp,p0,p1⟩
 simp [e4,m4,f5,tx,num,i7]
 refine b7 rfl rfl (.inl rfl) (d0x { u with frag:=[],hasF:=false } ht.small p0) ?_
 simp [Z2]
theorem c6p (t:Tx) (ht:t.length < 1048577):d8 Tryz.prog 196 [.val (tx t)] (.ret (Z2 (a26 t)) []) []:=by
 refine f8 mixed ok196 rfl (fun _=>rfl) ?_
 unfold ir196
 rw [b6]
 have htn:=tiny_of (c1e ht)
 have hpu:=c4t t ht
 by_cases hl:t.length≤65536
 · cases hok:(I3 t).2 with
   | false=>
    have e1:a26 t=none:=by unfold a26;rw [if_pos hl,hok];rfl
    have e2:a3c t=(LUrl.zero,3):=by unfold a3c;rw [if_pos hl,hok];rfl
    rw [e1]
    rw [e2] at hpu
    simp [d9,i6,j9,b9,d7,tx]
    refine Z0 rfl rfl (.inl rfl) hpu ?_
    simp [tx,num,X5,i7,Z2,bs]
   | true=>
    have e2:a3c t=((I3 t).1,0):=by unfold a3c;rw [if_pos hl,hok];rfl
    rw [e2] at hpu
    cases hw:a0x (I3 t).1.scheme with
    | false=>
     have e1:a26 t=none:=by unfold a26;rw [if_pos hl,hok,hw];rfl
     rw [e1]
     simp [d9,i6,j9,b9,d7,tx]
     refine Z0 rfl rfl (.inl rfl) hpu ?_
     simp [tx,num,X5,i7]
     refine b7 rfl rfl (.inl rfl) (c1w (I3 t).1) ?_
     rw [hw]
     simp [tx,num,Z2,bs]
    | true=>
     have e1:a26 t=some (a3m { (I3 t).1 with frag:=[],hasF:=false }):=by unfold a26;rw [if_pos hl,hok,hw];rfl
     rw [e1]
     simp [d9,i6,j9,b9,d7,tx]
     refine Z0 rfl rfl (.inl rfl) hpu ?_
     simp [tx,num,X5,i7]
     refine b7 rfl rfl (.inl rfl) (c1w (I3 t).1) ?_
     rw [hw]
     simp [tx,num]
     refine c2o (I3 t).1 htn _ ?_ ?_<;>simp [f5,tx,num,bs]
 · have e1:a26 t=none:=by unfold a26;rw [if_neg hl]
   have e2:a3c t=(LUrl.zero,2):=by unfold a3c;rw [if_neg hl]
   rw [e1]
   rw [e2] at hpu
   simp [d9,i6,j9,b9,d7,tx]
   refine Z0 rfl rfl (.inl rfl) hpu ?_
   simp [tx,num,X5,i7,Z2,bs]
structure JT (st:St) (x:LTarget):Prop where
 e1:st.env 1=.ptr 1 0
 m1:st.mem 1=.box [.val (tx x.url),.val (num x.prio),.val (num x.weight)]
theorem d0l {Ks:Kx (St→Prop)} {kx:Kx (RV→St→Prop)} {st:St} {x:LTarget} {b:Bool} (h:JT st x) (hb:st.env 17=.val (.bool b)) (hK:∀ st',st'.env 2=.val (.bool (b && (decide (1≤x.prio∧x.prio≤9) && decide (1≤x.weight∧x.weight≤9))))→Ks.k st'):EO Tryz.prog ir239_o18 st (Ks:=Ks) (kx:=kx):=by
 unfold ir239_o18
 cases b with
 | false=>
  simp [hb]
  exact hK _ (by simp)
 | true=>
  simp [hb,h.e1,h.m1,num]
  refine b7 rfl rfl (.inl rfl) (R9 x.prio 1 9) ?_
  cases hp:decide (1≤x.prio∧x.prio≤9) with
  | false=>
   simp
   exact hK _ (by simp [hp])
  | true=>
   simp [h.e1,h.m1,num]
   refine b7 rfl rfl (.inl rfl) (R9 x.weight 1 9) ?_
   simp
   exact hK _ (by rw [hp];simp)
theorem b5y (x:LTarget) (hx:x.url.length < 1048577):d8 Tryz.prog 239 [.val (f9 x)] (.ret (.val (.bool (P6 x))) []) []:=by
 refine f8 mixed ok239 rfl (fun _=>rfl) ?_
 unfold ir239
 rw [b6,← b9p,Bool.and_assoc]
 simp [d9,i6,j9,b9,d7,f9,tx,num]
 refine Z0 rfl rfl (.inl rfl) (c6p x.url hx) ?_
 cases hc:a26 x.url with
 | none=>
  simp
  refine d0l (x:=x) (b:=false) ⟨?_,?_⟩ ?_ (fun st' q=>?_)
  · simp
  · simp [tx,num]
  · simp
  · simp [q]
 | some u=>
  simp [tx,L7]
  refine d0l (x:=x) (b:=decide (u=x.url)) ⟨?_,?_⟩ ?_ (fun st' q=>?_)
  · simp
  · simp [tx,num]
  · simp
  · simp [q]
theorem c72 (x:LTarget) (url:Tx):d8 Tryz.prog 334 [.val (f9 x),.box [tx url]] (.ret (.val (.bool (decide (x.url=url)))) []) [[tx url]]:=by
 refine V4 mixed ok334 rfl (fun _=>rfl) ?_
 unfold ir334
 rw [b6]
 simp [d9,i6,j9,b9,d7,f9,tx,num,L7,S8,R7]
theorem b4w {l:List LTarget} {j:Nat} (h:j < l.length):(l.map f9)[j]?.getD .nilptr=f9 l[j]:=by simp [List.getElem?_eq_getElem h]
theorem b9w (l:List LTarget) (g:Nat) (c:RV) (p:LTarget→Bool) (hl:l.length < 1099511627776) (hg:fnB Tryz.prog g=true)
 (hp:∀ x∈l,d8 Tryz.prog g [.val (f9 x),.box [c]] (.ret (.val (.bool (p x))) []) [[c]]) :
 d8 Tryz.prog 299 [.val (.list 3 (l.map f9)),.fn g [.box [c]]] (.ret (.val (num (a1i l p))) []) [[c]]:=by
 refine V4 mixed ok299 rfl (fun _=>rfl) ?_
 unfold ir299
 rw [b6]
 simp [d9,i6,j9,b9,d7,j9,i6]
 refine j8 (X:=Nat) (fun i=>⟨u0 [(0,.val (.list 3 (l.map f9))),(1,.fn g [.ptr 900 0]),(7,.val (num l.length)),(8,.val (num i))],u5 [(900,.box [.val c])]⟩) (fun i=>i≤l.length∧∀ k (hk:k < i) (hk':k < l.length),p l[k]=false) (fun i=>l.length - i) 0 (Le.mk _ _ ?_ ?_) ?_ ?_
 · simp [upd,num]
 · simp
 · simp
 · rintro i ⟨hi,hne⟩
   simp [num]
   refine f7 (fun h1=>?_) (fun h1=>?_)
   · have e1:=b4w h1
     simp [num,h1,e1,f9,tx,hg]
     refine T6 (ids:=[900]) rfl rfl (by simp) (by decide) (by simp [a3e,y8,G1,z1,F9,z6,s8,y9,G0,l9,B1,H1,H2,j7,p8,p9,l1,z7,q9,l3,F8,y7,q8,q7,D9,E1,a05,a06,Option.getD_some,Option.getD_none,C6,u6,o8,D6,o7,o0,D8,o2,D7,D5,D4,H6,x3,o5,D2,x1,o4,D1,C4,D3,x2,C9,n9,w9,D0,H8,H7,C5,C7,o3,C8,x4,o6,B4,n0,C3,C2,C1,H3,w7,n6,B9,w5,n5,B8,B2,C0,w6,B6,m8,v8,B7,H5,H4,B3,v7,n8,B5,w8,n7,J6,J5,K9,J7,K3,J9,J8,K8,K2,K4,K5,K6,K7,A1,A0,z8,M5,M6,A4,G2,u7,E5,x7,L3,t6,Q6,M9,M0,O1,O3,O2,Q7,Q8,I8,J0,I9,J1,J2,N8,x9,N7,E6,E7,E8,y0,a09,F5,y6,Q4,Q5,H9,M7,M8,Option.map_some,Option.map_none,E9,y4,x6,o9,E3,E4,I2,I1,O8,O7,J4,F6,F7,J3,O4,O5,I4,p6,I5,p5,N2,F4,F3,l2,O0,O6,I7,N4,N6,N5,x8,A8,B0,A9,k7,N9,R0,Q9,N0,I6,U8,N1,p7,F1,F2,y5,F0,l0,u9,k9,v6,k8,L2,O9,P0,A2,A3,G4,G3,E2]) rfl (hp l[i] (List.getElem_mem h1)) ?_
     cases hpi:p l[i] with
     | true=>
      simp [S8,R7]
      rw [a0l h1 hpi (fun k hk=>hne k hk (by omega))];rfl
     | false=>
      simp
      refine LoopNext.mk (i+1) ⟨by omega,fun k hk hk'=>?_⟩ (by omega) (Le.mk _ _ ?_ ?_)
      · by_cases e:k=i
        · subst e;exact hpi
        · exact hne k (by omega) hk'
      · simp [num];exact wrap_i64 (by omega) (by omega)
      · simp
   · have e:i=l.length:=by omega
     subst e
     simp [num,S8,R7]
     rw [Y8 (fun k hk=>hne k hk hk)]
theorem b32 (l:List LTarget) (g:Nat) (c:RV) (p:LTarget→Bool) (hl:l.length < 1099511627776) (hg:fnB Tryz.prog g=true)
 (hp:∀ x∈l,d8 Tryz.prog g [.val (f9 x),.box [c]] (.ret (.val (.bool (p x))) []) [[c]]) :
 d8 Tryz.prog 237 [.val (.list 3 (l.map f9)),.fn g [.box [c]]] (.ret (.val (.bool (l.any p))) []) [[c]]:=by
 refine V4 mixed ok237 rfl (fun _=>rfl) ?_
 unfold ir237
 rw [b6]
 simp [d9,i6,j9,b9,d7,j9,i6]
 refine T6 (ids:=[900]) rfl rfl (by simp) (by decide) (by simp [a3e,y8,G1,z1,F9,z6,s8,y9,G0,l9,B1,H1,H2,j7,p8,p9,l1,z7,q9,l3,F8,y7,q8,q7,D9,E1,a05,a06,Option.getD_some,Option.getD_none,C6,u6,o8,D6,o7,o0,D8,o2,D7,D5,D4,H6,x3,o5,D2,x1,o4,D1,C4,D3,x2,C9,n9,w9,D0,H8,H7,C5,C7,o3,C8,x4,o6,B4,n0,C3,C2,C1,H3,w7,n6,B9,w5,n5,B8,B2,C0,w6,B6,m8,v8,B7,H5,H4,B3,v7,n8,B5,w8,n7,J6,J5,K9,J7,K3,J9,J8,K8,K2,K4,K5,K6,K7,A1,A0,z8,M5,M6,A4,G2,u7,E5,x7,L3,t6,Q6,M9,M0,O1,O3,O2,Q7,Q8,I8,J0,I9,J1,J2,N8,x9,N7,E6,E7,E8,y0,a09,F5,y6,Q4,Q5,H9,M7,M8,Option.map_some,Option.map_none,E9,y4,x6,o9,E3,E4,I2,I1,O8,O7,J4,F6,F7,J3,O4,O5,I4,p6,I5,p5,N2,F4,F3,l2,O0,O6,I7,N4,N6,N5,x8,A8,B0,A9,k7,N9,R0,Q9,N0,I6,U8,N1,p7,F1,F2,y5,F0,l0,u9,k9,v6,k8,L2,O9,P0,A2,A3,G4,G3,E2]) rfl (b9w l g c p hl hg hp) ?_
 simp [num,S8,R7]
 exact a5y l p
theorem d03 (l:List LTarget) (url:Tx) (hl:l.length < 1099511627776):d8 Tryz.prog 298 [.val (.list 3 (l.map f9)),.val (tx url)] (.ret (.val (.bool (l.any fun x=>decide (x.url=url)))) []) []:=by
 refine f8 mixed ok298 rfl (fun _=>rfl) ?_
 unfold ir298
 rw [b6]
 simp [d9,i6,j9,b9,d7,tx]
 refine T6 (ids:=[3]) rfl rfl (by simp) (by decide) (by simp [a3e,y8,G1,z1,F9,z6,s8,y9,G0,l9,B1,H1,H2,j7,p8,p9,l1,z7,q9,l3,F8,y7,q8,q7,D9,E1,a05,a06,Option.getD_some,Option.getD_none,C6,u6,o8,D6,o7,o0,D8,o2,D7,D5,D4,H6,x3,o5,D2,x1,o4,D1,C4,D3,x2,C9,n9,w9,D0,H8,H7,C5,C7,o3,C8,x4,o6,B4,n0,C3,C2,C1,H3,w7,n6,B9,w5,n5,B8,B2,C0,w6,B6,m8,v8,B7,H5,H4,B3,v7,n8,B5,w8,n7,J6,J5,K9,J7,K3,J9,J8,K8,K2,K4,K5,K6,K7,A1,A0,z8,M5,M6,A4,G2,u7,E5,x7,L3,t6,Q6,M9,M0,O1,O3,O2,Q7,Q8,I8,J0,I9,J1,J2,N8,x9,N7,E6,E7,E8,y0,a09,F5,y6,Q4,Q5,H9,M7,M8,Option.map_some,Option.map_none,E9,y4,x6,o9,E3,E4,I2,I1,O8,O7,J4,F6,F7,J3,O4,O5,I4,p6,I5,p5,N2,F4,F3,l2,O0,O6,I7,N4,N6,N5,x8,A8,B0,A9,k7,N9,R0,Q9,N0,I6,U8,N1,p7,F1,F2,y5,F0,l0,u9,k9,v6,k8,L2,O9,P0,A2,A3,G4,G3,E2,tx]) rfl (b32 l 334 (tx url) (fun x=>decide (x.url=url)) hl (by kernel_rfl) (fun x _=>c72 x url)) ?_
 simp
end Go.Proofs
end
section
namespace Go.Proofs
open Go.PW Go.KP
attribute [local simp] RV.cells RV.one PV.cells PV.solid PV.one G6 i7 M3 L4 RV.ofCells elems PV.killL
variable [GH]
theorem any_url (l:List LTarget) (url:Tx):(l.any fun x=>decide (x.url=url))=decide (url∈l.map fun t=>t.url):=by
 rw [Bool.eq_iff_iff]
 simp only [List.any_eq_true,decide_eq_true_eq,List.mem_map]
theorem b3n (l:List LTarget) (hl:l.length < 1099511627776):d8 Tryz.prog 236 [.val (.list 3 (l.map f9))] (.ret (.val (.bool (Z4 l))) []) []:=by
 refine f8 mixed ok236 rfl (fun _=>rfl) ?_
 unfold ir236
 rw [b6]
 simp [d9,i6,j9,b9,d7]
 refine j8 (X:=Nat) (fun i=>⟨u0 [(0,.val (.list 3 (l.map f9))),(5,.val (.list 3 (l.map f9))),(6,.val (num l.length)),(7,.val (num i))],u5 []⟩) (fun i=>i≤l.length∧Z4 (l.take i)=true) (fun i=>l.length - i) 0 (Le.mk _ _ ?_ ?_) ?_ ?_
 · simp [upd,num]
 · simp
 · simp [Z4,T8]
 · rintro i ⟨hi,hinv⟩
   simp [num]
   refine f7 (fun h1=>?_) (fun h1=>?_)
   · have e1:=b4w h1
     simp [num,h1,e1,f9,tx,show i≤l.length by omega]
     have hh:=d03 (l.take i) l[i].url (by simp;omega)
     rw [any_url,List.map_take] at hh
     refine b7 rfl rfl (.inl rfl) hh ?_
     have ht:=b01 l i h1
     by_cases hm:l[i].url∈(l.take i).map fun t=>t.url
     · rw [decide_eq_true hm]
       have:Z4 l=false:=b67 l (i+1) (by rw [ht,hinv,decide_eq_false (fun h=>h hm)];rfl)
       rw [this]
       simp
     · rw [decide_eq_false hm]
       simp
       refine LoopNext.mk (i+1) ⟨by omega,?_⟩ (by omega) (Le.mk _ _ ?_ ?_)
       · rw [ht,hinv,decide_eq_true hm];rfl
       · simp [num];exact wrap_i64 (by omega) (by omega)
       · simp
   · have e:i=l.length:=by omega
     subst e
     rw [List.take_length] at hinv
     rw [hinv]
     simp
def tgs (l:List LPeer):List LTarget:=l.map fun p=>p.target
theorem b3m (l:List LPeer) (hl:l.length < 1099511627776):d8 Tryz.prog 177 [.val (P8 l)] (.ret (.val (.list 3 ((tgs l).map f9))) []) []:=by
 refine f8 mixed ok177 rfl (fun _=>rfl) ?_
 unfold ir177
 rw [b6]
 simp [d9,i6,j9,b9,d7,P8,elems]
 refine j8 (X:=Nat) (fun i=>⟨u0 [(3,.own 6),(7,.val (P8 l)),(8,.val (num l.length)),(9,.val (num i))],u5 [(6,.row 185 3 ((tgs (l.take i)).map f9))]⟩) (fun i=>i≤l.length) (fun i=>l.length - i) 0 (Le.mk _ _ ?_ ?_) ?_ ?_
 · simp [upd,num,P8,PV.kill]
 · simp [upd,tgs]
 · simp
 · intro i hi
   simp [num,P8]
   refine f7 (fun h1=>?_) (fun h1=>?_)
   · have e1:=b07 h1
     rw [List.getD_eq_getElem?_getD] at e1
     have hlen:(tgs (l.take i)).length=i:=by simp [tgs];omega
     have hsucc:(tgs (l.take (i+1))).map f9=(tgs (l.take i)).map f9++[f9 l[i].target]:=by
      unfold tgs
      rw [List.take_add_one,List.getElem?_eq_getElem h1,List.map_append,List.map_append]
      rfl
     simp [num,P8,h1,e1,A6,tx,elems,i7,hlen,RV.one]
     refine ⟨by omega,by omega,?_⟩
     refine LoopNext.mk (i+1) (by omega) (by omega) (Le.mk _ _ ?_ ?_)
     · simp [P8,num];exact wrap_i64 (by omega) (by omega)
     · rw [hsucc]
       simp [f9,num,tx]
   · have e1:i=l.length:=by omega
     subst e1
     simp [num,P8,a1p]
structure JP (st:St) (x:LPeer):Prop where
 e1:st.env 1=.ptr 1 0
 m1:st.mem 1=.box (T4 x)
section
variable {Ks:Kx (St→Prop)} {kx:Kx (RV→St→Prop)} {st:St} {x:LPeer} {b:Bool}
theorem c90 (h:JP st x) (hb:st.env 19=.val (.bool b)) (hK:∀ st',st'.env 2=.val (.bool (b || b7c x))→Ks.k st'):EO Tryz.prog ir241_o20 st (Ks:=Ks) (kx:=kx):=by
 unfold ir241_o20
 cases b with
 | true=>
  simp [hb]
  exact hK _ (by simp)
 | false=>
  by_cases h0:x.fails=0
  · by_cases h1:x.retry=0
    · simp [hb,h.e1,h.m1,T4,num,h0,h1]
      exact hK _ (by simp [b7c,h0,h1])
    · simp [hb,h.e1,h.m1,T4,num,h0,h1]
      exact hK _ (by simp [b7c,h0,h1])
  · simp [hb,h.e1,h.m1,T4,num,h0]
    exact hK _ (by simp [b7c,h0])
theorem c91 (h:JP st x) (hb:st.env 13=.val (.bool b)) (hK:∀ st',st'.env 2=.val (.bool (b || c7e x))→Ks.k st'):EO Tryz.prog ir241_o14 st (Ks:=Ks) (kx:=kx):=by
 unfold ir241_o14
 cases b with
 | true=>
  simp [hb]
  refine c90 (x:=x) (b:=true) ⟨?_,?_⟩ ?_ (fun st' q2=>hK st' (by simpa using q2))<;>simp [h.e1,h.m1]
 | false=>
  simp [hb,h.e1,h.m1,T4,num]
  refine b7 rfl rfl (.inl rfl) (R9 x.retry 0 1000032) ?_
  simp [hb]
  refine c90 (x:=x) (b:=!decide (0≤x.retry∧x.retry≤1000032)) ⟨?_,?_⟩ ?_ (fun st' q2=>hK st' (by rw [q2];simp [c7e]))<;>simp [h.e1,h.m1]
theorem qops8 (h:JP st x) (hb:st.env 7=.val (.bool b)) (hK:∀ st',st'.env 2=.val (.bool (b || c3u x))→Ks.k st'):EO Tryz.prog ir241_o8 st (Ks:=Ks) (kx:=kx):=by
 unfold ir241_o8
 cases b with
 | true=>
  simp [hb]
  refine c91 (x:=x) (b:=true) ⟨?_,?_⟩ ?_ (fun st' q2=>hK st' (by simpa using q2))<;>simp [h.e1,h.m1]
 | false=>
  simp [hb,h.e1,h.m1,T4,num]
  refine b7 rfl rfl (.inl rfl) (R9 x.fails 0 1000000) ?_
  simp [hb]
  refine c91 (x:=x) (b:=!decide (0≤x.fails∧x.fails≤1000000)) ⟨?_,?_⟩ ?_ (fun st' q2=>hK st' (by rw [q2];simp [c3u]))<;>simp [h.e1,h.m1]
end
theorem c4s (x:LPeer) (hx:x.target.url.length < 1048577):d8 Tryz.prog 241 [.val (A6 x)] (.ret (.val (.bool (!a4e x))) []) []:=by
 refine f8 mixed ok241 rfl (fun _=>rfl) ?_
 unfold ir241
 rw [b6,b5r,Bool.not_not]
 simp [d9,i6,j9,b9,d7,A6,tx,num,i7]
 refine b7 rfl rfl (.inl rfl) (b5y x.target hx) ?_
 simp
 refine qops8 (x:=x) (b:=!P6 x.target) ⟨?_,?_⟩ ?_ (fun st' q=>?_)
 · simp
 · simp [T4,tx,num]
 · simp
 · simp [q]
theorem b9x (l:List LPeer) (g:Nat) (p:LPeer→Bool) (hl:l.length < 1099511627776) (hg:fnB Tryz.prog g=true)
 (hp:∀ x∈l,d8 Tryz.prog g [.val (A6 x)] (.ret (.val (.bool (p x))) []) []) :
 d8 Tryz.prog 300 [.val (P8 l),.fn g []] (.ret (.val (num (a1i l p))) []) []:=by
 refine f8 mixed ok300 rfl (fun _=>rfl) ?_
 unfold ir300
 rw [b6]
 simp [d9,i6,j9,b9,d7,j9,i6,P8]
 refine j8 (X:=Nat) (fun i=>⟨u0 [(0,.val (P8 l)),(1,.fn g []),(7,.val (num l.length)),(8,.val (num i))],u5 []⟩) (fun i=>i≤l.length∧∀ k (hk:k < i) (hk':k < l.length),p l[k]=false) (fun i=>l.length - i) 0 (Le.mk _ _ ?_ ?_) ?_ ?_
 · simp [upd,num,P8]
 · simp
 · simp
 · rintro i ⟨hi,hne⟩
   simp [num,P8]
   refine f7 (fun h1=>?_) (fun h1=>?_)
   · have e1:=b07 h1
     rw [List.getD_eq_getElem?_getD] at e1
     simp [num,P8,h1,e1,A6,tx,hg]
     refine b7 rfl rfl (.inl rfl) (hp l[i] (List.getElem_mem h1)) ?_
     cases hpi:p l[i] with
     | true=>
      simp
      rw [a0l h1 hpi (fun k hk=>hne k hk (by omega))];rfl
     | false=>
      simp
      refine LoopNext.mk (i+1) ⟨by omega,fun k hk hk'=>?_⟩ (by omega) (Le.mk _ _ ?_ ?_)
      · by_cases e:k=i
        · subst e;exact hpi
        · exact hne k (by omega) hk'
      · simp [num,P8];exact wrap_i64 (by omega) (by omega)
      · simp
   · have e:i=l.length:=by omega
     subst e
     simp [num]
     rw [Y8 (fun k hk=>hne k hk hk)]
theorem b33 (l:List LPeer) (g:Nat) (p:LPeer→Bool) (hl:l.length < 1099511627776) (hg:fnB Tryz.prog g=true)
 (hp:∀ x∈l,d8 Tryz.prog g [.val (A6 x)] (.ret (.val (.bool (p x))) []) []) :
 d8 Tryz.prog 240 [.val (P8 l),.fn g []] (.ret (.val (.bool (l.any p))) []) []:=by
 refine f8 mixed ok240 rfl (fun _=>rfl) ?_
 unfold ir240
 rw [b6,← a5y l p]
 simp [d9,i6,j9,b9,d7,j9,i6,P8]
 refine b7 rfl rfl (.inl rfl) (b9x l g p hl hg hp) ?_
 simp [num]
theorem c79 (l:List LPeer) (hl:l.length < 1099511627776) (hs:∀ p∈l,p.target.url.length < 1048577):d8 Tryz.prog 175 [.val (P8 l)] (.ret (.val (.bool (X7 l))) []) []:=by
 refine f8 mixed ok175 rfl (fun _=>rfl) ?_
 unfold ir175
 rw [b6]
 by_cases h4:4 < l.length
 · have h4':(4:Int) < l.length:=by omega
   have e:X7 l=false:=by
    unfold X7
    rw [decide_eq_false (by omega)];rfl
   simp [d9,i6,j9,b9,d7,P8,h4',e]
 · have h4':¬ (4:Int) < l.length:=by omega
   have e:X7 l=(Z4 (tgs l) && !(l.any fun x=>!a4e x)):=by
    unfold X7 tgs
    rw [decide_eq_true (by omega),b66,Bool.true_and,Bool.and_comm]
    congr 1
    rw [Bool.eq_iff_iff]
    simp
   rw [e]
   simp [d9,i6,j9,b9,d7,P8,h4']
   refine b7 rfl rfl (.inl rfl) (b3m l hl) ?_
   simp
   refine b7 rfl rfl (.inl rfl) (b3n (tgs l) (by simp [tgs];omega)) ?_
   cases hu:Z4 (tgs l) with
   | false=>simp
   | true=>
    simp only [Bool.true_and]
    simp
    refine b7 rfl rfl (.inl rfl) (b33 l 241 (fun x=>!a4e x) hl (by kernel_rfl) (fun x hx=>c4s x (hs x hx))) ?_
    simp
end Go.Proofs
end
section
namespace Go.Proofs
open Go.PW Go.KP
attribute [local simp] RV.cells RV.one PV.cells PV.solid PV.one G6 i7 M3 L4 RV.ofCells elems PV.killL
variable [GF]
theorem b0j (l:List LTarget) (g:Nat) (p:LTarget→Bool) (hl:l.length < 1099511627776) (hg:fnB Tryz.prog g=true)
 (hp:∀ x∈l,d8 Tryz.prog g [.val (f9 x)] (.ret (.val (.bool (p x))) []) []) :
 d8 Tryz.prog 299 [.val (.list 3 (l.map f9)),.fn g []] (.ret (.val (num (a1i l p))) []) []:=by
 refine f8 mixed ok299 rfl (fun _=>rfl) ?_
 unfold ir299
 rw [b6]
 simp [d9,i6,j9,b9,d7,j9,i6]
 refine j8 (X:=Nat) (fun i=>⟨u0 [(0,.val (.list 3 (l.map f9))),(1,.fn g []),(7,.val (num l.length)),(8,.val (num i))],u5 []⟩) (fun i=>i≤l.length∧∀ k (hk:k < i) (hk':k < l.length),p l[k]=false) (fun i=>l.length - i) 0 (Le.mk _ _ ?_ ?_) ?_ ?_
 · simp [upd,num]
 · simp
 · simp
 · rintro i ⟨hi,hne⟩
   simp [num]
   refine f7 (fun h1=>?_) (fun h1=>?_)
   · have e1:(l.map f9)[i]?.getD .nilptr=f9 l[i]:=by simp [List.getElem?_eq_getElem h1]
     simp [num,h1,e1,f9,tx,num,hg]
     refine b7 rfl rfl (.inl rfl) (hp l[i] (List.getElem_mem h1)) ?_
     cases hpi:p l[i] with
     | true=>
      simp
      rw [a0l h1 hpi (fun k hk=>hne k hk (by omega))];rfl
     | false=>
      simp
      refine LoopNext.mk (i+1) ⟨by omega,fun k hk hk'=>?_⟩ (by omega) (Le.mk _ _ ?_ ?_)
      · by_cases e:k=i
        · subst e;exact hpi
        · exact hne k (by omega) hk'
      · simp [num];exact wrap_i64 (by omega) (by omega)
      · simp
   · have e:i=l.length:=by omega
     subst e
     simp [num]
     rw [Y8 (fun k hk=>hne k hk hk)]
theorem a7v (l:List LTarget) (g:Nat) (p:LTarget→Bool) (hl:l.length < 1099511627776) (hg:fnB Tryz.prog g=true)
 (hp:∀ x∈l,d8 Tryz.prog g [.val (f9 x)] (.ret (.val (.bool (p x))) []) []) :
 d8 Tryz.prog 237 [.val (.list 3 (l.map f9)),.fn g []] (.ret (.val (.bool (l.any p))) []) []:=by
 refine f8 mixed ok237 rfl (fun _=>rfl) ?_
 unfold ir237
 rw [b6]
 simp [d9,i6,j9,b9,d7,j9,i6]
 refine b7 rfl rfl (.inl rfl) (b0j l g p hl hg hp) ?_
 simp [num]
 exact a5y l p
end Go.Proofs
end
section
namespace Go.Proofs
open Go.PW Go.KP
attribute [local simp] RV.cells RV.one PV.cells PV.solid PV.one G6 i7 M3 L4 RV.ofCells elems PV.killL
variable [GH]
theorem c4u (t:LTarget) (ht:t.url.length < 1048577):d8 Tryz.prog 238 [.val (f9 t)] (.ret (.val (.bool (!P6 t))) []) []:=by
 refine f8 mixed ok238 rfl (fun _=>rfl) ?_
 unfold ir238
 rw [b6]
 have h:=b5y t ht
 simp [d9,i6,j9,b9,d7,f9,tx,num]
 refine b7 rfl rfl (.inl rfl) h ?_
 simp
theorem b9z (g:LGroup) (b1 b2 b3 b4 b5:Bool) (hW:d8 Tryz.prog 185 [.val (tx g.name)] (.ret (.val (.bool b1)) []) []) (hA:d8 Tryz.prog 114 [.val (num g.age),.val (num 1),.val (num 100)] (.ret (.val (.bool b2)) []) [])
 (hT:d8 Tryz.prog 114 [.val (num g.targets.length),.val (num 1),.val (num 4)] (.ret (.val (.bool b3)) []) []) (hU:d8 Tryz.prog 236 [.val (.list 3 (g.targets.map f9))] (.ret (.val (.bool b4)) []) [])
 (hC:d8 Tryz.prog 237 [.val (.list 3 (g.targets.map f9)),.fn 238 []] (.ret (.val (.bool b5)) []) []) :
 d8 Tryz.prog 174 [.val (M4 g)] (.ret (.val (.bool (b1 && b2 && b3 && b4 && !b5))) []) []:=by
 refine f8 mixed ok174 rfl (fun _=>rfl) ?_
 unfold ir174
 rw [b6]
 simp [d9,i6,j9,b9,d7,M4,tx,num]
 refine b7 rfl rfl (.inl rfl) hW ?_
 cases b1 with
 | false=>simp
 | true=>
  simp [num]
  refine b7 rfl rfl (.inl rfl) hA ?_
  cases b2 with
  | false=>simp
  | true=>
   simp [num]
   refine b7 rfl rfl (.inl rfl) hT ?_
   cases b3 with
   | false=>simp
   | true=>
    simp [num]
    refine b7 rfl rfl (.inl rfl) hU ?_
    cases b4 with
    | false=>simp
    | true=>
     simp [num]
     refine b7 rfl rfl (.inl rfl) hC ?_
     cases b5<;>simp
theorem c8a (g:LGroup) (hb:a2d 1048576 g):d8 Tryz.prog 174 [.val (M4 g)] (.ret (.val (.bool (a2r g))) []) []:=by
 have hnl:g.name.length≤1048576:=hb.1
 have htl:g.targets.length≤1048576:=hb.2.1
 have hC:=a7v g.targets 238 (fun t=>!P6 t) (by omega) (by kernel_rfl) (fun x hx=>c4u x (by have:=hb.2.2 x hx;unfold U9 at this;omega))
 have h:=b9z g _ _ _ _ _ (b5z g.name (by omega)) (R9 g.age 1 100) (R9 g.targets.length 1 4) (b3n g.targets (by omega)) hC
 have q3:(1≤g.targets.length∧g.targets.length≤4)↔((1:Int)≤g.targets.length∧(g.targets.length:Int)≤4):=by omega
 have e:a2r g=(a1h g.name && decide (1≤g.age∧g.age≤100) && decide ((1:Int)≤g.targets.length∧(g.targets.length:Int)≤4) && Z4 g.targets && !(g.targets.any fun t=>!P6 t)):=by
  unfold a2r
  rw [decide_eq_decide.2 q3,b8r,List.not_any_eq_all_not]
  simp only [Bool.not_not]
  cases a1h g.name<;>cases decide (1≤g.age∧g.age≤100)<;>cases decide ((1:Int)≤g.targets.length∧(g.targets.length:Int)≤4)<;>cases g.targets.all P6<;>simp
 rw [e]
 exact h
end Go.Proofs
end
