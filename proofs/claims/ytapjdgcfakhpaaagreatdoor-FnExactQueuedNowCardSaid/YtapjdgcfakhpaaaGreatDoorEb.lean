/- Eb: merged out of KIf, KIg, KIh, KIi, KIq, KIw. -/
import Derived.Test.YtapjdgcfakhpaaaGreatDoorEa
import Derived.Test.YtapjdgcfakhpaaaGreatDoorBa
import Derived.Test.YtapjdgcfakhpaaaGreatDoorCa
import Derived.Test.YtapjdgcfakhpaaaGreatDoorAc
set_option linter.unusedSectionVars false
set_option linter.unusedSimpArgs false
set_option linter.unusedVariables false
set_option maxRecDepth 100000
section
namespace Go.Proofs
open Go.PW Go.KP
attribute [local simp] RV.cells RV.one PV.cells PV.solid PV.one G1 i6 L8 K7 RV.ofCells elems PV.killL
variable [GH]
structure IO (st:St) (u:LUrl):Prop where
 e1:st.env 1=.ptr 1 0
 m1:st.mem 1=.box (f5 u)
section
variable {Ks:Kx (St→Prop)} {kx:Kx (RV→St→Prop)} {st:St} {u:LUrl} {b:Bool}
def c1n (u:LUrl):Bool:=u.hasF || decide (u.frag=[])
theorem b9e (h:IO st u) (hb:st.env 108=.val (.bool b)) (hK:∀ st',IO st' u→st'.env 116=.val (.bool (b && c1n u))→Ks.k st'):EX Tryz.prog ir273_o109 st (Ks:=Ks):=by
 unfold ir273_o109
 have e3:(⟨#[]⟩:ByteArray)=bs []:=rfl
 cases b with
 | false=>
  simp [hb]
  refine hK _ ⟨?_,?_⟩ ?_<;>simp [h.e1,h.m1]
 | true=>
  cases hf:u.hasF with
  | true=>
   simp [hb,h.e1,h.m1,f5,tx,num,hf]
   refine hK _ ⟨?_,?_⟩ ?_<;>simp [h.e1,h.m1,c1n,hf]
  | false=>
   simp [hb,h.e1,h.m1,f5,tx,num,hf,e3,L2]
   refine hK _ ⟨?_,?_⟩ ?_<;>simp [h.e1,h.m1,c1n,hf]
def c1o (u:LUrl):Bool:=(u.hasQ || decide (u.query=[])) && c1n u
theorem c6k (h:IO st u) (hb:st.env 99=.val (.bool b)) (hK:∀ st',IO st' u→st'.env 116=.val (.bool (b && c1o u))→Ks.k st'):EX Tryz.prog ir273_o100 st (Ks:=Ks):=by
 unfold ir273_o100
 have e3:(⟨#[]⟩:ByteArray)=bs []:=rfl
 cases b with
 | false=>
  simp [hb]
  refine b9e (u:=u) (b:=false) ⟨?_,?_⟩ ?_ (fun st' q1 q2=>hK st' q1 (by simpa using q2))<;>simp [h.e1,h.m1]
 | true=>
  cases hq:u.hasQ with
  | true=>
   simp [hb,h.e1,h.m1,f5,tx,num,hq]
   refine b9e (u:=u) (b:=true) ⟨?_,?_⟩ ?_ (fun st' q1 q2=>hK st' q1 (by rw [q2];simp [c1o,hq]))<;>simp [h.e1,h.m1]
  | false=>
   simp [hb,h.e1,h.m1,f5,tx,num,hq,e3,L2]
   refine b9e (u:=u) (b:=decide (u.query=[])) ⟨?_,?_⟩ ?_ (fun st' q1 q2=>hK st' q1 (by rw [q2];simp [c1o,hq]))<;>simp [h.e1,h.m1]
def ib94 (u:LUrl):Bool:=!decide (35∈u.query) && c1o u
theorem d0p (h:IO st u) (hb:st.env 93=.val (.bool b)) (hK:∀ st',IO st' u→st'.env 116=.val (.bool (b && ib94 u))→Ks.k st'):EX Tryz.prog ir273_o94 st (Ks:=Ks):=by
 unfold ir273_o94
 have e3:(⟨#[35]⟩:ByteArray)=bs [35]:=rfl
 have e4:(⟨#[47]⟩:ByteArray)=bs [47]:=rfl
 cases b with
 | false=>
  simp [hb]
  refine c6k (u:=u) (b:=false) ⟨?_,?_⟩ ?_ (fun st' q1 q2=>hK st' q1 (by simpa using q2))<;>simp [h.e1,h.m1]
 | true=>
  simp [hb,h.e1,h.m1,f5,tx,num,e3,e4]
  refine A0 rfl rfl (.inl rfl) (c5p u.query 35) ?_
  simp [hb,h.e1,h.m1,f5,tx,num]
  refine c6k (u:=u) (b:=!decide (35∈u.query)) ⟨?_,?_⟩ ?_ (fun st' q1 q2=>hK st' q1 (by rw [q2];simp [ib94]))<;>simp [h.e1,h.m1,bne]
def ib89 (u:LUrl):Bool:=([47]:Tx).isPrefixOf u.path && ib94 u
theorem d0q (h:IO st u) (hb:st.env 88=.val (.bool b)) (hK:∀ st',IO st' u→st'.env 116=.val (.bool (b && ib89 u))→Ks.k st'):EX Tryz.prog ir273_o89 st (Ks:=Ks):=by
 unfold ir273_o89
 have e3:(⟨#[35]⟩:ByteArray)=bs [35]:=rfl
 have e4:(⟨#[47]⟩:ByteArray)=bs [47]:=rfl
 cases b with
 | false=>
  simp [hb]
  refine d0p (u:=u) (b:=false) ⟨?_,?_⟩ ?_ (fun st' q1 q2=>hK st' q1 (by simpa using q2))<;>simp [h.e1,h.m1]
 | true=>
  simp [hb,h.e1,h.m1,f5,tx,num,e3,e4]
  refine A0 rfl rfl (.inl rfl) (c2v u.path [47]) ?_
  simp [hb,h.e1,h.m1,f5,tx,num]
  refine d0p (u:=u) (b:=([47]:Tx).isPrefixOf u.path) ⟨?_,?_⟩ ?_ (fun st' q1 q2=>hK st' q1 (by rw [q2];simp [ib89]))<;>simp [h.e1,h.m1,bne]
def ib81 (u:LUrl):Bool:=!(u.port == a0s u.scheme) && ib89 u
theorem d0r (h:IO st u) (hb:st.env 80=.val (.bool b)) (hK:∀ st',IO st' u→st'.env 116=.val (.bool (b && ib81 u))→Ks.k st'):EX Tryz.prog ir273_o81 st (Ks:=Ks):=by
 unfold ir273_o81
 have e3:(⟨#[35]⟩:ByteArray)=bs [35]:=rfl
 have e4:(⟨#[47]⟩:ByteArray)=bs [47]:=rfl
 cases b with
 | false=>
  simp [hb]
  refine d0q (u:=u) (b:=false) ⟨?_,?_⟩ ?_ (fun st' q1 q2=>hK st' q1 (by simpa using q2))<;>simp [h.e1,h.m1]
 | true=>
  simp [hb,h.e1,h.m1,f5,tx,num,e3,e4]
  refine A0 rfl rfl (.inl rfl) (c6m u.scheme) ?_
  simp [hb,h.e1,h.m1,f5,tx,num]
  refine d0q (u:=u) (b:=!(u.port == a0s u.scheme)) ⟨?_,?_⟩ ?_ (fun st' q1 q2=>hK st' q1 (by rw [q2];simp [ib81]))<;>simp [h.e1,h.m1,bne]
def d0v (u:LUrl):Bool:=decide (0≤u.port∧u.port≤65535) && ib81 u
theorem d0s (h:IO st u) (hb:st.env 75=.val (.bool b)) (hK:∀ st',IO st' u→st'.env 116=.val (.bool (b && d0v u))→Ks.k st'):EX Tryz.prog ir273_o76 st (Ks:=Ks):=by
 unfold ir273_o76
 have e3:(⟨#[35]⟩:ByteArray)=bs [35]:=rfl
 have e4:(⟨#[47]⟩:ByteArray)=bs [47]:=rfl
 cases b with
 | false=>
  simp [hb]
  refine d0r (u:=u) (b:=false) ⟨?_,?_⟩ ?_ (fun st' q1 q2=>hK st' q1 (by simpa using q2))<;>simp [h.e1,h.m1]
 | true=>
  simp [hb,h.e1,h.m1,f5,tx,num,e3,e4]
  refine A0 rfl rfl (.inl rfl) (R5 u.port 0 65535) ?_
  simp [hb,h.e1,h.m1,f5,tx,num]
  refine d0r (u:=u) (b:=decide (0≤u.port∧u.port≤65535)) ⟨?_,?_⟩ ?_ (fun st' q1 q2=>hK st' q1 (by rw [q2];simp [d0v]))<;>simp [h.e1,h.m1,bne]
end
def c1h (u:LUrl):Bool:=(!R7 u.user [47,63,35,64] && a17 u.host) && d0v u
theorem c4e (u:LUrl) (h2:u.user.length < 1048577) (h3:u.host.length < 1048577) (hsh:T7 u.user=true) (st:St) (h:IO st u):EC Tryz.prog ir273_from4 st (K:=⟨a2c [.t 2] (.val (.bool (c1h u)))⟩):=by
 unfold ir273_from4
 have e3:(⟨#[47,63,35,64]⟩:ByteArray)=bs [47,63,35,64]:=rfl
 have hend:∀ b,b=(!R7 u.user [47,63,35,64] && a17 u.host)→∀ st',IO st' u→st'.env 116=.val (.bool (b && d0v u))→a2c [.t 2] (.val (.bool (c1h u))) .ret ⟨upd 2 (st'.env 116) st'.env,st'.mem⟩:=fun b hb st' q1 q2=>by
  rw [q2,hb]
  simp [c1h]
 simp [h.e1,h.m1,f5,tx,num,e3]
 refine A0 rfl rfl (.inl rfl) (a9w u.user [47,63,35,64] (by omega) (by simp) hsh (by decide)) ?_
 cases hu:R7 u.user [47,63,35,64] with
 | true=>
  simp [h.e1,h.m1,f5,tx,num]
  refine d0s (u:=u) (b:=false) ⟨?_,?_⟩ ?_ (fun st' q1 q2=>?_)
  · simp [h.e1]
  · simp [h.m1]
  · simp
  · simp only [x9,F5,y4,F3,y5,q7,y0,F4,l6,A5,G6,G7,j6,p5,p6,l0,y6,p9,l2,F2,x8,p8,p7,D3,D4,a0u,a0v,Option.getD_some,Option.getD_none,C0,t8,o5,D0,o4,n7,D2,n8,D1,C9,C8,H1,w6,o2,C6,v8,o1,C5,B8,C7,w5,C3,n6,v7,C4,H3,H2,B9,C1,n9,C2,w7,o3,A8,l8,B7,B6,B5,G8,u9,m8,B3,u6,l9,B2,A6,B4,u7,B0,l7,u5,B1,H0,G9,A7,u4,n5,A9,v6,n0,J1,J0,K4,J2,J6,J4,J3,K3,J5,J7,J8,J9,K2,y9,y8,y7,M0,M1,z7,F6,u0,D8,x1,K6,q8,Q1,M4,L6,N6,N8,N7,Q2,Q3,I3,I5,I4,I6,I7,N3,x3,N2,D9,E1,E2,x4,a0x,E9,x7,P9,Q0,H4,M2,M3,Option.map_some,Option.map_none,E3,x5,w9,o6,D6,D7,H7,H6,O3,O2,I9,F0,F1,I8,N9,O0,H9,o8,I0,o7,M7,E8,E7,l1,N5,O1,I2,M9,N1,N0,x2,A2,A4,A3,k6,N4,Q5,Q4,M5,I1,U3,M6,o9,E5,E6,x6,E4,k9,u2,k8,u3,k7,K5,O4,O5,z1,z6,F8,F7,D5]
    exact hend false (by rw [hu];rfl) st' q1 q2
 | false=>
  simp [h.e1,h.m1,f5,tx,num]
  refine A0 rfl rfl (.inl rfl) (d04 u.host (by omega)) ?_
  simp [h.e1,h.m1,f5,tx,num]
  refine d0s (u:=u) (b:=a17 u.host) ⟨?_,?_⟩ ?_ (fun st' q1 q2=>?_)
  · simp [h.e1]
  · simp [h.m1]
  · simp
  · simp only [x9,F5,y4,F3,y5,q7,y0,F4,l6,A5,G6,G7,j6,p5,p6,l0,y6,p9,l2,F2,x8,p8,p7,D3,D4,a0u,a0v,Option.getD_some,Option.getD_none,C0,t8,o5,D0,o4,n7,D2,n8,D1,C9,C8,H1,w6,o2,C6,v8,o1,C5,B8,C7,w5,C3,n6,v7,C4,H3,H2,B9,C1,n9,C2,w7,o3,A8,l8,B7,B6,B5,G8,u9,m8,B3,u6,l9,B2,A6,B4,u7,B0,l7,u5,B1,H0,G9,A7,u4,n5,A9,v6,n0,J1,J0,K4,J2,J6,J4,J3,K3,J5,J7,J8,J9,K2,y9,y8,y7,M0,M1,z7,F6,u0,D8,x1,K6,q8,Q1,M4,L6,N6,N8,N7,Q2,Q3,I3,I5,I4,I6,I7,N3,x3,N2,D9,E1,E2,x4,a0x,E9,x7,P9,Q0,H4,M2,M3,Option.map_some,Option.map_none,E3,x5,w9,o6,D6,D7,H7,H6,O3,O2,I9,F0,F1,I8,N9,O0,H9,o8,I0,o7,M7,E8,E7,l1,N5,O1,I2,M9,N1,N0,x2,A2,A4,A3,k6,N4,Q5,Q4,M5,I1,U3,M6,o9,E5,E6,x6,E4,k9,u2,k8,u3,k7,K5,O4,O5,z1,z6,F8,F7,D5]
    exact hend _ (by rw [hu];simp) st' q1 q2
def a99 (u:LUrl):Bool:=decide (u.user=[]) && decide (u.host=[]) && decide (u.port=0) && decide (u.query=[]) && decide (u.frag=[]) && !u.hasQ && !u.hasF
theorem c18 (u:LUrl):P0 [0,0,0,2,0,0,0,1,1] (b2q u) [tx u.scheme,tx [],tx [],num 0,tx u.path,tx [],tx [],.bool false,.bool false]=some (a99 u):=by
 simp only [b2q,P0,a4n,tx,num,L2,if_true,decide_true]
 unfold a99
 have e:(u.port == 0)=decide (u.port=0):=by rw [Bool.eq_iff_iff];simp
 rw [e]
 cases decide (u.user=[])<;>cases decide (u.host=[])<;>cases decide (u.port=0)<;>cases decide (u.query=[])<;>cases decide (u.frag=[])<;>cases u.hasQ<;>cases u.hasF<;>rfl
theorem c4f (u:LUrl) (h2:u.user.length < 1048577) (h3:u.host.length < 1048577) (hsh:T7 u.user=true) (st:St) (h:IO st u):EC Tryz.prog ir273_from3 st (K:=⟨a2c [.t 2] (.val (.bool (if a0o u.scheme then c1h u else a99 u)))⟩):=by
 unfold ir273_from3
 have e3:(⟨#[]⟩:ByteArray)=bs []:=rfl
 simp [h.e1,h.m1,f5,tx,num,i6]
 refine b7 rfl rfl (.inl rfl) (c1p u) ?_
 cases hw:a0o u.scheme with
 | true=>
  simp
  rw [if_pos rfl]
  refine c4e u h2 h3 hsh _ ⟨?_,?_⟩<;>simp [h.e1,h.m1]
 | false=>
  rw [if_neg (by simp)]
  have hq:=c18 u
  simp only [b2q,tx,num] at hq
  simp [h.e1,h.m1,f5,tx,num,i6,e3,hq,a3t]
theorem c4g (u:LUrl) (h2:u.user.length < 1048577) (h3:u.host.length < 1048577) (h4:u.path.length < 1048577) (hsh:T7 u.user=true) (hsp:T7 u.path=true) (st:St) (h:IO st u):EC Tryz.prog ir273_from2 st (K:=⟨a2c [.t 2] (.val (.bool (!R7 u.path [63,35] && if a0o u.scheme then c1h u else a99 u)))⟩):=by
 unfold ir273_from2
 have e3:(⟨#[63,35]⟩:ByteArray)=bs [63,35]:=rfl
 simp [h.e1,h.m1,f5,tx,num,e3]
 refine b7 rfl rfl (.inl rfl) (a9w u.path [63,35] (by omega) (by simp) hsp (by decide)) ?_
 cases hp:R7 u.path [63,35] with
 | true=>simp
 | false=>
  simp only [Bool.not_false,Bool.true_and]
  simp
  refine c4f u h2 h3 hsh _ ⟨?_,?_⟩<;>simp [h.e1,h.m1]
section
variable {Ks:Kx (St→Prop)} {kx:Kx (RV→St→Prop)} {st:St} {u:LUrl} {b:Bool}
structure Tiny (u:LUrl):Prop where
 s1:u.scheme.length < 1048577
 s2:u.user.length < 1048577
 s3:u.host.length < 1048577
 s4:u.path.length < 1048577
 s5:u.query.length < 1048577
 s6:u.frag.length < 1048577
 p0:-9223372036854775808≤u.port
 p1:u.port≤9223372036854775807
theorem Tiny.small (h:Tiny u):u.Small:=by
 obtain ⟨s1,s2,s3,s4,s5,s6,p0,p1⟩:=h
 exact ⟨by omega,by omega,by omega,by omega,by omega,by omega,p1⟩
def c7x (u:LUrl):Bool:=!T7 (u.user++u.host++u.path++u.query++u.frag)
theorem d0t (hs:Tiny u) (h:IO st u) (hb:st.env 35=.val (.bool b)) (hK:∀ st',IO st' u→st'.env 52=.val (.bool (b || c7x u))→Ks.k st'):EO Tryz.prog ir273_o36 st (Ks:=Ks) (kx:=kx):=by
 unfold ir273_o36
 obtain ⟨s1,s2,s3,s4,s5,s6,p0,p1⟩:=hs
 cases b with
 | true=>
  simp [hb]
  refine hK _ ⟨?_,?_⟩ ?_<;>simp [h.e1,h.m1]
 | false=>
  simp [hb,h.e1,h.m1,f5,tx,num,b9,L3]
  refine ⟨by omega,by omega,by omega,by omega,?_⟩
  refine b7 rfl rfl (.inl rfl) (c4n (u.user++(u.host++(u.path++(u.query++u.frag)))) (by simp;omega)) ?_
  simp [hb]
  refine hK _ ⟨?_,?_⟩ ?_<;>simp [h.e1,h.m1,c7x]
def b66 (u:LUrl):Bool:=decide (100 < (a3e u).length) || c7x u
theorem d0u (hs:Tiny u) (h:IO st u) (hb:st.env 29=.val (.bool b)) (hK:∀ st',IO st' u→st'.env 52=.val (.bool (b || b66 u))→Ks.k st'):EO Tryz.prog ir273_o30 st (Ks:=Ks) (kx:=kx):=by
 unfold ir273_o30
 cases b with
 | true=>
  simp [hb]
  refine d0t (u:=u) (b:=true) hs ⟨?_,?_⟩ ?_ (fun st' q1 q2=>hK st' q1 (by simpa using q2))<;>simp [h.e1,h.m1]
 | false=>
  have e:((100:Int) < ((a3e u).length:Int))↔100 < (a3e u).length:=by omega
  simp [hb,h.e1,h.m1,f5,tx,num,i6]
  refine b7 rfl rfl (.inl rfl) (d0y u hs.small hs.p0) ?_
  simp [hb,tx,b9,e]
  refine d0t (u:=u) (b:=decide (100 < (a3e u).length)) hs ⟨?_,?_⟩ ?_ (fun st' q1 q2=>hK st' q1 (by rw [q2];simp [b66]))<;>simp [h.e1,h.m1]
end
theorem b88 (u:LUrl):b2a u=(V8 u.scheme && decide (u.user.length+u.host.length+u.path.length+u.query.length+u.frag.length≤100) && !b66 u && (!R7 u.path [63,35] && if a0o u.scheme then c1h u else a99 u)):=by
 unfold b2a b66 c7x c1h a99 d0v ib81 ib89 ib94 c1o c1n
 have e1:decide ((a3e u).length≤100)=!decide (100 < (a3e u).length):=by
  by_cases h:(a3e u).length≤100
  · rw [decide_eq_true h,decide_eq_false (by omega)];rfl
  · rw [decide_eq_false h,decide_eq_true (by omega)];rfl
 have e2:([47]:Tx).isPrefixOf u.path=(decide (0 < u.path.length) && decide ((u.path.getD 0 0).toNat=47)):=by
  cases u.path with
  | nil=>rfl
  | cons c r=>
   rw [Bool.eq_iff_iff]
   simp
   constructor
   · intro h;rw [← h];rfl
   · intro h;exact (UInt8.toNat_inj.1 (by rw [h];rfl)).symm
 have e3:(u.port == a0s u.scheme)=decide (u.port=a0s u.scheme):=by rw [Bool.eq_iff_iff];simp
 have e4:decide (u.port≠a0s u.scheme)=!decide (u.port=a0s u.scheme):=by simp
 have e5:R7 u.query [35]=decide (35∈u.query):=by
  rw [Bool.eq_iff_iff]
  simp [R7]
 rw [e1,e2,e3,e4,e5]
 cases V8 u.scheme<;>simp only [Bool.false_and,Bool.true_and]
 cases decide (u.user.length+u.host.length+u.path.length+u.query.length+u.frag.length≤100)<;>simp only [Bool.false_and,Bool.true_and]
 cases decide (100 < (a3e u).length)<;>simp only [Bool.false_and,Bool.true_and,Bool.not_true,Bool.not_false,Bool.true_or,Bool.false_or]
 cases T7 (u.user++u.host++u.path++u.query++u.frag)<;>simp only [Bool.false_and,Bool.true_and,Bool.not_true,Bool.not_false]
 cases R7 u.path [63,35]<;>simp only [Bool.false_and,Bool.true_and,Bool.not_true,Bool.not_false]
 split
 · simp only [Bool.and_assoc]
 · rfl
def c3b (u:LUrl):Nat:=u.user.length+u.host.length+u.path.length+u.query.length+u.frag.length
def c5u (u:LUrl):Bool:=!R7 u.path [63,35] && if a0o u.scheme then c1h u else a99 u
theorem c1i (u:LUrl) (hs:Tiny u) (b:Bool) (st':St) (q1:IO st' u) (q2:st'.env 52=.val (.bool (b || b66 u))) (res:Bool) (hres:res=(!(b || b66 u) && c5u u)) :
 CD (st'.env 52) (A:=⟨EC Tryz.prog (.seq (.reg [⟨some 2,.mov (.k (.val (.bool false))),none⟩]) .ret) st' (K:=⟨fun e st'=>ET e st' (Ks:=⟨fun st'=>EC Tryz.prog ir273_from2 st' (K:=⟨a2c [.t 2] (.val (.bool res))⟩)⟩) (K:=⟨a2c [.t 2] (.val (.bool res))⟩)⟩)⟩)
     (B:=⟨EC Tryz.prog .skip st' (K:=⟨fun e st'=>ET e st' (Ks:=⟨fun st'=>EC Tryz.prog ir273_from2 st' (K:=⟨a2c [.t 2] (.val (.bool res))⟩)⟩) (K:=⟨a2c [.t 2] (.val (.bool res))⟩)⟩)⟩):=by
 rw [q2]
 cases hbb:(b || b66 u) with
 | true=>
  rw [hbb] at hres
  have:res=false:=hres
  subst this
  simp
 | false=>
  rw [hbb] at hres
  have:res=c5u u:=hres
  subst this
  simp only [x9,F5,y4,F3,y5,q7,y0,F4,l6,A5,G6,G7,j6,p5,p6,l0,y6,p9,l2,F2,x8,p8,p7,D3,D4,a0u,a0v,Option.getD_some,Option.getD_none,C0,t8,o5,D0,o4,n7,D2,n8,D1,C9,C8,H1,w6,o2,C6,v8,o1,C5,B8,C7,w5,C3,n6,v7,C4,H3,H2,B9,C1,n9,C2,w7,o3,A8,l8,B7,B6,B5,G8,u9,m8,B3,u6,l9,B2,A6,B4,u7,B0,l7,u5,B1,H0,G9,A7,u4,n5,A9,v6,n0,J1,J0,K4,J2,J6,J4,J3,K3,J5,J7,J8,J9,K2,y9,y8,y7,M0,M1,z7,F6,u0,D8,x1,K6,q8,Q1,M4,L6,N6,N8,N7,Q2,Q3,I3,I5,I4,I6,I7,N3,x3,N2,D9,E1,E2,x4,a0x,E9,x7,P9,Q0,H4,M2,M3,Option.map_some,Option.map_none,E3,x5,w9,o6,D6,D7,H7,H6,O3,O2,I9,F0,F1,I8,N9,O0,H9,o8,I0,o7,M7,E8,E7,l1,N5,O1,I2,M9,N1,N0,x2,A2,A4,A3,k6,N4,Q5,Q4,M5,I1,U3,M6,o9,E5,E6,x6,E4,k9,u2,k8,u3,k7,K5,O4,O5,z1,z6,F8,F7,D5]
  refine f7 (fun h=>by cases h) (fun _=>?_)
  simp only [x9,F5,y4,F3,y5,q7,y0,F4,l6,A5,G6,G7,j6,p5,p6,l0,y6,p9,l2,F2,x8,p8,p7,D3,D4,a0u,a0v,Option.getD_some,Option.getD_none,C0,t8,o5,D0,o4,n7,D2,n8,D1,C9,C8,H1,w6,o2,C6,v8,o1,C5,B8,C7,w5,C3,n6,v7,C4,H3,H2,B9,C1,n9,C2,w7,o3,A8,l8,B7,B6,B5,G8,u9,m8,B3,u6,l9,B2,A6,B4,u7,B0,l7,u5,B1,H0,G9,A7,u4,n5,A9,v6,n0,J1,J0,K4,J2,J6,J4,J3,K3,J5,J7,J8,J9,K2,y9,y8,y7,M0,M1,z7,F6,u0,D8,x1,K6,q8,Q1,M4,L6,N6,N8,N7,Q2,Q3,I3,I5,I4,I6,I7,N3,x3,N2,D9,E1,E2,x4,a0x,E9,x7,P9,Q0,H4,M2,M3,Option.map_some,Option.map_none,E3,x5,w9,o6,D6,D7,H7,H6,O3,O2,I9,F0,F1,I8,N9,O0,H9,o8,I0,o7,M7,E8,E7,l1,N5,O1,I2,M9,N1,N0,x2,A2,A4,A3,k6,N4,Q5,Q4,M5,I1,U3,M6,o9,E5,E6,x6,E4,k9,u2,k8,u3,k7,K5,O4,O5,z1,z6,F8,F7,D5]
  have h30:b66 u=false:=(Bool.or_eq_false_iff.1 hbb).2
  have h36:c7x u=false:=(Bool.or_eq_false_iff.1 h30).2
  unfold c7x at h36
  have hsh:T7 (u.user++u.host++u.path++u.query++u.frag)=true:=by simpa using h36
  simp only [a9o,Bool.and_eq_true] at hsh
  exact c4g u hs.s2 hs.s3 hs.s4 hsh.1.1.1.1 hsh.1.1.2 st' q1
theorem c6p (u:LUrl) (hs:Tiny u):d8 Tryz.prog 273 [.val (X0 u)] (.ret (.val (.bool (S0 u))) []) []:=by
 refine f6 mixed ok273 rfl (fun _=>rfl) ?_
 unfold ir273
 rw [b6]
 have hs':=hs
 obtain ⟨s1,s2,s3,s4,s5,s6,p0,p1⟩:=hs
 have hres:S0 u=(!((!V8 u.scheme || decide (100 < c3b u)) || b66 u) && c5u u):=by
  rw [← c7t,b88]
  have e1:decide (u.user.length+u.host.length+u.path.length+u.query.length+u.frag.length≤100)=!decide (100 < c3b u):=by
   unfold c3b
   by_cases h:u.user.length+u.host.length+u.path.length+u.query.length+u.frag.length≤100
   · rw [decide_eq_true h,decide_eq_false (by omega)];rfl
   · rw [decide_eq_false h,decide_eq_true (by omega)];rfl
  rw [e1]
  unfold c5u
  cases V8 u.scheme<;>cases decide (100 < c3b u)<;>cases b66 u<;>rfl
 simp [d9,f9,j8,b8,d7,X0,tx,num,b9]
 refine b7 rfl rfl (.inl rfl) (c4l u.scheme (by omega)) ?_
 cases b1:V8 u.scheme with
 | false=>
  rw [b1] at hres
  simp [tx,num,b9]
  refine d0u (u:=u) (b:=true) hs' ⟨?_,?_⟩ ?_ (fun st' q1 q2=>c1i u hs' true st' q1 q2 _ hres)
  · simp
  · simp [f5,tx,num]
  · simp
 | true=>
  rw [b1] at hres
  have w1:IntKind.i64.wrap ((u.user.length:Int)+u.host.length)=(u.user.length:Int)+u.host.length:=wrap_i64 (by omega) (by omega)
  have w2:IntKind.i64.wrap ((u.user.length:Int)+u.host.length+u.path.length)=(u.user.length:Int)+u.host.length+u.path.length:=wrap_i64 (by omega) (by omega)
  have w3:IntKind.i64.wrap ((u.user.length:Int)+u.host.length+u.path.length+u.query.length)=(u.user.length:Int)+u.host.length+u.path.length+u.query.length:=wrap_i64 (by omega) (by omega)
  have w4:IntKind.i64.wrap ((u.user.length:Int)+u.host.length+u.path.length+u.query.length+u.frag.length)=(u.user.length:Int)+u.host.length+u.path.length+u.query.length+u.frag.length:=wrap_i64 (by omega) (by omega)
  have e:decide ((100:Int) < (u.user.length:Int)+u.host.length+u.path.length+u.query.length+u.frag.length)=decide (100 < c3b u):=by
   unfold c3b
   by_cases h:100 < u.user.length+u.host.length+u.path.length+u.query.length+u.frag.length
   · rw [decide_eq_true h,decide_eq_true (by omega)]
   · rw [decide_eq_false h,decide_eq_false (by omega)]
  simp [tx,num,b9,w1,w2,w3,w4,e]
  refine d0u (u:=u) (b:=decide (100 < c3b u)) hs' ⟨?_,?_⟩ ?_ (fun st' q1 q2=>c1i u hs' _ st' q1 q2 _ (by rw [hres];rfl))
  · simp
  · simp [f5,tx,num]
  · simp
end Go.Proofs
end
section
namespace Go.Proofs
open Go.PW Go.KP
attribute [local simp] RV.cells RV.one PV.cells PV.solid PV.one G1 i6 L8 K7 RV.ofCells elems PV.killL
variable [GH]
structure IP (st:St) (u:LUrl):Prop where
 e2:st.env 2=.ptr 2 0
 e7:st.env 7=.ptr 7 0
 m2:st.mem 2=.box (f5 LUrl.zero)
 m7:st.mem 7=.box (f5 u)
theorem b60 (u:LUrl) (hs:Tiny u) (st:St) (h:IP st u):EC Tryz.prog ir207_from15 st (K:=prs (u,S0 u)):=by
 unfold ir207_from15
 obtain ⟨e2,e7,m2,m7⟩:=h
 simp [e2,e7,m2,m7,f5,i6,tx,num]
 refine A0 rfl rfl (.inl rfl) (c6p u hs) ?_
 simp [e2,e7,m2,m7,f5,i6,tx,num]
 refine a7s (id:=2) ?_ ?_ ?_
 · simp [e2]
 · simp [e2,f5,tx,num]
 · simp
theorem a5y (sc us ho pa qu fr:Tx) (po:Int) (hq hf:Bool) (hs:Tiny ⟨sc,us,R4 ho,po,pa,qu,fr,hq,hf⟩) (hh:ho.length < 1048577) (st:St) (h:IP st ⟨sc,us,[],po,pa,qu,fr,hq,hf⟩) (e12:st.env 12=.val (tx ho)) :
 EC Tryz.prog ir207_from14 st (K:=prs (⟨sc,us,R4 ho,po,pa,qu,fr,hq,hf⟩,S0 ⟨sc,us,R4 ho,po,pa,qu,fr,hq,hf⟩)):=by
 unfold ir207_from14
 obtain ⟨e2,e7,m2,m7⟩:=h
 simp [e2,e7,m2,m7,e12,f5,i6,tx,num]
 refine b7 rfl rfl (.inl rfl) (c6n ho (by omega)) ?_
 simp [e2,e7,m2,m7,f5,i6,tx,num]
 refine b60 ⟨sc,us,R4 ho,po,pa,qu,fr,hq,hf⟩ hs _ ⟨?_,?_,?_,?_⟩<;>simp [e2,e7,m2,m7,f5,tx,num]
theorem b61 (sc us pa qu fr:Tx) (hq hf:Bool) (h1:sc.length < 1048577) (h2:us.length < 1048577) (h3:pa.length < 1048577) (h4:qu.length < 1048577) (h5:fr.length < 1048577) (r:Tx) (hr:r.length < 1048577) (st:St)
 (h:IP st ⟨sc,us,[],0,pa,qu,fr,hq,hf⟩) (e12:st.env 12=.val (tx (j9 r 58))) (e13:st.env 13=.val (tx (G4 r 58))) (e6:st.env 6=.val (.bool (decide (58∈r)))) :
 EC Tryz.prog ir207_from13 st (K:=prs (T3 ⟨sc,us,R4 (j9 r 58),0,pa,qu,fr,hq,hf⟩ r)):=by
 unfold ir207_from13
 obtain ⟨e2,e7,m2,m7⟩:=h
 have hla:=R8 r 58
 have hlb:=Z6 r 58
 have hll:(R4 (j9 r 58)).length < 1048577:=by simp [R4];omega
 by_cases hc:58∈r
 · simp [e6,e13,hc,tx]
   have hn:=d02 (G4 r 58) (by omega)
   refine Y3 rfl rfl (.inl rfl) hn ?_
   cases hb:(a61 (G4 r 58)).2 with
   | false=>
    have hnone:=c7v hb
    rw [show T3 ⟨sc,us,R4 (j9 r 58),0,pa,qu,fr,hq,hf⟩ r=(LUrl.zero,false) by simp only [T3,a2g,hc,hnone,if_true]]
    simp [e2,e7,m2,m7,tx,num,f5]
    refine a03 _ ?_ ?_ ?_
    · simp [e2]
    · simp [f5,LUrl.zero,tx,num,bs]
    · simp
   | true=>
    have hsome:=inum_le hb
    generalize (a61 (G4 r 58)).1=n at *
    simp [e2,e7,m2,m7,tx,num,f5]
    refine b7 rfl rfl (.inl rfl) (R5 n 1 65535) ?_
    by_cases hin:1≤n∧n≤65535
    · rw [decide_eq_true hin]
      simp [e2,e7,m2,m7,tx,num,f5]
      refine b7 rfl rfl (.inl rfl) (c6m sc) ?_
      by_cases hu:n=a0s sc
      · have hl:a2g sc r=some 0:=by
         simp only [a2g,hc,hsome,hin,if_true,and_self]
         rw [if_pos hu]
        rw [show T3 ⟨sc,us,R4 (j9 r 58),0,pa,qu,fr,hq,hf⟩ r=(⟨sc,us,R4 (j9 r 58),0,pa,qu,fr,hq,hf⟩,S0 ⟨sc,us,R4 (j9 r 58),0,pa,qu,fr,hq,hf⟩) by simp only [T3,hl]]
        simp [e2,e7,m2,m7,tx,num,f5,hu]
        refine a5y sc us (j9 r 58) pa qu fr 0 hq hf ⟨h1,h2,hll,h3,h4,h5,by simp,by simp⟩ (by omega) _ ⟨?_,?_,?_,?_⟩ ?_<;>simp [e2,e7,m2,m7,e12,f5,tx,num]
      · have hl:a2g sc r=some n:=by
         simp only [a2g,hc,hsome,hin,if_true,and_self]
         rw [if_neg hu]
        rw [show T3 ⟨sc,us,R4 (j9 r 58),0,pa,qu,fr,hq,hf⟩ r=(⟨sc,us,R4 (j9 r 58),n,pa,qu,fr,hq,hf⟩,S0 ⟨sc,us,R4 (j9 r 58),n,pa,qu,fr,hq,hf⟩) by simp only [T3,hl]]
        simp [e2,e7,m2,m7,tx,num,f5,hu]
        refine a5y sc us (j9 r 58) pa qu fr n hq hf ⟨h1,h2,hll,h3,h4,h5,by show _≤n;omega,by show n≤_;omega⟩ (by omega) _ ⟨?_,?_,?_,?_⟩ ?_<;>simp [e2,e7,m2,m7,e12,f5,tx,num]
    · rw [decide_eq_false hin]
      rw [show T3 ⟨sc,us,R4 (j9 r 58),0,pa,qu,fr,hq,hf⟩ r=(LUrl.zero,false) by simp only [T3,a2g,hc,hsome,hin,if_true,if_false]]
      simp [e2,e7,m2,m7,tx,num,f5]
      refine a03 _ ?_ ?_ ?_
      · simp [e2]
      · simp [f5,LUrl.zero,tx,num,bs]
      · simp
 · have hl:a2g sc r=some 0:=by simp only [a2g,hc,if_false]
   rw [show T3 ⟨sc,us,R4 (j9 r 58),0,pa,qu,fr,hq,hf⟩ r=(⟨sc,us,R4 (j9 r 58),0,pa,qu,fr,hq,hf⟩,S0 ⟨sc,us,R4 (j9 r 58),0,pa,qu,fr,hq,hf⟩) by simp only [T3,hl]]
   simp [e6,hc]
   refine a5y sc us (j9 r 58) pa qu fr 0 hq hf ⟨h1,h2,hll,h3,h4,h5,by simp,by simp⟩ (by omega) _ ⟨?_,?_,?_,?_⟩ ?_<;>simp [e2,e7,m2,m7,e12,f5,tx,num]
theorem a9r (sc us pa qu fr:Tx) (hq hf:Bool) (h1:sc.length < 1048577) (h2:us.length < 1048577) (h3:pa.length < 1048577) (h4:qu.length < 1048577) (h5:fr.length < 1048577) (r:Tx) (hr:r.length < 1048577) (st:St)
 (h:IP st ⟨sc,us,[],0,pa,qu,fr,hq,hf⟩) (e5:st.env 5=.val (tx r)) :
 EC Tryz.prog ir207_from12 st (K:=prs (T3 ⟨sc,us,R4 (j9 r 58),0,pa,qu,fr,hq,hf⟩ r)):=by
 unfold ir207_from12
 obtain ⟨e2,e7,m2,m7⟩:=h
 have q1:(⟨#[58]⟩:ByteArray)=bs [58]:=rfl
 simp [e5,tx,q1]
 refine a1s rfl rfl (.inl rfl) (b6a r 58 (by omega)) ?_
 simp [e5,tx]
 refine b61 sc us pa qu fr hq hf h1 h2 h3 h4 h5 r hr _ ⟨?_,?_,?_,?_⟩ ?_ ?_ ?_<;>simp [e2,e7,m2,m7,f5,tx,num]
theorem a9s (sc pa qu fr:Tx) (hq hf:Bool) (h1:sc.length < 1048577) (h3:pa.length < 1048577) (h4:qu.length < 1048577) (h5:fr.length < 1048577) (r:Tx) (hr:r.length < 1048577) (st:St)
 (h:IP st ⟨sc,[],[],0,pa,qu,fr,hq,hf⟩) (e5:st.env 5=.val (tx r)) :
 EC Tryz.prog ir207_from11 st (K:=prs (b3y sc pa qu fr hq hf r)):=by
 unfold ir207_from11
 obtain ⟨e2,e7,m2,m7⟩:=h
 have q1:(⟨#[64]⟩:ByteArray)=bs [64]:=rfl
 have hla:=R8 r 64
 have hlb:=Z6 r 64
 simp [e5,tx,q1]
 refine a1s rfl rfl (.inl rfl) (b6a r 64 (by omega)) ?_
 unfold b3y
 by_cases hc:64∈r
 · have e:(if 64∈r then G4 r 64 else r)=G4 r 64:=if_pos hc
   rw [if_pos hc,e]
   simp [e5,tx,hc,e2,e7,m2,m7,f5,num]
   refine a9r sc (j9 r 64) pa qu fr hq hf h1 (by omega) h3 h4 h5 (G4 r 64) (by omega) _ ⟨?_,?_,?_,?_⟩ ?_<;>simp [e2,e7,m2,m7,f5,tx,num]
 · have e:(if 64∈r then G4 r 64 else r)=r:=if_neg hc
   rw [if_neg hc,e]
   simp [e5,tx,hc]
   refine a9r sc [] pa qu fr hq hf h1 (by simp) h3 h4 h5 r hr _ ⟨?_,?_,?_,?_⟩ ?_<;>simp [e2,e7,m2,m7,e5,f5,tx,num]
theorem b62 (sc qu fr:Tx) (hq hf:Bool) (h1:sc.length < 1048577) (h4:qu.length < 1048577) (h5:fr.length < 1048577) (r:Tx) (hr:r.length < 1048577) (st:St)
 (h:IP st ⟨sc,[],[],0,[47],qu,fr,hq,hf⟩) (e5:st.env 5=.val (tx r)) :
 EC Tryz.prog ir207_from10 st (K:=prs (a8z sc qu fr hq hf r)):=by
 unfold ir207_from10
 obtain ⟨e2,e7,m2,m7⟩:=h
 have hle:=a08 r 47
 have hla:=R8 r 47
 simp [e5,tx]
 refine b7 rfl rfl (.inl rfl) (c2u r 47) ?_
 unfold a8z
 by_cases hc:47∈r
 · rw [if_pos hc]
   simp [e5,tx,num,hc,e2,e7,m2,m7,f5,b9,S1,hle,a4h]
   refine a9s sc (r.drop (M8 r 47)) qu fr hq hf h1 (by simp;omega) h4 h5 (j9 r 47) (by omega) _ ⟨?_,?_,?_,?_⟩ ?_<;>simp [e2,e7,m2,m7,f5,tx,num,j9]
 · rw [if_neg hc]
   simp [e5,tx,num,hc]
   rw [a1m hc]
   refine a9s sc [47] qu fr hq hf h1 (by simp) h4 h5 r hr _ ⟨?_,?_,?_,?_⟩ ?_<;>simp [e2,e7,m2,m7,e5,f5,tx,num]
theorem b9c (sc:Tx) (h1:sc.length < 1048577) (r:Tx) (hr:r.length < 1048577) (st:St) (h:IP st ⟨sc,[],[],0,[],[],[],false,false⟩) (e5:st.env 5=.val (tx r)) :
 EC Tryz.prog ir207_from7 st (K:=prs (a5m sc r)):=by
 unfold ir207_from7
 obtain ⟨e2,e7,m2,m7⟩:=h
 have q1:(⟨#[35]⟩:ByteArray)=bs [35]:=rfl
 have q2:(⟨#[63]⟩:ByteArray)=bs [63]:=rfl
 have q3:(⟨#[47]⟩:ByteArray)=bs [47]:=rfl
 have e:a5m sc r=a8z sc (G4 (j9 r 35) 63) (G4 r 35) (decide (63∈j9 r 35)) (decide (35∈r)) (j9 (j9 r 35) 63):=rfl
 have hl1:=R8 r 35
 have hl2:=Z6 r 35
 have hl3:=R8 (j9 r 35) 63
 have hl4:=Z6 (j9 r 35) 63
 rw [e]
 simp [e5,tx,q1]
 refine a1s rfl rfl (.inl rfl) (b6a r 35 (by omega)) ?_
 simp [e5,tx,q2,e2,e7,m2,m7,f5,num]
 refine a1s rfl rfl (.inl rfl) (b6a (j9 r 35) 63 (by omega)) ?_
 simp [e5,tx,q3,e2,e7,m2,m7,f5,num]
 refine b62 sc (G4 (j9 r 35) 63) (G4 r 35) _ _ h1 (by omega) (by omega) (j9 (j9 r 35) 63) (by omega) _ ⟨?_,?_,?_,?_⟩ ?_<;>simp [e2,e7,m2,m7,f5,tx,num]
theorem prefix2 (r:Tx):([47,47]:Tx).isPrefixOf r=decide (r.take 2=[47,47]):=by
 match r with
 | []=>rfl
 | [a]=>simp [List.isPrefixOf]
 | a :: b :: r=>
  rw [Bool.eq_iff_iff]
  simp [List.isPrefixOf]
  constructor
  · rintro ⟨rfl,rfl⟩;exact ⟨rfl,rfl⟩
  · rintro ⟨rfl,rfl⟩;exact ⟨rfl,rfl⟩
theorem b9d (sc:Tx) (h1:sc.length < 1048577) (r:Tx) (hr:r.length < 1048577) (st:St)
 (h:IP st ⟨sc,[],[],0,[],[],[],false,false⟩) (e5:st.env 5=.val (tx r)):EC Tryz.prog ir207_from4 st (K:=prs (if a0o sc then if r.take 2=[47,47] then a5m sc (r.drop 2) else (LUrl.zero,false) else (⟨sc,[],[],0,j9 (j9 r 35) 63,[],[],false,false⟩,S0 ⟨sc,[],[],0,j9 (j9 r 35) 63,[],[],false,false⟩))):=by
 unfold ir207_from4
 obtain ⟨e2,e7,m2,m7⟩:=h
 have q1:(⟨#[35]⟩:ByteArray)=bs [35]:=rfl
 have q2:(⟨#[63]⟩:ByteArray)=bs [63]:=rfl
 have q3:(⟨#[47,47]⟩:ByteArray)=bs [47,47]:=rfl
 have hl1:=R8 r 35
 have hl3:=R8 (j9 r 35) 63
 simp [e2,e7,m2,m7,tx,num,f5,i6]
 refine b7 rfl rfl (.inl rfl) (c1p ⟨sc,[],[],0,[],[],[],false,false⟩) ?_
 by_cases hw:a0o sc=true
 · rw [if_pos hw]
   simp [e5,tx,hw,q3]
   refine Y3 rfl rfl (.inl rfl) (c2w r [47,47]) ?_
   rw [prefix2]
   by_cases ht:r.take 2=[47,47]
   · rw [if_pos ht]
     simp [tx,ht]
     refine b9c sc h1 (r.drop 2) (by simp;omega) _ ⟨?_,?_,?_,?_⟩ ?_<;>simp [e2,e7,m2,m7,f5,tx,num]
   · rw [if_neg ht]
     simp [e2,e7,m2,m7,tx,num,f5,ht]
     refine a03 _ ?_ ?_ ?_
     · simp [e2]
     · simp [f5,LUrl.zero,tx,num,bs]
     · simp
 · rw [if_neg hw]
   simp [e5,tx,hw,q1]
   refine a1s rfl rfl (.inl rfl) (b6a r 35 (by omega)) ?_
   simp [tx,hw,q2]
   refine a1s rfl rfl (.inl rfl) (b6a (j9 r 35) 63 (by omega)) ?_
   simp [e2,e7,m2,m7,tx,num,f5,i6]
   refine A0 rfl rfl (.inl rfl) (c6p ⟨sc,[],[],0,j9 (j9 r 35) 63,[],[],false,false⟩ ⟨h1,by simp,by simp,by show (j9 (j9 r 35) 63).length < _;omega,by simp,by simp,by simp,by simp⟩) ?_
   simp [e2,e7,m2,m7,tx,num,f5,i6]
   refine a7s (id:=2) ?_ ?_ ?_
   · simp [e2]
   · simp [f5,tx,num]
   · simp
theorem i_parse (t:Tx) (ht:t.length < 1048577):d8 Tryz.prog 207 [.val (tx t)] (.ret (a58 (H8 t)) []) []:=by
 refine f6 mixed ok207 rfl (fun _=>rfl) ?_
 unfold ir207
 rw [b6]
 have q1:(⟨#[58]⟩:ByteArray)=bs [58]:=rfl
 have hla:=R8 t 58
 have hlb:=Z6 t 58
 simp [d9,f9,j8,b8,d7,tx,num,q1]
 refine a1s rfl rfl (.inl rfl) (b6a t 58 (by omega)) ?_
 simp [tx,num]
 refine b7 rfl rfl (.inl rfl) (c6n (j9 t 58) (by omega)) ?_
 by_cases hc:58∈t
 · rw [show H8 t=(if a0o (R4 (j9 t 58)) then if (G4 t 58).take 2=[47,47] then a5m (R4 (j9 t 58)) ((G4 t 58).drop 2) else (LUrl.zero,false) else (⟨R4 (j9 t 58),[],[],0,j9 (j9 (G4 t 58) 35) 63,[],[],false,false⟩,S0 ⟨R4 (j9 t 58),[],[],0,j9 (j9 (G4 t 58) 35) 63,[],[],false,false⟩)) by unfold H8;rw [if_pos hc]]
   simp [tx,num,hc]
   refine b9d (R4 (j9 t 58)) (by simp [R4];omega) (G4 t 58) (by omega) _ ⟨?_,?_,?_,?_⟩ ?_<;>simp [f5,tx,num,LUrl.zero,bs]
 · rw [show H8 t=(LUrl.zero,false) by unfold H8;rw [if_neg hc]]
   simp [tx,num,hc]
   refine a03 _ ?_ ?_ ?_
   · simp
   · simp [f5,LUrl.zero,tx,num,bs]
   · simp
end Go.Proofs
end
section
namespace Go.Proofs
open Go.PW Go.KP
attribute [local simp] RV.cells RV.one PV.cells PV.solid PV.one G1 i6 L8 K7 RV.ofCells elems PV.killL
variable [GH]
theorem tiny_of {u:LUrl} (h:u.Tiny):Tiny u:=⟨h.1,h.2.1,h.2.2.1,h.2.2.2.1,h.2.2.2.2.1,h.2.2.2.2.2.1,by have:=h.2.2.2.2.2.2;omega,by have:=h.2.2.2.2.2.2;omega⟩
def c6q (r:LUrl×Int):PV:=.tup [.val (X0 r.1),.val (num r.2)]
theorem b1v {st:St} {s t id:Nat} {u:LUrl} {n:Int} (h1:st.env s=.ptr id 0) (h2:st.mem id=.box (f5 u)) (h5:st.env t=.val (num n)):T5 [.c s true 9,.t t] st.fin=some (c6q (u,n)):=by
 rw [c50 (n:=9) (rs:=b2q u) h1 (by rw [h2,b2r]) rfl (by omega) h5,b7q]
 rfl
def a2x (t:Tx):LUrl×Int:=if t.length≤65536 then if (H8 t).2 then ((H8 t).1,0) else (LUrl.zero,3) else (LUrl.zero,2)
theorem c4r (t:Tx) (ht:t.length < 1048577):d8 Tryz.prog 205 [.val (tx t)] (.ret (c6q (a2x t)) []) []:=by
 refine f6 mixed ok205 rfl (fun _=>rfl) ?_
 unfold ir205
 rw [b6]
 unfold a2x
 simp [d9,f9,j8,b8,d7,tx]
 refine b7 rfl rfl (.inl rfl) (i_long t) ?_
 by_cases hl:t.length≤65536
 · rw [if_pos hl,if_pos hl]
   simp [tx,num]
   refine Y3 rfl rfl (.inl rfl) (i_parse t ht) ?_
   cases hok:(H8 t).2 with
   | true=>
    rw [if_pos rfl]
    simp [tx,num,X0,i6]
    refine b1v (id:=2) ?_ ?_ ?_
    · simp
    · simp [f5,tx,num]
    · simp [num]
   | false=>
    rw [if_neg (by simp)]
    simp [tx,num,X0,i6]
    refine b1v (id:=2) ?_ ?_ ?_
    · simp
    · simp [f5,LUrl.zero,tx,num,bs]
    · simp [num]
 · rw [if_neg hl,if_neg hl]
   simp [tx,num]
   refine b1v (id:=2) ?_ ?_ ?_
   · simp
   · simp [f5,LUrl.zero,tx,num,bs]
   · simp [num]
theorem c2j (u:LUrl) (hs:Tiny u) (st:St) (e4:st.env 4=.ptr 4 0) (m4:st.mem 4=.box (f5 { u with frag:=[],hasF:=false })):EC Tryz.prog ir196_from4 st (K:=⟨a2c [.t 2,.t 3] (Y5 (some (a3e { u with frag:=[],hasF:=false })))⟩):=by
 unfold ir196_from4
 obtain ⟨s1,s2,s3,s4,s5,s6,p0,p1⟩:=hs
 have ht:Tiny { u with frag:=[],hasF:=false }:=⟨s1,s2,s3,s4,s5,by simp,p0,p1⟩
 simp [e4,m4,f5,tx,num,i6]
 refine b7 rfl rfl (.inl rfl) (d0y { u with frag:=[],hasF:=false } ht.small p0) ?_
 simp [Y5]
theorem c6o (t:Tx) (ht:t.length < 1048577):d8 Tryz.prog 196 [.val (tx t)] (.ret (Y5 (a2r t)) []) []:=by
 refine f6 mixed ok196 rfl (fun _=>rfl) ?_
 unfold ir196
 rw [b6]
 have htn:=tiny_of (c08 ht)
 have hpu:=c4r t ht
 by_cases hl:t.length≤65536
 · cases hok:(H8 t).2 with
   | false=>
    have e1:a2r t=none:=by unfold a2r;rw [if_pos hl,hok];rfl
    have e2:a2x t=(LUrl.zero,3):=by unfold a2x;rw [if_pos hl,hok];rfl
    rw [e1]
    rw [e2] at hpu
    simp [d9,f9,j8,b8,d7,tx]
    refine Y3 rfl rfl (.inl rfl) hpu ?_
    simp [tx,num,X0,i6,Y5,bs]
   | true=>
    have e2:a2x t=((H8 t).1,0):=by unfold a2x;rw [if_pos hl,hok];rfl
    rw [e2] at hpu
    cases hw:a0o (H8 t).1.scheme with
    | false=>
     have e1:a2r t=none:=by unfold a2r;rw [if_pos hl,hok,hw];rfl
     rw [e1]
     simp [d9,f9,j8,b8,d7,tx]
     refine Y3 rfl rfl (.inl rfl) hpu ?_
     simp [tx,num,X0,i6]
     refine b7 rfl rfl (.inl rfl) (c1p (H8 t).1) ?_
     rw [hw]
     simp [tx,num,Y5,bs]
    | true=>
     have e1:a2r t=some (a3e { (H8 t).1 with frag:=[],hasF:=false }):=by unfold a2r;rw [if_pos hl,hok,hw];rfl
     rw [e1]
     simp [d9,f9,j8,b8,d7,tx]
     refine Y3 rfl rfl (.inl rfl) hpu ?_
     simp [tx,num,X0,i6]
     refine b7 rfl rfl (.inl rfl) (c1p (H8 t).1) ?_
     rw [hw]
     simp [tx,num]
     refine c2j (H8 t).1 htn _ ?_ ?_<;>simp [f5,tx,num,bs]
 · have e1:a2r t=none:=by unfold a2r;rw [if_neg hl]
   have e2:a2x t=(LUrl.zero,2):=by unfold a2x;rw [if_neg hl]
   rw [e1]
   rw [e2] at hpu
   simp [d9,f9,j8,b8,d7,tx]
   refine Y3 rfl rfl (.inl rfl) hpu ?_
   simp [tx,num,X0,i6,Y5,bs]
structure JT (st:St) (x:LTarget):Prop where
 e1:st.env 1=.ptr 1 0
 m1:st.mem 1=.box [.val (tx x.url),.val (num x.prio),.val (num x.weight)]
theorem d0m {Ks:Kx (St→Prop)} {kx:Kx (RV→St→Prop)} {st:St} {x:LTarget} {b:Bool} (h:JT st x) (hb:st.env 17=.val (.bool b)) (hK:∀ st',st'.env 2=.val (.bool (b && (decide (1≤x.prio∧x.prio≤9) && decide (1≤x.weight∧x.weight≤9))))→Ks.k st'):EO Tryz.prog ir239_o18 st (Ks:=Ks) (kx:=kx):=by
 unfold ir239_o18
 cases b with
 | false=>
  simp [hb]
  exact hK _ (by simp)
 | true=>
  simp [hb,h.e1,h.m1,num]
  refine b7 rfl rfl (.inl rfl) (R5 x.prio 1 9) ?_
  cases hp:decide (1≤x.prio∧x.prio≤9) with
  | false=>
   simp
   exact hK _ (by simp [hp])
  | true=>
   simp [h.e1,h.m1,num]
   refine b7 rfl rfl (.inl rfl) (R5 x.weight 1 9) ?_
   simp
   exact hK _ (by rw [hp];simp)
theorem b5g (x:LTarget) (hx:x.url.length < 1048577):d8 Tryz.prog 239 [.val (f8 x)] (.ret (.val (.bool (P6 x))) []) []:=by
 refine f6 mixed ok239 rfl (fun _=>rfl) ?_
 unfold ir239
 rw [b6,← b9a,Bool.and_assoc]
 simp [d9,f9,j8,b8,d7,f8,tx,num]
 refine Y3 rfl rfl (.inl rfl) (c6o x.url hx) ?_
 cases hc:a2r x.url with
 | none=>
  simp
  refine d0m (x:=x) (b:=false) ⟨?_,?_⟩ ?_ (fun st' q=>?_)
  · simp
  · simp [tx,num]
  · simp
  · simp [q]
 | some u=>
  simp [tx,L2]
  refine d0m (x:=x) (b:=decide (u=x.url)) ⟨?_,?_⟩ ?_ (fun st' q=>?_)
  · simp
  · simp [tx,num]
  · simp
  · simp [q]
theorem c70 (x:LTarget) (url:Tx):d8 Tryz.prog 334 [.val (f8 x),.box [tx url]] (.ret (.val (.bool (decide (x.url=url)))) []) [[tx url]]:=by
 refine U9 mixed ok334 rfl (fun _=>rfl) ?_
 unfold ir334
 rw [b6]
 simp [d9,f9,j8,b8,d7,f8,tx,num,L2,S3,R3]
theorem b4c {l:List LTarget} {j:Nat} (h:j < l.length):(l.map f8)[j]?.getD .nilptr=f8 l[j]:=by simp [List.getElem?_eq_getElem h]
theorem b9h (l:List LTarget) (g:Nat) (c:RV) (p:LTarget→Bool) (hl:l.length < 1099511627776) (hg:fnB Tryz.prog g=true)
 (hp:∀ x∈l,d8 Tryz.prog g [.val (f8 x),.box [c]] (.ret (.val (.bool (p x))) []) [[c]]) :
 d8 Tryz.prog 299 [.val (.list 3 (l.map f8)),.fn g [.box [c]]] (.ret (.val (num (a07 l p))) []) [[c]]:=by
 refine U9 mixed ok299 rfl (fun _=>rfl) ?_
 unfold ir299
 rw [b6]
 simp [d9,f9,j8,b8,d7,j8,f9]
 refine j7 (X:=Nat) (fun i=>⟨t6 [(0,.val (.list 3 (l.map f8))),(1,.fn g [.ptr 900 0]),(7,.val (num l.length)),(8,.val (num i))],u1 [(900,.box [.val c])]⟩) (fun i=>i≤l.length∧∀ k (hk:k < i) (hk':k < l.length),p l[k]=false) (fun i=>l.length - i) 0 (Le.mk _ _ ?_ ?_) ?_ ?_
 · simp [upd,num]
 · simp
 · simp
 · rintro i ⟨hi,hne⟩
   simp [num]
   refine f7 (fun h1=>?_) (fun h1=>?_)
   · have e1:=b4c h1
     simp [num,h1,e1,f8,tx,hg]
     refine T2 (ids:=[900]) rfl rfl (by simp) (by decide) (by simp [a2z,x9,F5,y4,F3,y5,q7,y0,F4,l6,A5,G6,G7,j6,p5,p6,l0,y6,p9,l2,F2,x8,p8,p7,D3,D4,a0u,a0v,Option.getD_some,Option.getD_none,C0,t8,o5,D0,o4,n7,D2,n8,D1,C9,C8,H1,w6,o2,C6,v8,o1,C5,B8,C7,w5,C3,n6,v7,C4,H3,H2,B9,C1,n9,C2,w7,o3,A8,l8,B7,B6,B5,G8,u9,m8,B3,u6,l9,B2,A6,B4,u7,B0,l7,u5,B1,H0,G9,A7,u4,n5,A9,v6,n0,J1,J0,K4,J2,J6,J4,J3,K3,J5,J7,J8,J9,K2,y9,y8,y7,M0,M1,z7,F6,u0,D8,x1,K6,q8,Q1,M4,L6,N6,N8,N7,Q2,Q3,I3,I5,I4,I6,I7,N3,x3,N2,D9,E1,E2,x4,a0x,E9,x7,P9,Q0,H4,M2,M3,Option.map_some,Option.map_none,E3,x5,w9,o6,D6,D7,H7,H6,O3,O2,I9,F0,F1,I8,N9,O0,H9,o8,I0,o7,M7,E8,E7,l1,N5,O1,I2,M9,N1,N0,x2,A2,A4,A3,k6,N4,Q5,Q4,M5,I1,U3,M6,o9,E5,E6,x6,E4,k9,u2,k8,u3,k7,K5,O4,O5,z1,z6,F8,F7,D5]) rfl (hp l[i] (List.getElem_mem h1)) ?_
     cases hpi:p l[i] with
     | true=>
      simp [S3,R3]
      rw [a0e h1 hpi (fun k hk=>hne k hk (by omega))];rfl
     | false=>
      simp
      refine LoopNext.mk (i+1) ⟨by omega,fun k hk hk'=>?_⟩ (by omega) (Le.mk _ _ ?_ ?_)
      · by_cases e:k=i
        · subst e;exact hpi
        · exact hne k (by omega) hk'
      · simp [num];exact wrap_i64 (by omega) (by omega)
      · simp
   · have e:i=l.length:=by omega
     subst e
     simp [num,S3,R3]
     rw [Y1 (fun k hk=>hne k hk hk)]
theorem b3o (l:List LTarget) (g:Nat) (c:RV) (p:LTarget→Bool) (hl:l.length < 1099511627776) (hg:fnB Tryz.prog g=true)
 (hp:∀ x∈l,d8 Tryz.prog g [.val (f8 x),.box [c]] (.ret (.val (.bool (p x))) []) [[c]]) :
 d8 Tryz.prog 237 [.val (.list 3 (l.map f8)),.fn g [.box [c]]] (.ret (.val (.bool (l.any p))) []) [[c]]:=by
 refine U9 mixed ok237 rfl (fun _=>rfl) ?_
 unfold ir237
 rw [b6]
 simp [d9,f9,j8,b8,d7,j8,f9]
 refine T2 (ids:=[900]) rfl rfl (by simp) (by decide) (by simp [a2z,x9,F5,y4,F3,y5,q7,y0,F4,l6,A5,G6,G7,j6,p5,p6,l0,y6,p9,l2,F2,x8,p8,p7,D3,D4,a0u,a0v,Option.getD_some,Option.getD_none,C0,t8,o5,D0,o4,n7,D2,n8,D1,C9,C8,H1,w6,o2,C6,v8,o1,C5,B8,C7,w5,C3,n6,v7,C4,H3,H2,B9,C1,n9,C2,w7,o3,A8,l8,B7,B6,B5,G8,u9,m8,B3,u6,l9,B2,A6,B4,u7,B0,l7,u5,B1,H0,G9,A7,u4,n5,A9,v6,n0,J1,J0,K4,J2,J6,J4,J3,K3,J5,J7,J8,J9,K2,y9,y8,y7,M0,M1,z7,F6,u0,D8,x1,K6,q8,Q1,M4,L6,N6,N8,N7,Q2,Q3,I3,I5,I4,I6,I7,N3,x3,N2,D9,E1,E2,x4,a0x,E9,x7,P9,Q0,H4,M2,M3,Option.map_some,Option.map_none,E3,x5,w9,o6,D6,D7,H7,H6,O3,O2,I9,F0,F1,I8,N9,O0,H9,o8,I0,o7,M7,E8,E7,l1,N5,O1,I2,M9,N1,N0,x2,A2,A4,A3,k6,N4,Q5,Q4,M5,I1,U3,M6,o9,E5,E6,x6,E4,k9,u2,k8,u3,k7,K5,O4,O5,z1,z6,F8,F7,D5]) rfl (b9h l g c p hl hg hp) ?_
 simp [num,S3,R3]
 exact a5n l p
theorem d05 (l:List LTarget) (url:Tx) (hl:l.length < 1099511627776):d8 Tryz.prog 298 [.val (.list 3 (l.map f8)),.val (tx url)] (.ret (.val (.bool (l.any fun x=>decide (x.url=url)))) []) []:=by
 refine f6 mixed ok298 rfl (fun _=>rfl) ?_
 unfold ir298
 rw [b6]
 simp [d9,f9,j8,b8,d7,tx]
 refine T2 (ids:=[3]) rfl rfl (by simp) (by decide) (by simp [a2z,x9,F5,y4,F3,y5,q7,y0,F4,l6,A5,G6,G7,j6,p5,p6,l0,y6,p9,l2,F2,x8,p8,p7,D3,D4,a0u,a0v,Option.getD_some,Option.getD_none,C0,t8,o5,D0,o4,n7,D2,n8,D1,C9,C8,H1,w6,o2,C6,v8,o1,C5,B8,C7,w5,C3,n6,v7,C4,H3,H2,B9,C1,n9,C2,w7,o3,A8,l8,B7,B6,B5,G8,u9,m8,B3,u6,l9,B2,A6,B4,u7,B0,l7,u5,B1,H0,G9,A7,u4,n5,A9,v6,n0,J1,J0,K4,J2,J6,J4,J3,K3,J5,J7,J8,J9,K2,y9,y8,y7,M0,M1,z7,F6,u0,D8,x1,K6,q8,Q1,M4,L6,N6,N8,N7,Q2,Q3,I3,I5,I4,I6,I7,N3,x3,N2,D9,E1,E2,x4,a0x,E9,x7,P9,Q0,H4,M2,M3,Option.map_some,Option.map_none,E3,x5,w9,o6,D6,D7,H7,H6,O3,O2,I9,F0,F1,I8,N9,O0,H9,o8,I0,o7,M7,E8,E7,l1,N5,O1,I2,M9,N1,N0,x2,A2,A4,A3,k6,N4,Q5,Q4,M5,I1,U3,M6,o9,E5,E6,x6,E4,k9,u2,k8,u3,k7,K5,O4,O5,z1,z6,F8,F7,D5,tx]) rfl (b3o l 334 (tx url) (fun x=>decide (x.url=url)) hl (by kernel_rfl) (fun x _=>c70 x url)) ?_
 simp
end Go.Proofs
end
section
namespace Go.Proofs
open Go.PW Go.KP
attribute [local simp] RV.cells RV.one PV.cells PV.solid PV.one G1 i6 L8 K7 RV.ofCells elems PV.killL
variable [GH]
theorem any_url (l:List LTarget) (url:Tx):(l.any fun x=>decide (x.url=url))=decide (url∈l.map fun t=>t.url):=by
 rw [Bool.eq_iff_iff]
 simp only [List.any_eq_true,decide_eq_true_eq,List.mem_map]
theorem b3b (l:List LTarget) (hl:l.length < 1099511627776):d8 Tryz.prog 236 [.val (.list 3 (l.map f8))] (.ret (.val (.bool (Y7 l))) []) []:=by
 refine f6 mixed ok236 rfl (fun _=>rfl) ?_
 unfold ir236
 rw [b6]
 simp [d9,f9,j8,b8,d7]
 refine j7 (X:=Nat) (fun i=>⟨t6 [(0,.val (.list 3 (l.map f8))),(5,.val (.list 3 (l.map f8))),(6,.val (num l.length)),(7,.val (num i))],u1 []⟩) (fun i=>i≤l.length∧Y7 (l.take i)=true) (fun i=>l.length - i) 0 (Le.mk _ _ ?_ ?_) ?_ ?_
 · simp [upd,num]
 · simp
 · simp [Y7,T4]
 · rintro i ⟨hi,hinv⟩
   simp [num]
   refine f7 (fun h1=>?_) (fun h1=>?_)
   · have e1:=b4c h1
     simp [num,h1,e1,f8,tx,show i≤l.length by omega]
     have hh:=d05 (l.take i) l[i].url (by simp;omega)
     rw [any_url,List.map_take] at hh
     refine b7 rfl rfl (.inl rfl) hh ?_
     have ht:=b0s l i h1
     by_cases hm:l[i].url∈(l.take i).map fun t=>t.url
     · rw [decide_eq_true hm]
       have:Y7 l=false:=b6q l (i+1) (by rw [ht,hinv,decide_eq_false (fun h=>h hm)];rfl)
       rw [this]
       simp
     · rw [decide_eq_false hm]
       simp
       refine LoopNext.mk (i+1) ⟨by omega,?_⟩ (by omega) (Le.mk _ _ ?_ ?_)
       · rw [ht,hinv,decide_eq_true hm];rfl
       · simp [num];exact wrap_i64 (by omega) (by omega)
       · simp
   · have e:i=l.length:=by omega
     subst e
     rw [List.take_length] at hinv
     rw [hinv]
     simp
def tgs (l:List LPeer):List LTarget:=l.map fun p=>p.target
theorem b3a (l:List LPeer) (hl:l.length < 1099511627776):d8 Tryz.prog 177 [.val (P3 l)] (.ret (.val (.list 3 ((tgs l).map f8))) []) []:=by
 refine f6 mixed ok177 rfl (fun _=>rfl) ?_
 unfold ir177
 rw [b6]
 simp [d9,f9,j8,b8,d7,P3,elems]
 refine j7 (X:=Nat) (fun i=>⟨t6 [(3,.own 6),(7,.val (P3 l)),(8,.val (num l.length)),(9,.val (num i))],u1 [(6,.row 185 3 ((tgs (l.take i)).map f8))]⟩) (fun i=>i≤l.length) (fun i=>l.length - i) 0 (Le.mk _ _ ?_ ?_) ?_ ?_
 · simp [upd,num,P3,PV.kill]
 · simp [upd,tgs]
 · simp
 · intro i hi
   simp [num,P3]
   refine f7 (fun h1=>?_) (fun h1=>?_)
   · have e1:=b0y h1
     rw [List.getD_eq_getElem?_getD] at e1
     have hlen:(tgs (l.take i)).length=i:=by simp [tgs];omega
     have hsucc:(tgs (l.take (i+1))).map f8=(tgs (l.take i)).map f8++[f8 l[i].target]:=by
      unfold tgs
      rw [List.take_add_one,List.getElem?_eq_getElem h1,List.map_append,List.map_append]
      rfl
     simp [num,P3,h1,e1,F9,tx,elems,i6,hlen,RV.one]
     refine ⟨by omega,by omega,?_⟩
     refine LoopNext.mk (i+1) (by omega) (by omega) (Le.mk _ _ ?_ ?_)
     · simp [P3,num];exact wrap_i64 (by omega) (by omega)
     · rw [hsucc]
       simp [f8,num,tx]
   · have e1:i=l.length:=by omega
     subst e1
     simp [num,P3,Z3]
structure JP (st:St) (x:LPeer):Prop where
 e1:st.env 1=.ptr 1 0
 m1:st.mem 1=.box (T0 x)
section
variable {Ks:Kx (St→Prop)} {kx:Kx (RV→St→Prop)} {st:St} {x:LPeer} {b:Bool}
theorem c90 (h:JP st x) (hb:st.env 19=.val (.bool b)) (hK:∀ st',st'.env 2=.val (.bool (b || b6v x))→Ks.k st'):EO Tryz.prog ir241_o20 st (Ks:=Ks) (kx:=kx):=by
 unfold ir241_o20
 cases b with
 | true=>
  simp [hb]
  exact hK _ (by simp)
 | false=>
  by_cases h0:x.fails=0
  · by_cases h1:x.retry=0
    · simp [hb,h.e1,h.m1,T0,num,h0,h1]
      exact hK _ (by simp [b6v,h0,h1])
    · simp [hb,h.e1,h.m1,T0,num,h0,h1]
      exact hK _ (by simp [b6v,h0,h1])
  · simp [hb,h.e1,h.m1,T0,num,h0]
    exact hK _ (by simp [b6v,h0])
theorem c91 (h:JP st x) (hb:st.env 13=.val (.bool b)) (hK:∀ st',st'.env 2=.val (.bool (b || c7c x))→Ks.k st'):EO Tryz.prog ir241_o14 st (Ks:=Ks) (kx:=kx):=by
 unfold ir241_o14
 cases b with
 | true=>
  simp [hb]
  refine c90 (x:=x) (b:=true) ⟨?_,?_⟩ ?_ (fun st' q2=>hK st' (by simpa using q2))<;>simp [h.e1,h.m1]
 | false=>
  simp [hb,h.e1,h.m1,T0,num]
  refine b7 rfl rfl (.inl rfl) (R5 x.retry 0 1000032) ?_
  simp [hb]
  refine c90 (x:=x) (b:=!decide (0≤x.retry∧x.retry≤1000032)) ⟨?_,?_⟩ ?_ (fun st' q2=>hK st' (by rw [q2];simp [c7c]))<;>simp [h.e1,h.m1]
theorem qops8 (h:JP st x) (hb:st.env 7=.val (.bool b)) (hK:∀ st',st'.env 2=.val (.bool (b || c3r x))→Ks.k st'):EO Tryz.prog ir241_o8 st (Ks:=Ks) (kx:=kx):=by
 unfold ir241_o8
 cases b with
 | true=>
  simp [hb]
  refine c91 (x:=x) (b:=true) ⟨?_,?_⟩ ?_ (fun st' q2=>hK st' (by simpa using q2))<;>simp [h.e1,h.m1]
 | false=>
  simp [hb,h.e1,h.m1,T0,num]
  refine b7 rfl rfl (.inl rfl) (R5 x.fails 0 1000000) ?_
  simp [hb]
  refine c91 (x:=x) (b:=!decide (0≤x.fails∧x.fails≤1000000)) ⟨?_,?_⟩ ?_ (fun st' q2=>hK st' (by rw [q2];simp [c3r]))<;>simp [h.e1,h.m1]
end
theorem c4q (x:LPeer) (hx:x.target.url.length < 1048577):d8 Tryz.prog 241 [.val (F9 x)] (.ret (.val (.bool (!a4q x))) []) []:=by
 refine f6 mixed ok241 rfl (fun _=>rfl) ?_
 unfold ir241
 rw [b6,b5a,Bool.not_not]
 simp [d9,f9,j8,b8,d7,F9,tx,num,i6]
 refine b7 rfl rfl (.inl rfl) (b5g x.target hx) ?_
 simp
 refine qops8 (x:=x) (b:=!P6 x.target) ⟨?_,?_⟩ ?_ (fun st' q=>?_)
 · simp
 · simp [T0,tx,num]
 · simp
 · simp [q]
theorem b9i (l:List LPeer) (g:Nat) (p:LPeer→Bool) (hl:l.length < 1099511627776) (hg:fnB Tryz.prog g=true)
 (hp:∀ x∈l,d8 Tryz.prog g [.val (F9 x)] (.ret (.val (.bool (p x))) []) []) :
 d8 Tryz.prog 300 [.val (P3 l),.fn g []] (.ret (.val (num (a07 l p))) []) []:=by
 refine f6 mixed ok300 rfl (fun _=>rfl) ?_
 unfold ir300
 rw [b6]
 simp [d9,f9,j8,b8,d7,j8,f9,P3]
 refine j7 (X:=Nat) (fun i=>⟨t6 [(0,.val (P3 l)),(1,.fn g []),(7,.val (num l.length)),(8,.val (num i))],u1 []⟩) (fun i=>i≤l.length∧∀ k (hk:k < i) (hk':k < l.length),p l[k]=false) (fun i=>l.length - i) 0 (Le.mk _ _ ?_ ?_) ?_ ?_
 · simp [upd,num,P3]
 · simp
 · simp
 · rintro i ⟨hi,hne⟩
   simp [num,P3]
   refine f7 (fun h1=>?_) (fun h1=>?_)
   · have e1:=b0y h1
     rw [List.getD_eq_getElem?_getD] at e1
     simp [num,P3,h1,e1,F9,tx,hg]
     refine b7 rfl rfl (.inl rfl) (hp l[i] (List.getElem_mem h1)) ?_
     cases hpi:p l[i] with
     | true=>
      simp
      rw [a0e h1 hpi (fun k hk=>hne k hk (by omega))];rfl
     | false=>
      simp
      refine LoopNext.mk (i+1) ⟨by omega,fun k hk hk'=>?_⟩ (by omega) (Le.mk _ _ ?_ ?_)
      · by_cases e:k=i
        · subst e;exact hpi
        · exact hne k (by omega) hk'
      · simp [num,P3];exact wrap_i64 (by omega) (by omega)
      · simp
   · have e:i=l.length:=by omega
     subst e
     simp [num]
     rw [Y1 (fun k hk=>hne k hk hk)]
theorem b3p (l:List LPeer) (g:Nat) (p:LPeer→Bool) (hl:l.length < 1099511627776) (hg:fnB Tryz.prog g=true)
 (hp:∀ x∈l,d8 Tryz.prog g [.val (F9 x)] (.ret (.val (.bool (p x))) []) []) :
 d8 Tryz.prog 240 [.val (P3 l),.fn g []] (.ret (.val (.bool (l.any p))) []) []:=by
 refine f6 mixed ok240 rfl (fun _=>rfl) ?_
 unfold ir240
 rw [b6,← a5n l p]
 simp [d9,f9,j8,b8,d7,j8,f9,P3]
 refine b7 rfl rfl (.inl rfl) (b9i l g p hl hg hp) ?_
 simp [num]
theorem c78 (l:List LPeer) (hl:l.length < 1099511627776) (hs:∀ p∈l,p.target.url.length < 1048577):d8 Tryz.prog 175 [.val (P3 l)] (.ret (.val (.bool (a0d l))) []) []:=by
 refine f6 mixed ok175 rfl (fun _=>rfl) ?_
 unfold ir175
 rw [b6]
 by_cases h4:4 < l.length
 · have h4':(4:Int) < l.length:=by omega
   have e:a0d l=false:=by
    unfold a0d
    rw [decide_eq_false (by omega)];rfl
   simp [d9,f9,j8,b8,d7,P3,h4',e]
 · have h4':¬ (4:Int) < l.length:=by omega
   have e:a0d l=(Y7 (tgs l) && !(l.any fun x=>!a4q x)):=by
    unfold a0d tgs
    rw [decide_eq_true (by omega),b6p,Bool.true_and,Bool.and_comm]
    congr 1
    rw [Bool.eq_iff_iff]
    simp
   rw [e]
   simp [d9,f9,j8,b8,d7,P3,h4']
   refine b7 rfl rfl (.inl rfl) (b3a l hl) ?_
   simp
   refine b7 rfl rfl (.inl rfl) (b3b (tgs l) (by simp [tgs];omega)) ?_
   cases hu:Y7 (tgs l) with
   | false=>simp
   | true=>
    simp only [Bool.true_and]
    simp
    refine b7 rfl rfl (.inl rfl) (b3p l 241 (fun x=>!a4q x) hl (by kernel_rfl) (fun x hx=>c4q x (hs x hx))) ?_
    simp
end Go.Proofs
end
section
namespace Go.Proofs
open Go.PW Go.KP
attribute [local simp] RV.cells RV.one PV.cells PV.solid PV.one G1 i6 L8 K7 RV.ofCells elems PV.killL
variable [GF]
theorem b0b (l:List LTarget) (g:Nat) (p:LTarget→Bool) (hl:l.length < 1099511627776) (hg:fnB Tryz.prog g=true)
 (hp:∀ x∈l,d8 Tryz.prog g [.val (f8 x)] (.ret (.val (.bool (p x))) []) []) :
 d8 Tryz.prog 299 [.val (.list 3 (l.map f8)),.fn g []] (.ret (.val (num (a07 l p))) []) []:=by
 refine f6 mixed ok299 rfl (fun _=>rfl) ?_
 unfold ir299
 rw [b6]
 simp [d9,f9,j8,b8,d7,j8,f9]
 refine j7 (X:=Nat) (fun i=>⟨t6 [(0,.val (.list 3 (l.map f8))),(1,.fn g []),(7,.val (num l.length)),(8,.val (num i))],u1 []⟩) (fun i=>i≤l.length∧∀ k (hk:k < i) (hk':k < l.length),p l[k]=false) (fun i=>l.length - i) 0 (Le.mk _ _ ?_ ?_) ?_ ?_
 · simp [upd,num]
 · simp
 · simp
 · rintro i ⟨hi,hne⟩
   simp [num]
   refine f7 (fun h1=>?_) (fun h1=>?_)
   · have e1:(l.map f8)[i]?.getD .nilptr=f8 l[i]:=by simp [List.getElem?_eq_getElem h1]
     simp [num,h1,e1,f8,tx,num,hg]
     refine b7 rfl rfl (.inl rfl) (hp l[i] (List.getElem_mem h1)) ?_
     cases hpi:p l[i] with
     | true=>
      simp
      rw [a0e h1 hpi (fun k hk=>hne k hk (by omega))];rfl
     | false=>
      simp
      refine LoopNext.mk (i+1) ⟨by omega,fun k hk hk'=>?_⟩ (by omega) (Le.mk _ _ ?_ ?_)
      · by_cases e:k=i
        · subst e;exact hpi
        · exact hne k (by omega) hk'
      · simp [num];exact wrap_i64 (by omega) (by omega)
      · simp
   · have e:i=l.length:=by omega
     subst e
     simp [num]
     rw [Y1 (fun k hk=>hne k hk hk)]
theorem a7l (l:List LTarget) (g:Nat) (p:LTarget→Bool) (hl:l.length < 1099511627776) (hg:fnB Tryz.prog g=true)
 (hp:∀ x∈l,d8 Tryz.prog g [.val (f8 x)] (.ret (.val (.bool (p x))) []) []) :
 d8 Tryz.prog 237 [.val (.list 3 (l.map f8)),.fn g []] (.ret (.val (.bool (l.any p))) []) []:=by
 refine f6 mixed ok237 rfl (fun _=>rfl) ?_
 unfold ir237
 rw [b6]
 simp [d9,f9,j8,b8,d7,j8,f9]
 refine b7 rfl rfl (.inl rfl) (b0b l g p hl hg hp) ?_
 simp [num]
 exact a5n l p
end Go.Proofs
end
section
namespace Go.Proofs
open Go.PW Go.KP
attribute [local simp] RV.cells RV.one PV.cells PV.solid PV.one G1 i6 L8 K7 RV.ofCells elems PV.killL
variable [GH]
theorem c4s (t:LTarget) (ht:t.url.length < 1048577):d8 Tryz.prog 238 [.val (f8 t)] (.ret (.val (.bool (!P6 t))) []) []:=by
 refine f6 mixed ok238 rfl (fun _=>rfl) ?_
 unfold ir238
 rw [b6]
 have h:=b5g t ht
 simp [d9,f9,j8,b8,d7,f8,tx,num]
 refine b7 rfl rfl (.inl rfl) h ?_
 simp
theorem b9k (g:LGroup) (b1 b2 b3 b4 b5:Bool) (hW:d8 Tryz.prog 185 [.val (tx g.name)] (.ret (.val (.bool b1)) []) []) (hA:d8 Tryz.prog 114 [.val (num g.age),.val (num 1),.val (num 100)] (.ret (.val (.bool b2)) []) [])
 (hT:d8 Tryz.prog 114 [.val (num g.targets.length),.val (num 1),.val (num 4)] (.ret (.val (.bool b3)) []) []) (hU:d8 Tryz.prog 236 [.val (.list 3 (g.targets.map f8))] (.ret (.val (.bool b4)) []) [])
 (hC:d8 Tryz.prog 237 [.val (.list 3 (g.targets.map f8)),.fn 238 []] (.ret (.val (.bool b5)) []) []) :
 d8 Tryz.prog 174 [.val (L9 g)] (.ret (.val (.bool (b1 && b2 && b3 && b4 && !b5))) []) []:=by
 refine f6 mixed ok174 rfl (fun _=>rfl) ?_
 unfold ir174
 rw [b6]
 simp [d9,f9,j8,b8,d7,L9,tx,num]
 refine b7 rfl rfl (.inl rfl) hW ?_
 cases b1 with
 | false=>simp
 | true=>
  simp [num]
  refine b7 rfl rfl (.inl rfl) hA ?_
  cases b2 with
  | false=>simp
  | true=>
   simp [num]
   refine b7 rfl rfl (.inl rfl) hT ?_
   cases b3 with
   | false=>simp
   | true=>
    simp [num]
    refine b7 rfl rfl (.inl rfl) hU ?_
    cases b4 with
    | false=>simp
    | true=>
     simp [num]
     refine b7 rfl rfl (.inl rfl) hC ?_
     cases b5<;>simp
theorem c79 (g:LGroup) (hb:a12 1048576 g):d8 Tryz.prog 174 [.val (L9 g)] (.ret (.val (.bool (a3d g))) []) []:=by
 have hnl:g.name.length≤1048576:=hb.1
 have htl:g.targets.length≤1048576:=hb.2.1
 have hC:=a7l g.targets 238 (fun t=>!P6 t) (by omega) (by kernel_rfl) (fun x hx=>c4s x (by have:=hb.2.2 x hx;unfold U4 at this;omega))
 have h:=b9k g _ _ _ _ _ (b5h g.name (by omega)) (R5 g.age 1 100) (R5 g.targets.length 1 4) (b3b g.targets (by omega)) hC
 have q3:(1≤g.targets.length∧g.targets.length≤4)↔((1:Int)≤g.targets.length∧(g.targets.length:Int)≤4):=by omega
 have e:a3d g=(a1e g.name && decide (1≤g.age∧g.age≤100) && decide ((1:Int)≤g.targets.length∧(g.targets.length:Int)≤4) && Y7 g.targets && !(g.targets.any fun t=>!P6 t)):=by
  unfold a3d
  rw [decide_eq_decide.2 q3,b8b,List.not_any_eq_all_not]
  simp only [Bool.not_not]
  cases a1e g.name<;>cases decide (1≤g.age∧g.age≤100)<;>cases decide ((1:Int)≤g.targets.length∧(g.targets.length:Int)≤4)<;>cases g.targets.all P6<;>simp
 rw [e]
 exact h
end Go.Proofs
end
