/- Eb: merged out of KIf, KIg, KIh, KIi, KIq, KIw. -/
import Derived.Test.YtgdapgcjmfeocaaGreatDoorEa
import Derived.Test.YtgdapgcjmfeocaaGreatDoorBa
import Derived.Test.YtgdapgcjmfeocaaGreatDoorCa
import Derived.Test.YtgdapgcjmfeocaaGreatDoorAc
set_option linter.unusedSectionVars false
set_option linter.unusedSimpArgs false
set_option linter.unusedVariables false
set_option maxRecDepth 100000
section
namespace Go.Proofs
open Go.PW Go.KP
attribute [local simp] RV.cells RV.one PV.cells PV.solid PV.one G3 i7 L8 L5 RV.ofCells elems PV.killL
variable [GH]
structure IO (st:St) (u:LUrl):Prop where
 e1:st.env 1=.ptr 1 0
 m1:st.mem 1=.box (f5 u)
section
variable {Ks:Kx (St→Prop)} {kx:Kx (RV→St→Prop)} {st:St} {u:LUrl} {b:Bool}
def c1j (u:LUrl):Bool:=u.hasF || decide (u.frag=[])
theorem b9c (h:IO st u) (hb:st.env 108=.val (.bool b)) (hK:∀ st',IO st' u→st'.env 116=.val (.bool (b && c1j u))→Ks.k st'):EX Tryz.prog ir240_o109 st (Ks:=Ks):=by
 unfold ir240_o109
 have e3:(⟨#[]⟩:ByteArray)=bs []:=rfl
 cases b with
 | false=>
  simp [hb]
  refine hK _ ⟨?_,?_⟩ ?_<;>simp [h.e1,h.m1]
 | true=>
  cases hf:u.hasF with
  | true=>
   simp [hb,h.e1,h.m1,f5,tx,num,hf]
   refine hK _ ⟨?_,?_⟩ ?_<;>simp [h.e1,h.m1,c1j,hf]
  | false=>
   simp [hb,h.e1,h.m1,f5,tx,num,hf,e3,L2]
   refine hK _ ⟨?_,?_⟩ ?_<;>simp [h.e1,h.m1,c1j,hf]
def c1k (u:LUrl):Bool:=(u.hasQ || decide (u.query=[])) && c1j u
theorem c6d (h:IO st u) (hb:st.env 99=.val (.bool b)) (hK:∀ st',IO st' u→st'.env 116=.val (.bool (b && c1k u))→Ks.k st'):EX Tryz.prog ir240_o100 st (Ks:=Ks):=by
 unfold ir240_o100
 have e3:(⟨#[]⟩:ByteArray)=bs []:=rfl
 cases b with
 | false=>
  simp [hb]
  refine b9c (u:=u) (b:=false) ⟨?_,?_⟩ ?_ (fun st' q1 q2=>hK st' q1 (by simpa using q2))<;>simp [h.e1,h.m1]
 | true=>
  cases hq:u.hasQ with
  | true=>
   simp [hb,h.e1,h.m1,f5,tx,num,hq]
   refine b9c (u:=u) (b:=true) ⟨?_,?_⟩ ?_ (fun st' q1 q2=>hK st' q1 (by rw [q2];simp [c1k,hq]))<;>simp [h.e1,h.m1]
  | false=>
   simp [hb,h.e1,h.m1,f5,tx,num,hq,e3,L2]
   refine b9c (u:=u) (b:=decide (u.query=[])) ⟨?_,?_⟩ ?_ (fun st' q1 q2=>hK st' q1 (by rw [q2];simp [c1k,hq]))<;>simp [h.e1,h.m1]
def ib94 (u:LUrl):Bool:=!decide (35∈u.query) && c1k u
theorem d0l (h:IO st u) (hb:st.env 93=.val (.bool b)) (hK:∀ st',IO st' u→st'.env 116=.val (.bool (b && ib94 u))→Ks.k st'):EX Tryz.prog ir240_o94 st (Ks:=Ks):=by
 unfold ir240_o94
 have e3:(⟨#[35]⟩:ByteArray)=bs [35]:=rfl
 have e4:(⟨#[47]⟩:ByteArray)=bs [47]:=rfl
 cases b with
 | false=>
  simp [hb]
  refine c6d (u:=u) (b:=false) ⟨?_,?_⟩ ?_ (fun st' q1 q2=>hK st' q1 (by simpa using q2))<;>simp [h.e1,h.m1]
 | true=>
  simp [hb,h.e1,h.m1,f5,tx,num,e3,e4]
  refine z8 rfl rfl (.inl rfl) (c5k u.query 35) ?_
  simp [hb,h.e1,h.m1,f5,tx,num]
  refine c6d (u:=u) (b:=!decide (35∈u.query)) ⟨?_,?_⟩ ?_ (fun st' q1 q2=>hK st' q1 (by rw [q2];simp [ib94]))<;>simp [h.e1,h.m1,bne]
def ib89 (u:LUrl):Bool:=([47]:Tx).isPrefixOf u.path && ib94 u
theorem d0m (h:IO st u) (hb:st.env 88=.val (.bool b)) (hK:∀ st',IO st' u→st'.env 116=.val (.bool (b && ib89 u))→Ks.k st'):EX Tryz.prog ir240_o89 st (Ks:=Ks):=by
 unfold ir240_o89
 have e3:(⟨#[35]⟩:ByteArray)=bs [35]:=rfl
 have e4:(⟨#[47]⟩:ByteArray)=bs [47]:=rfl
 cases b with
 | false=>
  simp [hb]
  refine d0l (u:=u) (b:=false) ⟨?_,?_⟩ ?_ (fun st' q1 q2=>hK st' q1 (by simpa using q2))<;>simp [h.e1,h.m1]
 | true=>
  simp [hb,h.e1,h.m1,f5,tx,num,e3,e4]
  refine z8 rfl rfl (.inl rfl) (c2s u.path [47]) ?_
  simp [hb,h.e1,h.m1,f5,tx,num]
  refine d0l (u:=u) (b:=([47]:Tx).isPrefixOf u.path) ⟨?_,?_⟩ ?_ (fun st' q1 q2=>hK st' q1 (by rw [q2];simp [ib89]))<;>simp [h.e1,h.m1,bne]
def ib81 (u:LUrl):Bool:=!(u.port == a0s u.scheme) && ib89 u
theorem d0n (h:IO st u) (hb:st.env 80=.val (.bool b)) (hK:∀ st',IO st' u→st'.env 116=.val (.bool (b && ib81 u))→Ks.k st'):EX Tryz.prog ir240_o81 st (Ks:=Ks):=by
 unfold ir240_o81
 have e3:(⟨#[35]⟩:ByteArray)=bs [35]:=rfl
 have e4:(⟨#[47]⟩:ByteArray)=bs [47]:=rfl
 cases b with
 | false=>
  simp [hb]
  refine d0m (u:=u) (b:=false) ⟨?_,?_⟩ ?_ (fun st' q1 q2=>hK st' q1 (by simpa using q2))<;>simp [h.e1,h.m1]
 | true=>
  simp [hb,h.e1,h.m1,f5,tx,num,e3,e4]
  refine z8 rfl rfl (.inl rfl) (c6f u.scheme) ?_
  simp [hb,h.e1,h.m1,f5,tx,num]
  refine d0m (u:=u) (b:=!(u.port == a0s u.scheme)) ⟨?_,?_⟩ ?_ (fun st' q1 q2=>hK st' q1 (by rw [q2];simp [ib81]))<;>simp [h.e1,h.m1,bne]
def d0s (u:LUrl):Bool:=decide (0≤u.port∧u.port≤65535) && ib81 u
theorem d0o (h:IO st u) (hb:st.env 75=.val (.bool b)) (hK:∀ st',IO st' u→st'.env 116=.val (.bool (b && d0s u))→Ks.k st'):EX Tryz.prog ir240_o76 st (Ks:=Ks):=by
 unfold ir240_o76
 have e3:(⟨#[35]⟩:ByteArray)=bs [35]:=rfl
 have e4:(⟨#[47]⟩:ByteArray)=bs [47]:=rfl
 cases b with
 | false=>
  simp [hb]
  refine d0n (u:=u) (b:=false) ⟨?_,?_⟩ ?_ (fun st' q1 q2=>hK st' q1 (by simpa using q2))<;>simp [h.e1,h.m1]
 | true=>
  simp [hb,h.e1,h.m1,f5,tx,num,e3,e4]
  refine z8 rfl rfl (.inl rfl) (R4 u.port 0 65535) ?_
  simp [hb,h.e1,h.m1,f5,tx,num]
  refine d0n (u:=u) (b:=decide (0≤u.port∧u.port≤65535)) ⟨?_,?_⟩ ?_ (fun st' q1 q2=>hK st' q1 (by rw [q2];simp [d0s]))<;>simp [h.e1,h.m1,bne]
end
def c1d (u:LUrl):Bool:=(!R6 u.user [47,63,35,64] && a15 u.host) && d0s u
theorem c39 (u:LUrl) (h2:u.user.length < 1048577) (h3:u.host.length < 1048577) (hsh:T7 u.user=true) (st:St) (h:IO st u):EC Tryz.prog ir240_from4 st (K:=⟨a2a [.t 2] (.val (.bool (c1d u)))⟩):=by
 unfold ir240_from4
 have e3:(⟨#[47,63,35,64]⟩:ByteArray)=bs [47,63,35,64]:=rfl
 have hend:∀ b,b=(!R6 u.user [47,63,35,64] && a15 u.host)→∀ st',IO st' u→st'.env 116=.val (.bool (b && d0s u))→a2a [.t 2] (.val (.bool (c1d u))) .ret ⟨upd 2 (st'.env 116) st'.env,st'.mem⟩:=fun b hb st' q1 q2=>by
  rw [q2,hb]
  simp [c1d]
 simp [h.e1,h.m1,f5,tx,num,e3]
 refine z8 rfl rfl (.inl rfl) (a9u u.user [47,63,35,64] (by omega) (by simp) hsh (by decide)) ?_
 cases hu:R6 u.user [47,63,35,64] with
 | true=>
  simp [h.e1,h.m1,f5,tx,num]
  refine d0o (u:=u) (b:=false) ⟨?_,?_⟩ ?_ (fun st' q1 q2=>?_)
  · simp [h.e1]
  · simp [h.m1]
  · simp
  · simp only [x9,F6,y4,F4,y5,q7,y0,F5,l7,A6,G7,G8,j6,p5,p6,l1,y6,p9,l3,F3,x8,p8,p7,D4,D5,a0u,a0v,Option.getD_some,Option.getD_none,C1,u0,o5,D1,o4,n8,D3,n9,D2,D0,C9,H2,w6,o2,C7,v8,o1,C6,B9,C8,w5,C4,n7,v7,C5,H4,H3,C0,C2,o0,C3,w7,o3,A9,l9,B8,B7,B6,G9,u9,n0,B4,u6,m8,B3,A7,B5,u7,B1,l8,u5,B2,H1,H0,A8,u4,n6,B0,v6,n5,J2,J1,K5,J3,J7,J5,J4,K4,J6,J8,J9,K2,K3,y9,y8,y7,M0,M1,z7,F7,u1,D9,x1,K7,q8,Q1,M4,L6,N6,N8,N7,Q2,Q3,I4,I6,I5,I7,I8,N3,x3,N2,E1,E2,E3,x4,a0x,F0,x7,P9,Q0,H5,M2,M3,Option.map_some,Option.map_none,E4,x5,w9,o6,D7,D8,H8,H7,O3,O2,J0,F1,F2,I9,N9,O0,I0,o8,I1,o7,M7,E9,E8,l2,N5,O1,I3,M9,N1,N0,x2,A3,A5,A4,k7,N4,Q5,Q4,M5,I2,U4,M6,o9,E6,E7,x6,E5,l0,u2,k9,u3,k8,K6,O4,O5,z1,z6,F9,F8,D6]
    exact hend false (by rw [hu];rfl) st' q1 q2
 | false=>
  simp [h.e1,h.m1,f5,tx,num]
  refine z8 rfl rfl (.inl rfl) (d0z u.host (by omega)) ?_
  simp [h.e1,h.m1,f5,tx,num]
  refine d0o (u:=u) (b:=a15 u.host) ⟨?_,?_⟩ ?_ (fun st' q1 q2=>?_)
  · simp [h.e1]
  · simp [h.m1]
  · simp
  · simp only [x9,F6,y4,F4,y5,q7,y0,F5,l7,A6,G7,G8,j6,p5,p6,l1,y6,p9,l3,F3,x8,p8,p7,D4,D5,a0u,a0v,Option.getD_some,Option.getD_none,C1,u0,o5,D1,o4,n8,D3,n9,D2,D0,C9,H2,w6,o2,C7,v8,o1,C6,B9,C8,w5,C4,n7,v7,C5,H4,H3,C0,C2,o0,C3,w7,o3,A9,l9,B8,B7,B6,G9,u9,n0,B4,u6,m8,B3,A7,B5,u7,B1,l8,u5,B2,H1,H0,A8,u4,n6,B0,v6,n5,J2,J1,K5,J3,J7,J5,J4,K4,J6,J8,J9,K2,K3,y9,y8,y7,M0,M1,z7,F7,u1,D9,x1,K7,q8,Q1,M4,L6,N6,N8,N7,Q2,Q3,I4,I6,I5,I7,I8,N3,x3,N2,E1,E2,E3,x4,a0x,F0,x7,P9,Q0,H5,M2,M3,Option.map_some,Option.map_none,E4,x5,w9,o6,D7,D8,H8,H7,O3,O2,J0,F1,F2,I9,N9,O0,I0,o8,I1,o7,M7,E9,E8,l2,N5,O1,I3,M9,N1,N0,x2,A3,A5,A4,k7,N4,Q5,Q4,M5,I2,U4,M6,o9,E6,E7,x6,E5,l0,u2,k9,u3,k8,K6,O4,O5,z1,z6,F9,F8,D6]
    exact hend _ (by rw [hu];simp) st' q1 q2
def a97 (u:LUrl):Bool:=decide (u.user=[]) && decide (u.host=[]) && decide (u.port=0) && decide (u.query=[]) && decide (u.frag=[]) && !u.hasQ && !u.hasF
theorem c16 (u:LUrl):P0 [0,0,0,2,0,0,0,1,1] (b2l u) [tx u.scheme,tx [],tx [],num 0,tx u.path,tx [],tx [],.bool false,.bool false]=some (a97 u):=by
 simp only [b2l,P0,a4l,tx,num,L2,if_true,decide_true]
 unfold a97
 have e:(u.port == 0)=decide (u.port=0):=by rw [Bool.eq_iff_iff];simp
 rw [e]
 cases decide (u.user=[])<;>cases decide (u.host=[])<;>cases decide (u.port=0)<;>cases decide (u.query=[])<;>cases decide (u.frag=[])<;>cases u.hasQ<;>cases u.hasF<;>rfl
theorem c4a (u:LUrl) (h2:u.user.length < 1048577) (h3:u.host.length < 1048577) (hsh:T7 u.user=true) (st:St) (h:IO st u):EC Tryz.prog ir240_from3 st (K:=⟨a2a [.t 2] (.val (.bool (if a0n u.scheme then c1d u else a97 u)))⟩):=by
 unfold ir240_from3
 have e3:(⟨#[]⟩:ByteArray)=bs []:=rfl
 simp [h.e1,h.m1,f5,tx,num,i7]
 refine b7 rfl rfl (.inl rfl) (c1l u) ?_
 cases hw:a0n u.scheme with
 | true=>
  simp
  rw [if_pos rfl]
  refine c39 u h2 h3 hsh _ ⟨?_,?_⟩<;>simp [h.e1,h.m1]
 | false=>
  rw [if_neg (by simp)]
  have hq:=c16 u
  simp only [b2l,tx,num] at hq
  simp [h.e1,h.m1,f5,tx,num,i7,e3,hq,a3q]
theorem c4b (u:LUrl) (h2:u.user.length < 1048577) (h3:u.host.length < 1048577) (h4:u.path.length < 1048577) (hsh:T7 u.user=true) (hsp:T7 u.path=true) (st:St) (h:IO st u):EC Tryz.prog ir240_from2 st (K:=⟨a2a [.t 2] (.val (.bool (!R6 u.path [63,35] && if a0n u.scheme then c1d u else a97 u)))⟩):=by
 unfold ir240_from2
 have e3:(⟨#[63,35]⟩:ByteArray)=bs [63,35]:=rfl
 simp [h.e1,h.m1,f5,tx,num,e3]
 refine b7 rfl rfl (.inl rfl) (a9u u.path [63,35] (by omega) (by simp) hsp (by decide)) ?_
 cases hp:R6 u.path [63,35] with
 | true=>simp
 | false=>
  simp only [Bool.not_false,Bool.true_and]
  simp
  refine c4a u h2 h3 hsh _ ⟨?_,?_⟩<;>simp [h.e1,h.m1]
section
variable {Ks:Kx (St→Prop)} {kx:Kx (RV→St→Prop)} {st:St} {u:LUrl} {b:Bool}
structure Tiny (u:LUrl):Prop where
 s1:u.scheme.length < 1048577
 s2:u.user.length < 1048577
 s3:u.host.length < 1048577
 s4:u.path.length < 1048577
 s5:u.query.length < 1048577
 s6:u.frag.length < 1048577
 p0:-9223372036854775808≤u.port
 p1:u.port≤9223372036854775807
theorem Tiny.small (h:Tiny u):u.Small:=by
 obtain ⟨s1,s2,s3,s4,s5,s6,p0,p1⟩:=h
 exact ⟨by omega,by omega,by omega,by omega,by omega,by omega,p1⟩
def c7p (u:LUrl):Bool:=!T7 (u.user++u.host++u.path++u.query++u.frag)
theorem d0p (hs:Tiny u) (h:IO st u) (hb:st.env 35=.val (.bool b)) (hK:∀ st',IO st' u→st'.env 52=.val (.bool (b || c7p u))→Ks.k st'):EO Tryz.prog ir240_o36 st (Ks:=Ks) (kx:=kx):=by
 unfold ir240_o36
 obtain ⟨s1,s2,s3,s4,s5,s6,p0,p1⟩:=hs
 cases b with
 | true=>
  simp [hb]
  refine hK _ ⟨?_,?_⟩ ?_<;>simp [h.e1,h.m1]
 | false=>
  simp [hb,h.e1,h.m1,f5,tx,num,b9,L3]
  refine ⟨by omega,by omega,by omega,by omega,?_⟩
  refine b7 rfl rfl (.inl rfl) (c4i (u.user++(u.host++(u.path++(u.query++u.frag)))) (by simp;omega)) ?_
  simp [hb]
  refine hK _ ⟨?_,?_⟩ ?_<;>simp [h.e1,h.m1,c7p]
def b60 (u:LUrl):Bool:=decide (100 < (a3c u).length) || c7p u
theorem d0q (hs:Tiny u) (h:IO st u) (hb:st.env 29=.val (.bool b)) (hK:∀ st',IO st' u→st'.env 52=.val (.bool (b || b60 u))→Ks.k st'):EO Tryz.prog ir240_o30 st (Ks:=Ks) (kx:=kx):=by
 unfold ir240_o30
 cases b with
 | true=>
  simp [hb]
  refine d0p (u:=u) (b:=true) hs ⟨?_,?_⟩ ?_ (fun st' q1 q2=>hK st' q1 (by simpa using q2))<;>simp [h.e1,h.m1]
 | false=>
  have e:((100:Int) < ((a3c u).length:Int))↔100 < (a3c u).length:=by omega
  simp [hb,h.e1,h.m1,f5,tx,num,i7]
  refine b7 rfl rfl (.inl rfl) (d0u u hs.small hs.p0) ?_
  simp [hb,tx,b9,e]
  refine d0p (u:=u) (b:=decide (100 < (a3c u).length)) hs ⟨?_,?_⟩ ?_ (fun st' q1 q2=>hK st' q1 (by rw [q2];simp [b60]))<;>simp [h.e1,h.m1]
end
theorem b86 (u:LUrl):b16 u=(V9 u.scheme && decide (u.user.length+u.host.length+u.path.length+u.query.length+u.frag.length≤100) && !b60 u && (!R6 u.path [63,35] && if a0n u.scheme then c1d u else a97 u)):=by
 unfold b16 b60 c7p c1d a97 d0s ib81 ib89 ib94 c1k c1j
 have e1:decide ((a3c u).length≤100)=!decide (100 < (a3c u).length):=by
  by_cases h:(a3c u).length≤100
  · rw [decide_eq_true h,decide_eq_false (by omega)];rfl
  · rw [decide_eq_false h,decide_eq_true (by omega)];rfl
 have e2:([47]:Tx).isPrefixOf u.path=(decide (0 < u.path.length) && decide ((u.path.getD 0 0).toNat=47)):=by
  cases u.path with
  | nil=>rfl
  | cons c r=>
   rw [Bool.eq_iff_iff]
   simp
   constructor
   · intro h;rw [← h];rfl
   · intro h;exact (UInt8.toNat_inj.1 (by rw [h];rfl)).symm
 have e3:(u.port == a0s u.scheme)=decide (u.port=a0s u.scheme):=by rw [Bool.eq_iff_iff];simp
 have e4:decide (u.port≠a0s u.scheme)=!decide (u.port=a0s u.scheme):=by simp
 have e5:R6 u.query [35]=decide (35∈u.query):=by
  rw [Bool.eq_iff_iff]
  simp [R6]
 rw [e1,e2,e3,e4,e5]
 cases V9 u.scheme<;>simp only [Bool.false_and,Bool.true_and]
 cases decide (u.user.length+u.host.length+u.path.length+u.query.length+u.frag.length≤100)<;>simp only [Bool.false_and,Bool.true_and]
 cases decide (100 < (a3c u).length)<;>simp only [Bool.false_and,Bool.true_and,Bool.not_true,Bool.not_false,Bool.true_or,Bool.false_or]
 cases T7 (u.user++u.host++u.path++u.query++u.frag)<;>simp only [Bool.false_and,Bool.true_and,Bool.not_true,Bool.not_false]
 cases R6 u.path [63,35]<;>simp only [Bool.false_and,Bool.true_and,Bool.not_true,Bool.not_false]
 split
 · simp only [Bool.and_assoc]
 · rfl
def c27 (u:LUrl):Nat:=u.user.length+u.host.length+u.path.length+u.query.length+u.frag.length
def c5p (u:LUrl):Bool:=!R6 u.path [63,35] && if a0n u.scheme then c1d u else a97 u
theorem c1e (u:LUrl) (hs:Tiny u) (b:Bool) (st':St) (q1:IO st' u) (q2:st'.env 52=.val (.bool (b || b60 u))) (res:Bool) (hres:res=(!(b || b60 u) && c5p u)) :
 CD (st'.env 52) (A:=⟨EC Tryz.prog (.seq (.reg [⟨some 2,.mov (.k (.val (.bool false))),none⟩]) .ret) st' (K:=⟨fun e st'=>ET e st' (Ks:=⟨fun st'=>EC Tryz.prog ir240_from2 st' (K:=⟨a2a [.t 2] (.val (.bool res))⟩)⟩) (K:=⟨a2a [.t 2] (.val (.bool res))⟩)⟩)⟩)
     (B:=⟨EC Tryz.prog .skip st' (K:=⟨fun e st'=>ET e st' (Ks:=⟨fun st'=>EC Tryz.prog ir240_from2 st' (K:=⟨a2a [.t 2] (.val (.bool res))⟩)⟩) (K:=⟨a2a [.t 2] (.val (.bool res))⟩)⟩)⟩):=by
 rw [q2]
 cases hbb:(b || b60 u) with
 | true=>
  rw [hbb] at hres
  have:res=false:=hres
  subst this
  simp
 | false=>
  rw [hbb] at hres
  have:res=c5p u:=hres
  subst this
  simp only [x9,F6,y4,F4,y5,q7,y0,F5,l7,A6,G7,G8,j6,p5,p6,l1,y6,p9,l3,F3,x8,p8,p7,D4,D5,a0u,a0v,Option.getD_some,Option.getD_none,C1,u0,o5,D1,o4,n8,D3,n9,D2,D0,C9,H2,w6,o2,C7,v8,o1,C6,B9,C8,w5,C4,n7,v7,C5,H4,H3,C0,C2,o0,C3,w7,o3,A9,l9,B8,B7,B6,G9,u9,n0,B4,u6,m8,B3,A7,B5,u7,B1,l8,u5,B2,H1,H0,A8,u4,n6,B0,v6,n5,J2,J1,K5,J3,J7,J5,J4,K4,J6,J8,J9,K2,K3,y9,y8,y7,M0,M1,z7,F7,u1,D9,x1,K7,q8,Q1,M4,L6,N6,N8,N7,Q2,Q3,I4,I6,I5,I7,I8,N3,x3,N2,E1,E2,E3,x4,a0x,F0,x7,P9,Q0,H5,M2,M3,Option.map_some,Option.map_none,E4,x5,w9,o6,D7,D8,H8,H7,O3,O2,J0,F1,F2,I9,N9,O0,I0,o8,I1,o7,M7,E9,E8,l2,N5,O1,I3,M9,N1,N0,x2,A3,A5,A4,k7,N4,Q5,Q4,M5,I2,U4,M6,o9,E6,E7,x6,E5,l0,u2,k9,u3,k8,K6,O4,O5,z1,z6,F9,F8,D6]
  refine f8 (fun h=>by cases h) (fun _=>?_)
  simp only [x9,F6,y4,F4,y5,q7,y0,F5,l7,A6,G7,G8,j6,p5,p6,l1,y6,p9,l3,F3,x8,p8,p7,D4,D5,a0u,a0v,Option.getD_some,Option.getD_none,C1,u0,o5,D1,o4,n8,D3,n9,D2,D0,C9,H2,w6,o2,C7,v8,o1,C6,B9,C8,w5,C4,n7,v7,C5,H4,H3,C0,C2,o0,C3,w7,o3,A9,l9,B8,B7,B6,G9,u9,n0,B4,u6,m8,B3,A7,B5,u7,B1,l8,u5,B2,H1,H0,A8,u4,n6,B0,v6,n5,J2,J1,K5,J3,J7,J5,J4,K4,J6,J8,J9,K2,K3,y9,y8,y7,M0,M1,z7,F7,u1,D9,x1,K7,q8,Q1,M4,L6,N6,N8,N7,Q2,Q3,I4,I6,I5,I7,I8,N3,x3,N2,E1,E2,E3,x4,a0x,F0,x7,P9,Q0,H5,M2,M3,Option.map_some,Option.map_none,E4,x5,w9,o6,D7,D8,H8,H7,O3,O2,J0,F1,F2,I9,N9,O0,I0,o8,I1,o7,M7,E9,E8,l2,N5,O1,I3,M9,N1,N0,x2,A3,A5,A4,k7,N4,Q5,Q4,M5,I2,U4,M6,o9,E6,E7,x6,E5,l0,u2,k9,u3,k8,K6,O4,O5,z1,z6,F9,F8,D6]
  have h30:b60 u=false:=(Bool.or_eq_false_iff.1 hbb).2
  have h36:c7p u=false:=(Bool.or_eq_false_iff.1 h30).2
  unfold c7p at h36
  have hsh:T7 (u.user++u.host++u.path++u.query++u.frag)=true:=by simpa using h36
  simp only [a9m,Bool.and_eq_true] at hsh
  exact c4b u hs.s2 hs.s3 hs.s4 hsh.1.1.1.1 hsh.1.1.2 st' q1
theorem c6i (u:LUrl) (hs:Tiny u):d8 Tryz.prog 240 [.val (X0 u)] (.ret (.val (.bool (R9 u))) []) []:=by
 refine f6 mixed ok240 rfl (fun _=>rfl) ?_
 unfold ir240
 rw [b6]
 have hs':=hs
 obtain ⟨s1,s2,s3,s4,s5,s6,p0,p1⟩:=hs
 have hres:R9 u=(!((!V9 u.scheme || decide (100 < c27 u)) || b60 u) && c5p u):=by
  rw [← c7l,b86]
  have e1:decide (u.user.length+u.host.length+u.path.length+u.query.length+u.frag.length≤100)=!decide (100 < c27 u):=by
   unfold c27
   by_cases h:u.user.length+u.host.length+u.path.length+u.query.length+u.frag.length≤100
   · rw [decide_eq_true h,decide_eq_false (by omega)];rfl
   · rw [decide_eq_false h,decide_eq_true (by omega)];rfl
  rw [e1]
  unfold c5p
  cases V9 u.scheme<;>cases decide (100 < c27 u)<;>cases b60 u<;>rfl
 simp [d9,i6,j9,b8,d7,X0,tx,num,b9]
 refine b7 rfl rfl (.inl rfl) (c4g u.scheme (by omega)) ?_
 cases b1:V9 u.scheme with
 | false=>
  rw [b1] at hres
  simp [tx,num,b9]
  refine d0q (u:=u) (b:=true) hs' ⟨?_,?_⟩ ?_ (fun st' q1 q2=>c1e u hs' true st' q1 q2 _ hres)
  · simp
  · simp [f5,tx,num]
  · simp
 | true=>
  rw [b1] at hres
  have w1:IntKind.i64.wrap ((u.user.length:Int)+u.host.length)=(u.user.length:Int)+u.host.length:=wrap_i64 (by omega) (by omega)
  have w2:IntKind.i64.wrap ((u.user.length:Int)+u.host.length+u.path.length)=(u.user.length:Int)+u.host.length+u.path.length:=wrap_i64 (by omega) (by omega)
  have w3:IntKind.i64.wrap ((u.user.length:Int)+u.host.length+u.path.length+u.query.length)=(u.user.length:Int)+u.host.length+u.path.length+u.query.length:=wrap_i64 (by omega) (by omega)
  have w4:IntKind.i64.wrap ((u.user.length:Int)+u.host.length+u.path.length+u.query.length+u.frag.length)=(u.user.length:Int)+u.host.length+u.path.length+u.query.length+u.frag.length:=wrap_i64 (by omega) (by omega)
  have e:decide ((100:Int) < (u.user.length:Int)+u.host.length+u.path.length+u.query.length+u.frag.length)=decide (100 < c27 u):=by
   unfold c27
   by_cases h:100 < u.user.length+u.host.length+u.path.length+u.query.length+u.frag.length
   · rw [decide_eq_true h,decide_eq_true (by omega)]
   · rw [decide_eq_false h,decide_eq_false (by omega)]
  simp [tx,num,b9,w1,w2,w3,w4,e]
  refine d0q (u:=u) (b:=decide (100 < c27 u)) hs' ⟨?_,?_⟩ ?_ (fun st' q1 q2=>c1e u hs' _ st' q1 q2 _ (by rw [hres];rfl))
  · simp
  · simp [f5,tx,num]
  · simp
end Go.Proofs
end
section
namespace Go.Proofs
open Go.PW Go.KP
attribute [local simp] RV.cells RV.one PV.cells PV.solid PV.one G3 i7 L8 L5 RV.ofCells elems PV.killL
variable [GH]
structure IP (st:St) (u:LUrl):Prop where
 e2:st.env 2=.ptr 2 0
 e7:st.env 7=.ptr 7 0
 m2:st.mem 2=.box (f5 LUrl.zero)
 m7:st.mem 7=.box (f5 u)
theorem b6w (u:LUrl) (hs:Tiny u) (st:St) (h:IP st u):EC Tryz.prog ir226_from15 st (K:=prs (u,R9 u)):=by
 unfold ir226_from15
 obtain ⟨e2,e7,m2,m7⟩:=h
 simp [e2,e7,m2,m7,f5,i7,tx,num]
 refine z8 rfl rfl (.inl rfl) (c6i u hs) ?_
 simp [e2,e7,m2,m7,f5,i7,tx,num]
 refine a7r (id:=2) ?_ ?_ ?_
 · simp [e2]
 · simp [e2,f5,tx,num]
 · simp
theorem a5y (sc us ho pa qu fr:Tx) (po:Int) (hq hf:Bool) (hs:Tiny ⟨sc,us,R3 ho,po,pa,qu,fr,hq,hf⟩) (hh:ho.length < 1048577) (st:St) (h:IP st ⟨sc,us,[],po,pa,qu,fr,hq,hf⟩) (e12:st.env 12=.val (tx ho)) :
 EC Tryz.prog ir226_from14 st (K:=prs (⟨sc,us,R3 ho,po,pa,qu,fr,hq,hf⟩,R9 ⟨sc,us,R3 ho,po,pa,qu,fr,hq,hf⟩)):=by
 unfold ir226_from14
 obtain ⟨e2,e7,m2,m7⟩:=h
 simp [e2,e7,m2,m7,e12,f5,i7,tx,num]
 refine b7 rfl rfl (.inl rfl) (c6g ho (by omega)) ?_
 simp [e2,e7,m2,m7,f5,i7,tx,num]
 refine b6w ⟨sc,us,R3 ho,po,pa,qu,fr,hq,hf⟩ hs _ ⟨?_,?_,?_,?_⟩<;>simp [e2,e7,m2,m7,f5,tx,num]
theorem b6x (sc us pa qu fr:Tx) (hq hf:Bool) (h1:sc.length < 1048577) (h2:us.length < 1048577) (h3:pa.length < 1048577) (h4:qu.length < 1048577) (h5:fr.length < 1048577) (r:Tx) (hr:r.length < 1048577) (st:St)
 (h:IP st ⟨sc,us,[],0,pa,qu,fr,hq,hf⟩) (e12:st.env 12=.val (tx (k6 r 58))) (e13:st.env 13=.val (tx (G5 r 58))) (e6:st.env 6=.val (.bool (decide (58∈r)))) :
 EC Tryz.prog ir226_from13 st (K:=prs (T4 ⟨sc,us,R3 (k6 r 58),0,pa,qu,fr,hq,hf⟩ r)):=by
 unfold ir226_from13
 obtain ⟨e2,e7,m2,m7⟩:=h
 have hla:=R7 r 58
 have hlb:=Z6 r 58
 have hll:(R3 (k6 r 58)).length < 1048577:=by simp [R3];omega
 by_cases hc:58∈r
 · simp [e6,e13,hc,tx]
   have hn:=d0x (G5 r 58) (by omega)
   refine Y3 rfl rfl (.inl rfl) hn ?_
   cases hb:(a6z (G5 r 58)).2 with
   | false=>
    have hnone:=c7n hb
    rw [show T4 ⟨sc,us,R3 (k6 r 58),0,pa,qu,fr,hq,hf⟩ r=(LUrl.zero,false) by simp only [T4,a2e,hc,hnone,if_true]]
    simp [e2,e7,m2,m7,tx,num,f5]
    refine a02 _ ?_ ?_ ?_
    · simp [e2]
    · simp [f5,LUrl.zero,tx,num,bs]
    · simp
   | true=>
    have hsome:=inum_le hb
    generalize (a6z (G5 r 58)).1=n at *
    simp [e2,e7,m2,m7,tx,num,f5]
    refine b7 rfl rfl (.inl rfl) (R4 n 1 65535) ?_
    by_cases hin:1≤n∧n≤65535
    · rw [decide_eq_true hin]
      simp [e2,e7,m2,m7,tx,num,f5]
      refine b7 rfl rfl (.inl rfl) (c6f sc) ?_
      by_cases hu:n=a0s sc
      · have hl:a2e sc r=some 0:=by
         simp only [a2e,hc,hsome,hin,if_true,and_self]
         rw [if_pos hu]
        rw [show T4 ⟨sc,us,R3 (k6 r 58),0,pa,qu,fr,hq,hf⟩ r=(⟨sc,us,R3 (k6 r 58),0,pa,qu,fr,hq,hf⟩,R9 ⟨sc,us,R3 (k6 r 58),0,pa,qu,fr,hq,hf⟩) by simp only [T4,hl]]
        simp [e2,e7,m2,m7,tx,num,f5,hu]
        refine a5y sc us (k6 r 58) pa qu fr 0 hq hf ⟨h1,h2,hll,h3,h4,h5,by simp,by simp⟩ (by omega) _ ⟨?_,?_,?_,?_⟩ ?_<;>simp [e2,e7,m2,m7,e12,f5,tx,num]
      · have hl:a2e sc r=some n:=by
         simp only [a2e,hc,hsome,hin,if_true,and_self]
         rw [if_neg hu]
        rw [show T4 ⟨sc,us,R3 (k6 r 58),0,pa,qu,fr,hq,hf⟩ r=(⟨sc,us,R3 (k6 r 58),n,pa,qu,fr,hq,hf⟩,R9 ⟨sc,us,R3 (k6 r 58),n,pa,qu,fr,hq,hf⟩) by simp only [T4,hl]]
        simp [e2,e7,m2,m7,tx,num,f5,hu]
        refine a5y sc us (k6 r 58) pa qu fr n hq hf ⟨h1,h2,hll,h3,h4,h5,by show _≤n;omega,by show n≤_;omega⟩ (by omega) _ ⟨?_,?_,?_,?_⟩ ?_<;>simp [e2,e7,m2,m7,e12,f5,tx,num]
    · rw [decide_eq_false hin]
      rw [show T4 ⟨sc,us,R3 (k6 r 58),0,pa,qu,fr,hq,hf⟩ r=(LUrl.zero,false) by simp only [T4,a2e,hc,hsome,hin,if_true,if_false]]
      simp [e2,e7,m2,m7,tx,num,f5]
      refine a02 _ ?_ ?_ ?_
      · simp [e2]
      · simp [f5,LUrl.zero,tx,num,bs]
      · simp
 · have hl:a2e sc r=some 0:=by simp only [a2e,hc,if_false]
   rw [show T4 ⟨sc,us,R3 (k6 r 58),0,pa,qu,fr,hq,hf⟩ r=(⟨sc,us,R3 (k6 r 58),0,pa,qu,fr,hq,hf⟩,R9 ⟨sc,us,R3 (k6 r 58),0,pa,qu,fr,hq,hf⟩) by simp only [T4,hl]]
   simp [e6,hc]
   refine a5y sc us (k6 r 58) pa qu fr 0 hq hf ⟨h1,h2,hll,h3,h4,h5,by simp,by simp⟩ (by omega) _ ⟨?_,?_,?_,?_⟩ ?_<;>simp [e2,e7,m2,m7,e12,f5,tx,num]
theorem a9p (sc us pa qu fr:Tx) (hq hf:Bool) (h1:sc.length < 1048577) (h2:us.length < 1048577) (h3:pa.length < 1048577) (h4:qu.length < 1048577) (h5:fr.length < 1048577) (r:Tx) (hr:r.length < 1048577) (st:St)
 (h:IP st ⟨sc,us,[],0,pa,qu,fr,hq,hf⟩) (e5:st.env 5=.val (tx r)) :
 EC Tryz.prog ir226_from12 st (K:=prs (T4 ⟨sc,us,R3 (k6 r 58),0,pa,qu,fr,hq,hf⟩ r)):=by
 unfold ir226_from12
 obtain ⟨e2,e7,m2,m7⟩:=h
 have q1:(⟨#[58]⟩:ByteArray)=bs [58]:=rfl
 simp [e5,tx,q1]
 refine a1q rfl rfl (.inl rfl) (b56 r 58 (by omega)) ?_
 simp [e5,tx]
 refine b6x sc us pa qu fr hq hf h1 h2 h3 h4 h5 r hr _ ⟨?_,?_,?_,?_⟩ ?_ ?_ ?_<;>simp [e2,e7,m2,m7,f5,tx,num]
theorem a9q (sc pa qu fr:Tx) (hq hf:Bool) (h1:sc.length < 1048577) (h3:pa.length < 1048577) (h4:qu.length < 1048577) (h5:fr.length < 1048577) (r:Tx) (hr:r.length < 1048577) (st:St)
 (h:IP st ⟨sc,[],[],0,pa,qu,fr,hq,hf⟩) (e5:st.env 5=.val (tx r)) :
 EC Tryz.prog ir226_from11 st (K:=prs (b3s sc pa qu fr hq hf r)):=by
 unfold ir226_from11
 obtain ⟨e2,e7,m2,m7⟩:=h
 have q1:(⟨#[64]⟩:ByteArray)=bs [64]:=rfl
 have hla:=R7 r 64
 have hlb:=Z6 r 64
 simp [e5,tx,q1]
 refine a1q rfl rfl (.inl rfl) (b56 r 64 (by omega)) ?_
 unfold b3s
 by_cases hc:64∈r
 · have e:(if 64∈r then G5 r 64 else r)=G5 r 64:=if_pos hc
   rw [if_pos hc,e]
   simp [e5,tx,hc,e2,e7,m2,m7,f5,num]
   refine a9p sc (k6 r 64) pa qu fr hq hf h1 (by omega) h3 h4 h5 (G5 r 64) (by omega) _ ⟨?_,?_,?_,?_⟩ ?_<;>simp [e2,e7,m2,m7,f5,tx,num]
 · have e:(if 64∈r then G5 r 64 else r)=r:=if_neg hc
   rw [if_neg hc,e]
   simp [e5,tx,hc]
   refine a9p sc [] pa qu fr hq hf h1 (by simp) h3 h4 h5 r hr _ ⟨?_,?_,?_,?_⟩ ?_<;>simp [e2,e7,m2,m7,e5,f5,tx,num]
theorem b6y (sc qu fr:Tx) (hq hf:Bool) (h1:sc.length < 1048577) (h4:qu.length < 1048577) (h5:fr.length < 1048577) (r:Tx) (hr:r.length < 1048577) (st:St)
 (h:IP st ⟨sc,[],[],0,[47],qu,fr,hq,hf⟩) (e5:st.env 5=.val (tx r)) :
 EC Tryz.prog ir226_from10 st (K:=prs (a8w sc qu fr hq hf r)):=by
 unfold ir226_from10
 obtain ⟨e2,e7,m2,m7⟩:=h
 have hle:=a07 r 47
 have hla:=R7 r 47
 simp [e5,tx]
 refine b7 rfl rfl (.inl rfl) (c2r r 47) ?_
 unfold a8w
 by_cases hc:47∈r
 · rw [if_pos hc]
   simp [e5,tx,num,hc,e2,e7,m2,m7,f5,b9,S1,hle,a4f]
   refine a9q sc (r.drop (M8 r 47)) qu fr hq hf h1 (by simp;omega) h4 h5 (k6 r 47) (by omega) _ ⟨?_,?_,?_,?_⟩ ?_<;>simp [e2,e7,m2,m7,f5,tx,num,k6]
 · rw [if_neg hc]
   simp [e5,tx,num,hc]
   rw [a1l hc]
   refine a9q sc [47] qu fr hq hf h1 (by simp) h4 h5 r hr _ ⟨?_,?_,?_,?_⟩ ?_<;>simp [e2,e7,m2,m7,e5,f5,tx,num]
theorem b9a (sc:Tx) (h1:sc.length < 1048577) (r:Tx) (hr:r.length < 1048577) (st:St) (h:IP st ⟨sc,[],[],0,[],[],[],false,false⟩) (e5:st.env 5=.val (tx r)) :
 EC Tryz.prog ir226_from7 st (K:=prs (a5k sc r)):=by
 unfold ir226_from7
 obtain ⟨e2,e7,m2,m7⟩:=h
 have q1:(⟨#[35]⟩:ByteArray)=bs [35]:=rfl
 have q2:(⟨#[63]⟩:ByteArray)=bs [63]:=rfl
 have q3:(⟨#[47]⟩:ByteArray)=bs [47]:=rfl
 have e:a5k sc r=a8w sc (G5 (k6 r 35) 63) (G5 r 35) (decide (63∈k6 r 35)) (decide (35∈r)) (k6 (k6 r 35) 63):=rfl
 have hl1:=R7 r 35
 have hl2:=Z6 r 35
 have hl3:=R7 (k6 r 35) 63
 have hl4:=Z6 (k6 r 35) 63
 rw [e]
 simp [e5,tx,q1]
 refine a1q rfl rfl (.inl rfl) (b56 r 35 (by omega)) ?_
 simp [e5,tx,q2,e2,e7,m2,m7,f5,num]
 refine a1q rfl rfl (.inl rfl) (b56 (k6 r 35) 63 (by omega)) ?_
 simp [e5,tx,q3,e2,e7,m2,m7,f5,num]
 refine b6y sc (G5 (k6 r 35) 63) (G5 r 35) _ _ h1 (by omega) (by omega) (k6 (k6 r 35) 63) (by omega) _ ⟨?_,?_,?_,?_⟩ ?_<;>simp [e2,e7,m2,m7,f5,tx,num]
theorem prefix2 (r:Tx):([47,47]:Tx).isPrefixOf r=decide (r.take 2=[47,47]):=by
 match r with
 | []=>rfl
 | [a]=>simp [List.isPrefixOf]
 | a :: b :: r=>
  rw [Bool.eq_iff_iff]
  simp [List.isPrefixOf]
  constructor
  · rintro ⟨rfl,rfl⟩;exact ⟨rfl,rfl⟩
  · rintro ⟨rfl,rfl⟩;exact ⟨rfl,rfl⟩
theorem b9b (sc:Tx) (h1:sc.length < 1048577) (r:Tx) (hr:r.length < 1048577) (st:St)
 (h:IP st ⟨sc,[],[],0,[],[],[],false,false⟩) (e5:st.env 5=.val (tx r)):EC Tryz.prog ir226_from4 st (K:=prs (if a0n sc then if r.take 2=[47,47] then a5k sc (r.drop 2) else (LUrl.zero,false) else (⟨sc,[],[],0,k6 (k6 r 35) 63,[],[],false,false⟩,R9 ⟨sc,[],[],0,k6 (k6 r 35) 63,[],[],false,false⟩))):=by
 unfold ir226_from4
 obtain ⟨e2,e7,m2,m7⟩:=h
 have q1:(⟨#[35]⟩:ByteArray)=bs [35]:=rfl
 have q2:(⟨#[63]⟩:ByteArray)=bs [63]:=rfl
 have q3:(⟨#[47,47]⟩:ByteArray)=bs [47,47]:=rfl
 have hl1:=R7 r 35
 have hl3:=R7 (k6 r 35) 63
 simp [e2,e7,m2,m7,tx,num,f5,i7]
 refine b7 rfl rfl (.inl rfl) (c1l ⟨sc,[],[],0,[],[],[],false,false⟩) ?_
 by_cases hw:a0n sc=true
 · rw [if_pos hw]
   simp [e5,tx,hw,q3]
   refine Y3 rfl rfl (.inl rfl) (c2t r [47,47]) ?_
   rw [prefix2]
   by_cases ht:r.take 2=[47,47]
   · rw [if_pos ht]
     simp [tx,ht]
     refine b9a sc h1 (r.drop 2) (by simp;omega) _ ⟨?_,?_,?_,?_⟩ ?_<;>simp [e2,e7,m2,m7,f5,tx,num]
   · rw [if_neg ht]
     simp [e2,e7,m2,m7,tx,num,f5,ht]
     refine a02 _ ?_ ?_ ?_
     · simp [e2]
     · simp [f5,LUrl.zero,tx,num,bs]
     · simp
 · rw [if_neg hw]
   simp [e5,tx,hw,q1]
   refine a1q rfl rfl (.inl rfl) (b56 r 35 (by omega)) ?_
   simp [tx,hw,q2]
   refine a1q rfl rfl (.inl rfl) (b56 (k6 r 35) 63 (by omega)) ?_
   simp [e2,e7,m2,m7,tx,num,f5,i7]
   refine z8 rfl rfl (.inl rfl) (c6i ⟨sc,[],[],0,k6 (k6 r 35) 63,[],[],false,false⟩ ⟨h1,by simp,by simp,by show (k6 (k6 r 35) 63).length < _;omega,by simp,by simp,by simp,by simp⟩) ?_
   simp [e2,e7,m2,m7,tx,num,f5,i7]
   refine a7r (id:=2) ?_ ?_ ?_
   · simp [e2]
   · simp [f5,tx,num]
   · simp
theorem i_parse (t:Tx) (ht:t.length < 1048577):d8 Tryz.prog 226 [.val (tx t)] (.ret (a6b (H9 t)) []) []:=by
 refine f6 mixed ok226 rfl (fun _=>rfl) ?_
 unfold ir226
 rw [b6]
 have q1:(⟨#[58]⟩:ByteArray)=bs [58]:=rfl
 have hla:=R7 t 58
 have hlb:=Z6 t 58
 simp [d9,i6,j9,b8,d7,tx,num,q1]
 refine a1q rfl rfl (.inl rfl) (b56 t 58 (by omega)) ?_
 simp [tx,num]
 refine b7 rfl rfl (.inl rfl) (c6g (k6 t 58) (by omega)) ?_
 by_cases hc:58∈t
 · rw [show H9 t=(if a0n (R3 (k6 t 58)) then if (G5 t 58).take 2=[47,47] then a5k (R3 (k6 t 58)) ((G5 t 58).drop 2) else (LUrl.zero,false) else (⟨R3 (k6 t 58),[],[],0,k6 (k6 (G5 t 58) 35) 63,[],[],false,false⟩,R9 ⟨R3 (k6 t 58),[],[],0,k6 (k6 (G5 t 58) 35) 63,[],[],false,false⟩)) by unfold H9;rw [if_pos hc]]
   simp [tx,num,hc]
   refine b9b (R3 (k6 t 58)) (by simp [R3];omega) (G5 t 58) (by omega) _ ⟨?_,?_,?_,?_⟩ ?_<;>simp [f5,tx,num,LUrl.zero,bs]
 · rw [show H9 t=(LUrl.zero,false) by unfold H9;rw [if_neg hc]]
   simp [tx,num,hc]
   refine a02 _ ?_ ?_ ?_
   · simp
   · simp [f5,LUrl.zero,tx,num,bs]
   · simp
end Go.Proofs
end
section
namespace Go.Proofs
open Go.PW Go.KP
attribute [local simp] RV.cells RV.one PV.cells PV.solid PV.one G3 i7 L8 L5 RV.ofCells elems PV.killL
variable [GH]
theorem tiny_of {u:LUrl} (h:u.Tiny):Tiny u:=⟨h.1,h.2.1,h.2.2.1,h.2.2.2.1,h.2.2.2.2.1,h.2.2.2.2.2.1,by have:=h.2.2.2.2.2.2;omega,by have:=h.2.2.2.2.2.2;omega⟩
def c6j (r:LUrl×Int):PV:=.tup [.val (X0 r.1),.val (num r.2)]
theorem b1p {st:St} {s t id:Nat} {u:LUrl} {n:Int} (h1:st.env s=.ptr id 0) (h2:st.mem id=.box (f5 u)) (h5:st.env t=.val (num n)):T9 [.c s true 9,.t t] st.fin=some (c6j (u,n)):=by
 rw [c5v (n:=9) (rs:=b2l u) h1 (by rw [h2,b2m]) rfl (by omega) h5,b7i]
 rfl
def a2w (t:Tx):LUrl×Int:=if t.length≤65536 then if (H9 t).2 then ((H9 t).1,0) else (LUrl.zero,3) else (LUrl.zero,2)
theorem c4m (t:Tx) (ht:t.length < 1048577):d8 Tryz.prog 200 [.val (tx t)] (.ret (c6j (a2w t)) []) []:=by
 refine f6 mixed ok200 rfl (fun _=>rfl) ?_
 unfold ir200
 rw [b6]
 unfold a2w
 simp [d9,i6,j9,b8,d7,tx]
 refine b7 rfl rfl (.inl rfl) (i_long t) ?_
 by_cases hl:t.length≤65536
 · rw [if_pos hl,if_pos hl]
   simp [tx,num]
   refine Y3 rfl rfl (.inl rfl) (i_parse t ht) ?_
   cases hok:(H9 t).2 with
   | true=>
    rw [if_pos rfl]
    simp [tx,num,X0,i7]
    refine b1p (id:=2) ?_ ?_ ?_
    · simp
    · simp [f5,tx,num]
    · simp [num]
   | false=>
    rw [if_neg (by simp)]
    simp [tx,num,X0,i7]
    refine b1p (id:=2) ?_ ?_ ?_
    · simp
    · simp [f5,LUrl.zero,tx,num,bs]
    · simp [num]
 · rw [if_neg hl,if_neg hl]
   simp [tx,num]
   refine b1p (id:=2) ?_ ?_ ?_
   · simp
   · simp [f5,LUrl.zero,tx,num,bs]
   · simp [num]
theorem c2h (u:LUrl) (hs:Tiny u) (st:St) (e4:st.env 4=.ptr 4 0) (m4:st.mem 4=.box (f5 { u with frag:=[],hasF:=false })):EC Tryz.prog ir164_from4 st (K:=⟨a2a [.t 2,.t 3] (Y5 (some (a3c { u with frag:=[],hasF:=false })))⟩):=by
 unfold ir164_from4
 obtain ⟨s1,s2,s3,s4,s5,s6,p0,p1⟩:=hs
 have ht:Tiny { u with frag:=[],hasF:=false }:=⟨s1,s2,s3,s4,s5,by simp,p0,p1⟩
 simp [e4,m4,f5,tx,num,i7]
 refine b7 rfl rfl (.inl rfl) (d0u { u with frag:=[],hasF:=false } ht.small p0) ?_
 simp [Y5]
theorem c6h (t:Tx) (ht:t.length < 1048577):d8 Tryz.prog 164 [.val (tx t)] (.ret (Y5 (a2q t)) []) []:=by
 refine f6 mixed ok164 rfl (fun _=>rfl) ?_
 unfold ir164
 rw [b6]
 have htn:=tiny_of (c03 ht)
 have hpu:=c4m t ht
 by_cases hl:t.length≤65536
 · cases hok:(H9 t).2 with
   | false=>
    have e1:a2q t=none:=by unfold a2q;rw [if_pos hl,hok];rfl
    have e2:a2w t=(LUrl.zero,3):=by unfold a2w;rw [if_pos hl,hok];rfl
    rw [e1]
    rw [e2] at hpu
    simp [d9,i6,j9,b8,d7,tx]
    refine Y3 rfl rfl (.inl rfl) hpu ?_
    simp [tx,num,X0,i7,Y5,bs]
   | true=>
    have e2:a2w t=((H9 t).1,0):=by unfold a2w;rw [if_pos hl,hok];rfl
    rw [e2] at hpu
    cases hw:a0n (H9 t).1.scheme with
    | false=>
     have e1:a2q t=none:=by unfold a2q;rw [if_pos hl,hok,hw];rfl
     rw [e1]
     simp [d9,i6,j9,b8,d7,tx]
     refine Y3 rfl rfl (.inl rfl) hpu ?_
     simp [tx,num,X0,i7]
     refine b7 rfl rfl (.inl rfl) (c1l (H9 t).1) ?_
     rw [hw]
     simp [tx,num,Y5,bs]
    | true=>
     have e1:a2q t=some (a3c { (H9 t).1 with frag:=[],hasF:=false }):=by unfold a2q;rw [if_pos hl,hok,hw];rfl
     rw [e1]
     simp [d9,i6,j9,b8,d7,tx]
     refine Y3 rfl rfl (.inl rfl) hpu ?_
     simp [tx,num,X0,i7]
     refine b7 rfl rfl (.inl rfl) (c1l (H9 t).1) ?_
     rw [hw]
     simp [tx,num]
     refine c2h (H9 t).1 htn _ ?_ ?_<;>simp [f5,tx,num,bs]
 · have e1:a2q t=none:=by unfold a2q;rw [if_neg hl]
   have e2:a2w t=(LUrl.zero,2):=by unfold a2w;rw [if_neg hl]
   rw [e1]
   rw [e2] at hpu
   simp [d9,i6,j9,b8,d7,tx]
   refine Y3 rfl rfl (.inl rfl) hpu ?_
   simp [tx,num,X0,i7,Y5,bs]
structure JT (st:St) (x:LTarget):Prop where
 e1:st.env 1=.ptr 1 0
 m1:st.mem 1=.box [.val (tx x.url),.val (num x.prio),.val (num x.weight)]
theorem d0i {Ks:Kx (St→Prop)} {kx:Kx (RV→St→Prop)} {st:St} {x:LTarget} {b:Bool} (h:JT st x) (hb:st.env 17=.val (.bool b)) (hK:∀ st',st'.env 2=.val (.bool (b && (decide (1≤x.prio∧x.prio≤9) && decide (1≤x.weight∧x.weight≤9))))→Ks.k st'):EO Tryz.prog ir169_o18 st (Ks:=Ks) (kx:=kx):=by
 unfold ir169_o18
 cases b with
 | false=>
  simp [hb]
  exact hK _ (by simp)
 | true=>
  simp [hb,h.e1,h.m1,num]
  refine b7 rfl rfl (.inl rfl) (R4 x.prio 1 9) ?_
  cases hp:decide (1≤x.prio∧x.prio≤9) with
  | false=>
   simp
   exact hK _ (by simp [hp])
  | true=>
   simp [h.e1,h.m1,num]
   refine b7 rfl rfl (.inl rfl) (R4 x.weight 1 9) ?_
   simp
   exact hK _ (by rw [hp];simp)
theorem b5c (x:LTarget) (hx:x.url.length < 1048577):d8 Tryz.prog 169 [.val (f9 x)] (.ret (.val (.bool (P7 x))) []) []:=by
 refine f6 mixed ok169 rfl (fun _=>rfl) ?_
 unfold ir169
 rw [b6,← b88,Bool.and_assoc]
 simp [d9,i6,j9,b8,d7,f9,tx,num]
 refine Y3 rfl rfl (.inl rfl) (c6h x.url hx) ?_
 cases hc:a2q x.url with
 | none=>
  simp
  refine d0i (x:=x) (b:=false) ⟨?_,?_⟩ ?_ (fun st' q=>?_)
  · simp
  · simp [tx,num]
  · simp
  · simp [q]
 | some u=>
  simp [tx,L2]
  refine d0i (x:=x) (b:=decide (u=x.url)) ⟨?_,?_⟩ ?_ (fun st' q=>?_)
  · simp
  · simp [tx,num]
  · simp
  · simp [q]
theorem c7s (x:LTarget) (url:Tx):d8 Tryz.prog 228 [.val (f9 x),.box [tx url]] (.ret (.val (.bool (decide (x.url=url)))) []) [[tx url]]:=by
 refine U9 mixed ok228 rfl (fun _=>rfl) ?_
 unfold ir228
 rw [b6]
 simp [d9,i6,j9,b8,d7,f9,tx,num,L2,S3,R2]
theorem b37 {l:List LTarget} {j:Nat} (h:j < l.length):(l.map f9)[j]?.getD .nilptr=f9 l[j]:=by simp [List.getElem?_eq_getElem h]
theorem b9f (l:List LTarget) (g:Nat) (c:RV) (p:LTarget→Bool) (hl:l.length < 1099511627776) (hg:fnB Tryz.prog g=true)
 (hp:∀ x∈l,d8 Tryz.prog g [.val (f9 x),.box [c]] (.ret (.val (.bool (p x))) []) [[c]]) :
 d8 Tryz.prog 205 [.val (.list 3 (l.map f9)),.fn g [.box [c]]] (.ret (.val (num (a06 l p))) []) [[c]]:=by
 refine U9 mixed ok205 rfl (fun _=>rfl) ?_
 unfold ir205
 rw [b6]
 simp [d9,i6,j9,b8,d7,j9,i6]
 refine j8 (X:=Nat) (fun i=>⟨t6 [(0,.val (.list 3 (l.map f9))),(1,.fn g [.ptr 900 0]),(7,.val (num l.length)),(8,.val (num i))],t8 [(900,.box [.val c])]⟩) (fun i=>i≤l.length∧∀ k (hk:k < i) (hk':k < l.length),p l[k]=false) (fun i=>l.length - i) 0 (Le.mk _ _ ?_ ?_) ?_ ?_
 · simp [upd,num]
 · simp
 · simp
 · rintro i ⟨hi,hne⟩
   simp [num]
   refine f8 (fun h1=>?_) (fun h1=>?_)
   · have e1:=b37 h1
     simp [num,h1,e1,f9,tx,hg]
     refine T3 (ids:=[900]) rfl rfl (by simp) (by decide) (by simp [a2y,x9,F6,y4,F4,y5,q7,y0,F5,l7,A6,G7,G8,j6,p5,p6,l1,y6,p9,l3,F3,x8,p8,p7,D4,D5,a0u,a0v,Option.getD_some,Option.getD_none,C1,u0,o5,D1,o4,n8,D3,n9,D2,D0,C9,H2,w6,o2,C7,v8,o1,C6,B9,C8,w5,C4,n7,v7,C5,H4,H3,C0,C2,o0,C3,w7,o3,A9,l9,B8,B7,B6,G9,u9,n0,B4,u6,m8,B3,A7,B5,u7,B1,l8,u5,B2,H1,H0,A8,u4,n6,B0,v6,n5,J2,J1,K5,J3,J7,J5,J4,K4,J6,J8,J9,K2,K3,y9,y8,y7,M0,M1,z7,F7,u1,D9,x1,K7,q8,Q1,M4,L6,N6,N8,N7,Q2,Q3,I4,I6,I5,I7,I8,N3,x3,N2,E1,E2,E3,x4,a0x,F0,x7,P9,Q0,H5,M2,M3,Option.map_some,Option.map_none,E4,x5,w9,o6,D7,D8,H8,H7,O3,O2,J0,F1,F2,I9,N9,O0,I0,o8,I1,o7,M7,E9,E8,l2,N5,O1,I3,M9,N1,N0,x2,A3,A5,A4,k7,N4,Q5,Q4,M5,I2,U4,M6,o9,E6,E7,x6,E5,l0,u2,k9,u3,k8,K6,O4,O5,z1,z6,F9,F8,D6]) rfl (hp l[i] (List.getElem_mem h1)) ?_
     cases hpi:p l[i] with
     | true=>
      simp [S3,R2]
      rw [a0e h1 hpi (fun k hk=>hne k hk (by omega))];rfl
     | false=>
      simp
      refine LoopNext.mk (i+1) ⟨by omega,fun k hk hk'=>?_⟩ (by omega) (Le.mk _ _ ?_ ?_)
      · by_cases e:k=i
        · subst e;exact hpi
        · exact hne k (by omega) hk'
      · simp [num];exact wrap_i64 (by omega) (by omega)
      · simp
   · have e:i=l.length:=by omega
     subst e
     simp [num,S3,R2]
     rw [Y1 (fun k hk=>hne k hk hk)]
theorem b3j (l:List LTarget) (g:Nat) (c:RV) (p:LTarget→Bool) (hl:l.length < 1099511627776) (hg:fnB Tryz.prog g=true)
 (hp:∀ x∈l,d8 Tryz.prog g [.val (f9 x),.box [c]] (.ret (.val (.bool (p x))) []) [[c]]) :
 d8 Tryz.prog 167 [.val (.list 3 (l.map f9)),.fn g [.box [c]]] (.ret (.val (.bool (l.any p))) []) [[c]]:=by
 refine U9 mixed ok167 rfl (fun _=>rfl) ?_
 unfold ir167
 rw [b6]
 simp [d9,i6,j9,b8,d7,j9,i6]
 refine T3 (ids:=[900]) rfl rfl (by simp) (by decide) (by simp [a2y,x9,F6,y4,F4,y5,q7,y0,F5,l7,A6,G7,G8,j6,p5,p6,l1,y6,p9,l3,F3,x8,p8,p7,D4,D5,a0u,a0v,Option.getD_some,Option.getD_none,C1,u0,o5,D1,o4,n8,D3,n9,D2,D0,C9,H2,w6,o2,C7,v8,o1,C6,B9,C8,w5,C4,n7,v7,C5,H4,H3,C0,C2,o0,C3,w7,o3,A9,l9,B8,B7,B6,G9,u9,n0,B4,u6,m8,B3,A7,B5,u7,B1,l8,u5,B2,H1,H0,A8,u4,n6,B0,v6,n5,J2,J1,K5,J3,J7,J5,J4,K4,J6,J8,J9,K2,K3,y9,y8,y7,M0,M1,z7,F7,u1,D9,x1,K7,q8,Q1,M4,L6,N6,N8,N7,Q2,Q3,I4,I6,I5,I7,I8,N3,x3,N2,E1,E2,E3,x4,a0x,F0,x7,P9,Q0,H5,M2,M3,Option.map_some,Option.map_none,E4,x5,w9,o6,D7,D8,H8,H7,O3,O2,J0,F1,F2,I9,N9,O0,I0,o8,I1,o7,M7,E9,E8,l2,N5,O1,I3,M9,N1,N0,x2,A3,A5,A4,k7,N4,Q5,Q4,M5,I2,U4,M6,o9,E6,E7,x6,E5,l0,u2,k9,u3,k8,K6,O4,O5,z1,z6,F9,F8,D6]) rfl (b9f l g c p hl hg hp) ?_
 simp [num,S3,R2]
 exact a5l l p
theorem d00 (l:List LTarget) (url:Tx) (hl:l.length < 1099511627776):d8 Tryz.prog 204 [.val (.list 3 (l.map f9)),.val (tx url)] (.ret (.val (.bool (l.any fun x=>decide (x.url=url)))) []) []:=by
 refine f6 mixed ok204 rfl (fun _=>rfl) ?_
 unfold ir204
 rw [b6]
 simp [d9,i6,j9,b8,d7,tx]
 refine T3 (ids:=[3]) rfl rfl (by simp) (by decide) (by simp [a2y,x9,F6,y4,F4,y5,q7,y0,F5,l7,A6,G7,G8,j6,p5,p6,l1,y6,p9,l3,F3,x8,p8,p7,D4,D5,a0u,a0v,Option.getD_some,Option.getD_none,C1,u0,o5,D1,o4,n8,D3,n9,D2,D0,C9,H2,w6,o2,C7,v8,o1,C6,B9,C8,w5,C4,n7,v7,C5,H4,H3,C0,C2,o0,C3,w7,o3,A9,l9,B8,B7,B6,G9,u9,n0,B4,u6,m8,B3,A7,B5,u7,B1,l8,u5,B2,H1,H0,A8,u4,n6,B0,v6,n5,J2,J1,K5,J3,J7,J5,J4,K4,J6,J8,J9,K2,K3,y9,y8,y7,M0,M1,z7,F7,u1,D9,x1,K7,q8,Q1,M4,L6,N6,N8,N7,Q2,Q3,I4,I6,I5,I7,I8,N3,x3,N2,E1,E2,E3,x4,a0x,F0,x7,P9,Q0,H5,M2,M3,Option.map_some,Option.map_none,E4,x5,w9,o6,D7,D8,H8,H7,O3,O2,J0,F1,F2,I9,N9,O0,I0,o8,I1,o7,M7,E9,E8,l2,N5,O1,I3,M9,N1,N0,x2,A3,A5,A4,k7,N4,Q5,Q4,M5,I2,U4,M6,o9,E6,E7,x6,E5,l0,u2,k9,u3,k8,K6,O4,O5,z1,z6,F9,F8,D6,tx]) rfl (b3j l 228 (tx url) (fun x=>decide (x.url=url)) hl (by kernel_rfl) (fun x _=>c7s x url)) ?_
 simp
end Go.Proofs
end
section
namespace Go.Proofs
open Go.PW Go.KP
attribute [local simp] RV.cells RV.one PV.cells PV.solid PV.one G3 i7 L8 L5 RV.ofCells elems PV.killL
variable [GH]
theorem any_url (l:List LTarget) (url:Tx):(l.any fun x=>decide (x.url=url))=decide (url∈l.map fun t=>t.url):=by
 rw [Bool.eq_iff_iff]
 simp only [List.any_eq_true,decide_eq_true_eq,List.mem_map]
theorem b26 (l:List LTarget) (hl:l.length < 1099511627776):d8 Tryz.prog 166 [.val (.list 3 (l.map f9))] (.ret (.val (.bool (Y6 l))) []) []:=by
 refine f6 mixed ok166 rfl (fun _=>rfl) ?_
 unfold ir166
 rw [b6]
 simp [d9,i6,j9,b8,d7]
 refine j8 (X:=Nat) (fun i=>⟨t6 [(0,.val (.list 3 (l.map f9))),(5,.val (.list 3 (l.map f9))),(6,.val (num l.length)),(7,.val (num i))],t8 []⟩) (fun i=>i≤l.length∧Y6 (l.take i)=true) (fun i=>l.length - i) 0 (Le.mk _ _ ?_ ?_) ?_ ?_
 · simp [upd,num]
 · simp
 · simp [Y6,T5]
 · rintro i ⟨hi,hinv⟩
   simp [num]
   refine f8 (fun h1=>?_) (fun h1=>?_)
   · have e1:=b37 h1
     simp [num,h1,e1,f9,tx,show i≤l.length by omega]
     have hh:=d00 (l.take i) l[i].url (by simp;omega)
     rw [any_url,List.map_take] at hh
     refine b7 rfl rfl (.inl rfl) hh ?_
     have ht:=b0q l i h1
     by_cases hm:l[i].url∈(l.take i).map fun t=>t.url
     · rw [decide_eq_true hm]
       have:Y6 l=false:=b6m l (i+1) (by rw [ht,hinv,decide_eq_false (fun h=>h hm)];rfl)
       rw [this]
       simp
     · rw [decide_eq_false hm]
       simp
       refine LoopNext.mk (i+1) ⟨by omega,?_⟩ (by omega) (Le.mk _ _ ?_ ?_)
       · rw [ht,hinv,decide_eq_true hm];rfl
       · simp [num];exact wrap_i64 (by omega) (by omega)
       · simp
   · have e:i=l.length:=by omega
     subst e
     rw [List.take_length] at hinv
     rw [hinv]
     simp
def tgs (l:List LPeer):List LTarget:=l.map fun p=>p.target
theorem b25 (l:List LPeer) (hl:l.length < 1099511627776):d8 Tryz.prog 129 [.val (P3 l)] (.ret (.val (.list 3 ((tgs l).map f9))) []) []:=by
 refine f6 mixed ok129 rfl (fun _=>rfl) ?_
 unfold ir129
 rw [b6]
 simp [d9,i6,j9,b8,d7,P3,elems]
 refine j8 (X:=Nat) (fun i=>⟨t6 [(3,.own 6),(7,.val (P3 l)),(8,.val (num l.length)),(9,.val (num i))],t8 [(6,.row 162 3 ((tgs (l.take i)).map f9))]⟩) (fun i=>i≤l.length) (fun i=>l.length - i) 0 (Le.mk _ _ ?_ ?_) ?_ ?_
 · simp [upd,num,P3,PV.kill]
 · simp [upd,tgs]
 · simp
 · intro i hi
   simp [num,P3]
   refine f8 (fun h1=>?_) (fun h1=>?_)
   · have e1:=b0w h1
     rw [List.getD_eq_getElem?_getD] at e1
     have hlen:(tgs (l.take i)).length=i:=by simp [tgs];omega
     have hsucc:(tgs (l.take (i+1))).map f9=(tgs (l.take i)).map f9++[f9 l[i].target]:=by
      unfold tgs
      rw [List.take_add_one,List.getElem?_eq_getElem h1,List.map_append,List.map_append]
      rfl
     simp [num,P3,h1,e1,G0,tx,elems,i7,hlen,RV.one]
     refine ⟨by omega,by omega,?_⟩
     refine LoopNext.mk (i+1) (by omega) (by omega) (Le.mk _ _ ?_ ?_)
     · simp [P3,num];exact wrap_i64 (by omega) (by omega)
     · rw [hsucc]
       simp [f9,num,tx]
   · have e1:i=l.length:=by omega
     subst e1
     simp [num,P3,a1d]
structure JP (st:St) (x:LPeer):Prop where
 e1:st.env 1=.ptr 1 0
 m1:st.mem 1=.box (S9 x)
section
variable {Ks:Kx (St→Prop)} {kx:Kx (RV→St→Prop)} {st:St} {x:LPeer} {b:Bool}
theorem c9v (h:JP st x) (hb:st.env 19=.val (.bool b)) (hK:∀ st',st'.env 2=.val (.bool (b || b6s x))→Ks.k st'):EO Tryz.prog ir171_o20 st (Ks:=Ks) (kx:=kx):=by
 unfold ir171_o20
 cases b with
 | true=>
  simp [hb]
  exact hK _ (by simp)
 | false=>
  by_cases h0:x.fails=0
  · by_cases h1:x.retry=0
    · simp [hb,h.e1,h.m1,S9,num,h0,h1]
      exact hK _ (by simp [b6s,h0,h1])
    · simp [hb,h.e1,h.m1,S9,num,h0,h1]
      exact hK _ (by simp [b6s,h0,h1])
  · simp [hb,h.e1,h.m1,S9,num,h0]
    exact hK _ (by simp [b6s,h0])
theorem c9w (h:JP st x) (hb:st.env 13=.val (.bool b)) (hK:∀ st',st'.env 2=.val (.bool (b || c65 x))→Ks.k st'):EO Tryz.prog ir171_o14 st (Ks:=Ks) (kx:=kx):=by
 unfold ir171_o14
 cases b with
 | true=>
  simp [hb]
  refine c9v (x:=x) (b:=true) ⟨?_,?_⟩ ?_ (fun st' q2=>hK st' (by simpa using q2))<;>simp [h.e1,h.m1]
 | false=>
  simp [hb,h.e1,h.m1,S9,num]
  refine b7 rfl rfl (.inl rfl) (R4 x.retry 0 1000032) ?_
  simp [hb]
  refine c9v (x:=x) (b:=!decide (0≤x.retry∧x.retry≤1000032)) ⟨?_,?_⟩ ?_ (fun st' q2=>hK st' (by rw [q2];simp [c65]))<;>simp [h.e1,h.m1]
theorem qops8 (h:JP st x) (hb:st.env 7=.val (.bool b)) (hK:∀ st',st'.env 2=.val (.bool (b || c3n x))→Ks.k st'):EO Tryz.prog ir171_o8 st (Ks:=Ks) (kx:=kx):=by
 unfold ir171_o8
 cases b with
 | true=>
  simp [hb]
  refine c9w (x:=x) (b:=true) ⟨?_,?_⟩ ?_ (fun st' q2=>hK st' (by simpa using q2))<;>simp [h.e1,h.m1]
 | false=>
  simp [hb,h.e1,h.m1,S9,num]
  refine b7 rfl rfl (.inl rfl) (R4 x.fails 0 1000000) ?_
  simp [hb]
  refine c9w (x:=x) (b:=!decide (0≤x.fails∧x.fails≤1000000)) ⟨?_,?_⟩ ?_ (fun st' q2=>hK st' (by rw [q2];simp [c3n]))<;>simp [h.e1,h.m1]
end
theorem c4l (x:LPeer) (hx:x.target.url.length < 1048577):d8 Tryz.prog 171 [.val (G0 x)] (.ret (.val (.bool (!a4p x))) []) []:=by
 refine f6 mixed ok171 rfl (fun _=>rfl) ?_
 unfold ir171
 rw [b6,b41,Bool.not_not]
 simp [d9,i6,j9,b8,d7,G0,tx,num,i7]
 refine b7 rfl rfl (.inl rfl) (b5c x.target hx) ?_
 simp
 refine qops8 (x:=x) (b:=!P7 x.target) ⟨?_,?_⟩ ?_ (fun st' q=>?_)
 · simp
 · simp [S9,tx,num]
 · simp
 · simp [q]
theorem b9g (l:List LPeer) (g:Nat) (p:LPeer→Bool) (hl:l.length < 1099511627776) (hg:fnB Tryz.prog g=true)
 (hp:∀ x∈l,d8 Tryz.prog g [.val (G0 x)] (.ret (.val (.bool (p x))) []) []) :
 d8 Tryz.prog 206 [.val (P3 l),.fn g []] (.ret (.val (num (a06 l p))) []) []:=by
 refine f6 mixed ok206 rfl (fun _=>rfl) ?_
 unfold ir206
 rw [b6]
 simp [d9,i6,j9,b8,d7,j9,i6,P3]
 refine j8 (X:=Nat) (fun i=>⟨t6 [(0,.val (P3 l)),(1,.fn g []),(7,.val (num l.length)),(8,.val (num i))],t8 []⟩) (fun i=>i≤l.length∧∀ k (hk:k < i) (hk':k < l.length),p l[k]=false) (fun i=>l.length - i) 0 (Le.mk _ _ ?_ ?_) ?_ ?_
 · simp [upd,num,P3]
 · simp
 · simp
 · rintro i ⟨hi,hne⟩
   simp [num,P3]
   refine f8 (fun h1=>?_) (fun h1=>?_)
   · have e1:=b0w h1
     rw [List.getD_eq_getElem?_getD] at e1
     simp [num,P3,h1,e1,G0,tx,hg]
     refine b7 rfl rfl (.inl rfl) (hp l[i] (List.getElem_mem h1)) ?_
     cases hpi:p l[i] with
     | true=>
      simp
      rw [a0e h1 hpi (fun k hk=>hne k hk (by omega))];rfl
     | false=>
      simp
      refine LoopNext.mk (i+1) ⟨by omega,fun k hk hk'=>?_⟩ (by omega) (Le.mk _ _ ?_ ?_)
      · by_cases e:k=i
        · subst e;exact hpi
        · exact hne k (by omega) hk'
      · simp [num,P3];exact wrap_i64 (by omega) (by omega)
      · simp
   · have e:i=l.length:=by omega
     subst e
     simp [num]
     rw [Y1 (fun k hk=>hne k hk hk)]
theorem b3k (l:List LPeer) (g:Nat) (p:LPeer→Bool) (hl:l.length < 1099511627776) (hg:fnB Tryz.prog g=true)
 (hp:∀ x∈l,d8 Tryz.prog g [.val (G0 x)] (.ret (.val (.bool (p x))) []) []) :
 d8 Tryz.prog 170 [.val (P3 l),.fn g []] (.ret (.val (.bool (l.any p))) []) []:=by
 refine f6 mixed ok170 rfl (fun _=>rfl) ?_
 unfold ir170
 rw [b6,← a5l l p]
 simp [d9,i6,j9,b8,d7,j9,i6,P3]
 refine b7 rfl rfl (.inl rfl) (b9g l g p hl hg hp) ?_
 simp [num]
theorem c7z (l:List LPeer) (hl:l.length < 1099511627776) (hs:∀ p∈l,p.target.url.length < 1048577):d8 Tryz.prog 127 [.val (P3 l)] (.ret (.val (.bool (a0d l))) []) []:=by
 refine f6 mixed ok127 rfl (fun _=>rfl) ?_
 unfold ir127
 rw [b6]
 by_cases h4:4 < l.length
 · have h4':(4:Int) < l.length:=by omega
   have e:a0d l=false:=by
    unfold a0d
    rw [decide_eq_false (by omega)];rfl
   simp [d9,i6,j9,b8,d7,P3,h4',e]
 · have h4':¬ (4:Int) < l.length:=by omega
   have e:a0d l=(Y6 (tgs l) && !(l.any fun x=>!a4p x)):=by
    unfold a0d tgs
    rw [decide_eq_true (by omega),b6l,Bool.true_and,Bool.and_comm]
    congr 1
    rw [Bool.eq_iff_iff]
    simp
   rw [e]
   simp [d9,i6,j9,b8,d7,P3,h4']
   refine b7 rfl rfl (.inl rfl) (b25 l hl) ?_
   simp
   refine b7 rfl rfl (.inl rfl) (b26 (tgs l) (by simp [tgs];omega)) ?_
   cases hu:Y6 (tgs l) with
   | false=>simp
   | true=>
    simp only [Bool.true_and]
    simp
    refine b7 rfl rfl (.inl rfl) (b3k l 171 (fun x=>!a4p x) hl (by kernel_rfl) (fun x hx=>c4l x (hs x hx))) ?_
    simp
end Go.Proofs
end
section
namespace Go.Proofs
open Go.PW Go.KP
attribute [local simp] RV.cells RV.one PV.cells PV.solid PV.one G3 i7 L8 L5 RV.ofCells elems PV.killL
variable [GF]
theorem a99 (l:List LTarget) (g:Nat) (p:LTarget→Bool) (hl:l.length < 1099511627776) (hg:fnB Tryz.prog g=true)
 (hp:∀ x∈l,d8 Tryz.prog g [.val (f9 x)] (.ret (.val (.bool (p x))) []) []) :
 d8 Tryz.prog 205 [.val (.list 3 (l.map f9)),.fn g []] (.ret (.val (num (a06 l p))) []) []:=by
 refine f6 mixed ok205 rfl (fun _=>rfl) ?_
 unfold ir205
 rw [b6]
 simp [d9,i6,j9,b8,d7,j9,i6]
 refine j8 (X:=Nat) (fun i=>⟨t6 [(0,.val (.list 3 (l.map f9))),(1,.fn g []),(7,.val (num l.length)),(8,.val (num i))],t8 []⟩) (fun i=>i≤l.length∧∀ k (hk:k < i) (hk':k < l.length),p l[k]=false) (fun i=>l.length - i) 0 (Le.mk _ _ ?_ ?_) ?_ ?_
 · simp [upd,num]
 · simp
 · simp
 · rintro i ⟨hi,hne⟩
   simp [num]
   refine f8 (fun h1=>?_) (fun h1=>?_)
   · have e1:(l.map f9)[i]?.getD .nilptr=f9 l[i]:=by simp [List.getElem?_eq_getElem h1]
     simp [num,h1,e1,f9,tx,num,hg]
     refine b7 rfl rfl (.inl rfl) (hp l[i] (List.getElem_mem h1)) ?_
     cases hpi:p l[i] with
     | true=>
      simp
      rw [a0e h1 hpi (fun k hk=>hne k hk (by omega))];rfl
     | false=>
      simp
      refine LoopNext.mk (i+1) ⟨by omega,fun k hk hk'=>?_⟩ (by omega) (Le.mk _ _ ?_ ?_)
      · by_cases e:k=i
        · subst e;exact hpi
        · exact hne k (by omega) hk'
      · simp [num];exact wrap_i64 (by omega) (by omega)
      · simp
   · have e:i=l.length:=by omega
     subst e
     simp [num]
     rw [Y1 (fun k hk=>hne k hk hk)]
theorem a7k (l:List LTarget) (g:Nat) (p:LTarget→Bool) (hl:l.length < 1099511627776) (hg:fnB Tryz.prog g=true)
 (hp:∀ x∈l,d8 Tryz.prog g [.val (f9 x)] (.ret (.val (.bool (p x))) []) []) :
 d8 Tryz.prog 167 [.val (.list 3 (l.map f9)),.fn g []] (.ret (.val (.bool (l.any p))) []) []:=by
 refine f6 mixed ok167 rfl (fun _=>rfl) ?_
 unfold ir167
 rw [b6]
 simp [d9,i6,j9,b8,d7,j9,i6]
 refine b7 rfl rfl (.inl rfl) (a99 l g p hl hg hp) ?_
 simp [num]
 exact a5l l p
end Go.Proofs
end
section
namespace Go.Proofs
open Go.PW Go.KP
attribute [local simp] RV.cells RV.one PV.cells PV.solid PV.one G3 i7 L8 L5 RV.ofCells elems PV.killL
variable [GH]
theorem c4n (t:LTarget) (ht:t.url.length < 1048577):d8 Tryz.prog 168 [.val (f9 t)] (.ret (.val (.bool (!P7 t))) []) []:=by
 refine f6 mixed ok168 rfl (fun _=>rfl) ?_
 unfold ir168
 rw [b6]
 have h:=b5c t ht
 simp [d9,i6,j9,b8,d7,f9,tx,num]
 refine b7 rfl rfl (.inl rfl) h ?_
 simp
theorem b9j (g:LGroup) (b1 b2 b3 b4 b5:Bool) (hW:d8 Tryz.prog 137 [.val (tx g.name)] (.ret (.val (.bool b1)) []) []) (hA:d8 Tryz.prog 60 [.val (num g.age),.val (num 1),.val (num 100)] (.ret (.val (.bool b2)) []) [])
 (hT:d8 Tryz.prog 60 [.val (num g.targets.length),.val (num 1),.val (num 4)] (.ret (.val (.bool b3)) []) []) (hU:d8 Tryz.prog 166 [.val (.list 3 (g.targets.map f9))] (.ret (.val (.bool b4)) []) [])
 (hC:d8 Tryz.prog 167 [.val (.list 3 (g.targets.map f9)),.fn 168 []] (.ret (.val (.bool b5)) []) []) :
 d8 Tryz.prog 126 [.val (L9 g)] (.ret (.val (.bool (b1 && b2 && b3 && b4 && !b5))) []) []:=by
 refine f6 mixed ok126 rfl (fun _=>rfl) ?_
 unfold ir126
 rw [b6]
 simp [d9,i6,j9,b8,d7,L9,tx,num]
 refine b7 rfl rfl (.inl rfl) hW ?_
 cases b1 with
 | false=>simp
 | true=>
  simp [num]
  refine b7 rfl rfl (.inl rfl) hA ?_
  cases b2 with
  | false=>simp
  | true=>
   simp [num]
   refine b7 rfl rfl (.inl rfl) hT ?_
   cases b3 with
   | false=>simp
   | true=>
    simp [num]
    refine b7 rfl rfl (.inl rfl) hU ?_
    cases b4 with
    | false=>simp
    | true=>
     simp [num]
     refine b7 rfl rfl (.inl rfl) hC ?_
     cases b5<;>simp
theorem c70 (g:LGroup) (hb:a10 1048576 g):d8 Tryz.prog 126 [.val (L9 g)] (.ret (.val (.bool (a3b g))) []) []:=by
 have hnl:g.name.length≤1048576:=hb.1
 have htl:g.targets.length≤1048576:=hb.2.1
 have hC:=a7k g.targets 168 (fun t=>!P7 t) (by omega) (by kernel_rfl) (fun x hx=>c4n x (by have:=hb.2.2 x hx;unfold U5 at this;omega))
 have h:=b9j g _ _ _ _ _ (b5d g.name (by omega)) (R4 g.age 1 100) (R4 g.targets.length 1 4) (b26 g.targets (by omega)) hC
 have q3:(1≤g.targets.length∧g.targets.length≤4)↔((1:Int)≤g.targets.length∧(g.targets.length:Int)≤4):=by omega
 have e:a3b g=(a1c g.name && decide (1≤g.age∧g.age≤100) && decide ((1:Int)≤g.targets.length∧(g.targets.length:Int)≤4) && Y6 g.targets && !(g.targets.any fun t=>!P7 t)):=by
  unfold a3b
  rw [decide_eq_decide.2 q3,b8b,List.not_any_eq_all_not]
  simp only [Bool.not_not]
  cases a1c g.name<;>cases decide (1≤g.age∧g.age≤100)<;>cases decide ((1:Int)≤g.targets.length∧(g.targets.length:Int)≤4)<;>cases g.targets.all P7<;>simp
 rw [e]
 exact h
end Go.Proofs
end
