/- Eb: merged out of KIf, KIg, KIh. -/
import Derived.Test.YtapjdgcfakhpaaaGreatDoorEa
import Derived.Test.YtapjdgcfakhpaaaGreatDoorBa
import Derived.Test.YtapjdgcfakhpaaaGreatDoorCa
import Derived.Test.YtapjdgcfakhpaaaGreatDoorAc
set_option linter.unusedSectionVars false
set_option linter.unusedSimpArgs false
set_option linter.unusedVariables false
set_option maxRecDepth 100000
section
namespace Go.Proofs
open Go.PW Go.KP
attribute [local simp] RV.cells RV.one PV.cells PV.solid PV.one w5 i6 n7 n6 RV.ofCells elems PV.killL
variable [GH]
structure IO (st:St) (u:LUrl):Prop where
 e1:st.env 1=.ptr 1 0
 m1:st.mem 1=.box (b8 u)
section
variable {Ks:Kx (St→Prop)} {kx:Kx (RV→St→Prop)} {st:St} {u:LUrl} {b:Bool}
def b5e (u:LUrl):Bool:=u.hasF || decide (u.frag=[])
theorem b3k (h:IO st u) (hb:st.env 108=.val (.bool b)) (hK:∀ st',IO st' u→st'.env 116=.val (.bool (b && b5e u))→Ks.k st'):EX Tryz.prog ir273_o109 st (Ks:=Ks):=by
 unfold ir273_o109
 have e3:(⟨#[]⟩:ByteArray)=bs []:=rfl
 cases b with
 | false=>
  simp [hb]
  refine hK _ ⟨?_,?_⟩ ?_<;>simp [h.e1,h.m1]
 | true=>
  cases hf:u.hasF with
  | true=>
   simp [hb,h.e1,h.m1,b8,tx,num,hf]
   refine hK _ ⟨?_,?_⟩ ?_<;>simp [h.e1,h.m1,b5e,hf]
  | false=>
   simp [hb,h.e1,h.m1,b8,tx,num,hf,e3,u5]
   refine hK _ ⟨?_,?_⟩ ?_<;>simp [h.e1,h.m1,b5e,hf]
def b5f (u:LUrl):Bool:=(u.hasQ || decide (u.query=[])) && b5e u
theorem b9a (h:IO st u) (hb:st.env 99=.val (.bool b)) (hK:∀ st',IO st' u→st'.env 116=.val (.bool (b && b5f u))→Ks.k st'):EX Tryz.prog ir273_o100 st (Ks:=Ks):=by
 unfold ir273_o100
 have e3:(⟨#[]⟩:ByteArray)=bs []:=rfl
 cases b with
 | false=>
  simp [hb]
  refine b3k (u:=u) (b:=false) ⟨?_,?_⟩ ?_ (fun st' q1 q2=>hK st' q1 (by simpa using q2))<;>simp [h.e1,h.m1]
 | true=>
  cases hq:u.hasQ with
  | true=>
   simp [hb,h.e1,h.m1,b8,tx,num,hq]
   refine b3k (u:=u) (b:=true) ⟨?_,?_⟩ ?_ (fun st' q1 q2=>hK st' q1 (by rw [q2];simp [b5f,hq]))<;>simp [h.e1,h.m1]
  | false=>
   simp [hb,h.e1,h.m1,b8,tx,num,hq,e3,u5]
   refine b3k (u:=u) (b:=decide (u.query=[])) ⟨?_,?_⟩ ?_ (fun st' q1 q2=>hK st' q1 (by rw [q2];simp [b5f,hq]))<;>simp [h.e1,h.m1]
def ib94 (u:LUrl):Bool:=!decide (35∈u.query) && b5f u
theorem c2a (h:IO st u) (hb:st.env 93=.val (.bool b)) (hK:∀ st',IO st' u→st'.env 116=.val (.bool (b && ib94 u))→Ks.k st'):EX Tryz.prog ir273_o94 st (Ks:=Ks):=by
 unfold ir273_o94
 have e3:(⟨#[35]⟩:ByteArray)=bs [35]:=rfl
 have e4:(⟨#[47]⟩:ByteArray)=bs [47]:=rfl
 cases b with
 | false=>
  simp [hb]
  refine b9a (u:=u) (b:=false) ⟨?_,?_⟩ ?_ (fun st' q1 q2=>hK st' q1 (by simpa using q2))<;>simp [h.e1,h.m1]
 | true=>
  simp [hb,h.e1,h.m1,b8,tx,num,e3,e4]
  refine B0 rfl rfl (.inl rfl) (b8c u.query 35) ?_
  simp [hb,h.e1,h.m1,b8,tx,num]
  refine b9a (u:=u) (b:=!decide (35∈u.query)) ⟨?_,?_⟩ ?_ (fun st' q1 q2=>hK st' q1 (by rw [q2];simp [ib94]))<;>simp [h.e1,h.m1,bne]
def ib89 (u:LUrl):Bool:=([47]:Tx).isPrefixOf u.path && ib94 u
theorem c2b (h:IO st u) (hb:st.env 88=.val (.bool b)) (hK:∀ st',IO st' u→st'.env 116=.val (.bool (b && ib89 u))→Ks.k st'):EX Tryz.prog ir273_o89 st (Ks:=Ks):=by
 unfold ir273_o89
 have e3:(⟨#[35]⟩:ByteArray)=bs [35]:=rfl
 have e4:(⟨#[47]⟩:ByteArray)=bs [47]:=rfl
 cases b with
 | false=>
  simp [hb]
  refine c2a (u:=u) (b:=false) ⟨?_,?_⟩ ?_ (fun st' q1 q2=>hK st' q1 (by simpa using q2))<;>simp [h.e1,h.m1]
 | true=>
  simp [hb,h.e1,h.m1,b8,tx,num,e3,e4]
  refine B0 rfl rfl (.inl rfl) (b54 u.path [47]) ?_
  simp [hb,h.e1,h.m1,b8,tx,num]
  refine c2a (u:=u) (b:=([47]:Tx).isPrefixOf u.path) ⟨?_,?_⟩ ?_ (fun st' q1 q2=>hK st' q1 (by rw [q2];simp [ib89]))<;>simp [h.e1,h.m1,bne]
def ib81 (u:LUrl):Bool:=!(u.port == V3 u.scheme) && ib89 u
theorem c2c (h:IO st u) (hb:st.env 80=.val (.bool b)) (hK:∀ st',IO st' u→st'.env 116=.val (.bool (b && ib81 u))→Ks.k st'):EX Tryz.prog ir273_o81 st (Ks:=Ks):=by
 unfold ir273_o81
 have e3:(⟨#[35]⟩:ByteArray)=bs [35]:=rfl
 have e4:(⟨#[47]⟩:ByteArray)=bs [47]:=rfl
 cases b with
 | false=>
  simp [hb]
  refine c2b (u:=u) (b:=false) ⟨?_,?_⟩ ?_ (fun st' q1 q2=>hK st' q1 (by simpa using q2))<;>simp [h.e1,h.m1]
 | true=>
  simp [hb,h.e1,h.m1,b8,tx,num,e3,e4]
  refine B0 rfl rfl (.inl rfl) (b9c u.scheme) ?_
  simp [hb,h.e1,h.m1,b8,tx,num]
  refine c2b (u:=u) (b:=!(u.port == V3 u.scheme)) ⟨?_,?_⟩ ?_ (fun st' q1 q2=>hK st' q1 (by rw [q2];simp [ib81]))<;>simp [h.e1,h.m1,bne]
def c2g (u:LUrl):Bool:=decide (0≤u.port∧u.port≤65535) && ib81 u
theorem c2d (h:IO st u) (hb:st.env 75=.val (.bool b)) (hK:∀ st',IO st' u→st'.env 116=.val (.bool (b && c2g u))→Ks.k st'):EX Tryz.prog ir273_o76 st (Ks:=Ks):=by
 unfold ir273_o76
 have e3:(⟨#[35]⟩:ByteArray)=bs [35]:=rfl
 have e4:(⟨#[47]⟩:ByteArray)=bs [47]:=rfl
 cases b with
 | false=>
  simp [hb]
  refine c2c (u:=u) (b:=false) ⟨?_,?_⟩ ?_ (fun st' q1 q2=>hK st' q1 (by simpa using q2))<;>simp [h.e1,h.m1]
 | true=>
  simp [hb,h.e1,h.m1,b8,tx,num,e3,e4]
  refine B0 rfl rfl (.inl rfl) (a26 u.port 0 65535) ?_
  simp [hb,h.e1,h.m1,b8,tx,num]
  refine c2c (u:=u) (b:=decide (0≤u.port∧u.port≤65535)) ⟨?_,?_⟩ ?_ (fun st' q1 q2=>hK st' q1 (by rw [q2];simp [c2g]))<;>simp [h.e1,h.m1,bne]
end
def b47 (u:LUrl):Bool:=(!B3 u.user [47,63,35,64] && Y6 u.host) && c2g u
theorem b7g (u:LUrl) (h2:u.user.length < 1048577) (h3:u.host.length < 1048577) (hsh:I2 u.user=true) (st:St) (h:IO st u):EC Tryz.prog ir273_from4 st (K:=⟨Y9 [.t 2] (.val (.bool (b47 u)))⟩):=by
 unfold ir273_from4
 have e3:(⟨#[47,63,35,64]⟩:ByteArray)=bs [47,63,35,64]:=rfl
 have hend:∀ b,b=(!B3 u.user [47,63,35,64] && Y6 u.host)→∀ st',IO st' u→st'.env 116=.val (.bool (b && c2g u))→Y9 [.t 2] (.val (.bool (b47 u))) .ret ⟨upd 2 (st'.env 116) st'.env,st'.mem⟩:=fun b hb st' q1 q2=>by
  rw [q2,hb]
  simp [b47]
 simp [h.e1,h.m1,b8,tx,num,e3]
 refine B0 rfl rfl (.inl rfl) (a5z u.user [47,63,35,64] (by omega) (by simp) hsh (by decide)) ?_
 cases hu:B3 u.user [47,63,35,64] with
 | true=>
  simp [h.e1,h.m1,b8,tx,num]
  refine c2d (u:=u) (b:=false) ⟨?_,?_⟩ ?_ (fun st' q1 q2=>?_)
  · simp [h.e1]
  · simp [h.m1]
  · simp
  · simp only [z7,H0,A0,G8,A1,t8,z8,G9,o0,C0,I4,I5,k9,r8,r9,m8,A2,t7,n5,G7,z6,t6,s8,E9,F0,a27,a28,Option.getD_some,Option.getD_none,D5,u7,q7,E6,p9,o8,E8,o9,E7,E5,E4,I9,x8,p7,E2,x6,p6,E1,D3,E3,x7,D8,o7,x5,D9,J1,J0,D4,D6,p5,D7,x9,p8,C3,o2,D2,D1,D0,I6,x3,o4,C8,x1,o3,C7,C1,C9,x2,C5,o1,w9,C6,I8,I7,C2,w8,o6,C4,x4,o5,L2,K9,M3,L3,L7,L5,L4,M2,L6,L8,L9,M0,M1,A6,A5,A4,O5,O6,u2,H1,u9,F4,y4,M6,u1,U8,P0,M8,Q3,Q5,Q4,U9,V0,K2,K4,K3,K5,K6,Q0,y6,P9,F5,F6,F7,y7,a3d,G4,z1,U6,U7,J2,O7,O8,Option.map_some,Option.map_none,F8,y8,y0,q8,F2,F3,J4,J3,R0,Q9,K8,G5,G6,K7,Q6,Q7,J6,r6,J7,q9,P4,G3,G2,n0,Q2,Q8,J9,P6,P8,P7,y5,B7,B9,B8,l5,Q1,V2,V1,P1,J8,a0g,P2,r7,G0,G1,y9,F9,l9,w6,l7,w7,l6,M5,R1,R2,A7,A8,H3,H2,F1]
    exact hend false (by rw [hu];rfl) st' q1 q2
 | false=>
  simp [h.e1,h.m1,b8,tx,num]
  refine B0 rfl rfl (.inl rfl) (c2m u.host (by omega)) ?_
  simp [h.e1,h.m1,b8,tx,num]
  refine c2d (u:=u) (b:=Y6 u.host) ⟨?_,?_⟩ ?_ (fun st' q1 q2=>?_)
  · simp [h.e1]
  · simp [h.m1]
  · simp
  · simp only [z7,H0,A0,G8,A1,t8,z8,G9,o0,C0,I4,I5,k9,r8,r9,m8,A2,t7,n5,G7,z6,t6,s8,E9,F0,a27,a28,Option.getD_some,Option.getD_none,D5,u7,q7,E6,p9,o8,E8,o9,E7,E5,E4,I9,x8,p7,E2,x6,p6,E1,D3,E3,x7,D8,o7,x5,D9,J1,J0,D4,D6,p5,D7,x9,p8,C3,o2,D2,D1,D0,I6,x3,o4,C8,x1,o3,C7,C1,C9,x2,C5,o1,w9,C6,I8,I7,C2,w8,o6,C4,x4,o5,L2,K9,M3,L3,L7,L5,L4,M2,L6,L8,L9,M0,M1,A6,A5,A4,O5,O6,u2,H1,u9,F4,y4,M6,u1,U8,P0,M8,Q3,Q5,Q4,U9,V0,K2,K4,K3,K5,K6,Q0,y6,P9,F5,F6,F7,y7,a3d,G4,z1,U6,U7,J2,O7,O8,Option.map_some,Option.map_none,F8,y8,y0,q8,F2,F3,J4,J3,R0,Q9,K8,G5,G6,K7,Q6,Q7,J6,r6,J7,q9,P4,G3,G2,n0,Q2,Q8,J9,P6,P8,P7,y5,B7,B9,B8,l5,Q1,V2,V1,P1,J8,a0g,P2,r7,G0,G1,y9,F9,l9,w6,l7,w7,l6,M5,R1,R2,A7,A8,H3,H2,F1]
    exact hend _ (by rw [hu];simp) st' q1 q2
def a6f (u:LUrl):Bool:=decide (u.user=[]) && decide (u.host=[]) && decide (u.port=0) && decide (u.query=[]) && decide (u.frag=[]) && !u.hasQ && !u.hasF
theorem b5p (u:LUrl):B6 [0,0,0,2,0,0,0,1,1] (a77 u) [tx u.scheme,tx [],tx [],num 0,tx u.path,tx [],tx [],.bool false,.bool false]=some (a6f u):=by
 simp only [a77,B6,b3o,tx,num,u5,if_true,decide_true]
 unfold a6f
 have e:(u.port == 0)=decide (u.port=0):=by rw [Bool.eq_iff_iff];simp
 rw [e]
 cases decide (u.user=[])<;>cases decide (u.host=[])<;>cases decide (u.port=0)<;>cases decide (u.query=[])<;>cases decide (u.frag=[])<;>cases u.hasQ<;>cases u.hasF<;>rfl
theorem b7h (u:LUrl) (h2:u.user.length < 1048577) (h3:u.host.length < 1048577) (hsh:I2 u.user=true) (st:St) (h:IO st u):EC Tryz.prog ir273_from3 st (K:=⟨Y9 [.t 2] (.val (.bool (if W5 u.scheme then b47 u else a6f u)))⟩):=by
 unfold ir273_from3
 have e3:(⟨#[]⟩:ByteArray)=bs []:=rfl
 simp [h.e1,h.m1,b8,tx,num,i6]
 refine d7 rfl rfl (.inl rfl) (b5g u) ?_
 cases hw:W5 u.scheme with
 | true=>
  simp
  rw [if_pos rfl]
  refine b7g u h2 h3 hsh _ ⟨?_,?_⟩<;>simp [h.e1,h.m1]
 | false=>
  rw [if_neg (by simp)]
  have hq:=b5p u
  simp only [a77,tx,num] at hq
  simp [h.e1,h.m1,b8,tx,num,i6,e3,hq,a92]
theorem b7i (u:LUrl) (h2:u.user.length < 1048577) (h3:u.host.length < 1048577) (h4:u.path.length < 1048577) (hsh:I2 u.user=true) (hsp:I2 u.path=true) (st:St) (h:IO st u):EC Tryz.prog ir273_from2 st (K:=⟨Y9 [.t 2] (.val (.bool (!B3 u.path [63,35] && if W5 u.scheme then b47 u else a6f u)))⟩):=by
 unfold ir273_from2
 have e3:(⟨#[63,35]⟩:ByteArray)=bs [63,35]:=rfl
 simp [h.e1,h.m1,b8,tx,num,e3]
 refine d7 rfl rfl (.inl rfl) (a5z u.path [63,35] (by omega) (by simp) hsp (by decide)) ?_
 cases hp:B3 u.path [63,35] with
 | true=>simp
 | false=>
  simp only [Bool.not_false,Bool.true_and]
  simp
  refine b7h u h2 h3 hsh _ ⟨?_,?_⟩<;>simp [h.e1,h.m1]
section
variable {Ks:Kx (St→Prop)} {kx:Kx (RV→St→Prop)} {st:St} {u:LUrl} {b:Bool}
structure Tiny (u:LUrl):Prop where
 s1:u.scheme.length < 1048577
 s2:u.user.length < 1048577
 s3:u.host.length < 1048577
 s4:u.path.length < 1048577
 s5:u.query.length < 1048577
 s6:u.frag.length < 1048577
 p0:-9223372036854775808≤u.port
 p1:u.port≤9223372036854775807
theorem Tiny.small (h:Tiny u):u.Small:=by
 obtain ⟨s1,s2,s3,s4,s5,s6,p0,p1⟩:=h
 exact ⟨by omega,by omega,by omega,by omega,by omega,by omega,p1⟩
def c0f (u:LUrl):Bool:=!I2 (u.user++u.host++u.path++u.query++u.frag)
theorem c2e (hs:Tiny u) (h:IO st u) (hb:st.env 35=.val (.bool b)) (hK:∀ st',IO st' u→st'.env 52=.val (.bool (b || c0f u))→Ks.k st'):EO Tryz.prog ir273_o36 st (Ks:=Ks) (kx:=kx):=by
 unfold ir273_o36
 obtain ⟨s1,s2,s3,s4,s5,s6,p0,p1⟩:=hs
 cases b with
 | true=>
  simp [hb]
  refine hK _ ⟨?_,?_⟩ ?_<;>simp [h.e1,h.m1]
 | false=>
  simp [hb,h.e1,h.m1,b8,tx,num,b6,l1]
  refine ⟨by omega,by omega,by omega,by omega,?_⟩
  refine d7 rfl rfl (.inl rfl) (b7n (u.user++(u.host++(u.path++(u.query++u.frag)))) (by simp;omega)) ?_
  simp [hb]
  refine hK _ ⟨?_,?_⟩ ?_<;>simp [h.e1,h.m1,c0f]
def b1l (u:LUrl):Bool:=decide (100 < (a0p u).length) || c0f u
theorem c2f (hs:Tiny u) (h:IO st u) (hb:st.env 29=.val (.bool b)) (hK:∀ st',IO st' u→st'.env 52=.val (.bool (b || b1l u))→Ks.k st'):EO Tryz.prog ir273_o30 st (Ks:=Ks) (kx:=kx):=by
 unfold ir273_o30
 cases b with
 | true=>
  simp [hb]
  refine c2e (u:=u) (b:=true) hs ⟨?_,?_⟩ ?_ (fun st' q1 q2=>hK st' q1 (by simpa using q2))<;>simp [h.e1,h.m1]
 | false=>
  have e:((100:Int) < ((a0p u).length:Int))↔100 < (a0p u).length:=by omega
  simp [hb,h.e1,h.m1,b8,tx,num,i6]
  refine d7 rfl rfl (.inl rfl) (c2h u hs.small hs.p0) ?_
  simp [hb,tx,b6,e]
  refine c2e (u:=u) (b:=decide (100 < (a0p u).length)) hs ⟨?_,?_⟩ ?_ (fun st' q1 q2=>hK st' q1 (by rw [q2];simp [b1l]))<;>simp [h.e1,h.m1]
end
theorem b3f (u:LUrl):a7v u=(N9 u.scheme && decide (u.user.length+u.host.length+u.path.length+u.query.length+u.frag.length≤100) && !b1l u && (!B3 u.path [63,35] && if W5 u.scheme then b47 u else a6f u)):=by
 unfold a7v b1l c0f b47 a6f c2g ib81 ib89 ib94 b5f b5e
 have e1:decide ((a0p u).length≤100)=!decide (100 < (a0p u).length):=by
  by_cases h:(a0p u).length≤100
  · rw [decide_eq_true h,decide_eq_false (by omega)];rfl
  · rw [decide_eq_false h,decide_eq_true (by omega)];rfl
 have e2:([47]:Tx).isPrefixOf u.path=(decide (0 < u.path.length) && decide ((u.path.getD 0 0).toNat=47)):=by
  cases u.path with
  | nil=>rfl
  | cons c r=>
   rw [Bool.eq_iff_iff]
   simp
   constructor
   · intro h;rw [← h];rfl
   · intro h;exact (UInt8.toNat_inj.1 (by rw [h];rfl)).symm
 have e3:(u.port == V3 u.scheme)=decide (u.port=V3 u.scheme):=by rw [Bool.eq_iff_iff];simp
 have e4:decide (u.port≠V3 u.scheme)=!decide (u.port=V3 u.scheme):=by simp
 have e5:B3 u.query [35]=decide (35∈u.query):=by
  rw [Bool.eq_iff_iff]
  simp [B3]
 rw [e1,e2,e3,e4,e5]
 cases N9 u.scheme<;>simp only [Bool.false_and,Bool.true_and]
 cases decide (u.user.length+u.host.length+u.path.length+u.query.length+u.frag.length≤100)<;>simp only [Bool.false_and,Bool.true_and]
 cases decide (100 < (a0p u).length)<;>simp only [Bool.false_and,Bool.true_and,Bool.not_true,Bool.not_false,Bool.true_or,Bool.false_or]
 cases I2 (u.user++u.host++u.path++u.query++u.frag)<;>simp only [Bool.false_and,Bool.true_and,Bool.not_true,Bool.not_false]
 cases B3 u.path [63,35]<;>simp only [Bool.false_and,Bool.true_and,Bool.not_true,Bool.not_false]
 split
 · simp only [Bool.and_assoc]
 · rfl
def b6k (u:LUrl):Nat:=u.user.length+u.host.length+u.path.length+u.query.length+u.frag.length
def b8j (u:LUrl):Bool:=!B3 u.path [63,35] && if W5 u.scheme then b47 u else a6f u
theorem b48 (u:LUrl) (hs:Tiny u) (b:Bool) (st':St) (q1:IO st' u) (q2:st'.env 52=.val (.bool (b || b1l u))) (res:Bool) (hres:res=(!(b || b1l u) && b8j u)) :
 CD (st'.env 52) (A:=⟨EC Tryz.prog (.seq (.reg [⟨some 2,.mov (.k (.val (.bool false))),none⟩]) .ret) st' (K:=⟨fun e st'=>ET e st' (Ks:=⟨fun st'=>EC Tryz.prog ir273_from2 st' (K:=⟨Y9 [.t 2] (.val (.bool res))⟩)⟩) (K:=⟨Y9 [.t 2] (.val (.bool res))⟩)⟩)⟩)
     (B:=⟨EC Tryz.prog .skip st' (K:=⟨fun e st'=>ET e st' (Ks:=⟨fun st'=>EC Tryz.prog ir273_from2 st' (K:=⟨Y9 [.t 2] (.val (.bool res))⟩)⟩) (K:=⟨Y9 [.t 2] (.val (.bool res))⟩)⟩)⟩):=by
 rw [q2]
 cases hbb:(b || b1l u) with
 | true=>
  rw [hbb] at hres
  have:res=false:=hres
  subst this
  simp
 | false=>
  rw [hbb] at hres
  have:res=b8j u:=hres
  subst this
  simp only [z7,H0,A0,G8,A1,t8,z8,G9,o0,C0,I4,I5,k9,r8,r9,m8,A2,t7,n5,G7,z6,t6,s8,E9,F0,a27,a28,Option.getD_some,Option.getD_none,D5,u7,q7,E6,p9,o8,E8,o9,E7,E5,E4,I9,x8,p7,E2,x6,p6,E1,D3,E3,x7,D8,o7,x5,D9,J1,J0,D4,D6,p5,D7,x9,p8,C3,o2,D2,D1,D0,I6,x3,o4,C8,x1,o3,C7,C1,C9,x2,C5,o1,w9,C6,I8,I7,C2,w8,o6,C4,x4,o5,L2,K9,M3,L3,L7,L5,L4,M2,L6,L8,L9,M0,M1,A6,A5,A4,O5,O6,u2,H1,u9,F4,y4,M6,u1,U8,P0,M8,Q3,Q5,Q4,U9,V0,K2,K4,K3,K5,K6,Q0,y6,P9,F5,F6,F7,y7,a3d,G4,z1,U6,U7,J2,O7,O8,Option.map_some,Option.map_none,F8,y8,y0,q8,F2,F3,J4,J3,R0,Q9,K8,G5,G6,K7,Q6,Q7,J6,r6,J7,q9,P4,G3,G2,n0,Q2,Q8,J9,P6,P8,P7,y5,B7,B9,B8,l5,Q1,V2,V1,P1,J8,a0g,P2,r7,G0,G1,y9,F9,l9,w6,l7,w7,l6,M5,R1,R2,A7,A8,H3,H2,F1]
  refine i7 (fun h=>by cases h) (fun _=>?_)
  simp only [z7,H0,A0,G8,A1,t8,z8,G9,o0,C0,I4,I5,k9,r8,r9,m8,A2,t7,n5,G7,z6,t6,s8,E9,F0,a27,a28,Option.getD_some,Option.getD_none,D5,u7,q7,E6,p9,o8,E8,o9,E7,E5,E4,I9,x8,p7,E2,x6,p6,E1,D3,E3,x7,D8,o7,x5,D9,J1,J0,D4,D6,p5,D7,x9,p8,C3,o2,D2,D1,D0,I6,x3,o4,C8,x1,o3,C7,C1,C9,x2,C5,o1,w9,C6,I8,I7,C2,w8,o6,C4,x4,o5,L2,K9,M3,L3,L7,L5,L4,M2,L6,L8,L9,M0,M1,A6,A5,A4,O5,O6,u2,H1,u9,F4,y4,M6,u1,U8,P0,M8,Q3,Q5,Q4,U9,V0,K2,K4,K3,K5,K6,Q0,y6,P9,F5,F6,F7,y7,a3d,G4,z1,U6,U7,J2,O7,O8,Option.map_some,Option.map_none,F8,y8,y0,q8,F2,F3,J4,J3,R0,Q9,K8,G5,G6,K7,Q6,Q7,J6,r6,J7,q9,P4,G3,G2,n0,Q2,Q8,J9,P6,P8,P7,y5,B7,B9,B8,l5,Q1,V2,V1,P1,J8,a0g,P2,r7,G0,G1,y9,F9,l9,w6,l7,w7,l6,M5,R1,R2,A7,A8,H3,H2,F1]
  have h30:b1l u=false:=(Bool.or_eq_false_iff.1 hbb).2
  have h36:c0f u=false:=(Bool.or_eq_false_iff.1 h30).2
  unfold c0f at h36
  have hsh:I2 (u.user++u.host++u.path++u.query++u.frag)=true:=by simpa using h36
  simp only [a5r,Bool.and_eq_true] at hsh
  exact b7i u hs.s2 hs.s3 hs.s4 hsh.1.1.1.1 hsh.1.1.2 st' q1
theorem b9e (u:LUrl) (hs:Tiny u):f7 Tryz.prog 273 [.val (R7 u)] (.ret (.val (.bool (H9 u))) []) []:=by
 refine f9 mixed ok273 rfl (fun _=>rfl) ?_
 unfold ir273
 rw [b9]
 have hs':=hs
 obtain ⟨s1,s2,s3,s4,s5,s6,p0,p1⟩:=hs
 have hres:H9 u=(!((!N9 u.scheme || decide (100 < b6k u)) || b1l u) && b8j u):=by
  rw [← c0c,b3f]
  have e1:decide (u.user.length+u.host.length+u.path.length+u.query.length+u.frag.length≤100)=!decide (100 < b6k u):=by
   unfold b6k
   by_cases h:u.user.length+u.host.length+u.path.length+u.query.length+u.frag.length≤100
   · rw [decide_eq_true h,decide_eq_false (by omega)];rfl
   · rw [decide_eq_false h,decide_eq_true (by omega)];rfl
  rw [e1]
  unfold b8j
  cases N9 u.scheme<;>cases decide (100 < b6k u)<;>cases b1l u<;>rfl
 simp [d9,j4,l0,b7,d8,R7,tx,num,b6]
 refine d7 rfl rfl (.inl rfl) (b7m u.scheme (by omega)) ?_
 cases b1:N9 u.scheme with
 | false=>
  rw [b1] at hres
  simp [tx,num,b6]
  refine c2f (u:=u) (b:=true) hs' ⟨?_,?_⟩ ?_ (fun st' q1 q2=>b48 u hs' true st' q1 q2 _ hres)
  · simp
  · simp [b8,tx,num]
  · simp
 | true=>
  rw [b1] at hres
  have w1:IntKind.i64.wrap ((u.user.length:Int)+u.host.length)=(u.user.length:Int)+u.host.length:=wrap_i64 (by omega) (by omega)
  have w2:IntKind.i64.wrap ((u.user.length:Int)+u.host.length+u.path.length)=(u.user.length:Int)+u.host.length+u.path.length:=wrap_i64 (by omega) (by omega)
  have w3:IntKind.i64.wrap ((u.user.length:Int)+u.host.length+u.path.length+u.query.length)=(u.user.length:Int)+u.host.length+u.path.length+u.query.length:=wrap_i64 (by omega) (by omega)
  have w4:IntKind.i64.wrap ((u.user.length:Int)+u.host.length+u.path.length+u.query.length+u.frag.length)=(u.user.length:Int)+u.host.length+u.path.length+u.query.length+u.frag.length:=wrap_i64 (by omega) (by omega)
  have e:decide ((100:Int) < (u.user.length:Int)+u.host.length+u.path.length+u.query.length+u.frag.length)=decide (100 < b6k u):=by
   unfold b6k
   by_cases h:100 < u.user.length+u.host.length+u.path.length+u.query.length+u.frag.length
   · rw [decide_eq_true h,decide_eq_true (by omega)]
   · rw [decide_eq_false h,decide_eq_false (by omega)]
  simp [tx,num,b6,w1,w2,w3,w4,e]
  refine c2f (u:=u) (b:=decide (100 < b6k u)) hs' ⟨?_,?_⟩ ?_ (fun st' q1 q2=>b48 u hs' _ st' q1 q2 _ (by rw [hres];rfl))
  · simp
  · simp [b8,tx,num]
  · simp
end Go.Proofs
end
section
namespace Go.Proofs
open Go.PW Go.KP
attribute [local simp] RV.cells RV.one PV.cells PV.solid PV.one w5 i6 n7 n6 RV.ofCells elems PV.killL
variable [GH]
structure IP (st:St) (u:LUrl):Prop where
 e2:st.env 2=.ptr 2 0
 e7:st.env 7=.ptr 7 0
 m2:st.mem 2=.box (b8 LUrl.zero)
 m7:st.mem 7=.box (b8 u)
theorem b1h (u:LUrl) (hs:Tiny u) (st:St) (h:IP st u):EC Tryz.prog ir207_from15 st (K:=prs (u,H9 u)):=by
 unfold ir207_from15
 obtain ⟨e2,e7,m2,m7⟩:=h
 simp [e2,e7,m2,m7,b8,i6,tx,num]
 refine B0 rfl rfl (.inl rfl) (b9e u hs) ?_
 simp [e2,e7,m2,m7,b8,i6,tx,num]
 refine a4a (id:=2) ?_ ?_ ?_
 · simp [e2]
 · simp [e2,b8,tx,num]
 · simp
theorem a2q (sc us ho pa qu fr:Tx) (po:Int) (hq hf:Bool) (hs:Tiny ⟨sc,us,B2 ho,po,pa,qu,fr,hq,hf⟩) (hh:ho.length < 1048577) (st:St) (h:IP st ⟨sc,us,[],po,pa,qu,fr,hq,hf⟩) (e12:st.env 12=.val (tx ho)) :
 EC Tryz.prog ir207_from14 st (K:=prs (⟨sc,us,B2 ho,po,pa,qu,fr,hq,hf⟩,H9 ⟨sc,us,B2 ho,po,pa,qu,fr,hq,hf⟩)):=by
 unfold ir207_from14
 obtain ⟨e2,e7,m2,m7⟩:=h
 simp [e2,e7,m2,m7,e12,b8,i6,tx,num]
 refine d7 rfl rfl (.inl rfl) (b9d ho (by omega)) ?_
 simp [e2,e7,m2,m7,b8,i6,tx,num]
 refine b1h ⟨sc,us,B2 ho,po,pa,qu,fr,hq,hf⟩ hs _ ⟨?_,?_,?_,?_⟩<;>simp [e2,e7,m2,m7,b8,tx,num]
theorem b1i (sc us pa qu fr:Tx) (hq hf:Bool) (h1:sc.length < 1048577) (h2:us.length < 1048577) (h3:pa.length < 1048577) (h4:qu.length < 1048577) (h5:fr.length < 1048577) (r:Tx) (hr:r.length < 1048577) (st:St)
 (h:IP st ⟨sc,us,[],0,pa,qu,fr,hq,hf⟩) (e12:st.env 12=.val (tx (f8 r 58))) (e13:st.env 13=.val (tx (k8 r 58))) (e6:st.env 6=.val (.bool (decide (58∈r)))) :
 EC Tryz.prog ir207_from13 st (K:=prs (I1 ⟨sc,us,B2 (f8 r 58),0,pa,qu,fr,hq,hf⟩ r)):=by
 unfold ir207_from13
 obtain ⟨e2,e7,m2,m7⟩:=h
 have hla:=B4 r 58
 have hlb:=T1 r 58
 have hll:(B2 (f8 r 58)).length < 1048577:=by simp [B2];omega
 by_cases hc:58∈r
 · simp [e6,e13,hc,tx]
   have hn:=c2k (k8 r 58) (by omega)
   refine V4 rfl rfl (.inl rfl) hn ?_
   cases hb:(a3r (k8 r 58)).2 with
   | false=>
    have hnone:=c0e hb
    rw [show I1 ⟨sc,us,B2 (f8 r 58),0,pa,qu,fr,hq,hf⟩ r=(LUrl.zero,false) by simp only [I1,Z0,hc,hnone,if_true]]
    simp [e2,e7,m2,m7,tx,num,b8]
    refine V9 _ ?_ ?_ ?_
    · simp [e2]
    · simp [b8,LUrl.zero,tx,num,bs]
    · simp
   | true=>
    have hsome:=inum_le hb
    generalize (a3r (k8 r 58)).1=n at *
    simp [e2,e7,m2,m7,tx,num,b8]
    refine d7 rfl rfl (.inl rfl) (a26 n 1 65535) ?_
    by_cases hin:1≤n∧n≤65535
    · rw [decide_eq_true hin]
      simp [e2,e7,m2,m7,tx,num,b8]
      refine d7 rfl rfl (.inl rfl) (b9c sc) ?_
      by_cases hu:n=V3 sc
      · have hl:Z0 sc r=some 0:=by
         simp only [Z0,hc,hsome,hin,if_true,and_self]
         rw [if_pos hu]
        rw [show I1 ⟨sc,us,B2 (f8 r 58),0,pa,qu,fr,hq,hf⟩ r=(⟨sc,us,B2 (f8 r 58),0,pa,qu,fr,hq,hf⟩,H9 ⟨sc,us,B2 (f8 r 58),0,pa,qu,fr,hq,hf⟩) by simp only [I1,hl]]
        simp [e2,e7,m2,m7,tx,num,b8,hu]
        refine a2q sc us (f8 r 58) pa qu fr 0 hq hf ⟨h1,h2,hll,h3,h4,h5,by simp,by simp⟩ (by omega) _ ⟨?_,?_,?_,?_⟩ ?_<;>simp [e2,e7,m2,m7,e12,b8,tx,num]
      · have hl:Z0 sc r=some n:=by
         simp only [Z0,hc,hsome,hin,if_true,and_self]
         rw [if_neg hu]
        rw [show I1 ⟨sc,us,B2 (f8 r 58),0,pa,qu,fr,hq,hf⟩ r=(⟨sc,us,B2 (f8 r 58),n,pa,qu,fr,hq,hf⟩,H9 ⟨sc,us,B2 (f8 r 58),n,pa,qu,fr,hq,hf⟩) by simp only [I1,hl]]
        simp [e2,e7,m2,m7,tx,num,b8,hu]
        refine a2q sc us (f8 r 58) pa qu fr n hq hf ⟨h1,h2,hll,h3,h4,h5,by show _≤n;omega,by show n≤_;omega⟩ (by omega) _ ⟨?_,?_,?_,?_⟩ ?_<;>simp [e2,e7,m2,m7,e12,b8,tx,num]
    · rw [decide_eq_false hin]
      rw [show I1 ⟨sc,us,B2 (f8 r 58),0,pa,qu,fr,hq,hf⟩ r=(LUrl.zero,false) by simp only [I1,Z0,hc,hsome,hin,if_true,if_false]]
      simp [e2,e7,m2,m7,tx,num,b8]
      refine V9 _ ?_ ?_ ?_
      · simp [e2]
      · simp [b8,LUrl.zero,tx,num,bs]
      · simp
 · have hl:Z0 sc r=some 0:=by simp only [Z0,hc,if_false]
   rw [show I1 ⟨sc,us,B2 (f8 r 58),0,pa,qu,fr,hq,hf⟩ r=(⟨sc,us,B2 (f8 r 58),0,pa,qu,fr,hq,hf⟩,H9 ⟨sc,us,B2 (f8 r 58),0,pa,qu,fr,hq,hf⟩) by simp only [I1,hl]]
   simp [e6,hc]
   refine a2q sc us (f8 r 58) pa qu fr 0 hq hf ⟨h1,h2,hll,h3,h4,h5,by simp,by simp⟩ (by omega) _ ⟨?_,?_,?_,?_⟩ ?_<;>simp [e2,e7,m2,m7,e12,b8,tx,num]
theorem a5t (sc us pa qu fr:Tx) (hq hf:Bool) (h1:sc.length < 1048577) (h2:us.length < 1048577) (h3:pa.length < 1048577) (h4:qu.length < 1048577) (h5:fr.length < 1048577) (r:Tx) (hr:r.length < 1048577) (st:St)
 (h:IP st ⟨sc,us,[],0,pa,qu,fr,hq,hf⟩) (e5:st.env 5=.val (tx r)) :
 EC Tryz.prog ir207_from12 st (K:=prs (I1 ⟨sc,us,B2 (f8 r 58),0,pa,qu,fr,hq,hf⟩ r)):=by
 unfold ir207_from12
 obtain ⟨e2,e7,m2,m7⟩:=h
 have q1:(⟨#[58]⟩:ByteArray)=bs [58]:=rfl
 simp [e5,tx,q1]
 refine X6 rfl rfl (.inl rfl) (b01 r 58 (by omega)) ?_
 simp [e5,tx]
 refine b1i sc us pa qu fr hq hf h1 h2 h3 h4 h5 r hr _ ⟨?_,?_,?_,?_⟩ ?_ ?_ ?_<;>simp [e2,e7,m2,m7,b8,tx,num]
theorem a5u (sc pa qu fr:Tx) (hq hf:Bool) (h1:sc.length < 1048577) (h3:pa.length < 1048577) (h4:qu.length < 1048577) (h5:fr.length < 1048577) (r:Tx) (hr:r.length < 1048577) (st:St)
 (h:IP st ⟨sc,[],[],0,pa,qu,fr,hq,hf⟩) (e5:st.env 5=.val (tx r)) :
 EC Tryz.prog ir207_from11 st (K:=prs (a9c sc pa qu fr hq hf r)):=by
 unfold ir207_from11
 obtain ⟨e2,e7,m2,m7⟩:=h
 have q1:(⟨#[64]⟩:ByteArray)=bs [64]:=rfl
 have hla:=B4 r 64
 have hlb:=T1 r 64
 simp [e5,tx,q1]
 refine X6 rfl rfl (.inl rfl) (b01 r 64 (by omega)) ?_
 unfold a9c
 by_cases hc:64∈r
 · have e:(if 64∈r then k8 r 64 else r)=k8 r 64:=if_pos hc
   rw [if_pos hc,e]
   simp [e5,tx,hc,e2,e7,m2,m7,b8,num]
   refine a5t sc (f8 r 64) pa qu fr hq hf h1 (by omega) h3 h4 h5 (k8 r 64) (by omega) _ ⟨?_,?_,?_,?_⟩ ?_<;>simp [e2,e7,m2,m7,b8,tx,num]
 · have e:(if 64∈r then k8 r 64 else r)=r:=if_neg hc
   rw [if_neg hc,e]
   simp [e5,tx,hc]
   refine a5t sc [] pa qu fr hq hf h1 (by simp) h3 h4 h5 r hr _ ⟨?_,?_,?_,?_⟩ ?_<;>simp [e2,e7,m2,m7,e5,b8,tx,num]
theorem b1j (sc qu fr:Tx) (hq hf:Bool) (h1:sc.length < 1048577) (h4:qu.length < 1048577) (h5:fr.length < 1048577) (r:Tx) (hr:r.length < 1048577) (st:St)
 (h:IP st ⟨sc,[],[],0,[47],qu,fr,hq,hf⟩) (e5:st.env 5=.val (tx r)) :
 EC Tryz.prog ir207_from10 st (K:=prs (a5b sc qu fr hq hf r)):=by
 unfold ir207_from10
 obtain ⟨e2,e7,m2,m7⟩:=h
 have hle:=W1 r 47
 have hla:=B4 r 47
 simp [e5,tx]
 refine d7 rfl rfl (.inl rfl) (b53 r 47) ?_
 unfold a5b
 by_cases hc:47∈r
 · rw [if_pos hc]
   simp [e5,tx,num,hc,e2,e7,m2,m7,b8,b6,B5,hle,a1g]
   refine a5u sc (r.drop (l8 r 47)) qu fr hq hf h1 (by simp;omega) h4 h5 (f8 r 47) (by omega) _ ⟨?_,?_,?_,?_⟩ ?_<;>simp [e2,e7,m2,m7,b8,tx,num,f8]
 · rw [if_neg hc]
   simp [e5,tx,num,hc]
   rw [X0 hc]
   refine a5u sc [47] qu fr hq hf h1 (by simp) h4 h5 r hr _ ⟨?_,?_,?_,?_⟩ ?_<;>simp [e2,e7,m2,m7,e5,b8,tx,num]
theorem b3i (sc:Tx) (h1:sc.length < 1048577) (r:Tx) (hr:r.length < 1048577) (st:St) (h:IP st ⟨sc,[],[],0,[],[],[],false,false⟩) (e5:st.env 5=.val (tx r)) :
 EC Tryz.prog ir207_from7 st (K:=prs (a2x sc r)):=by
 unfold ir207_from7
 obtain ⟨e2,e7,m2,m7⟩:=h
 have q1:(⟨#[35]⟩:ByteArray)=bs [35]:=rfl
 have q2:(⟨#[63]⟩:ByteArray)=bs [63]:=rfl
 have q3:(⟨#[47]⟩:ByteArray)=bs [47]:=rfl
 have e:a2x sc r=a5b sc (k8 (f8 r 35) 63) (k8 r 35) (decide (63∈f8 r 35)) (decide (35∈r)) (f8 (f8 r 35) 63):=rfl
 have hl1:=B4 r 35
 have hl2:=T1 r 35
 have hl3:=B4 (f8 r 35) 63
 have hl4:=T1 (f8 r 35) 63
 rw [e]
 simp [e5,tx,q1]
 refine X6 rfl rfl (.inl rfl) (b01 r 35 (by omega)) ?_
 simp [e5,tx,q2,e2,e7,m2,m7,b8,num]
 refine X6 rfl rfl (.inl rfl) (b01 (f8 r 35) 63 (by omega)) ?_
 simp [e5,tx,q3,e2,e7,m2,m7,b8,num]
 refine b1j sc (k8 (f8 r 35) 63) (k8 r 35) _ _ h1 (by omega) (by omega) (f8 (f8 r 35) 63) (by omega) _ ⟨?_,?_,?_,?_⟩ ?_<;>simp [e2,e7,m2,m7,b8,tx,num]
theorem prefix2 (r:Tx):([47,47]:Tx).isPrefixOf r=decide (r.take 2=[47,47]):=by
 match r with
 | []=>rfl
 | [a]=>simp [List.isPrefixOf]
 | a :: b :: r=>
  rw [Bool.eq_iff_iff]
  simp [List.isPrefixOf]
  constructor
  · rintro ⟨rfl,rfl⟩;exact ⟨rfl,rfl⟩
  · rintro ⟨rfl,rfl⟩;exact ⟨rfl,rfl⟩
theorem b3j (sc:Tx) (h1:sc.length < 1048577) (r:Tx) (hr:r.length < 1048577) (st:St)
 (h:IP st ⟨sc,[],[],0,[],[],[],false,false⟩) (e5:st.env 5=.val (tx r)):EC Tryz.prog ir207_from4 st (K:=prs (if W5 sc then if r.take 2=[47,47] then a2x sc (r.drop 2) else (LUrl.zero,false) else (⟨sc,[],[],0,f8 (f8 r 35) 63,[],[],false,false⟩,H9 ⟨sc,[],[],0,f8 (f8 r 35) 63,[],[],false,false⟩))):=by
 unfold ir207_from4
 obtain ⟨e2,e7,m2,m7⟩:=h
 have q1:(⟨#[35]⟩:ByteArray)=bs [35]:=rfl
 have q2:(⟨#[63]⟩:ByteArray)=bs [63]:=rfl
 have q3:(⟨#[47,47]⟩:ByteArray)=bs [47,47]:=rfl
 have hl1:=B4 r 35
 have hl3:=B4 (f8 r 35) 63
 simp [e2,e7,m2,m7,tx,num,b8,i6]
 refine d7 rfl rfl (.inl rfl) (b5g ⟨sc,[],[],0,[],[],[],false,false⟩) ?_
 by_cases hw:W5 sc=true
 · rw [if_pos hw]
   simp [e5,tx,hw,q3]
   refine V4 rfl rfl (.inl rfl) (b55 r [47,47]) ?_
   rw [prefix2]
   by_cases ht:r.take 2=[47,47]
   · rw [if_pos ht]
     simp [tx,ht]
     refine b3i sc h1 (r.drop 2) (by simp;omega) _ ⟨?_,?_,?_,?_⟩ ?_<;>simp [e2,e7,m2,m7,b8,tx,num]
   · rw [if_neg ht]
     simp [e2,e7,m2,m7,tx,num,b8,ht]
     refine V9 _ ?_ ?_ ?_
     · simp [e2]
     · simp [b8,LUrl.zero,tx,num,bs]
     · simp
 · rw [if_neg hw]
   simp [e5,tx,hw,q1]
   refine X6 rfl rfl (.inl rfl) (b01 r 35 (by omega)) ?_
   simp [tx,hw,q2]
   refine X6 rfl rfl (.inl rfl) (b01 (f8 r 35) 63 (by omega)) ?_
   simp [e2,e7,m2,m7,tx,num,b8,i6]
   refine B0 rfl rfl (.inl rfl) (b9e ⟨sc,[],[],0,f8 (f8 r 35) 63,[],[],false,false⟩ ⟨h1,by simp,by simp,by show (f8 (f8 r 35) 63).length < _;omega,by simp,by simp,by simp,by simp⟩) ?_
   simp [e2,e7,m2,m7,tx,num,b8,i6]
   refine a4a (id:=2) ?_ ?_ ?_
   · simp [e2]
   · simp [b8,tx,num]
   · simp
theorem i_parse (t:Tx) (ht:t.length < 1048577):f7 Tryz.prog 207 [.val (tx t)] (.ret (a2u (A9 t)) []) []:=by
 refine f9 mixed ok207 rfl (fun _=>rfl) ?_
 unfold ir207
 rw [b9]
 have q1:(⟨#[58]⟩:ByteArray)=bs [58]:=rfl
 have hla:=B4 t 58
 have hlb:=T1 t 58
 simp [d9,j4,l0,b7,d8,tx,num,q1]
 refine X6 rfl rfl (.inl rfl) (b01 t 58 (by omega)) ?_
 simp [tx,num]
 refine d7 rfl rfl (.inl rfl) (b9d (f8 t 58) (by omega)) ?_
 by_cases hc:58∈t
 · rw [show A9 t=(if W5 (B2 (f8 t 58)) then if (k8 t 58).take 2=[47,47] then a2x (B2 (f8 t 58)) ((k8 t 58).drop 2) else (LUrl.zero,false) else (⟨B2 (f8 t 58),[],[],0,f8 (f8 (k8 t 58) 35) 63,[],[],false,false⟩,H9 ⟨B2 (f8 t 58),[],[],0,f8 (f8 (k8 t 58) 35) 63,[],[],false,false⟩)) by unfold A9;rw [if_pos hc]]
   simp [tx,num,hc]
   refine b3j (B2 (f8 t 58)) (by simp [B2];omega) (k8 t 58) (by omega) _ ⟨?_,?_,?_,?_⟩ ?_<;>simp [b8,tx,num,LUrl.zero,bs]
 · rw [show A9 t=(LUrl.zero,false) by unfold A9;rw [if_neg hc]]
   simp [tx,num,hc]
   refine V9 _ ?_ ?_ ?_
   · simp
   · simp [b8,LUrl.zero,tx,num,bs]
   · simp
end Go.Proofs
end
section
namespace Go.Proofs
open Go.PW Go.KP
attribute [local simp] RV.cells RV.one PV.cells PV.solid PV.one w5 i6 n7 n6 RV.ofCells elems PV.killL
variable [GH]
theorem tiny_of {u:LUrl} (h:u.Tiny):Tiny u:=⟨h.1,h.2.1,h.2.2.1,h.2.2.2.1,h.2.2.2.2.1,h.2.2.2.2.2.1,by have:=h.2.2.2.2.2.2;omega,by have:=h.2.2.2.2.2.2;omega⟩
def b9f (r:LUrl×Int):PV:=.tup [.val (R7 r.1),.val (num r.2)]
theorem a7l {st:St} {s t id:Nat} {u:LUrl} {n:Int} (h1:st.env s=.ptr id 0) (h2:st.mem id=.box (b8 u)) (h5:st.env t=.val (num n)):H7 [.c s true 9,.t t] st.fin=some (b9f (u,n)):=by
 rw [b8q (n:=9) (rs:=a77 u) h1 (by rw [h2,a78]) rfl (by omega) h5,b13]
 rfl
def a0f (t:Tx):LUrl×Int:=if t.length≤65536 then if (A9 t).2 then ((A9 t).1,0) else (LUrl.zero,3) else (LUrl.zero,2)
theorem b7q (t:Tx) (ht:t.length < 1048577):f7 Tryz.prog 205 [.val (tx t)] (.ret (b9f (a0f t)) []) []:=by
 refine f9 mixed ok205 rfl (fun _=>rfl) ?_
 unfold ir205
 rw [b9]
 unfold a0f
 simp [d9,j4,l0,b7,d8,tx]
 refine d7 rfl rfl (.inl rfl) (i_long t) ?_
 by_cases hl:t.length≤65536
 · rw [if_pos hl,if_pos hl]
   simp [tx,num]
   refine V4 rfl rfl (.inl rfl) (i_parse t ht) ?_
   cases hok:(A9 t).2 with
   | true=>
    rw [if_pos rfl]
    simp [tx,num,R7,i6]
    refine a7l (id:=2) ?_ ?_ ?_
    · simp
    · simp [b8,tx,num]
    · simp [num]
   | false=>
    rw [if_neg (by simp)]
    simp [tx,num,R7,i6]
    refine a7l (id:=2) ?_ ?_ ?_
    · simp
    · simp [b8,LUrl.zero,tx,num,bs]
    · simp [num]
 · rw [if_neg hl,if_neg hl]
   simp [tx,num]
   refine a7l (id:=2) ?_ ?_ ?_
   · simp
   · simp [b8,LUrl.zero,tx,num,bs]
   · simp [num]
theorem b5v (u:LUrl) (hs:Tiny u) (st:St) (e4:st.env 4=.ptr 4 0) (m4:st.mem 4=.box (b8 { u with frag:=[],hasF:=false })):EC Tryz.prog ir196_from4 st (K:=⟨Y9 [.t 2,.t 3] (S5 (some (a0p { u with frag:=[],hasF:=false })))⟩):=by
 unfold ir196_from4
 obtain ⟨s1,s2,s3,s4,s5,s6,p0,p1⟩:=hs
 have ht:Tiny { u with frag:=[],hasF:=false }:=⟨s1,s2,s3,s4,s5,by simp,p0,p1⟩
 simp [e4,m4,b8,tx,num,i6]
 refine d7 rfl rfl (.inl rfl) (c2h { u with frag:=[],hasF:=false } ht.small p0) ?_
 simp [S5]
theorem i_clean (t:Tx) (ht:t.length < 1048577):f7 Tryz.prog 196 [.val (tx t)] (.ret (S5 (a1z t)) []) []:=by
 refine f9 mixed ok196 rfl (fun _=>rfl) ?_
 unfold ir196
 rw [b9]
 have htn:=tiny_of (b4y ht)
 have hpu:=b7q t ht
 by_cases hl:t.length≤65536
 · cases hok:(A9 t).2 with
   | false=>
    have e1:a1z t=none:=by unfold a1z;rw [if_pos hl,hok];rfl
    have e2:a0f t=(LUrl.zero,3):=by unfold a0f;rw [if_pos hl,hok];rfl
    rw [e1]
    rw [e2] at hpu
    simp [d9,j4,l0,b7,d8,tx]
    refine V4 rfl rfl (.inl rfl) hpu ?_
    simp [tx,num,R7,i6,S5,bs]
   | true=>
    have e2:a0f t=((A9 t).1,0):=by unfold a0f;rw [if_pos hl,hok];rfl
    rw [e2] at hpu
    cases hw:W5 (A9 t).1.scheme with
    | false=>
     have e1:a1z t=none:=by unfold a1z;rw [if_pos hl,hok,hw];rfl
     rw [e1]
     simp [d9,j4,l0,b7,d8,tx]
     refine V4 rfl rfl (.inl rfl) hpu ?_
     simp [tx,num,R7,i6]
     refine d7 rfl rfl (.inl rfl) (b5g (A9 t).1) ?_
     rw [hw]
     simp [tx,num,S5,bs]
    | true=>
     have e1:a1z t=some (a0p { (A9 t).1 with frag:=[],hasF:=false }):=by unfold a1z;rw [if_pos hl,hok,hw];rfl
     rw [e1]
     simp [d9,j4,l0,b7,d8,tx]
     refine V4 rfl rfl (.inl rfl) hpu ?_
     simp [tx,num,R7,i6]
     refine d7 rfl rfl (.inl rfl) (b5g (A9 t).1) ?_
     rw [hw]
     simp [tx,num]
     refine b5v (A9 t).1 htn _ ?_ ?_<;>simp [b8,tx,num,bs]
 · have e1:a1z t=none:=by unfold a1z;rw [if_neg hl]
   have e2:a0f t=(LUrl.zero,2):=by unfold a0f;rw [if_neg hl]
   rw [e1]
   rw [e2] at hpu
   simp [d9,j4,l0,b7,d8,tx]
   refine V4 rfl rfl (.inl rfl) hpu ?_
   simp [tx,num,R7,i6,S5,bs]
structure JT (st:St) (x:LTarget):Prop where
 e1:st.env 1=.ptr 1 0
 m1:st.mem 1=.box [.val (tx x.url),.val (num x.prio),.val (num x.weight)]
end Go.Proofs
end
