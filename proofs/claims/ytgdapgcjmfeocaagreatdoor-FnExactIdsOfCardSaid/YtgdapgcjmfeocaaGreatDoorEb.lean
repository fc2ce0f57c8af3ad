/- Eb: merged out of KIf, KIg, KIh. -/
import Derived.Test.YtgdapgcjmfeocaaGreatDoorEa
import Derived.Test.YtgdapgcjmfeocaaGreatDoorBa
import Derived.Test.YtgdapgcjmfeocaaGreatDoorCa
import Derived.Test.YtgdapgcjmfeocaaGreatDoorAc
set_option linter.unusedSectionVars false
set_option linter.unusedSimpArgs false
set_option linter.unusedVariables false
set_option maxRecDepth 100000
section
namespace Go.Proofs
open Go.PW Go.KP
attribute [local simp] RV.cells RV.one PV.cells PV.solid PV.one im ao kh ke RV.ofCells elems PV.killL
variable [GH]
structure IO (st:St) (u:LUrl):Prop where
 e1:st.env 1=.ptr 1 0
 m1:st.mem 1=.box (ai u)
section
variable {Ks:Kx (St→Prop)} {kx:Kx (RV→St→Prop)} {st:St} {u:LUrl} {b:Bool}
def Ny (u:LUrl):Bool:=u.hasF || decide (u.frag=[])
theorem Lj (h:IO st u) (hb:st.env 108=.val (.bool b)) (hK:∀ st',IO st' u→st'.env 116=.val (.bool (b && Ny u))→Ks.k st'):EX Tryz.prog ir240_o109 st (Ks:=Ks):=by
 unfold ir240_o109
 have e3:(⟨#[]⟩:ByteArray)=bs []:=rfl
 cases b with
 | false=>
  simp [hb]
  refine hK _ ⟨?_,?_⟩ ?_<;>simp [h.e1,h.m1]
 | true=>
  cases hf:u.hasF with
  | true=>
   simp [hb,h.e1,h.m1,ai,tx,num,hf]
   refine hK _ ⟨?_,?_⟩ ?_<;>simp [h.e1,h.m1,Ny,hf]
  | false=>
   simp [hb,h.e1,h.m1,ai,tx,num,hf,e3,ka]
   refine hK _ ⟨?_,?_⟩ ?_<;>simp [h.e1,h.m1,Ny,hf]
def Nz (u:LUrl):Bool:=(u.hasQ || decide (u.query=[])) && Ny u
theorem Sl (h:IO st u) (hb:st.env 99=.val (.bool b)) (hK:∀ st',IO st' u→st'.env 116=.val (.bool (b && Nz u))→Ks.k st'):EX Tryz.prog ir240_o100 st (Ks:=Ks):=by
 unfold ir240_o100
 have e3:(⟨#[]⟩:ByteArray)=bs []:=rfl
 cases b with
 | false=>
  simp [hb]
  refine Lj (u:=u) (b:=false) ⟨?_,?_⟩ ?_ (fun st' q1 q2=>hK st' q1 (by simpa using q2))<;>simp [h.e1,h.m1]
 | true=>
  cases hq:u.hasQ with
  | true=>
   simp [hb,h.e1,h.m1,ai,tx,num,hq]
   refine Lj (u:=u) (b:=true) ⟨?_,?_⟩ ?_ (fun st' q1 q2=>hK st' q1 (by rw [q2];simp [Nz,hq]))<;>simp [h.e1,h.m1]
  | false=>
   simp [hb,h.e1,h.m1,ai,tx,num,hq,e3,ka]
   refine Lj (u:=u) (b:=decide (u.query=[])) ⟨?_,?_⟩ ?_ (fun st' q1 q2=>hK st' q1 (by rw [q2];simp [Nz,hq]))<;>simp [h.e1,h.m1]
def ib94 (u:LUrl):Bool:=!decide (35∈u.query) && Nz u
theorem Wz (h:IO st u) (hb:st.env 93=.val (.bool b)) (hK:∀ st',IO st' u→st'.env 116=.val (.bool (b && ib94 u))→Ks.k st'):EX Tryz.prog ir240_o94 st (Ks:=Ks):=by
 unfold ir240_o94
 have e3:(⟨#[35]⟩:ByteArray)=bs [35]:=rfl
 have e4:(⟨#[47]⟩:ByteArray)=bs [47]:=rfl
 cases b with
 | false=>
  simp [hb]
  refine Sl (u:=u) (b:=false) ⟨?_,?_⟩ ?_ (fun st' q1 q2=>hK st' q1 (by simpa using q2))<;>simp [h.e1,h.m1]
 | true=>
  simp [hb,h.e1,h.m1,ai,tx,num,e3,e4]
  refine em rfl rfl (.inl rfl) (Ru u.query 35) ?_
  simp [hb,h.e1,h.m1,ai,tx,num]
  refine Sl (u:=u) (b:=!decide (35∈u.query)) ⟨?_,?_⟩ ?_ (fun st' q1 q2=>hK st' q1 (by rw [q2];simp [ib94]))<;>simp [h.e1,h.m1,bne]
def ib89 (u:LUrl):Bool:=([47]:Tx).isPrefixOf u.path && ib94 u
theorem W0 (h:IO st u) (hb:st.env 88=.val (.bool b)) (hK:∀ st',IO st' u→st'.env 116=.val (.bool (b && ib89 u))→Ks.k st'):EX Tryz.prog ir240_o89 st (Ks:=Ks):=by
 unfold ir240_o89
 have e3:(⟨#[35]⟩:ByteArray)=bs [35]:=rfl
 have e4:(⟨#[47]⟩:ByteArray)=bs [47]:=rfl
 cases b with
 | false=>
  simp [hb]
  refine Wz (u:=u) (b:=false) ⟨?_,?_⟩ ?_ (fun st' q1 q2=>hK st' q1 (by simpa using q2))<;>simp [h.e1,h.m1]
 | true=>
  simp [hb,h.e1,h.m1,ai,tx,num,e3,e4]
  refine em rfl rfl (.inl rfl) (O9 u.path [47]) ?_
  simp [hb,h.e1,h.m1,ai,tx,num]
  refine Wz (u:=u) (b:=([47]:Tx).isPrefixOf u.path) ⟨?_,?_⟩ ?_ (fun st' q1 q2=>hK st' q1 (by rw [q2];simp [ib89]))<;>simp [h.e1,h.m1,bne]
def ib81 (u:LUrl):Bool:=!(u.port == qj u.scheme) && ib89 u
theorem W1 (h:IO st u) (hb:st.env 80=.val (.bool b)) (hK:∀ st',IO st' u→st'.env 116=.val (.bool (b && ib81 u))→Ks.k st'):EX Tryz.prog ir240_o81 st (Ks:=Ks):=by
 unfold ir240_o81
 have e3:(⟨#[35]⟩:ByteArray)=bs [35]:=rfl
 have e4:(⟨#[47]⟩:ByteArray)=bs [47]:=rfl
 cases b with
 | false=>
  simp [hb]
  refine W0 (u:=u) (b:=false) ⟨?_,?_⟩ ?_ (fun st' q1 q2=>hK st' q1 (by simpa using q2))<;>simp [h.e1,h.m1]
 | true=>
  simp [hb,h.e1,h.m1,ai,tx,num,e3,e4]
  refine em rfl rfl (.inl rfl) (Sn u.scheme) ?_
  simp [hb,h.e1,h.m1,ai,tx,num]
  refine W0 (u:=u) (b:=!(u.port == qj u.scheme)) ⟨?_,?_⟩ ?_ (fun st' q1 q2=>hK st' q1 (by rw [q2];simp [ib81]))<;>simp [h.e1,h.m1,bne]
def W6 (u:LUrl):Bool:=decide (0≤u.port∧u.port≤65535) && ib81 u
theorem W2 (h:IO st u) (hb:st.env 75=.val (.bool b)) (hK:∀ st',IO st' u→st'.env 116=.val (.bool (b && W6 u))→Ks.k st'):EX Tryz.prog ir240_o76 st (Ks:=Ks):=by
 unfold ir240_o76
 have e3:(⟨#[35]⟩:ByteArray)=bs [35]:=rfl
 have e4:(⟨#[47]⟩:ByteArray)=bs [47]:=rfl
 cases b with
 | false=>
  simp [hb]
  refine W1 (u:=u) (b:=false) ⟨?_,?_⟩ ?_ (fun st' q1 q2=>hK st' q1 (by simpa using q2))<;>simp [h.e1,h.m1]
 | true=>
  simp [hb,h.e1,h.m1,ai,tx,num,e3,e4]
  refine em rfl rfl (.inl rfl) (mc u.port 0 65535) ?_
  simp [hb,h.e1,h.m1,ai,tx,num]
  refine W1 (u:=u) (b:=decide (0≤u.port∧u.port≤65535)) ⟨?_,?_⟩ ?_ (fun st' q1 q2=>hK st' q1 (by rw [q2];simp [W6]))<;>simp [h.e1,h.m1,bne]
end
def Nr (u:LUrl):Bool:=(!ml u.user [47,63,35,64] && sq u.host) && W6 u
theorem Ql (u:LUrl) (h2:u.user.length < 1048577) (h3:u.host.length < 1048577) (hsh:nj u.user=true) (st:St) (h:IO st u):EC Tryz.prog ir240_from4 st (K:=⟨sw [.t 2] (.val (.bool (Nr u)))⟩):=by
 unfold ir240_from4
 have e3:(⟨#[47,63,35,64]⟩:ByteArray)=bs [47,63,35,64]:=rfl
 have hend:∀ b,b=(!ml u.user [47,63,35,64] && sq u.host)→∀ st',IO st' u→st'.env 116=.val (.bool (b && W6 u))→sw [.t 2] (.val (.bool (Nr u))) .ret ⟨upd 2 (st'.env 116) st'.env,st'.mem⟩:=fun b hb st' q1 q2=>by
  rw [q2,hb]
  simp [Nr]
 simp [h.e1,h.m1,ai,tx,num,e3]
 refine em rfl rfl (.inl rfl) (Bo u.user [47,63,35,64] (by omega) (by simp) hsh (by decide)) ?_
 cases hu:ml u.user [47,63,35,64] with
 | true=>
  simp [h.e1,h.m1,ai,tx,num]
  refine W2 (u:=u) (b:=false) ⟨?_,?_⟩ ?_ (fun st' q1 q2=>?_)
  · simp [h.e1]
  · simp [h.m1]
  · simp
  · simp only [dz,ia,d8,gy,d9,ck,d7,gz,bm,ew,ir,iu,au,cf,cg,bf,eb,cj,bh,gx,dy,ci,ch,f9,ga,ql,qn,Option.getD_some,Option.getD_none,fo,cq,b9,f5,b8,bv,f8,bw,f7,fz,fy,iz,dl,b6,fw,dh,bz,fv,fl,fx,di,ft,bu,dg,fu,i7,i6,fm,fp,bx,fq,dm,b7,fa,bo,fk,fj,fi,iv,dc,bq,fg,da,bp,ff,ex,fh,db,fc,bn,cz,fe,ix,iw,ez,cx,bt,fb,de,br,jq,jp,j5,jr,jv,jt,js,j4,ju,jw,jx,jy,jz,eg,ef,ed,kj,kl,ek,ib,ct,ge,dq,j7,cl,l4,ko,kf,lb,ld,lc,l5,l6,ji,jk,jj,jl,jm,k8,dt,k7,gf,gg,gh,du,qp,gu,dx,l2,l3,i8,km,kn,Option.map_some,Option.map_none,gm,dv,dp,ca,gc,gd,jc,jb,lj,li,jo,gv,gw,jn,lf,lg,je,cd,jf,cb,ku,gt,gr,bg,la,lh,jh,ky,k6,kz,dr,eq,eu,er,ba,k9,l8,l7,kq,jg,ns,kr,ce,gp,gq,dw,gn,bd,cv,bc,cw,bb,j6,lk,ll,eh,ei,ie,ic,gb]
    exact hend false (by rw [hu];rfl) st' q1 q2
 | false=>
  simp [h.e1,h.m1,ai,tx,num]
  refine em rfl rfl (.inl rfl) (Xd u.host (by omega)) ?_
  simp [h.e1,h.m1,ai,tx,num]
  refine W2 (u:=u) (b:=sq u.host) ⟨?_,?_⟩ ?_ (fun st' q1 q2=>?_)
  · simp [h.e1]
  · simp [h.m1]
  · simp
  · simp only [dz,ia,d8,gy,d9,ck,d7,gz,bm,ew,ir,iu,au,cf,cg,bf,eb,cj,bh,gx,dy,ci,ch,f9,ga,ql,qn,Option.getD_some,Option.getD_none,fo,cq,b9,f5,b8,bv,f8,bw,f7,fz,fy,iz,dl,b6,fw,dh,bz,fv,fl,fx,di,ft,bu,dg,fu,i7,i6,fm,fp,bx,fq,dm,b7,fa,bo,fk,fj,fi,iv,dc,bq,fg,da,bp,ff,ex,fh,db,fc,bn,cz,fe,ix,iw,ez,cx,bt,fb,de,br,jq,jp,j5,jr,jv,jt,js,j4,ju,jw,jx,jy,jz,eg,ef,ed,kj,kl,ek,ib,ct,ge,dq,j7,cl,l4,ko,kf,lb,ld,lc,l5,l6,ji,jk,jj,jl,jm,k8,dt,k7,gf,gg,gh,du,qp,gu,dx,l2,l3,i8,km,kn,Option.map_some,Option.map_none,gm,dv,dp,ca,gc,gd,jc,jb,lj,li,jo,gv,gw,jn,lf,lg,je,cd,jf,cb,ku,gt,gr,bg,la,lh,jh,ky,k6,kz,dr,eq,eu,er,ba,k9,l8,l7,kq,jg,ns,kr,ce,gp,gq,dw,gn,bd,cv,bc,cw,bb,j6,lk,ll,eh,ei,ie,ic,gb]
    exact hend _ (by rw [hu];simp) st' q1 q2
def B1 (u:LUrl):Bool:=decide (u.user=[]) && decide (u.host=[]) && decide (u.port=0) && decide (u.query=[]) && decide (u.frag=[]) && !u.hasQ && !u.hasF
theorem Ok (u:LUrl):ls [0,0,0,2,0,0,0,1,1] (El u) [tx u.scheme,tx [],tx [],num 0,tx u.path,tx [],tx [],.bool false,.bool false]=some (B1 u):=by
 simp only [El,ls,vo,tx,num,ka,if_true,decide_true]
 unfold B1
 have e:(u.port == 0)=decide (u.port=0):=by rw [Bool.eq_iff_iff];simp
 rw [e]
 cases decide (u.user=[])<;>cases decide (u.host=[])<;>cases decide (u.port=0)<;>cases decide (u.query=[])<;>cases decide (u.frag=[])<;>cases u.hasQ<;>cases u.hasF<;>rfl
theorem Qm (u:LUrl) (h2:u.user.length < 1048577) (h3:u.host.length < 1048577) (hsh:nj u.user=true) (st:St) (h:IO st u):EC Tryz.prog ir240_from3 st (K:=⟨sw [.t 2] (.val (.bool (if qf u.scheme then Nr u else B1 u)))⟩):=by
 unfold ir240_from3
 have e3:(⟨#[]⟩:ByteArray)=bs []:=rfl
 simp [h.e1,h.m1,ai,tx,num,ao]
 refine ab rfl rfl (.inl rfl) (N0 u) ?_
 cases hw:qf u.scheme with
 | true=>
  simp
  rw [if_pos rfl]
  refine Ql u h2 h3 hsh _ ⟨?_,?_⟩<;>simp [h.e1,h.m1]
 | false=>
  rw [if_neg (by simp)]
  have hq:=Ok u
  simp only [El,tx,num] at hq
  simp [h.e1,h.m1,ai,tx,num,ao,e3,hq,ux]
theorem Qn (u:LUrl) (h2:u.user.length < 1048577) (h3:u.host.length < 1048577) (h4:u.path.length < 1048577) (hsh:nj u.user=true) (hsp:nj u.path=true) (st:St) (h:IO st u):EC Tryz.prog ir240_from2 st (K:=⟨sw [.t 2] (.val (.bool (!ml u.path [63,35] && if qf u.scheme then Nr u else B1 u)))⟩):=by
 unfold ir240_from2
 have e3:(⟨#[63,35]⟩:ByteArray)=bs [63,35]:=rfl
 simp [h.e1,h.m1,ai,tx,num,e3]
 refine ab rfl rfl (.inl rfl) (Bo u.path [63,35] (by omega) (by simp) hsp (by decide)) ?_
 cases hp:ml u.path [63,35] with
 | true=>simp
 | false=>
  simp only [Bool.not_false,Bool.true_and]
  simp
  refine Qm u h2 h3 hsh _ ⟨?_,?_⟩<;>simp [h.e1,h.m1]
section
variable {Ks:Kx (St→Prop)} {kx:Kx (RV→St→Prop)} {st:St} {u:LUrl} {b:Bool}
structure Tiny (u:LUrl):Prop where
 s1:u.scheme.length < 1048577
 s2:u.user.length < 1048577
 s3:u.host.length < 1048577
 s4:u.path.length < 1048577
 s5:u.query.length < 1048577
 s6:u.frag.length < 1048577
 p0:-9223372036854775808≤u.port
 p1:u.port≤9223372036854775807
theorem Tiny.small (h:Tiny u):u.Small:=by
 obtain ⟨s1,s2,s3,s4,s5,s6,p0,p1⟩:=h
 exact ⟨by omega,by omega,by omega,by omega,by omega,by omega,p1⟩
def T1 (u:LUrl):Bool:=!nj (u.user++u.host++u.path++u.query++u.frag)
theorem W3 (hs:Tiny u) (h:IO st u) (hb:st.env 35=.val (.bool b)) (hK:∀ st',IO st' u→st'.env 52=.val (.bool (b || T1 u))→Ks.k st'):EO Tryz.prog ir240_o36 st (Ks:=Ks) (kx:=kx):=by
 unfold ir240_o36
 obtain ⟨s1,s2,s3,s4,s5,s6,p0,p1⟩:=hs
 cases b with
 | true=>
  simp [hb]
  refine hK _ ⟨?_,?_⟩ ?_<;>simp [h.e1,h.m1]
 | false=>
  simp [hb,h.e1,h.m1,ai,tx,num,ae,kb]
  refine ⟨by omega,by omega,by omega,by omega,?_⟩
  refine ab rfl rfl (.inl rfl) (Qu (u.user++(u.host++(u.path++(u.query++u.frag)))) (by simp;omega)) ?_
  simp [hb]
  refine hK _ ⟨?_,?_⟩ ?_<;>simp [h.e1,h.m1,T1]
def I6 (u:LUrl):Bool:=decide (100 < (uh u).length) || T1 u
theorem W4 (hs:Tiny u) (h:IO st u) (hb:st.env 29=.val (.bool b)) (hK:∀ st',IO st' u→st'.env 52=.val (.bool (b || I6 u))→Ks.k st'):EO Tryz.prog ir240_o30 st (Ks:=Ks) (kx:=kx):=by
 unfold ir240_o30
 cases b with
 | true=>
  simp [hb]
  refine W3 (u:=u) (b:=true) hs ⟨?_,?_⟩ ?_ (fun st' q1 q2=>hK st' q1 (by simpa using q2))<;>simp [h.e1,h.m1]
 | false=>
  have e:((100:Int) < ((uh u).length:Int))↔100 < (uh u).length:=by omega
  simp [hb,h.e1,h.m1,ai,tx,num,ao]
  refine ab rfl rfl (.inl rfl) (W8 u hs.small hs.p0) ?_
  simp [hb,tx,ae,e]
  refine W3 (u:=u) (b:=decide (100 < (uh u).length)) hs ⟨?_,?_⟩ ?_ (fun st' q1 q2=>hK st' q1 (by rw [q2];simp [I6]))<;>simp [h.e1,h.m1]
end
theorem Lb (u:LUrl):D2 u=(oa u.scheme && decide (u.user.length+u.host.length+u.path.length+u.query.length+u.frag.length≤100) && !I6 u && (!ml u.path [63,35] && if qf u.scheme then Nr u else B1 u)):=by
 unfold D2 I6 T1 Nr B1 W6 ib81 ib89 ib94 Nz Ny
 have e1:decide ((uh u).length≤100)=!decide (100 < (uh u).length):=by
  by_cases h:(uh u).length≤100
  · rw [decide_eq_true h,decide_eq_false (by omega)];rfl
  · rw [decide_eq_false h,decide_eq_true (by omega)];rfl
 have e2:([47]:Tx).isPrefixOf u.path=(decide (0 < u.path.length) && decide ((u.path.getD 0 0).toNat=47)):=by
  cases u.path with
  | nil=>rfl
  | cons c r=>
   rw [Bool.eq_iff_iff]
   simp
   constructor
   · intro h;rw [← h];rfl
   · intro h;exact (UInt8.toNat_inj.1 (by rw [h];rfl)).symm
 have e3:(u.port == qj u.scheme)=decide (u.port=qj u.scheme):=by rw [Bool.eq_iff_iff];simp
 have e4:decide (u.port≠qj u.scheme)=!decide (u.port=qj u.scheme):=by simp
 have e5:ml u.query [35]=decide (35∈u.query):=by
  rw [Bool.eq_iff_iff]
  simp [ml]
 rw [e1,e2,e3,e4,e5]
 cases oa u.scheme<;>simp only [Bool.false_and,Bool.true_and]
 cases decide (u.user.length+u.host.length+u.path.length+u.query.length+u.frag.length≤100)<;>simp only [Bool.false_and,Bool.true_and]
 cases decide (100 < (uh u).length)<;>simp only [Bool.false_and,Bool.true_and,Bool.not_true,Bool.not_false,Bool.true_or,Bool.false_or]
 cases nj (u.user++u.host++u.path++u.query++u.frag)<;>simp only [Bool.false_and,Bool.true_and,Bool.not_true,Bool.not_false]
 cases ml u.path [63,35]<;>simp only [Bool.false_and,Bool.true_and,Bool.not_true,Bool.not_false]
 split
 · simp only [Bool.and_assoc]
 · rfl
def Pn (u:LUrl):Nat:=u.user.length+u.host.length+u.path.length+u.query.length+u.frag.length
def R0 (u:LUrl):Bool:=!ml u.path [63,35] && if qf u.scheme then Nr u else B1 u
theorem Ns (u:LUrl) (hs:Tiny u) (b:Bool) (st':St) (q1:IO st' u) (q2:st'.env 52=.val (.bool (b || I6 u))) (res:Bool) (hres:res=(!(b || I6 u) && R0 u)) :
 CD (st'.env 52) (A:=⟨EC Tryz.prog (.seq (.reg [⟨some 2,.mov (.k (.val (.bool false))),none⟩]) .ret) st' (K:=⟨fun e st'=>ET e st' (Ks:=⟨fun st'=>EC Tryz.prog ir240_from2 st' (K:=⟨sw [.t 2] (.val (.bool res))⟩)⟩) (K:=⟨sw [.t 2] (.val (.bool res))⟩)⟩)⟩)
     (B:=⟨EC Tryz.prog .skip st' (K:=⟨fun e st'=>ET e st' (Ks:=⟨fun st'=>EC Tryz.prog ir240_from2 st' (K:=⟨sw [.t 2] (.val (.bool res))⟩)⟩) (K:=⟨sw [.t 2] (.val (.bool res))⟩)⟩)⟩):=by
 rw [q2]
 cases hbb:(b || I6 u) with
 | true=>
  rw [hbb] at hres
  have:res=false:=hres
  subst this
  simp
 | false=>
  rw [hbb] at hres
  have:res=R0 u:=hres
  subst this
  simp only [dz,ia,d8,gy,d9,ck,d7,gz,bm,ew,ir,iu,au,cf,cg,bf,eb,cj,bh,gx,dy,ci,ch,f9,ga,ql,qn,Option.getD_some,Option.getD_none,fo,cq,b9,f5,b8,bv,f8,bw,f7,fz,fy,iz,dl,b6,fw,dh,bz,fv,fl,fx,di,ft,bu,dg,fu,i7,i6,fm,fp,bx,fq,dm,b7,fa,bo,fk,fj,fi,iv,dc,bq,fg,da,bp,ff,ex,fh,db,fc,bn,cz,fe,ix,iw,ez,cx,bt,fb,de,br,jq,jp,j5,jr,jv,jt,js,j4,ju,jw,jx,jy,jz,eg,ef,ed,kj,kl,ek,ib,ct,ge,dq,j7,cl,l4,ko,kf,lb,ld,lc,l5,l6,ji,jk,jj,jl,jm,k8,dt,k7,gf,gg,gh,du,qp,gu,dx,l2,l3,i8,km,kn,Option.map_some,Option.map_none,gm,dv,dp,ca,gc,gd,jc,jb,lj,li,jo,gv,gw,jn,lf,lg,je,cd,jf,cb,ku,gt,gr,bg,la,lh,jh,ky,k6,kz,dr,eq,eu,er,ba,k9,l8,l7,kq,jg,ns,kr,ce,gp,gq,dw,gn,bd,cv,bc,cw,bb,j6,lk,ll,eh,ei,ie,ic,gb]
  refine ak (fun h=>by cases h) (fun _=>?_)
  simp only [dz,ia,d8,gy,d9,ck,d7,gz,bm,ew,ir,iu,au,cf,cg,bf,eb,cj,bh,gx,dy,ci,ch,f9,ga,ql,qn,Option.getD_some,Option.getD_none,fo,cq,b9,f5,b8,bv,f8,bw,f7,fz,fy,iz,dl,b6,fw,dh,bz,fv,fl,fx,di,ft,bu,dg,fu,i7,i6,fm,fp,bx,fq,dm,b7,fa,bo,fk,fj,fi,iv,dc,bq,fg,da,bp,ff,ex,fh,db,fc,bn,cz,fe,ix,iw,ez,cx,bt,fb,de,br,jq,jp,j5,jr,jv,jt,js,j4,ju,jw,jx,jy,jz,eg,ef,ed,kj,kl,ek,ib,ct,ge,dq,j7,cl,l4,ko,kf,lb,ld,lc,l5,l6,ji,jk,jj,jl,jm,k8,dt,k7,gf,gg,gh,du,qp,gu,dx,l2,l3,i8,km,kn,Option.map_some,Option.map_none,gm,dv,dp,ca,gc,gd,jc,jb,lj,li,jo,gv,gw,jn,lf,lg,je,cd,jf,cb,ku,gt,gr,bg,la,lh,jh,ky,k6,kz,dr,eq,eu,er,ba,k9,l8,l7,kq,jg,ns,kr,ce,gp,gq,dw,gn,bd,cv,bc,cw,bb,j6,lk,ll,eh,ei,ie,ic,gb]
  have h30:I6 u=false:=(Bool.or_eq_false_iff.1 hbb).2
  have h36:T1 u=false:=(Bool.or_eq_false_iff.1 h30).2
  unfold T1 at h36
  have hsh:nj (u.user++u.host++u.path++u.query++u.frag)=true:=by simpa using h36
  simp only [Bg,Bool.and_eq_true] at hsh
  exact Qn u hs.s2 hs.s3 hs.s4 hsh.1.1.1.1 hsh.1.1.2 st' q1
theorem Sr (u:LUrl) (hs:Tiny u):ag Tryz.prog 240 [.val (oq u)] (.ret (.val (.bool (mp u))) []) []:=by
 refine aj mixed ok240 rfl (fun _=>rfl) ?_
 unfold ir240
 rw [aa]
 have hs':=hs
 obtain ⟨s1,s2,s3,s4,s5,s6,p0,p1⟩:=hs
 have hres:mp u=(!((!oa u.scheme || decide (100 < Pn u)) || I6 u) && R0 u):=by
  rw [← Tv,Lb]
  have e1:decide (u.user.length+u.host.length+u.path.length+u.query.length+u.frag.length≤100)=!decide (100 < Pn u):=by
   unfold Pn
   by_cases h:u.user.length+u.host.length+u.path.length+u.query.length+u.frag.length≤100
   · rw [decide_eq_true h,decide_eq_false (by omega)];rfl
   · rw [decide_eq_false h,decide_eq_true (by omega)];rfl
  rw [e1]
  unfold R0
  cases oa u.scheme<;>cases decide (100 < Pn u)<;>cases I6 u<;>rfl
 simp [ah,am,ax,ac,af,oq,tx,num,ae]
 refine ab rfl rfl (.inl rfl) (Qs u.scheme (by omega)) ?_
 cases b1:oa u.scheme with
 | false=>
  rw [b1] at hres
  simp [tx,num,ae]
  refine W4 (u:=u) (b:=true) hs' ⟨?_,?_⟩ ?_ (fun st' q1 q2=>Ns u hs' true st' q1 q2 _ hres)
  · simp
  · simp [ai,tx,num]
  · simp
 | true=>
  rw [b1] at hres
  have w1:IntKind.i64.wrap ((u.user.length:Int)+u.host.length)=(u.user.length:Int)+u.host.length:=wrap_i64 (by omega) (by omega)
  have w2:IntKind.i64.wrap ((u.user.length:Int)+u.host.length+u.path.length)=(u.user.length:Int)+u.host.length+u.path.length:=wrap_i64 (by omega) (by omega)
  have w3:IntKind.i64.wrap ((u.user.length:Int)+u.host.length+u.path.length+u.query.length)=(u.user.length:Int)+u.host.length+u.path.length+u.query.length:=wrap_i64 (by omega) (by omega)
  have w4:IntKind.i64.wrap ((u.user.length:Int)+u.host.length+u.path.length+u.query.length+u.frag.length)=(u.user.length:Int)+u.host.length+u.path.length+u.query.length+u.frag.length:=wrap_i64 (by omega) (by omega)
  have e:decide ((100:Int) < (u.user.length:Int)+u.host.length+u.path.length+u.query.length+u.frag.length)=decide (100 < Pn u):=by
   unfold Pn
   by_cases h:100 < u.user.length+u.host.length+u.path.length+u.query.length+u.frag.length
   · rw [decide_eq_true h,decide_eq_true (by omega)]
   · rw [decide_eq_false h,decide_eq_false (by omega)]
  simp [tx,num,ae,w1,w2,w3,w4,e]
  refine W4 (u:=u) (b:=decide (100 < Pn u)) hs' ⟨?_,?_⟩ ?_ (fun st' q1 q2=>Ns u hs' _ st' q1 q2 _ (by rw [hres];rfl))
  · simp
  · simp [ai,tx,num]
  · simp
end Go.Proofs
end
section
namespace Go.Proofs
open Go.PW Go.KP
attribute [local simp] RV.cells RV.one PV.cells PV.solid PV.one im ao kh ke RV.ofCells elems PV.killL
variable [GH]
structure IP (st:St) (u:LUrl):Prop where
 e2:st.env 2=.ptr 2 0
 e7:st.env 7=.ptr 7 0
 m2:st.mem 2=.box (ai LUrl.zero)
 m7:st.mem 7=.box (ai u)
theorem I2 (u:LUrl) (hs:Tiny u) (st:St) (h:IP st u):EC Tryz.prog ir226_from15 st (K:=prs (u,mp u)):=by
 unfold ir226_from15
 obtain ⟨e2,e7,m2,m7⟩:=h
 simp [e2,e7,m2,m7,ai,ao,tx,num]
 refine em rfl rfl (.inl rfl) (Sr u hs) ?_
 simp [e2,e7,m2,m7,ai,ao,tx,num]
 refine zh (id:=2) ?_ ?_ ?_
 · simp [e2]
 · simp [e2,ai,tx,num]
 · simp
theorem xo (sc us ho pa qu fr:Tx) (po:Int) (hq hf:Bool) (hs:Tiny ⟨sc,us,mi ho,po,pa,qu,fr,hq,hf⟩) (hh:ho.length < 1048577) (st:St) (h:IP st ⟨sc,us,[],po,pa,qu,fr,hq,hf⟩) (e12:st.env 12=.val (tx ho)) :
 EC Tryz.prog ir226_from14 st (K:=prs (⟨sc,us,mi ho,po,pa,qu,fr,hq,hf⟩,mp ⟨sc,us,mi ho,po,pa,qu,fr,hq,hf⟩)):=by
 unfold ir226_from14
 obtain ⟨e2,e7,m2,m7⟩:=h
 simp [e2,e7,m2,m7,e12,ai,ao,tx,num]
 refine ab rfl rfl (.inl rfl) (So ho (by omega)) ?_
 simp [e2,e7,m2,m7,ai,ao,tx,num]
 refine I2 ⟨sc,us,mi ho,po,pa,qu,fr,hq,hf⟩ hs _ ⟨?_,?_,?_,?_⟩<;>simp [e2,e7,m2,m7,ai,tx,num]
theorem I3 (sc us pa qu fr:Tx) (hq hf:Bool) (h1:sc.length < 1048577) (h2:us.length < 1048577) (h3:pa.length < 1048577) (h4:qu.length < 1048577) (h5:fr.length < 1048577) (r:Tx) (hr:r.length < 1048577) (st:St)
 (h:IP st ⟨sc,us,[],0,pa,qu,fr,hq,hf⟩) (e12:st.env 12=.val (tx (az r 58))) (e13:st.env 13=.val (tx (ip r 58))) (e6:st.env 6=.val (.bool (decide (58∈r)))) :
 EC Tryz.prog ir226_from13 st (K:=prs (nf ⟨sc,us,mi (az r 58),0,pa,qu,fr,hq,hf⟩ r)):=by
 unfold ir226_from13
 obtain ⟨e2,e7,m2,m7⟩:=h
 have hla:=mm r 58
 have hlb:=pm r 58
 have hll:(mi (az r 58)).length < 1048577:=by simp [mi];omega
 by_cases hc:58∈r
 · simp [e6,e13,hc,tx]
   have hn:=Xb (ip r 58) (by omega)
   refine o5 rfl rfl (.inl rfl) hn ?_
   cases hb:(ym (ip r 58)).2 with
   | false=>
    have hnone:=Ty hb
    rw [show nf ⟨sc,us,mi (az r 58),0,pa,qu,fr,hq,hf⟩ r=(LUrl.zero,false) by simp only [nf,tc,hc,hnone,if_true]]
    simp [e2,e7,m2,m7,tx,num,ai]
    refine qv _ ?_ ?_ ?_
    · simp [e2]
    · simp [ai,LUrl.zero,tx,num,bs]
    · simp
   | true=>
    have hsome:=inum_le hb
    generalize (ym (ip r 58)).1=n at *
    simp [e2,e7,m2,m7,tx,num,ai]
    refine ab rfl rfl (.inl rfl) (mc n 1 65535) ?_
    by_cases hin:1≤n∧n≤65535
    · rw [decide_eq_true hin]
      simp [e2,e7,m2,m7,tx,num,ai]
      refine ab rfl rfl (.inl rfl) (Sn sc) ?_
      by_cases hu:n=qj sc
      · have hl:tc sc r=some 0:=by
         simp only [tc,hc,hsome,hin,if_true,and_self]
         rw [if_pos hu]
        rw [show nf ⟨sc,us,mi (az r 58),0,pa,qu,fr,hq,hf⟩ r=(⟨sc,us,mi (az r 58),0,pa,qu,fr,hq,hf⟩,mp ⟨sc,us,mi (az r 58),0,pa,qu,fr,hq,hf⟩) by simp only [nf,hl]]
        simp [e2,e7,m2,m7,tx,num,ai,hu]
        refine xo sc us (az r 58) pa qu fr 0 hq hf ⟨h1,h2,hll,h3,h4,h5,by simp,by simp⟩ (by omega) _ ⟨?_,?_,?_,?_⟩ ?_<;>simp [e2,e7,m2,m7,e12,ai,tx,num]
      · have hl:tc sc r=some n:=by
         simp only [tc,hc,hsome,hin,if_true,and_self]
         rw [if_neg hu]
        rw [show nf ⟨sc,us,mi (az r 58),0,pa,qu,fr,hq,hf⟩ r=(⟨sc,us,mi (az r 58),n,pa,qu,fr,hq,hf⟩,mp ⟨sc,us,mi (az r 58),n,pa,qu,fr,hq,hf⟩) by simp only [nf,hl]]
        simp [e2,e7,m2,m7,tx,num,ai,hu]
        refine xo sc us (az r 58) pa qu fr n hq hf ⟨h1,h2,hll,h3,h4,h5,by show _≤n;omega,by show n≤_;omega⟩ (by omega) _ ⟨?_,?_,?_,?_⟩ ?_<;>simp [e2,e7,m2,m7,e12,ai,tx,num]
    · rw [decide_eq_false hin]
      rw [show nf ⟨sc,us,mi (az r 58),0,pa,qu,fr,hq,hf⟩ r=(LUrl.zero,false) by simp only [nf,tc,hc,hsome,hin,if_true,if_false]]
      simp [e2,e7,m2,m7,tx,num,ai]
      refine qv _ ?_ ?_ ?_
      · simp [e2]
      · simp [ai,LUrl.zero,tx,num,bs]
      · simp
 · have hl:tc sc r=some 0:=by simp only [tc,hc,if_false]
   rw [show nf ⟨sc,us,mi (az r 58),0,pa,qu,fr,hq,hf⟩ r=(⟨sc,us,mi (az r 58),0,pa,qu,fr,hq,hf⟩,mp ⟨sc,us,mi (az r 58),0,pa,qu,fr,hq,hf⟩) by simp only [nf,hl]]
   simp [e6,hc]
   refine xo sc us (az r 58) pa qu fr 0 hq hf ⟨h1,h2,hll,h3,h4,h5,by simp,by simp⟩ (by omega) _ ⟨?_,?_,?_,?_⟩ ?_<;>simp [e2,e7,m2,m7,e12,ai,tx,num]
theorem Bj (sc us pa qu fr:Tx) (hq hf:Bool) (h1:sc.length < 1048577) (h2:us.length < 1048577) (h3:pa.length < 1048577) (h4:qu.length < 1048577) (h5:fr.length < 1048577) (r:Tx) (hr:r.length < 1048577) (st:St)
 (h:IP st ⟨sc,us,[],0,pa,qu,fr,hq,hf⟩) (e5:st.env 5=.val (tx r)) :
 EC Tryz.prog ir226_from12 st (K:=prs (nf ⟨sc,us,mi (az r 58),0,pa,qu,fr,hq,hf⟩ r)):=by
 unfold ir226_from12
 obtain ⟨e2,e7,m2,m7⟩:=h
 have q1:(⟨#[58]⟩:ByteArray)=bs [58]:=rfl
 simp [e5,tx,q1]
 refine ry rfl rfl (.inl rfl) (Ib r 58 (by omega)) ?_
 simp [e5,tx]
 refine I3 sc us pa qu fr hq hf h1 h2 h3 h4 h5 r hr _ ⟨?_,?_,?_,?_⟩ ?_ ?_ ?_<;>simp [e2,e7,m2,m7,ai,tx,num]
theorem Bk (sc pa qu fr:Tx) (hq hf:Bool) (h1:sc.length < 1048577) (h3:pa.length < 1048577) (h4:qu.length < 1048577) (h5:fr.length < 1048577) (r:Tx) (hr:r.length < 1048577) (st:St)
 (h:IP st ⟨sc,[],[],0,pa,qu,fr,hq,hf⟩) (e5:st.env 5=.val (tx r)) :
 EC Tryz.prog ir226_from11 st (K:=prs (F1 sc pa qu fr hq hf r)):=by
 unfold ir226_from11
 obtain ⟨e2,e7,m2,m7⟩:=h
 have q1:(⟨#[64]⟩:ByteArray)=bs [64]:=rfl
 have hla:=mm r 64
 have hlb:=pm r 64
 simp [e5,tx,q1]
 refine ry rfl rfl (.inl rfl) (Ib r 64 (by omega)) ?_
 unfold F1
 by_cases hc:64∈r
 · have e:(if 64∈r then ip r 64 else r)=ip r 64:=if_pos hc
   rw [if_pos hc,e]
   simp [e5,tx,hc,e2,e7,m2,m7,ai,num]
   refine Bj sc (az r 64) pa qu fr hq hf h1 (by omega) h3 h4 h5 (ip r 64) (by omega) _ ⟨?_,?_,?_,?_⟩ ?_<;>simp [e2,e7,m2,m7,ai,tx,num]
 · have e:(if 64∈r then ip r 64 else r)=r:=if_neg hc
   rw [if_neg hc,e]
   simp [e5,tx,hc]
   refine Bj sc [] pa qu fr hq hf h1 (by simp) h3 h4 h5 r hr _ ⟨?_,?_,?_,?_⟩ ?_<;>simp [e2,e7,m2,m7,e5,ai,tx,num]
theorem I4 (sc qu fr:Tx) (hq hf:Bool) (h1:sc.length < 1048577) (h4:qu.length < 1048577) (h5:fr.length < 1048577) (r:Tx) (hr:r.length < 1048577) (st:St)
 (h:IP st ⟨sc,[],[],0,[47],qu,fr,hq,hf⟩) (e5:st.env 5=.val (tx r)) :
 EC Tryz.prog ir226_from10 st (K:=prs (Aq sc qu fr hq hf r)):=by
 unfold ir226_from10
 obtain ⟨e2,e7,m2,m7⟩:=h
 have hle:=q7 r 47
 have hla:=mm r 47
 simp [e5,tx]
 refine ab rfl rfl (.inl rfl) (O8 r 47) ?_
 unfold Aq
 by_cases hc:47∈r
 · rw [if_pos hc]
   simp [e5,tx,num,hc,e2,e7,m2,m7,ai,ae,mr,hle,vi]
   refine Bk sc (r.drop (kw r 47)) qu fr hq hf h1 (by simp;omega) h4 h5 (az r 47) (by omega) _ ⟨?_,?_,?_,?_⟩ ?_<;>simp [e2,e7,m2,m7,ai,tx,num,az]
 · rw [if_neg hc]
   simp [e5,tx,num,hc]
   rw [rp hc]
   refine Bk sc [47] qu fr hq hf h1 (by simp) h4 h5 r hr _ ⟨?_,?_,?_,?_⟩ ?_<;>simp [e2,e7,m2,m7,e5,ai,tx,num]
theorem Lh (sc:Tx) (h1:sc.length < 1048577) (r:Tx) (hr:r.length < 1048577) (st:St) (h:IP st ⟨sc,[],[],0,[],[],[],false,false⟩) (e5:st.env 5=.val (tx r)) :
 EC Tryz.prog ir226_from7 st (K:=prs (xa sc r)):=by
 unfold ir226_from7
 obtain ⟨e2,e7,m2,m7⟩:=h
 have q1:(⟨#[35]⟩:ByteArray)=bs [35]:=rfl
 have q2:(⟨#[63]⟩:ByteArray)=bs [63]:=rfl
 have q3:(⟨#[47]⟩:ByteArray)=bs [47]:=rfl
 have e:xa sc r=Aq sc (ip (az r 35) 63) (ip r 35) (decide (63∈az r 35)) (decide (35∈r)) (az (az r 35) 63):=rfl
 have hl1:=mm r 35
 have hl2:=pm r 35
 have hl3:=mm (az r 35) 63
 have hl4:=pm (az r 35) 63
 rw [e]
 simp [e5,tx,q1]
 refine ry rfl rfl (.inl rfl) (Ib r 35 (by omega)) ?_
 simp [e5,tx,q2,e2,e7,m2,m7,ai,num]
 refine ry rfl rfl (.inl rfl) (Ib (az r 35) 63 (by omega)) ?_
 simp [e5,tx,q3,e2,e7,m2,m7,ai,num]
 refine I4 sc (ip (az r 35) 63) (ip r 35) _ _ h1 (by omega) (by omega) (az (az r 35) 63) (by omega) _ ⟨?_,?_,?_,?_⟩ ?_<;>simp [e2,e7,m2,m7,ai,tx,num]
theorem prefix2 (r:Tx):([47,47]:Tx).isPrefixOf r=decide (r.take 2=[47,47]):=by
 match r with
 | []=>rfl
 | [a]=>simp [List.isPrefixOf]
 | a :: b :: r=>
  rw [Bool.eq_iff_iff]
  simp [List.isPrefixOf]
  constructor
  · rintro ⟨rfl,rfl⟩;exact ⟨rfl,rfl⟩
  · rintro ⟨rfl,rfl⟩;exact ⟨rfl,rfl⟩
theorem Li (sc:Tx) (h1:sc.length < 1048577) (r:Tx) (hr:r.length < 1048577) (st:St)
 (h:IP st ⟨sc,[],[],0,[],[],[],false,false⟩) (e5:st.env 5=.val (tx r)):EC Tryz.prog ir226_from4 st (K:=prs (if qf sc then if r.take 2=[47,47] then xa sc (r.drop 2) else (LUrl.zero,false) else (⟨sc,[],[],0,az (az r 35) 63,[],[],false,false⟩,mp ⟨sc,[],[],0,az (az r 35) 63,[],[],false,false⟩))):=by
 unfold ir226_from4
 obtain ⟨e2,e7,m2,m7⟩:=h
 have q1:(⟨#[35]⟩:ByteArray)=bs [35]:=rfl
 have q2:(⟨#[63]⟩:ByteArray)=bs [63]:=rfl
 have q3:(⟨#[47,47]⟩:ByteArray)=bs [47,47]:=rfl
 have hl1:=mm r 35
 have hl3:=mm (az r 35) 63
 simp [e2,e7,m2,m7,tx,num,ai,ao]
 refine ab rfl rfl (.inl rfl) (N0 ⟨sc,[],[],0,[],[],[],false,false⟩) ?_
 by_cases hw:qf sc=true
 · rw [if_pos hw]
   simp [e5,tx,hw,q3]
   refine o5 rfl rfl (.inl rfl) (Pa r [47,47]) ?_
   rw [prefix2]
   by_cases ht:r.take 2=[47,47]
   · rw [if_pos ht]
     simp [tx,ht]
     refine Lh sc h1 (r.drop 2) (by simp;omega) _ ⟨?_,?_,?_,?_⟩ ?_<;>simp [e2,e7,m2,m7,ai,tx,num]
   · rw [if_neg ht]
     simp [e2,e7,m2,m7,tx,num,ai,ht]
     refine qv _ ?_ ?_ ?_
     · simp [e2]
     · simp [ai,LUrl.zero,tx,num,bs]
     · simp
 · rw [if_neg hw]
   simp [e5,tx,hw,q1]
   refine ry rfl rfl (.inl rfl) (Ib r 35 (by omega)) ?_
   simp [tx,hw,q2]
   refine ry rfl rfl (.inl rfl) (Ib (az r 35) 63 (by omega)) ?_
   simp [e2,e7,m2,m7,tx,num,ai,ao]
   refine em rfl rfl (.inl rfl) (Sr ⟨sc,[],[],0,az (az r 35) 63,[],[],false,false⟩ ⟨h1,by simp,by simp,by show (az (az r 35) 63).length < _;omega,by simp,by simp,by simp,by simp⟩) ?_
   simp [e2,e7,m2,m7,tx,num,ai,ao]
   refine zh (id:=2) ?_ ?_ ?_
   · simp [e2]
   · simp [ai,tx,num]
   · simp
theorem i_parse (t:Tx) (ht:t.length < 1048577):ag Tryz.prog 226 [.val (tx t)] (.ret (xz (jd t)) []) []:=by
 refine aj mixed ok226 rfl (fun _=>rfl) ?_
 unfold ir226
 rw [aa]
 have q1:(⟨#[58]⟩:ByteArray)=bs [58]:=rfl
 have hla:=mm t 58
 have hlb:=pm t 58
 simp [ah,am,ax,ac,af,tx,num,q1]
 refine ry rfl rfl (.inl rfl) (Ib t 58 (by omega)) ?_
 simp [tx,num]
 refine ab rfl rfl (.inl rfl) (So (az t 58) (by omega)) ?_
 by_cases hc:58∈t
 · rw [show jd t=(if qf (mi (az t 58)) then if (ip t 58).take 2=[47,47] then xa (mi (az t 58)) ((ip t 58).drop 2) else (LUrl.zero,false) else (⟨mi (az t 58),[],[],0,az (az (ip t 58) 35) 63,[],[],false,false⟩,mp ⟨mi (az t 58),[],[],0,az (az (ip t 58) 35) 63,[],[],false,false⟩)) by unfold jd;rw [if_pos hc]]
   simp [tx,num,hc]
   refine Li (mi (az t 58)) (by simp [mi];omega) (ip t 58) (by omega) _ ⟨?_,?_,?_,?_⟩ ?_<;>simp [ai,tx,num,LUrl.zero,bs]
 · rw [show jd t=(LUrl.zero,false) by unfold jd;rw [if_neg hc]]
   simp [tx,num,hc]
   refine qv _ ?_ ?_ ?_
   · simp
   · simp [ai,LUrl.zero,tx,num,bs]
   · simp
end Go.Proofs
end
section
namespace Go.Proofs
open Go.PW Go.KP
attribute [local simp] RV.cells RV.one PV.cells PV.solid PV.one im ao kh ke RV.ofCells elems PV.killL
variable [GH]
theorem tiny_of {u:LUrl} (h:u.Tiny):Tiny u:=⟨h.1,h.2.1,h.2.2.1,h.2.2.2.1,h.2.2.2.2.1,h.2.2.2.2.2.1,by have:=h.2.2.2.2.2.2;omega,by have:=h.2.2.2.2.2.2;omega⟩
def Ss (r:LUrl×Int):PV:=.tup [.val (oq r.1),.val (num r.2)]
theorem Dp {st:St} {s t id:Nat} {u:LUrl} {n:Int} (h1:st.env s=.ptr id 0) (h2:st.mem id=.box (ai u)) (h5:st.env t=.val (num n)):nl [.c s true 9,.t t] st.fin=some (Ss (u,n)):=by
 rw [R6 (n:=9) (rs:=El u) h1 (by rw [h2,Em]) rfl (by omega) h5,Jp]
 rfl
def tv (t:Tx):LUrl×Int:=if t.length≤65536 then if (jd t).2 then ((jd t).1,0) else (LUrl.zero,3) else (LUrl.zero,2)
theorem Qy (t:Tx) (ht:t.length < 1048577):ag Tryz.prog 200 [.val (tx t)] (.ret (Ss (tv t)) []) []:=by
 refine aj mixed ok200 rfl (fun _=>rfl) ?_
 unfold ir200
 rw [aa]
 unfold tv
 simp [ah,am,ax,ac,af,tx]
 refine ab rfl rfl (.inl rfl) (i_long t) ?_
 by_cases hl:t.length≤65536
 · rw [if_pos hl,if_pos hl]
   simp [tx,num]
   refine o5 rfl rfl (.inl rfl) (i_parse t ht) ?_
   cases hok:(jd t).2 with
   | true=>
    rw [if_pos rfl]
    simp [tx,num,oq,ao]
    refine Dp (id:=2) ?_ ?_ ?_
    · simp
    · simp [ai,tx,num]
    · simp [num]
   | false=>
    rw [if_neg (by simp)]
    simp [tx,num,oq,ao]
    refine Dp (id:=2) ?_ ?_ ?_
    · simp
    · simp [ai,LUrl.zero,tx,num,bs]
    · simp [num]
 · rw [if_neg hl,if_neg hl]
   simp [tx,num]
   refine Dp (id:=2) ?_ ?_ ?_
   · simp
   · simp [ai,LUrl.zero,tx,num,bs]
   · simp [num]
theorem Oy (u:LUrl) (hs:Tiny u) (st:St) (e4:st.env 4=.ptr 4 0) (m4:st.mem 4=.box (ai { u with frag:=[],hasF:=false })):EC Tryz.prog ir164_from4 st (K:=⟨sw [.t 2,.t 3] (o7 (some (uh { u with frag:=[],hasF:=false })))⟩):=by
 unfold ir164_from4
 obtain ⟨s1,s2,s3,s4,s5,s6,p0,p1⟩:=hs
 have ht:Tiny { u with frag:=[],hasF:=false }:=⟨s1,s2,s3,s4,s5,by simp,p0,p1⟩
 simp [e4,m4,ai,tx,num,ao]
 refine ab rfl rfl (.inl rfl) (W8 { u with frag:=[],hasF:=false } ht.small p0) ?_
 simp [o7]
theorem Sq (t:Tx) (ht:t.length < 1048577):ag Tryz.prog 164 [.val (tx t)] (.ret (o7 (tp t)) []) []:=by
 refine aj mixed ok164 rfl (fun _=>rfl) ?_
 unfold ir164
 rw [aa]
 have htn:=tiny_of (Nc ht)
 have hpu:=Qy t ht
 by_cases hl:t.length≤65536
 · cases hok:(jd t).2 with
   | false=>
    have e1:tp t=none:=by unfold tp;rw [if_pos hl,hok];rfl
    have e2:tv t=(LUrl.zero,3):=by unfold tv;rw [if_pos hl,hok];rfl
    rw [e1]
    rw [e2] at hpu
    simp [ah,am,ax,ac,af,tx]
    refine o5 rfl rfl (.inl rfl) hpu ?_
    simp [tx,num,oq,ao,o7,bs]
   | true=>
    have e2:tv t=((jd t).1,0):=by unfold tv;rw [if_pos hl,hok];rfl
    rw [e2] at hpu
    cases hw:qf (jd t).1.scheme with
    | false=>
     have e1:tp t=none:=by unfold tp;rw [if_pos hl,hok,hw];rfl
     rw [e1]
     simp [ah,am,ax,ac,af,tx]
     refine o5 rfl rfl (.inl rfl) hpu ?_
     simp [tx,num,oq,ao]
     refine ab rfl rfl (.inl rfl) (N0 (jd t).1) ?_
     rw [hw]
     simp [tx,num,o7,bs]
    | true=>
     have e1:tp t=some (uh { (jd t).1 with frag:=[],hasF:=false }):=by unfold tp;rw [if_pos hl,hok,hw];rfl
     rw [e1]
     simp [ah,am,ax,ac,af,tx]
     refine o5 rfl rfl (.inl rfl) hpu ?_
     simp [tx,num,oq,ao]
     refine ab rfl rfl (.inl rfl) (N0 (jd t).1) ?_
     rw [hw]
     simp [tx,num]
     refine Oy (jd t).1 htn _ ?_ ?_<;>simp [ai,tx,num,bs]
 · have e1:tp t=none:=by unfold tp;rw [if_neg hl]
   have e2:tv t=(LUrl.zero,2):=by unfold tv;rw [if_neg hl]
   rw [e1]
   rw [e2] at hpu
   simp [ah,am,ax,ac,af,tx]
   refine o5 rfl rfl (.inl rfl) hpu ?_
   simp [tx,num,oq,ao,o7,bs]
structure JT (st:St) (x:LTarget):Prop where
 e1:st.env 1=.ptr 1 0
 m1:st.mem 1=.box [.val (tx x.url),.val (num x.prio),.val (num x.weight)]
theorem Ww {Ks:Kx (St→Prop)} {kx:Kx (RV→St→Prop)} {st:St} {x:LTarget} {b:Bool} (h:JT st x) (hb:st.env 17=.val (.bool b)) (hK:∀ st',st'.env 2=.val (.bool (b && (decide (1≤x.prio∧x.prio≤9) && decide (1≤x.weight∧x.weight≤9))))→Ks.k st'):EO Tryz.prog ir169_o18 st (Ks:=Ks) (kx:=kx):=by
 unfold ir169_o18
 cases b with
 | false=>
  simp [hb]
  exact hK _ (by simp)
 | true=>
  simp [hb,h.e1,h.m1,num]
  refine ab rfl rfl (.inl rfl) (mc x.prio 1 9) ?_
  cases hp:decide (1≤x.prio∧x.prio≤9) with
  | false=>
   simp
   exact hK _ (by simp [hp])
  | true=>
   simp [h.e1,h.m1,num]
   refine ab rfl rfl (.inl rfl) (mc x.weight 1 9) ?_
   simp
   exact hK _ (by rw [hp];simp)
theorem Hg (x:LTarget) (hx:x.url.length < 1048577):ag Tryz.prog 169 [.val (al x)] (.ret (.val (.bool (l0 x))) []) []:=by
 refine aj mixed ok169 rfl (fun _=>rfl) ?_
 unfold ir169
 rw [aa,← Lf,Bool.and_assoc]
 simp [ah,am,ax,ac,af,al,tx,num]
 refine o5 rfl rfl (.inl rfl) (Sq x.url hx) ?_
 cases hc:tp x.url with
 | none=>
  simp
  refine Ww (x:=x) (b:=false) ⟨?_,?_⟩ ?_ (fun st' q=>?_)
  · simp
  · simp [tx,num]
  · simp
  · simp [q]
 | some u=>
  simp [tx,ka]
  refine Ww (x:=x) (b:=decide (u=x.url)) ⟨?_,?_⟩ ?_ (fun st' q=>?_)
  · simp
  · simp [tx,num]
  · simp
  · simp [q]
theorem T4 (x:LTarget) (url:Tx):ag Tryz.prog 228 [.val (al x),.box [tx url]] (.ret (.val (.bool (decide (x.url=url)))) []) [[tx url]]:=by
 refine nz mixed ok228 rfl (fun _=>rfl) ?_
 unfold ir228
 rw [aa]
 simp [ah,am,ax,ac,af,al,tx,num,ka,mw,mh]
theorem Gf {l:List LTarget} {j:Nat} (h:j < l.length):(l.map al)[j]?.getD .nilptr=al l[j]:=by simp [List.getElem?_eq_getElem h]
theorem Lm (l:List LTarget) (g:Nat) (c:RV) (p:LTarget→Bool) (hl:l.length < 1099511627776) (hg:fnB Tryz.prog g=true)
 (hp:∀ x∈l,ag Tryz.prog g [.val (al x),.box [c]] (.ret (.val (.bool (p x))) []) [[c]]) :
 ag Tryz.prog 205 [.val (.list 3 (l.map al)),.fn g [.box [c]]] (.ret (.val (num (qz l p))) []) [[c]]:=by
 refine nz mixed ok205 rfl (fun _=>rfl) ?_
 unfold ir205
 rw [aa]
 simp [ah,am,ax,ac,af,ax,am]
 refine ay (X:=Nat) (fun i=>⟨co [(0,.val (.list 3 (l.map al))),(1,.fn g [.ptr 900 0]),(7,.val (num l.length)),(8,.val (num i))],cu [(900,.box [.val c])]⟩) (fun i=>i≤l.length∧∀ k (hk:k < i) (hk':k < l.length),p l[k]=false) (fun i=>l.length - i) 0 (Le.mk _ _ ?_ ?_) ?_ ?_
 · simp [upd,num]
 · simp
 · simp
 · rintro i ⟨hi,hne⟩
   simp [num]
   refine ak (fun h1=>?_) (fun h1=>?_)
   · have e1:=Gf h1
     simp [num,h1,e1,al,tx,hg]
     refine ne (ids:=[900]) rfl rfl (by simp) (by decide) (by simp [tw,dz,ia,d8,gy,d9,ck,d7,gz,bm,ew,ir,iu,au,cf,cg,bf,eb,cj,bh,gx,dy,ci,ch,f9,ga,ql,qn,Option.getD_some,Option.getD_none,fo,cq,b9,f5,b8,bv,f8,bw,f7,fz,fy,iz,dl,b6,fw,dh,bz,fv,fl,fx,di,ft,bu,dg,fu,i7,i6,fm,fp,bx,fq,dm,b7,fa,bo,fk,fj,fi,iv,dc,bq,fg,da,bp,ff,ex,fh,db,fc,bn,cz,fe,ix,iw,ez,cx,bt,fb,de,br,jq,jp,j5,jr,jv,jt,js,j4,ju,jw,jx,jy,jz,eg,ef,ed,kj,kl,ek,ib,ct,ge,dq,j7,cl,l4,ko,kf,lb,ld,lc,l5,l6,ji,jk,jj,jl,jm,k8,dt,k7,gf,gg,gh,du,qp,gu,dx,l2,l3,i8,km,kn,Option.map_some,Option.map_none,gm,dv,dp,ca,gc,gd,jc,jb,lj,li,jo,gv,gw,jn,lf,lg,je,cd,jf,cb,ku,gt,gr,bg,la,lh,jh,ky,k6,kz,dr,eq,eu,er,ba,k9,l8,l7,kq,jg,ns,kr,ce,gp,gq,dw,gn,bd,cv,bc,cw,bb,j6,lk,ll,eh,ei,ie,ic,gb]) rfl (hp l[i] (List.getElem_mem h1)) ?_
     cases hpi:p l[i] with
     | true=>
      simp [mw,mh]
      rw [p7 h1 hpi (fun k hk=>hne k hk (by omega))];rfl
     | false=>
      simp
      refine LoopNext.mk (i+1) ⟨by omega,fun k hk hk'=>?_⟩ (by omega) (Le.mk _ _ ?_ ?_)
      · by_cases e:k=i
        · subst e;exact hpi
        · exact hne k (by omega) hk'
      · simp [num];exact wrap_i64 (by omega) (by omega)
      · simp
   · have e:i=l.length:=by omega
     subst e
     simp [num,mw,mh]
     rw [o3 (fun k hk=>hne k hk hk)]
theorem Fs (l:List LTarget) (g:Nat) (c:RV) (p:LTarget→Bool) (hl:l.length < 1099511627776) (hg:fnB Tryz.prog g=true)
 (hp:∀ x∈l,ag Tryz.prog g [.val (al x),.box [c]] (.ret (.val (.bool (p x))) []) [[c]]) :
 ag Tryz.prog 167 [.val (.list 3 (l.map al)),.fn g [.box [c]]] (.ret (.val (.bool (l.any p))) []) [[c]]:=by
 refine nz mixed ok167 rfl (fun _=>rfl) ?_
 unfold ir167
 rw [aa]
 simp [ah,am,ax,ac,af,ax,am]
 refine ne (ids:=[900]) rfl rfl (by simp) (by decide) (by simp [tw,dz,ia,d8,gy,d9,ck,d7,gz,bm,ew,ir,iu,au,cf,cg,bf,eb,cj,bh,gx,dy,ci,ch,f9,ga,ql,qn,Option.getD_some,Option.getD_none,fo,cq,b9,f5,b8,bv,f8,bw,f7,fz,fy,iz,dl,b6,fw,dh,bz,fv,fl,fx,di,ft,bu,dg,fu,i7,i6,fm,fp,bx,fq,dm,b7,fa,bo,fk,fj,fi,iv,dc,bq,fg,da,bp,ff,ex,fh,db,fc,bn,cz,fe,ix,iw,ez,cx,bt,fb,de,br,jq,jp,j5,jr,jv,jt,js,j4,ju,jw,jx,jy,jz,eg,ef,ed,kj,kl,ek,ib,ct,ge,dq,j7,cl,l4,ko,kf,lb,ld,lc,l5,l6,ji,jk,jj,jl,jm,k8,dt,k7,gf,gg,gh,du,qp,gu,dx,l2,l3,i8,km,kn,Option.map_some,Option.map_none,gm,dv,dp,ca,gc,gd,jc,jb,lj,li,jo,gv,gw,jn,lf,lg,je,cd,jf,cb,ku,gt,gr,bg,la,lh,jh,ky,k6,kz,dr,eq,eu,er,ba,k9,l8,l7,kq,jg,ns,kr,ce,gp,gq,dw,gn,bd,cv,bc,cw,bb,j6,lk,ll,eh,ei,ie,ic,gb]) rfl (Lm l g c p hl hg hp) ?_
 simp [num,mw,mh]
 exact xb l p
theorem Xe (l:List LTarget) (url:Tx) (hl:l.length < 1099511627776):ag Tryz.prog 204 [.val (.list 3 (l.map al)),.val (tx url)] (.ret (.val (.bool (l.any fun x=>decide (x.url=url)))) []) []:=by
 refine aj mixed ok204 rfl (fun _=>rfl) ?_
 unfold ir204
 rw [aa]
 simp [ah,am,ax,ac,af,tx]
 refine ne (ids:=[3]) rfl rfl (by simp) (by decide) (by simp [tw,dz,ia,d8,gy,d9,ck,d7,gz,bm,ew,ir,iu,au,cf,cg,bf,eb,cj,bh,gx,dy,ci,ch,f9,ga,ql,qn,Option.getD_some,Option.getD_none,fo,cq,b9,f5,b8,bv,f8,bw,f7,fz,fy,iz,dl,b6,fw,dh,bz,fv,fl,fx,di,ft,bu,dg,fu,i7,i6,fm,fp,bx,fq,dm,b7,fa,bo,fk,fj,fi,iv,dc,bq,fg,da,bp,ff,ex,fh,db,fc,bn,cz,fe,ix,iw,ez,cx,bt,fb,de,br,jq,jp,j5,jr,jv,jt,js,j4,ju,jw,jx,jy,jz,eg,ef,ed,kj,kl,ek,ib,ct,ge,dq,j7,cl,l4,ko,kf,lb,ld,lc,l5,l6,ji,jk,jj,jl,jm,k8,dt,k7,gf,gg,gh,du,qp,gu,dx,l2,l3,i8,km,kn,Option.map_some,Option.map_none,gm,dv,dp,ca,gc,gd,jc,jb,lj,li,jo,gv,gw,jn,lf,lg,je,cd,jf,cb,ku,gt,gr,bg,la,lh,jh,ky,k6,kz,dr,eq,eu,er,ba,k9,l8,l7,kq,jg,ns,kr,ce,gp,gq,dw,gn,bd,cv,bc,cw,bb,j6,lk,ll,eh,ei,ie,ic,gb,tx]) rfl (Fs l 228 (tx url) (fun x=>decide (x.url=url)) hl (by kernel_rfl) (fun x _=>T4 x url)) ?_
 simp
end Go.Proofs
end
