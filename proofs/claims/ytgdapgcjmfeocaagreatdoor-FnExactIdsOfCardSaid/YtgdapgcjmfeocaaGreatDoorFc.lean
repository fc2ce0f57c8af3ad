/- Fc: merged out of KXm, KXa, KXh. -/
import Derived.Test.YtgdapgcjmfeocaaGreatDoorPWw
import Derived.Test.YtgdapgcjmfeocaaGreatDoorCa
import Derived.Test.YtgdapgcjmfeocaaGreatDoorAc
import Derived.Test.YtgdapgcjmfeocaaGreatDoorBa
import Derived.Test.YtgdapgcjmfeocaaGreatDoorCc
import Derived.Test.YtgdapgcjmfeocaaGreatDoorPWae
set_option linter.unusedSectionVars false
set_option linter.unusedSimpArgs false
set_option linter.unusedVariables false
set_option maxRecDepth 100000
section
namespace Go.Proofs
open Go.PW Go.KP
attribute [local simp] RV.cells RV.one PV.cells PV.solid PV.one im ao kh ke RV.ofCells elems PV.killL
variable [GF]
theorem qw (k:Nat) (hk:k < 1099511627776):ag Tryz.prog 94 [.val (num k)] (.ret (.val (tx (lmk k))) []) []:=by
 refine aj mixed ok94 rfl (fun _=>rfl) ?_
 unfold ir94
 rw [aa]
 unfold lmk
 by_cases h0:k=0
 · subst h0
   simp [ah,am,ax,ac,af,num,tx,bs]
 · have h0':¬ (k:Int)≤0:=by omega
   rw [if_neg h0]
   simp [ah,am,ax,ac,af,num,h0',h0]
   refine ay (X:=Nat×Tx) (fun x=>⟨co [(0,.val (num x.1)),(3,.val (tx x.2))],cu []⟩) (fun x=>x.1≤k∧x.2.length+x.1≤k∧I0 x.1 x.2=I0 k []) (fun x=>x.1) (k,[]) (Le.mk _ _ ?_ ?_) ⟨Nat.le_refl _,by simp,rfl⟩ ?_
   · simp [upd,num,tx,bs]
   · simp
   · rintro ⟨m,out⟩ ⟨hm,hlen,hF⟩
     simp only at hm hlen hF
     by_cases hz:m=0
     · subst hz
       rw [Tp] at hF
       subst hF
       have hlk:1+(I0 k []).length≤9223372036854775807:=by omega
       simp [num,tx,bs_mk,kb,ae,hlk]
     · have hp:(0:Int) < (m:Int):=by omega
       have hp2:0 < m:=by omega
       rw [Wo hz] at hF
       have g6:(m:Int).tdiv 10=((m / 10:Nat):Int):=by rw [Int.tdiv_eq_ediv_of_nonneg (by omega)];omega
       have g7:(m:Int).tmod 10=((m % 10:Nat):Int):=by rw [Int.tmod_eq_emod_of_nonneg (by omega)];omega
       have ha:m / 10 < m:=Nat.div_lt_self (by omega) (by omega)
       have hb:m % 10 < 10:=Nat.mod_lt _ (by omega)
       have hl10:(UInt8.ofNat (48+m % 10) :: out).length+m / 10≤k:=by simp only [List.length_cons];omega
       have g8:IntKind.i64.wrap ((m / 10:Nat):Int)=((m / 10:Nat):Int):=wrap_i64 (by omega) (by omega)
       have g4:IntKind.i64.wrap (48+((m % 10:Nat):Int))=48+((m % 10:Nat):Int):=wrap_i64 (by omega) (by omega)
       have g5:IntKind.u8.wrap (48+((m % 10:Nat):Int))=48+((m % 10:Nat):Int):=Fz (by omega) (by omega)
       have g9:=X3 (m % 10)
       generalize m / 10=a at *
       generalize m % 10=b at *
       have hsz:1+out.length≤9223372036854775807:=by simp only [List.length_cons] at hl10;omega
       simp [ah,am,ax,ac,af,num,tx,hp,hp2,hz,g6,g7,g8,g4,g5,RV.isU8,g9,ae,kb]
       refine ⟨hsz,LoopNext.mk (a,UInt8.ofNat (48+b) :: out) ⟨by omega,hl10,hF⟩ ha (Le.mk _ _ ?_ ?_)⟩
       · simp [num,tx]
       · simp
end Go.Proofs
end
section
namespace Go.Proofs
open Go.PW Go.KP
attribute [local simp] RV.cells RV.one PV.cells PV.solid PV.one im ao kh ke RV.ofCells elems PV.killL
variable [GF]
theorem D6 (l:List Tx) (hx:bdS 1048576 (fun t=>t.length≤1048576) l):ag Tryz.prog 76 [.val (.list 1 (l.map tx))] (.ret (.own 0) [⟨9,1,l.map tx⟩]) []:=by
 refine yv (mk:=fun i=>.own i) mixed ok76 rfl (fun _=>rfl) ?_
 unfold ir76
 rw [aa]
 have hl:l.length≤1048576:=hx.1
 simp [ah,am,ax,ac,af,num,im]
 refine ⟨by omega,by omega,?_⟩
 refine ay (X:=Nat) (fun i=>⟨co [(0,.val (.list 1 (l.map tx))),(3,.own 7),(4,.val (num i))],cu [(7,.row 9 1 (t7 tx (.str (bs [])) l i))]⟩) (fun i=>i≤l.length) (fun i=>l.length - i) 0 (Le.mk _ _ ?_ ?_) ?_ ?_
 · simp [upd,num,PV.kill]
 · simp [upd,num,bs,v6]
 · simp
 · intro i hi
   have hlen:=xw tx (.str (bs [])) l i hi
   simp [num,im]
   refine ak (fun h1=>?_) (fun h1=>?_)
   · have e1:(l.map tx)[i]?.getD .nilptr=tx l[i]:=by simp [List.getElem?_eq_getElem h1]
     have e2:=An tx (.str (bs [])) l i h1
     have e3:=xv tx (.str (bs [])) l i h1
     have e4:(t7 tx (.str (bs [])) l i)[i]'(by omega)=(.str (bs [])):=by
      have h9:=e2
      rw [List.getElem?_eq_getElem (show i < (t7 tx (.str (bs [])) l i).length by omega)] at h9
      exact h9
     simp [num,h1,e1,tx,hlen,im]
     refine LoopNext.mk (i+1) (by omega) (by omega) (Le.mk _ _ ?_ ?_)
     · simp [num];exact wrap_i64 (by omega) (by omega)
     · rw [← e3]
       simp [num,tx,e4]
   · have e1:i=l.length:=by omega
     subst e1
     simp [num,xx,rf,PV.pl]
theorem Tj {K:Kx (PExit→St→Prop)} (xs:List RV) (k i:Nat) (a0:ByteArray) (hi:i < xs.length) (hk:k < 549755813888) (hl:xs.length < 1099511627776) (hx:xs[i]?.getD .nilptr=.str a0)
 (hn:∀ st':St,st'.env 0=.own 900→st'.env 1=.val (num ((k+1:Nat):Int))→st'.env 5=.val (num ((i+1:Nat):Int))→st'.mem 900=.row 9 1 (xs.set i (tx (lmk k)))→K.k .normal st') :
 EC Tryz.prog ir98_l6 ⟨co [(0,.own 900),(1,.val (num k)),(5,.val (num i))],cu [(900,.row 9 1 xs)]⟩ (K:=K):=by
 unfold ir98_l6
 have s1:IntKind.i64.wrap ((k:Int)+1)=(k:Int)+1:=wrap_i64 (by omega) (by omega)
 have hmk0:ag Tryz.prog 94 [.val (.int .i64 ((k:Int)))] (.ret (.val (.str (bs (lmk (k+0))))) []) []:=by
  have h:=qw (k+0) (by omega)
  exact h
 have si:IntKind.i64.wrap ((i:Int)+1)=(i:Int)+1:=wrap_i64 (by omega) (by omega)
 have hx':xs[i]=.str a0:=by rw [← hx];simp [List.getElem?_eq_getElem hi]
 simp [num,hi]
 refine ab rfl rfl (.inl rfl) hmk0 ?_
 simp [num,hi,hx,tx,s1]
 refine hn _ ?_ ?_ ?_ ?_
 · simp
 · simp only [dz,ia,d8,gy,d9,ck,d7,gz,bm,ew,ir,iu,au,cf,cg,bf,eb,cj,bh,gx,dy,ci,ch,f9,ga,ql,qn,Option.getD_some,Option.getD_none,fo,cq,b9,f5,b8,bv,f8,bw,f7,fz,fy,iz,dl,b6,fw,dh,bz,fv,fl,fx,di,ft,bu,dg,fu,i7,i6,fm,fp,bx,fq,dm,b7,fa,bo,fk,fj,fi,iv,dc,bq,fg,da,bp,ff,ex,fh,db,fc,bn,cz,fe,ix,iw,ez,cx,bt,fb,de,br,jq,jp,j5,jr,jv,jt,js,j4,ju,jw,jx,jy,jz,eg,ef,ed,kj,kl,ek,ib,ct,ge,dq,j7,cl,l4,ko,kf,lb,ld,lc,l5,l6,ji,jk,jj,jl,jm,k8,dt,k7,gf,gg,gh,du,qp,gu,dx,l2,l3,i8,km,kn,Option.map_some,Option.map_none,gm,dv,dp,ca,gc,gd,jc,jb,lj,li,jo,gv,gw,jn,lf,lg,je,cd,jf,cb,ku,gt,gr,bg,la,lh,jh,ky,k6,kz,dr,eq,eu,er,ba,k9,l8,l7,kq,jg,ns,kr,ce,gp,gq,dw,gn,bd,cv,bc,cw,bb,j6,lk,ll,eh,ei,ie,ic,gb,ek,s1,num]
   simp
   try omega
 · simp [num,si]
 · simp [hi,hx,hx']
   try simp [s1,num,tx]
theorem xp (l:List Tx) (k:Nat) (hk:k < 8388608) (hl:l.length≤1048576):vz Tryz.prog 98 (.own 0) 9 1 (l.map tx) [.val (num k)] (num ((k+1*l.length:Nat):Int)) ((mkL lmk 1 l.length k).map tx):=by
 refine u4 mixed ok98 rfl ?_
 unfold ir98
 rw [aa]
 simp [ah,am,ax,ac,af,n5,PV.nm,num]
 refine ay (X:=Nat) (fun i=>⟨co [(0,.own 900),(1,.val (num ((k+1*i:Nat):Int))),(5,.val (num i))],cu [(900,.row 9 1 ((mkU lmk 1 l k i).map tx))]⟩) (fun i=>i≤l.length) (fun i=>l.length - i) 0 (Le.mk _ _ ?_ ?_) (Nat.zero_le _) ?_
 · simp [upd,num,PV.kill]
 · simp [x2]
 · intro i hi
   have hml:=At lmk 1 l k i hi
   by_cases h1:i < l.length
   · have hmi:i < (mkU lmk 1 l k i).length:=by omega
     have hset:=As lmk 1 l k i h1
     refine Tj ((mkU lmk 1 l k i).map tx) (k+1*i) i (bs (mkU lmk 1 l k i)[i]) (by simpa using hmi) (by omega) (by simp;omega) (by simp [List.getElem?_eq_getElem hmi,tx]) (fun st' q0 q1 q5 qm=>?_)
     simp
     refine LoopNext.mk (i+1) h1 (by omega) (Le.mk _ _ ?_ ?_)
     · simp [q0,q1,q5,num]
       omega
     · rw [← List.map_set,hset] at qm
       simp [qm]
   · have e:i=l.length:=by omega
     subst e
     unfold ir98_l6
     simp [num,hml,Au,sf]
theorem Ja (l:List Int) (hx:l.length≤1048576):ag Tryz.prog 120 [.val (.list 1 (l.map num))] (.ret (.own 0) [⟨3,1,l.map num⟩]) []:=by
 refine yv (mk:=fun i=>.own i) mixed ok120 rfl (fun _=>rfl) ?_
 unfold ir120
 rw [aa]
 have hl:l.length≤1048576:=hx
 simp [ah,am,ax,ac,af,num,im]
 refine ⟨by omega,by omega,?_⟩
 refine ay (X:=Nat) (fun i=>⟨co [(0,.val (.list 1 (l.map num))),(3,.own 7),(4,.val (num i))],cu [(7,.row 3 1 (t7 num (.int .i64 0) l i))]⟩) (fun i=>i≤l.length) (fun i=>l.length - i) 0 (Le.mk _ _ ?_ ?_) ?_ ?_
 · simp [upd,num,PV.kill]
 · simp [upd,num,bs,v6]
 · simp
 · intro i hi
   have hlen:=xw num (.int .i64 0) l i hi
   simp [num,im]
   refine ak (fun h1=>?_) (fun h1=>?_)
   · have e1:(l.map num)[i]?.getD .nilptr=num l[i]:=by simp [List.getElem?_eq_getElem h1]
     have e2:=An num (.int .i64 0) l i h1
     have e3:=xv num (.int .i64 0) l i h1
     have e4:(t7 num (.int .i64 0) l i)[i]'(by omega)=(.int .i64 0):=by
      have h9:=e2
      rw [List.getElem?_eq_getElem (show i < (t7 num (.int .i64 0) l i).length by omega)] at h9
      exact h9
     simp [num,h1,e1,tx,hlen,im]
     refine LoopNext.mk (i+1) (by omega) (by omega) (Le.mk _ _ ?_ ?_)
     · simp [num];exact wrap_i64 (by omega) (by omega)
     · rw [← e3]
       simp [num,tx,e4]
   · have e1:i=l.length:=by omega
     subst e1
     simp [num,xx,rf,PV.pl]
theorem Tk {K:Kx (PExit→St→Prop)} (xs:List RV) (k i:Nat) (a0:Int) (hi:i < xs.length) (hk:k < 549755813888) (hl:xs.length < 1099511627776) (hx:xs[i]?.getD .nilptr=.int .i64 a0)
 (hn:∀ st':St,st'.env 0=.own 900→st'.env 1=.val (num ((k+1:Nat):Int))→st'.env 5=.val (num ((i+1:Nat):Int))→st'.mem 900=.row 3 1 (xs.set i (num (ua k)))→K.k .normal st') :
 EC Tryz.prog ir25_l6 ⟨co [(0,.own 900),(1,.val (num k)),(5,.val (num i))],cu [(900,.row 3 1 xs)]⟩ (K:=K):=by
 unfold ir25_l6
 have s1:IntKind.i64.wrap ((k:Int)+1)=(k:Int)+1:=wrap_i64 (by omega) (by omega)
 have si:IntKind.i64.wrap ((i:Int)+1)=(i:Int)+1:=wrap_i64 (by omega) (by omega)
 have hx':xs[i]=.int .i64 a0:=by rw [← hx];simp [List.getElem?_eq_getElem hi]
 simp [num,hi,hx,s1]
 refine hn _ ?_ ?_ ?_ ?_
 · simp
 · simp only [dz,ia,d8,gy,d9,ck,d7,gz,bm,ew,ir,iu,au,cf,cg,bf,eb,cj,bh,gx,dy,ci,ch,f9,ga,ql,qn,Option.getD_some,Option.getD_none,fo,cq,b9,f5,b8,bv,f8,bw,f7,fz,fy,iz,dl,b6,fw,dh,bz,fv,fl,fx,di,ft,bu,dg,fu,i7,i6,fm,fp,bx,fq,dm,b7,fa,bo,fk,fj,fi,iv,dc,bq,fg,da,bp,ff,ex,fh,db,fc,bn,cz,fe,ix,iw,ez,cx,bt,fb,de,br,jq,jp,j5,jr,jv,jt,js,j4,ju,jw,jx,jy,jz,eg,ef,ed,kj,kl,ek,ib,ct,ge,dq,j7,cl,l4,ko,kf,lb,ld,lc,l5,l6,ji,jk,jj,jl,jm,k8,dt,k7,gf,gg,gh,du,qp,gu,dx,l2,l3,i8,km,kn,Option.map_some,Option.map_none,gm,dv,dp,ca,gc,gd,jc,jb,lj,li,jo,gv,gw,jn,lf,lg,je,cd,jf,cb,ku,gt,gr,bg,la,lh,jh,ky,k6,kz,dr,eq,eu,er,ba,k9,l8,l7,kq,jg,ns,kr,ce,gp,gq,dw,gn,bd,cv,bc,cw,bb,j6,lk,ll,eh,ei,ie,ic,gb,ek,s1,num]
   simp
   try omega
 · simp [num,si]
 · simp [hi,hx,hx']
   try simp [s1,ua,num,tx]
theorem Hj (l:List Int) (k:Nat) (hk:k < 8388608) (hl:l.length≤1048576):vz Tryz.prog 25 (.own 0) 3 1 (l.map num) [.val (num k)] (num ((k+1*l.length:Nat):Int)) ((mkL ua 1 l.length k).map num):=by
 refine u4 mixed ok25 rfl ?_
 unfold ir25
 rw [aa]
 simp [ah,am,ax,ac,af,n5,PV.nm,num]
 refine ay (X:=Nat) (fun i=>⟨co [(0,.own 900),(1,.val (num ((k+1*i:Nat):Int))),(5,.val (num i))],cu [(900,.row 3 1 ((mkU ua 1 l k i).map num))]⟩) (fun i=>i≤l.length) (fun i=>l.length - i) 0 (Le.mk _ _ ?_ ?_) (Nat.zero_le _) ?_
 · simp [upd,num,PV.kill]
 · simp [x2]
 · intro i hi
   have hml:=At ua 1 l k i hi
   by_cases h1:i < l.length
   · have hmi:i < (mkU ua 1 l k i).length:=by omega
     have hset:=As ua 1 l k i h1
     refine Tk ((mkU ua 1 l k i).map num) (k+1*i) i (mkU ua 1 l k i)[i] (by simpa using hmi) (by omega) (by simp;omega) (by simp [List.getElem?_eq_getElem hmi,num]) (fun st' q0 q1 q5 qm=>?_)
     simp
     refine LoopNext.mk (i+1) h1 (by omega) (Le.mk _ _ ?_ ?_)
     · simp [q0,q1,q5,num]
       omega
     · rw [← List.map_set,hset] at qm
       simp [qm]
   · have e:i=l.length:=by omega
     subst e
     unfold ir25_l6
     simp [num,hml,Au,sf]
theorem D5 (l:List LTarget) (hx:bdS 1048576 (nt 1048576) l):ag Tryz.prog 155 [.val (.list 3 (l.map al))] (.ret (.own 0) [⟨162,3,l.map al⟩]) []:=by
 refine yv (mk:=fun i=>.own i) mixed ok155 rfl (fun _=>rfl) ?_
 unfold ir155
 rw [aa]
 have hl:l.length≤1048576:=hx.1
 simp [ah,am,ax,ac,af,num,im]
 refine ⟨by omega,by omega,?_⟩
 refine ay (X:=Nat) (fun i=>⟨co [(0,.val (.list 3 (l.map al))),(3,.own 7),(4,.val (num i))],cu [(7,.row 162 3 (t7 al (.agg [.str (bs []),.int .i64 0,.int .i64 0]) l i))]⟩) (fun i=>i≤l.length) (fun i=>l.length - i) 0 (Le.mk _ _ ?_ ?_) ?_ ?_
 · simp [upd,num,PV.kill]
 · simp [upd,num,bs,v6]
 · simp
 · intro i hi
   have hlen:=xw al (.agg [.str (bs []),.int .i64 0,.int .i64 0]) l i hi
   simp [num,im]
   refine ak (fun h1=>?_) (fun h1=>?_)
   · have e1:(l.map al)[i]?.getD .nilptr=al l[i]:=by simp [List.getElem?_eq_getElem h1]
     have e2:=An al (.agg [.str (bs []),.int .i64 0,.int .i64 0]) l i h1
     have e3:=xv al (.agg [.str (bs []),.int .i64 0,.int .i64 0]) l i h1
     have e4:(t7 al (.agg [.str (bs []),.int .i64 0,.int .i64 0]) l i)[i]'(by omega)=(.agg [.str (bs []),.int .i64 0,.int .i64 0]):=by
      have h9:=e2
      rw [List.getElem?_eq_getElem (show i < (t7 al (.agg [.str (bs []),.int .i64 0,.int .i64 0]) l i).length by omega)] at h9
      exact h9
     simp [num,h1,e1,al,tx,hlen,im]
     refine ab rfl rfl (.inl rfl) (Hm l[i] (hx.2 _ (List.getElem_mem h1))) ?_
     simp [num,h1,e1,e2,al,tx,hlen,im]
     refine LoopNext.mk (i+1) (by omega) (by omega) (Le.mk _ _ ?_ ?_)
     · simp [num];exact wrap_i64 (by omega) (by omega)
     · rw [← e3]
       simp [al,num,tx,e4]
   · have e1:i=l.length:=by omega
     subst e1
     simp [num,xx,rf,PV.pl]
theorem Ky {K:Kx (PExit→St→Prop)} (xs:List RV) (k i:Nat) (a0 a1 a2:RV) (hi:i < xs.length) (hk:k < 549755813888) (hl:xs.length < 1099511627776) (hx:xs[i]?.getD .nilptr=.agg [a0,a1,a2])
 (hn:∀ st':St,st'.env 0=.own 900→st'.env 1=.val (num ((k+3:Nat):Int))→st'.env 5=.val (num ((i+1:Nat):Int))→st'.mem 900=.row 162 3 (xs.set i (al (ro k)))→K.k .normal st') :
 EC Tryz.prog ir95_l6 ⟨co [(0,.own 900),(1,.val (num k)),(5,.val (num i))],cu [(900,.row 162 3 xs)]⟩ (K:=K):=by
 unfold ir95_l6
 have s1:IntKind.i64.wrap ((k:Int)+1)=(k:Int)+1:=wrap_i64 (by omega) (by omega)
 have hmk0:ag Tryz.prog 94 [.val (.int .i64 ((k:Int)))] (.ret (.val (.str (bs (lmk (k+0))))) []) []:=by
  have h:=qw (k+0) (by omega)
  exact h
 have s2:IntKind.i64.wrap ((k:Int)+1+1)=(k:Int)+1+1:=wrap_i64 (by omega) (by omega)
 have c1:((k+1:Nat):Int)=(k:Int)+1:=by omega
 have s3:IntKind.i64.wrap ((k:Int)+1+1+1)=(k:Int)+1+1+1:=wrap_i64 (by omega) (by omega)
 have c2:((k+2:Nat):Int)=(k:Int)+1+1:=by omega
 have si:IntKind.i64.wrap ((i:Int)+1)=(i:Int)+1:=wrap_i64 (by omega) (by omega)
 have hx':xs[i]=.agg [a0,a1,a2]:=by rw [← hx];simp [List.getElem?_eq_getElem hi]
 simp [num,hi]
 refine ab rfl rfl (.inl rfl) hmk0 ?_
 simp [num,hi,hx,tx,s1,s2,s3]
 refine hn _ ?_ ?_ ?_ ?_
 · simp
 · simp only [dz,ia,d8,gy,d9,ck,d7,gz,bm,ew,ir,iu,au,cf,cg,bf,eb,cj,bh,gx,dy,ci,ch,f9,ga,ql,qn,Option.getD_some,Option.getD_none,fo,cq,b9,f5,b8,bv,f8,bw,f7,fz,fy,iz,dl,b6,fw,dh,bz,fv,fl,fx,di,ft,bu,dg,fu,i7,i6,fm,fp,bx,fq,dm,b7,fa,bo,fk,fj,fi,iv,dc,bq,fg,da,bp,ff,ex,fh,db,fc,bn,cz,fe,ix,iw,ez,cx,bt,fb,de,br,jq,jp,j5,jr,jv,jt,js,j4,ju,jw,jx,jy,jz,eg,ef,ed,kj,kl,ek,ib,ct,ge,dq,j7,cl,l4,ko,kf,lb,ld,lc,l5,l6,ji,jk,jj,jl,jm,k8,dt,k7,gf,gg,gh,du,qp,gu,dx,l2,l3,i8,km,kn,Option.map_some,Option.map_none,gm,dv,dp,ca,gc,gd,jc,jb,lj,li,jo,gv,gw,jn,lf,lg,je,cd,jf,cb,ku,gt,gr,bg,la,lh,jh,ky,k6,kz,dr,eq,eu,er,ba,k9,l8,l7,kq,jg,ns,kr,ce,gp,gq,dw,gn,bd,cv,bc,cw,bb,j6,lk,ll,eh,ei,ie,ic,gb,ek,s1,s2,s3,num]
   simp
   try omega
 · simp [num,si]
 · simp [hi,hx,hx']
   try simp [s1,s2,s3,c1,c2,al,ro,num,tx]
theorem I8 (l:List LTarget) (k:Nat) (hk:k < 8388608) (hl:l.length≤1048576):vz Tryz.prog 95 (.own 0) 162 3 (l.map al) [.val (num k)] (num ((k+3*l.length:Nat):Int)) ((mkL ro 3 l.length k).map al):=by
 refine u4 mixed ok95 rfl ?_
 unfold ir95
 rw [aa]
 simp [ah,am,ax,ac,af,n5,PV.nm,num]
 refine ay (X:=Nat) (fun i=>⟨co [(0,.own 900),(1,.val (num ((k+3*i:Nat):Int))),(5,.val (num i))],cu [(900,.row 162 3 ((mkU ro 3 l k i).map al))]⟩) (fun i=>i≤l.length) (fun i=>l.length - i) 0 (Le.mk _ _ ?_ ?_) (Nat.zero_le _) ?_
 · simp [upd,num,PV.kill]
 · simp [x2]
 · intro i hi
   have hml:=At ro 3 l k i hi
   by_cases h1:i < l.length
   · have hmi:i < (mkU ro 3 l k i).length:=by omega
     have hset:=As ro 3 l k i h1
     refine Ky ((mkU ro 3 l k i).map al) (k+3*i) i (tx (mkU ro 3 l k i)[i].url) (num (mkU ro 3 l k i)[i].prio) (num (mkU ro 3 l k i)[i].weight) (by simpa using hmi) (by omega) (by simp;omega) (by simp [List.getElem?_eq_getElem hmi,al]) (fun st' q0 q1 q5 qm=>?_)
     simp
     refine LoopNext.mk (i+1) h1 (by omega) (Le.mk _ _ ?_ ?_)
     · simp [q0,q1,q5,num]
       omega
     · rw [← List.map_set,hset] at qm
       simp [qm]
   · have e:i=l.length:=by omega
     subst e
     unfold ir95_l6
     simp [num,hml,Au,sf]
theorem Hn (l:List LPeer) (hx:bdS 1048576 (rc 1048576) l):ag Tryz.prog 117 [.val (.list 6 (l.map ig))] (.ret (.own 0) [⟨164,6,l.map ig⟩]) []:=by
 refine yv (mk:=fun i=>.own i) mixed ok117 rfl (fun _=>rfl) ?_
 unfold ir117
 rw [aa]
 have hl:l.length≤1048576:=hx.1
 simp [ah,am,ax,ac,af,num,im]
 refine ⟨by omega,by omega,?_⟩
 refine ay (X:=Nat) (fun i=>⟨co [(0,.val (.list 6 (l.map ig))),(3,.own 7),(4,.val (num i))],cu [(7,.row 164 6 (t7 ig (.agg [.str (bs []),.int .i64 0,.int .i64 0,.int .i64 0,.int .i64 0,.bool false]) l i))]⟩) (fun i=>i≤l.length) (fun i=>l.length - i) 0 (Le.mk _ _ ?_ ?_) ?_ ?_
 · simp [upd,num,PV.kill]
 · simp [upd,num,bs,v6]
 · simp
 · intro i hi
   have hlen:=xw ig (.agg [.str (bs []),.int .i64 0,.int .i64 0,.int .i64 0,.int .i64 0,.bool false]) l i hi
   simp [num,im]
   refine ak (fun h1=>?_) (fun h1=>?_)
   · have e1:(l.map ig)[i]?.getD .nilptr=ig l[i]:=by simp [List.getElem?_eq_getElem h1]
     have e2:=An ig (.agg [.str (bs []),.int .i64 0,.int .i64 0,.int .i64 0,.int .i64 0,.bool false]) l i h1
     have e3:=xv ig (.agg [.str (bs []),.int .i64 0,.int .i64 0,.int .i64 0,.int .i64 0,.bool false]) l i h1
     have e4:(t7 ig (.agg [.str (bs []),.int .i64 0,.int .i64 0,.int .i64 0,.int .i64 0,.bool false]) l i)[i]'(by omega)=(.agg [.str (bs []),.int .i64 0,.int .i64 0,.int .i64 0,.int .i64 0,.bool false]):=by
      have h9:=e2
      rw [List.getElem?_eq_getElem (show i < (t7 ig (.agg [.str (bs []),.int .i64 0,.int .i64 0,.int .i64 0,.int .i64 0,.bool false]) l i).length by omega)] at h9
      exact h9
     simp [num,h1,e1,al,ig,tx,hlen,im]
     refine ab rfl rfl (.inl rfl) (Xh l[i] (hx.2 _ (List.getElem_mem h1))) ?_
     simp [num,h1,e1,e2,al,ig,tx,hlen,im]
     refine LoopNext.mk (i+1) (by omega) (by omega) (Le.mk _ _ ?_ ?_)
     · simp [num];exact wrap_i64 (by omega) (by omega)
     · rw [← e3]
       simp [al,ig,num,tx,e4]
   · have e1:i=l.length:=by omega
     subst e1
     simp [num,xx,rf,PV.pl]
theorem Qb {K:Kx (PExit→St→Prop)} (xs:List RV) (k i:Nat) (a0 a1 a2 a3 a4 a5:RV) (hi:i < xs.length) (hk:k < 549755813888) (hl:xs.length < 1099511627776) (hx:xs[i]?.getD .nilptr=.agg [a0,a1,a2,a3,a4,a5])
 (hn:∀ st':St,st'.env 0=.own 900→st'.env 1=.val (num ((k+6:Nat):Int))→st'.env 5=.val (num ((i+1:Nat):Int))→st'.mem 900=.row 164 6 (xs.set i (ig (t8 k)))→K.k .normal st') :
 EC Tryz.prog ir96_l6 ⟨co [(0,.own 900),(1,.val (num k)),(5,.val (num i))],cu [(900,.row 164 6 xs)]⟩ (K:=K):=by
 unfold ir96_l6
 have s1:IntKind.i64.wrap ((k:Int)+1)=(k:Int)+1:=wrap_i64 (by omega) (by omega)
 have hmk0:ag Tryz.prog 94 [.val (.int .i64 ((k:Int)))] (.ret (.val (.str (bs (lmk (k+0))))) []) []:=by
  have h:=qw (k+0) (by omega)
  exact h
 have s2:IntKind.i64.wrap ((k:Int)+1+1)=(k:Int)+1+1:=wrap_i64 (by omega) (by omega)
 have c1:((k+1:Nat):Int)=(k:Int)+1:=by omega
 have s3:IntKind.i64.wrap ((k:Int)+1+1+1)=(k:Int)+1+1+1:=wrap_i64 (by omega) (by omega)
 have c2:((k+2:Nat):Int)=(k:Int)+1+1:=by omega
 have s4:IntKind.i64.wrap ((k:Int)+1+1+1+1)=(k:Int)+1+1+1+1:=wrap_i64 (by omega) (by omega)
 have c3:((k+3:Nat):Int)=(k:Int)+1+1+1:=by omega
 have s5:IntKind.i64.wrap ((k:Int)+1+1+1+1+1)=(k:Int)+1+1+1+1+1:=wrap_i64 (by omega) (by omega)
 have c4:((k+4:Nat):Int)=(k:Int)+1+1+1+1:=by omega
 have s6:IntKind.i64.wrap ((k:Int)+1+1+1+1+1+1)=(k:Int)+1+1+1+1+1+1:=wrap_i64 (by omega) (by omega)
 have c5:((k+5:Nat):Int)=(k:Int)+1+1+1+1+1:=by omega
 have hm5:(((k:Int)+1+1+1+1+1).tmod 3 == 0)=decide ((k+5) % 3=0):=by
  rw [Int.tmod_eq_emod_of_nonneg (by omega),Bool.eq_iff_iff]
  simp only [beq_iff_eq,decide_eq_true_eq]
  omega
 have si:IntKind.i64.wrap ((i:Int)+1)=(i:Int)+1:=wrap_i64 (by omega) (by omega)
 have hx':xs[i]=.agg [a0,a1,a2,a3,a4,a5]:=by rw [← hx];simp [List.getElem?_eq_getElem hi]
 simp [num,hi]
 refine ab rfl rfl (.inl rfl) hmk0 ?_
 simp [num,hi,hx,tx,s1,s2,s3,s4,s5,s6]
 refine hn _ ?_ ?_ ?_ ?_
 · simp
 · simp only [dz,ia,d8,gy,d9,ck,d7,gz,bm,ew,ir,iu,au,cf,cg,bf,eb,cj,bh,gx,dy,ci,ch,f9,ga,ql,qn,Option.getD_some,Option.getD_none,fo,cq,b9,f5,b8,bv,f8,bw,f7,fz,fy,iz,dl,b6,fw,dh,bz,fv,fl,fx,di,ft,bu,dg,fu,i7,i6,fm,fp,bx,fq,dm,b7,fa,bo,fk,fj,fi,iv,dc,bq,fg,da,bp,ff,ex,fh,db,fc,bn,cz,fe,ix,iw,ez,cx,bt,fb,de,br,jq,jp,j5,jr,jv,jt,js,j4,ju,jw,jx,jy,jz,eg,ef,ed,kj,kl,ek,ib,ct,ge,dq,j7,cl,l4,ko,kf,lb,ld,lc,l5,l6,ji,jk,jj,jl,jm,k8,dt,k7,gf,gg,gh,du,qp,gu,dx,l2,l3,i8,km,kn,Option.map_some,Option.map_none,gm,dv,dp,ca,gc,gd,jc,jb,lj,li,jo,gv,gw,jn,lf,lg,je,cd,jf,cb,ku,gt,gr,bg,la,lh,jh,ky,k6,kz,dr,eq,eu,er,ba,k9,l8,l7,kq,jg,ns,kr,ce,gp,gq,dw,gn,bd,cv,bc,cw,bb,j6,lk,ll,eh,ei,ie,ic,gb,ek,s1,s2,s3,s4,s5,s6,num]
   simp
   try omega
 · simp [num,si]
 · simp [hi,hx,hx']
   try simp [s1,s2,s3,s4,s5,s6,c1,c2,c3,c4,c5,hm5,al,ig,t8,num,tx]
theorem N6 (l:List LPeer) (k:Nat) (hk:k < 8388608) (hl:l.length≤1048576):vz Tryz.prog 96 (.own 0) 164 6 (l.map ig) [.val (num k)] (num ((k+6*l.length:Nat):Int)) ((mkL t8 6 l.length k).map ig):=by
 refine u4 mixed ok96 rfl ?_
 unfold ir96
 rw [aa]
 simp [ah,am,ax,ac,af,n5,PV.nm,num]
 refine ay (X:=Nat) (fun i=>⟨co [(0,.own 900),(1,.val (num ((k+6*i:Nat):Int))),(5,.val (num i))],cu [(900,.row 164 6 ((mkU t8 6 l k i).map ig))]⟩) (fun i=>i≤l.length) (fun i=>l.length - i) 0 (Le.mk _ _ ?_ ?_) (Nat.zero_le _) ?_
 · simp [upd,num,PV.kill]
 · simp [x2]
 · intro i hi
   have hml:=At t8 6 l k i hi
   by_cases h1:i < l.length
   · have hmi:i < (mkU t8 6 l k i).length:=by omega
     have hset:=As t8 6 l k i h1
     refine Qb ((mkU t8 6 l k i).map ig) (k+6*i) i (tx (mkU t8 6 l k i)[i].target.url) (num (mkU t8 6 l k i)[i].target.prio) (num (mkU t8 6 l k i)[i].target.weight) (num (mkU t8 6 l k i)[i].fails) (num (mkU t8 6 l k i)[i].retry) (.bool (mkU t8 6 l k i)[i].gone) (by simpa using hmi) (by omega) (by simp;omega) (by simp [List.getElem?_eq_getElem hmi,al,ig]) (fun st' q0 q1 q5 qm=>?_)
     simp
     refine LoopNext.mk (i+1) h1 (by omega) (Le.mk _ _ ?_ ?_)
     · simp [q0,q1,q5,num]
       omega
     · rw [← List.map_set,hset] at qm
       simp [qm]
   · have e:i=l.length:=by omega
     subst e
     unfold ir96_l6
     simp [num,hml,Au,sf]
theorem D7 (l:List LReport) (hx:bdS 1048576 (ov 1048576) l):ag Tryz.prog 157 [.val (.list 4 (l.map aq))] (.ret (.own 0) [⟨146,4,l.map aq⟩]) []:=by
 refine yv (mk:=fun i=>.own i) mixed ok157 rfl (fun _=>rfl) ?_
 unfold ir157
 rw [aa]
 have hl:l.length≤1048576:=hx.1
 simp [ah,am,ax,ac,af,num,im]
 refine ⟨by omega,by omega,?_⟩
 refine ay (X:=Nat) (fun i=>⟨co [(0,.val (.list 4 (l.map aq))),(3,.own 7),(4,.val (num i))],cu [(7,.row 146 4 (t7 aq (.agg [.int .i64 0,.int .i64 0,.int .i64 0,.str (bs [])]) l i))]⟩) (fun i=>i≤l.length) (fun i=>l.length - i) 0 (Le.mk _ _ ?_ ?_) ?_ ?_
 · simp [upd,num,PV.kill]
 · simp [upd,num,bs,v6]
 · simp
 · intro i hi
   have hlen:=xw aq (.agg [.int .i64 0,.int .i64 0,.int .i64 0,.str (bs [])]) l i hi
   simp [num,im]
   refine ak (fun h1=>?_) (fun h1=>?_)
   · have e1:(l.map aq)[i]?.getD .nilptr=aq l[i]:=by simp [List.getElem?_eq_getElem h1]
     have e2:=An aq (.agg [.int .i64 0,.int .i64 0,.int .i64 0,.str (bs [])]) l i h1
     have e3:=xv aq (.agg [.int .i64 0,.int .i64 0,.int .i64 0,.str (bs [])]) l i h1
     have e4:(t7 aq (.agg [.int .i64 0,.int .i64 0,.int .i64 0,.str (bs [])]) l i)[i]'(by omega)=(.agg [.int .i64 0,.int .i64 0,.int .i64 0,.str (bs [])]):=by
      have h9:=e2
      rw [List.getElem?_eq_getElem (show i < (t7 aq (.agg [.int .i64 0,.int .i64 0,.int .i64 0,.str (bs [])]) l i).length by omega)] at h9
      exact h9
     simp [num,h1,e1,aq,tx,hlen,im]
     refine ab rfl rfl (.inl rfl) (Q8 l[i] (hx.2 _ (List.getElem_mem h1))) ?_
     simp [num,h1,e1,e2,aq,tx,hlen,im]
     refine LoopNext.mk (i+1) (by omega) (by omega) (Le.mk _ _ ?_ ?_)
     · simp [num];exact wrap_i64 (by omega) (by omega)
     · rw [← e3]
       simp [aq,num,tx,e4]
   · have e1:i=l.length:=by omega
     subst e1
     simp [num,xx,rf,PV.pl]
theorem Kz {K:Kx (PExit→St→Prop)} (xs:List RV) (k i:Nat) (a0 a1 a2 a3:RV) (hi:i < xs.length) (hk:k < 549755813888) (hl:xs.length < 1099511627776) (hx:xs[i]?.getD .nilptr=.agg [a0,a1,a2,a3])
 (hn:∀ st':St,st'.env 0=.own 900→st'.env 1=.val (num ((k+4:Nat):Int))→st'.env 5=.val (num ((i+1:Nat):Int))→st'.mem 900=.row 146 4 (xs.set i (aq (qy k)))→K.k .normal st') :
 EC Tryz.prog ir97_l6 ⟨co [(0,.own 900),(1,.val (num k)),(5,.val (num i))],cu [(900,.row 146 4 xs)]⟩ (K:=K):=by
 unfold ir97_l6
 have s1:IntKind.i64.wrap ((k:Int)+1)=(k:Int)+1:=wrap_i64 (by omega) (by omega)
 have s2:IntKind.i64.wrap ((k:Int)+1+1)=(k:Int)+1+1:=wrap_i64 (by omega) (by omega)
 have c1:((k+1:Nat):Int)=(k:Int)+1:=by omega
 have s3:IntKind.i64.wrap ((k:Int)+1+1+1)=(k:Int)+1+1+1:=wrap_i64 (by omega) (by omega)
 have c2:((k+2:Nat):Int)=(k:Int)+1+1:=by omega
 have s4:IntKind.i64.wrap ((k:Int)+1+1+1+1)=(k:Int)+1+1+1+1:=wrap_i64 (by omega) (by omega)
 have c3:((k+3:Nat):Int)=(k:Int)+1+1+1:=by omega
 have hmk3:ag Tryz.prog 94 [.val (.int .i64 ((k:Int)+1+1+1))] (.ret (.val (.str (bs (lmk (k+3))))) []) []:=by
  have h:=qw (k+3) (by omega)
  unfold num tx at h
  rwa [c3] at h
 have si:IntKind.i64.wrap ((i:Int)+1)=(i:Int)+1:=wrap_i64 (by omega) (by omega)
 have hx':xs[i]=.agg [a0,a1,a2,a3]:=by rw [← hx];simp [List.getElem?_eq_getElem hi]
 simp [num,hi,hx,s1,s2,s3,s4]
 refine ab rfl rfl (.inl rfl) hmk3 ?_
 simp [num,hi,hx,tx,s1,s2,s3,s4]
 refine hn _ ?_ ?_ ?_ ?_
 · simp
 · simp only [dz,ia,d8,gy,d9,ck,d7,gz,bm,ew,ir,iu,au,cf,cg,bf,eb,cj,bh,gx,dy,ci,ch,f9,ga,ql,qn,Option.getD_some,Option.getD_none,fo,cq,b9,f5,b8,bv,f8,bw,f7,fz,fy,iz,dl,b6,fw,dh,bz,fv,fl,fx,di,ft,bu,dg,fu,i7,i6,fm,fp,bx,fq,dm,b7,fa,bo,fk,fj,fi,iv,dc,bq,fg,da,bp,ff,ex,fh,db,fc,bn,cz,fe,ix,iw,ez,cx,bt,fb,de,br,jq,jp,j5,jr,jv,jt,js,j4,ju,jw,jx,jy,jz,eg,ef,ed,kj,kl,ek,ib,ct,ge,dq,j7,cl,l4,ko,kf,lb,ld,lc,l5,l6,ji,jk,jj,jl,jm,k8,dt,k7,gf,gg,gh,du,qp,gu,dx,l2,l3,i8,km,kn,Option.map_some,Option.map_none,gm,dv,dp,ca,gc,gd,jc,jb,lj,li,jo,gv,gw,jn,lf,lg,je,cd,jf,cb,ku,gt,gr,bg,la,lh,jh,ky,k6,kz,dr,eq,eu,er,ba,k9,l8,l7,kq,jg,ns,kr,ce,gp,gq,dw,gn,bd,cv,bc,cw,bb,j6,lk,ll,eh,ei,ie,ic,gb,ek,s1,s2,s3,s4,num]
   simp
   try omega
 · simp [num,si]
 · simp [hi,hx,hx']
   try simp [s1,s2,s3,s4,c1,c2,c3,aq,qy,num,tx]
theorem I9 (l:List LReport) (k:Nat) (hk:k < 8388608) (hl:l.length≤1048576):vz Tryz.prog 97 (.own 0) 146 4 (l.map aq) [.val (num k)] (num ((k+4*l.length:Nat):Int)) ((mkL qy 4 l.length k).map aq):=by
 refine u4 mixed ok97 rfl ?_
 unfold ir97
 rw [aa]
 simp [ah,am,ax,ac,af,n5,PV.nm,num]
 refine ay (X:=Nat) (fun i=>⟨co [(0,.own 900),(1,.val (num ((k+4*i:Nat):Int))),(5,.val (num i))],cu [(900,.row 146 4 ((mkU qy 4 l k i).map aq))]⟩) (fun i=>i≤l.length) (fun i=>l.length - i) 0 (Le.mk _ _ ?_ ?_) (Nat.zero_le _) ?_
 · simp [upd,num,PV.kill]
 · simp [x2]
 · intro i hi
   have hml:=At qy 4 l k i hi
   by_cases h1:i < l.length
   · have hmi:i < (mkU qy 4 l k i).length:=by omega
     have hset:=As qy 4 l k i h1
     refine Kz ((mkU qy 4 l k i).map aq) (k+4*i) i (num (mkU qy 4 l k i)[i].id) (num (mkU qy 4 l k i)[i].born) (num (mkU qy 4 l k i)[i].tries) (tx (mkU qy 4 l k i)[i].body) (by simpa using hmi) (by omega) (by simp;omega) (by simp [List.getElem?_eq_getElem hmi,aq]) (fun st' q0 q1 q5 qm=>?_)
     simp
     refine LoopNext.mk (i+1) h1 (by omega) (Le.mk _ _ ?_ ?_)
     · simp [q0,q1,q5,num]
       omega
     · rw [← List.map_set,hset] at qm
       simp [qm]
   · have e:i=l.length:=by omega
     subst e
     unfold ir97_l6
     simp [num,hml,Au,sf]
theorem Fv (l:List LEntry) (hx:l.length≤1048576):ag Tryz.prog 39 [.val (.list 3 (l.map eo))] (.ret (.own 0) [⟨83,3,l.map eo⟩]) []:=by
 refine yv (mk:=fun i=>.own i) mixed ok39 rfl (fun _=>rfl) ?_
 unfold ir39
 rw [aa]
 have hl:l.length≤1048576:=hx
 simp [ah,am,ax,ac,af,num,im]
 refine ⟨by omega,by omega,?_⟩
 refine ay (X:=Nat) (fun i=>⟨co [(0,.val (.list 3 (l.map eo))),(3,.own 7),(4,.val (num i))],cu [(7,.row 83 3 (t7 eo (.agg [.int .i64 0,.int .i64 0,.int .i64 0]) l i))]⟩) (fun i=>i≤l.length) (fun i=>l.length - i) 0 (Le.mk _ _ ?_ ?_) ?_ ?_
 · simp [upd,num,PV.kill]
 · simp [upd,num,bs,v6]
 · simp
 · intro i hi
   have hlen:=xw eo (.agg [.int .i64 0,.int .i64 0,.int .i64 0]) l i hi
   simp [num,im]
   refine ak (fun h1=>?_) (fun h1=>?_)
   · have e1:(l.map eo)[i]?.getD .nilptr=eo l[i]:=by simp [List.getElem?_eq_getElem h1]
     have e2:=An eo (.agg [.int .i64 0,.int .i64 0,.int .i64 0]) l i h1
     have e3:=xv eo (.agg [.int .i64 0,.int .i64 0,.int .i64 0]) l i h1
     have e4:(t7 eo (.agg [.int .i64 0,.int .i64 0,.int .i64 0]) l i)[i]'(by omega)=(.agg [.int .i64 0,.int .i64 0,.int .i64 0]):=by
      have h9:=e2
      rw [List.getElem?_eq_getElem (show i < (t7 eo (.agg [.int .i64 0,.int .i64 0,.int .i64 0]) l i).length by omega)] at h9
      exact h9
     simp [num,h1,e1,eo,tx,hlen,im]
     refine ab rfl rfl (.inl rfl) (Ui l[i] trivial) ?_
     simp [num,h1,e1,e2,eo,tx,hlen,im]
     refine LoopNext.mk (i+1) (by omega) (by omega) (Le.mk _ _ ?_ ?_)
     · simp [num];exact wrap_i64 (by omega) (by omega)
     · rw [← e3]
       simp [eo,num,tx,e4]
   · have e1:i=l.length:=by omega
     subst e1
     simp [num,xx,rf,PV.pl]
theorem M8 {K:Kx (PExit→St→Prop)} (xs:List RV) (k i:Nat) (a0 a1 a2:RV) (hi:i < xs.length) (hk:k < 549755813888) (hl:xs.length < 1099511627776) (hx:xs[i]?.getD .nilptr=.agg [a0,a1,a2])
 (hn:∀ st':St,st'.env 0=.own 900→st'.env 1=.val (num ((k+3:Nat):Int))→st'.env 5=.val (num ((i+1:Nat):Int))→st'.mem 900=.row 83 3 (xs.set i (eo (ub k)))→K.k .normal st') :
 EC Tryz.prog ir20_l6 ⟨co [(0,.own 900),(1,.val (num k)),(5,.val (num i))],cu [(900,.row 83 3 xs)]⟩ (K:=K):=by
 unfold ir20_l6
 have s1:IntKind.i64.wrap ((k:Int)+1)=(k:Int)+1:=wrap_i64 (by omega) (by omega)
 have s2:IntKind.i64.wrap ((k:Int)+1+1)=(k:Int)+1+1:=wrap_i64 (by omega) (by omega)
 have c1:((k+1:Nat):Int)=(k:Int)+1:=by omega
 have s3:IntKind.i64.wrap ((k:Int)+1+1+1)=(k:Int)+1+1+1:=wrap_i64 (by omega) (by omega)
 have c2:((k+2:Nat):Int)=(k:Int)+1+1:=by omega
 have si:IntKind.i64.wrap ((i:Int)+1)=(i:Int)+1:=wrap_i64 (by omega) (by omega)
 have hx':xs[i]=.agg [a0,a1,a2]:=by rw [← hx];simp [List.getElem?_eq_getElem hi]
 simp [num,hi,hx,s1,s2,s3]
 refine hn _ ?_ ?_ ?_ ?_
 · simp
 · simp only [dz,ia,d8,gy,d9,ck,d7,gz,bm,ew,ir,iu,au,cf,cg,bf,eb,cj,bh,gx,dy,ci,ch,f9,ga,ql,qn,Option.getD_some,Option.getD_none,fo,cq,b9,f5,b8,bv,f8,bw,f7,fz,fy,iz,dl,b6,fw,dh,bz,fv,fl,fx,di,ft,bu,dg,fu,i7,i6,fm,fp,bx,fq,dm,b7,fa,bo,fk,fj,fi,iv,dc,bq,fg,da,bp,ff,ex,fh,db,fc,bn,cz,fe,ix,iw,ez,cx,bt,fb,de,br,jq,jp,j5,jr,jv,jt,js,j4,ju,jw,jx,jy,jz,eg,ef,ed,kj,kl,ek,ib,ct,ge,dq,j7,cl,l4,ko,kf,lb,ld,lc,l5,l6,ji,jk,jj,jl,jm,k8,dt,k7,gf,gg,gh,du,qp,gu,dx,l2,l3,i8,km,kn,Option.map_some,Option.map_none,gm,dv,dp,ca,gc,gd,jc,jb,lj,li,jo,gv,gw,jn,lf,lg,je,cd,jf,cb,ku,gt,gr,bg,la,lh,jh,ky,k6,kz,dr,eq,eu,er,ba,k9,l8,l7,kq,jg,ns,kr,ce,gp,gq,dw,gn,bd,cv,bc,cw,bb,j6,lk,ll,eh,ei,ie,ic,gb,ek,s1,s2,s3,num]
   simp
   try omega
 · simp [num,si]
 · simp [hi,hx,hx']
   try simp [s1,s2,s3,c1,c2,eo,ub,num,tx]
theorem Lo (l:List LEntry) (k:Nat) (hk:k < 8388608) (hl:l.length≤1048576):vz Tryz.prog 20 (.own 0) 83 3 (l.map eo) [.val (num k)] (num ((k+3*l.length:Nat):Int)) ((mkL ub 3 l.length k).map eo):=by
 refine u4 mixed ok20 rfl ?_
 unfold ir20
 rw [aa]
 simp [ah,am,ax,ac,af,n5,PV.nm,num]
 refine ay (X:=Nat) (fun i=>⟨co [(0,.own 900),(1,.val (num ((k+3*i:Nat):Int))),(5,.val (num i))],cu [(900,.row 83 3 ((mkU ub 3 l k i).map eo))]⟩) (fun i=>i≤l.length) (fun i=>l.length - i) 0 (Le.mk _ _ ?_ ?_) (Nat.zero_le _) ?_
 · simp [upd,num,PV.kill]
 · simp [x2]
 · intro i hi
   have hml:=At ub 3 l k i hi
   by_cases h1:i < l.length
   · have hmi:i < (mkU ub 3 l k i).length:=by omega
     have hset:=As ub 3 l k i h1
     refine M8 ((mkU ub 3 l k i).map eo) (k+3*i) i (num (mkU ub 3 l k i)[i].kind) (num (mkU ub 3 l k i)[i].id) (num (mkU ub 3 l k i)[i].at_) (by simpa using hmi) (by omega) (by simp;omega) (by simp [List.getElem?_eq_getElem hmi,eo]) (fun st' q0 q1 q5 qm=>?_)
     simp
     refine LoopNext.mk (i+1) h1 (by omega) (Le.mk _ _ ?_ ?_)
     · simp [q0,q1,q5,num]
       omega
     · rw [← List.map_set,hset] at qm
       simp [qm]
   · have e:i=l.length:=by omega
     subst e
     unfold ir20_l6
     simp [num,hml,Au,sf]
end Go.Proofs
end
section
namespace Go.Proofs
open Go.PW Go.KP
attribute [local simp] RV.cells RV.one PV.cells PV.solid PV.one im ao kh ke RV.ofCells elems PV.killL
variable [GF]
theorem Q5 (n k:Nat) (hk:k < 8388608) (hl:n≤1048576):ag Tryz.prog 26 [.val (.list 1 ((mkL ua 1 n k).map num)),.val (num k)] (.ret (.val (num ((k+1*n:Nat):Int))) []) []:=by
 refine aj mixed ok26 rfl (fun _=>rfl) ?_
 unfold ir26
 rw [aa]
 have hlen:=sf ua 1 n k
 simp [ah,am,ax,ac,af,num]
 refine ay (X:=Nat) (fun i=>⟨co [(0,.val (.list 1 ((mkL ua 1 n k).map num))),(1,.val (num ((k+1*i:Nat):Int))),(5,.val (num i))],cu []⟩) (fun i=>i≤n) (fun i=>n - i) 0 (Le.mk _ _ ?_ ?_) (Nat.zero_le _) ?_
 · simp [upd,num,PV.kill]
 · simp
 · intro i hi
   unfold ir26_l6
   by_cases h1:i < n
   · have hi':i < (mkL ua 1 n k).length:=by omega
     have hat:(mkL ua 1 n k)[i]=ua (k+1*i):=mkL_at h1
     have e1:((mkL ua 1 n k).map num)[i]?.getD .nilptr=num (ua (k+1*i)):=by simp [List.getElem?_eq_getElem hi',hat]
     generalize hj:k+1*i=j at *
     have hjj:j < 1099511627776:=by omega
     have s1:IntKind.i64.wrap ((j:Int)+1)=((j+1:Nat):Int):=by rw [wrap_i64 (by omega) (by omega)];omega
     have si:IntKind.i64.wrap ((i:Int)+1)=((i+1:Nat):Int):=by rw [wrap_i64 (by omega) (by omega)];omega
     have hat2:ua j=(j:Int):=rfl
     simp [num,sf,h1,e1,hat,hat2,tx,s1,si]
     refine LoopNext.mk (i+1) h1 (by omega) (Le.mk _ _ ?_ ?_)
     · simp [num,s1,si]
       omega
     · simp
   · have e:i=n:=by omega
     subst e
     simp [num,sf]
end Go.Proofs
end
