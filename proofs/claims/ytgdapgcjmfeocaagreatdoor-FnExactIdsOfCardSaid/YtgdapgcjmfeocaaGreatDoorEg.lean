/- Eg: merged out of KIu, KIv, KIx, KIy. -/
import Derived.Test.YtgdapgcjmfeocaaGreatDoorCa
import Derived.Test.YtgdapgcjmfeocaaGreatDoorAc
import Derived.Test.YtgdapgcjmfeocaaGreatDoorBa
import Derived.Test.YtgdapgcjmfeocaaGreatDoorEe
import Derived.Test.YtgdapgcjmfeocaaGreatDoorEc
import Derived.Test.YtgdapgcjmfeocaaGreatDoorCd
import Derived.Test.YtgdapgcjmfeocaaGreatDoorCc
set_option linter.unusedSectionVars false
set_option linter.unusedSimpArgs false
set_option linter.unusedVariables false
set_option maxRecDepth 100000
section
namespace Go.Proofs
open Go.PW Go.KP
attribute [local simp] RV.cells RV.one PV.cells PV.solid PV.one im ao kh ke RV.ofCells elems PV.killL
variable [GF]
theorem zy (l:List LReport) (g:Nat) (c0_0 c0_1 c0_2 c0_3 c0_4 c0_5 c0_6 c0_7:RV) (p:LReport→Bool) (hl:l.length < 1099511627776) (hg:fnB Tryz.prog g=true)
 (hp:∀ x∈l,ag Tryz.prog g [.val (aq x),.box [c0_0,c0_1,c0_2,c0_3,c0_4,c0_5,c0_6,c0_7]] (.ret (.val (.bool (p x))) []) [[c0_0,c0_1,c0_2,c0_3,c0_4,c0_5,c0_6,c0_7]]) :
 ag Tryz.prog 174 [.val (.list 4 (l.map aq)),.fn g [.box [c0_0,c0_1,c0_2,c0_3,c0_4,c0_5,c0_6,c0_7]]] (.ret (.val (num (qz l p))) []) [[c0_0,c0_1,c0_2,c0_3,c0_4,c0_5,c0_6,c0_7]]:=by
 refine nz mixed ok174 rfl (fun _=>rfl) ?_
 unfold ir174
 rw [aa]
 simp [ah,am,ax,ac,af,ax,am]
 refine ay (X:=Nat) (fun i=>⟨co [(0,.val (.list 4 (l.map aq))),(1,.fn g [.ptr 900 0]),(7,.val (num l.length)),(8,.val (num i))],cu [(900,.box [.val c0_0,.val c0_1,.val c0_2,.val c0_3,.val c0_4,.val c0_5,.val c0_6,.val c0_7])]⟩) (fun i=>i≤l.length∧∀ k (hk:k < i) (hk':k < l.length),p l[k]=false) (fun i=>l.length - i) 0 (Le.mk _ _ ?_ ?_) ?_ ?_
 · simp [upd,num]
 · simp
 · simp
 · rintro i ⟨hi,hne⟩
   simp [num]
   refine ak (fun h1=>?_) (fun h1=>?_)
   · have e1:(l.map aq)[i]?.getD .nilptr=aq l[i]:=by simp [List.getElem?_eq_getElem h1]
     simp [num,h1,e1,aq,tx,num,hg]
     refine ne (ids:=[900]) rfl rfl (by simp) (by decide) (by simp [tw,dz,ia,d8,gy,d9,ck,d7,gz,bm,ew,ir,iu,au,cf,cg,bf,eb,cj,bh,gx,dy,ci,ch,f9,ga,ql,qn,Option.getD_some,Option.getD_none,fo,cq,b9,f5,b8,bv,f8,bw,f7,fz,fy,iz,dl,b6,fw,dh,bz,fv,fl,fx,di,ft,bu,dg,fu,i7,i6,fm,fp,bx,fq,dm,b7,fa,bo,fk,fj,fi,iv,dc,bq,fg,da,bp,ff,ex,fh,db,fc,bn,cz,fe,ix,iw,ez,cx,bt,fb,de,br,jq,jp,j5,jr,jv,jt,js,j4,ju,jw,jx,jy,jz,eg,ef,ed,kj,kl,ek,ib,ct,ge,dq,j7,cl,l4,ko,kf,lb,ld,lc,l5,l6,ji,jk,jj,jl,jm,k8,dt,k7,gf,gg,gh,du,qp,gu,dx,l2,l3,i8,km,kn,Option.map_some,Option.map_none,gm,dv,dp,ca,gc,gd,jc,jb,lj,li,jo,gv,gw,jn,lf,lg,je,cd,jf,cb,ku,gt,gr,bg,la,lh,jh,ky,k6,kz,dr,eq,eu,er,ba,k9,l8,l7,kq,jg,ns,kr,ce,gp,gq,dw,gn,bd,cv,bc,cw,bb,j6,lk,ll,eh,ei,ie,ic,gb]) rfl (hp l[i] (List.getElem_mem h1)) ?_
     cases hpi:p l[i] with
     | true=>
      simp [mw,mh]
      rw [p7 h1 hpi (fun k hk=>hne k hk (by omega))];rfl
     | false=>
      simp
      refine LoopNext.mk (i+1) ⟨by omega,fun k hk hk'=>?_⟩ (by omega) (Le.mk _ _ ?_ ?_)
      · by_cases e:k=i
        · subst e;exact hpi
        · exact hne k (by omega) hk'
      · simp [num];exact wrap_i64 (by omega) (by omega)
      · simp
   · have e:i=l.length:=by omega
     subst e
     simp [num,mw,mh]
     rw [o3 (fun k hk=>hne k hk hk)]
theorem x7 (l:List LReport) (g:Nat) (c0_0 c0_1 c0_2 c0_3 c0_4 c0_5 c0_6 c0_7:RV) (p:LReport→Bool) (hl:l.length < 1099511627776) (hg:fnB Tryz.prog g=true)
 (hp:∀ x∈l,ag Tryz.prog g [.val (aq x),.box [c0_0,c0_1,c0_2,c0_3,c0_4,c0_5,c0_6,c0_7]] (.ret (.val (.bool (p x))) []) [[c0_0,c0_1,c0_2,c0_3,c0_4,c0_5,c0_6,c0_7]]) :
 ag Tryz.prog 131 [.val (.list 4 (l.map aq)),.fn g [.box [c0_0,c0_1,c0_2,c0_3,c0_4,c0_5,c0_6,c0_7]]] (.ret (.val (.bool (l.any p))) []) [[c0_0,c0_1,c0_2,c0_3,c0_4,c0_5,c0_6,c0_7]]:=by
 refine nz mixed ok131 rfl (fun _=>rfl) ?_
 unfold ir131
 rw [aa]
 simp [ah,am,ax,ac,af,ax,am]
 refine ne (ids:=[900]) rfl rfl (by simp) (by decide) (by simp [tw,dz,ia,d8,gy,d9,ck,d7,gz,bm,ew,ir,iu,au,cf,cg,bf,eb,cj,bh,gx,dy,ci,ch,f9,ga,ql,qn,Option.getD_some,Option.getD_none,fo,cq,b9,f5,b8,bv,f8,bw,f7,fz,fy,iz,dl,b6,fw,dh,bz,fv,fl,fx,di,ft,bu,dg,fu,i7,i6,fm,fp,bx,fq,dm,b7,fa,bo,fk,fj,fi,iv,dc,bq,fg,da,bp,ff,ex,fh,db,fc,bn,cz,fe,ix,iw,ez,cx,bt,fb,de,br,jq,jp,j5,jr,jv,jt,js,j4,ju,jw,jx,jy,jz,eg,ef,ed,kj,kl,ek,ib,ct,ge,dq,j7,cl,l4,ko,kf,lb,ld,lc,l5,l6,ji,jk,jj,jl,jm,k8,dt,k7,gf,gg,gh,du,qp,gu,dx,l2,l3,i8,km,kn,Option.map_some,Option.map_none,gm,dv,dp,ca,gc,gd,jc,jb,lj,li,jo,gv,gw,jn,lf,lg,je,cd,jf,cb,ku,gt,gr,bg,la,lh,jh,ky,k6,kz,dr,eq,eu,er,ba,k9,l8,l7,kq,jg,ns,kr,ce,gp,gq,dw,gn,bd,cv,bc,cw,bb,j6,lk,ll,eh,ei,ie,ic,gb]) rfl (zy l g c0_0 c0_1 c0_2 c0_3 c0_4 c0_5 c0_6 c0_7 p hl hg hp) ?_
 simp [num,mw,mh]
 exact xb l p
theorem y8 (l:List LChannel) (g:Nat) (c0_0:RV) (p:LChannel→Bool) (hl:l.length < 1099511627776) (hg:fnB Tryz.prog g=true)
 (hp:∀ x∈l,ag Tryz.prog g [.val (aw x),.box [c0_0]] (.ret (.val (.bool (p x))) []) [[c0_0]]) :
 ag Tryz.prog 133 [.val (.list 6 (l.map aw)),.fn g [.box [c0_0]]] (.ret (.val (num (qz l p))) []) [[c0_0]]:=by
 refine nz mixed ok133 rfl (fun _=>rfl) ?_
 unfold ir133
 rw [aa]
 simp [ah,am,ax,ac,af,ax,am]
 refine ay (X:=Nat) (fun i=>⟨co [(0,.val (.list 6 (l.map aw))),(1,.fn g [.ptr 900 0]),(7,.val (num l.length)),(8,.val (num i))],cu [(900,.box [.val c0_0])]⟩) (fun i=>i≤l.length∧∀ k (hk:k < i) (hk':k < l.length),p l[k]=false) (fun i=>l.length - i) 0 (Le.mk _ _ ?_ ?_) ?_ ?_
 · simp [upd,num]
 · simp
 · simp
 · rintro i ⟨hi,hne⟩
   simp [num]
   refine ak (fun h1=>?_) (fun h1=>?_)
   · have e1:(l.map aw)[i]?.getD .nilptr=aw l[i]:=by simp [List.getElem?_eq_getElem h1]
     simp [num,h1,e1,ki,j8,aw,tx,num,hg]
     refine ne (ids:=[900]) rfl rfl (by simp) (by decide) (by simp [tw,dz,ia,d8,gy,d9,ck,d7,gz,bm,ew,ir,iu,au,cf,cg,bf,eb,cj,bh,gx,dy,ci,ch,f9,ga,ql,qn,Option.getD_some,Option.getD_none,fo,cq,b9,f5,b8,bv,f8,bw,f7,fz,fy,iz,dl,b6,fw,dh,bz,fv,fl,fx,di,ft,bu,dg,fu,i7,i6,fm,fp,bx,fq,dm,b7,fa,bo,fk,fj,fi,iv,dc,bq,fg,da,bp,ff,ex,fh,db,fc,bn,cz,fe,ix,iw,ez,cx,bt,fb,de,br,jq,jp,j5,jr,jv,jt,js,j4,ju,jw,jx,jy,jz,eg,ef,ed,kj,kl,ek,ib,ct,ge,dq,j7,cl,l4,ko,kf,lb,ld,lc,l5,l6,ji,jk,jj,jl,jm,k8,dt,k7,gf,gg,gh,du,qp,gu,dx,l2,l3,i8,km,kn,Option.map_some,Option.map_none,gm,dv,dp,ca,gc,gd,jc,jb,lj,li,jo,gv,gw,jn,lf,lg,je,cd,jf,cb,ku,gt,gr,bg,la,lh,jh,ky,k6,kz,dr,eq,eu,er,ba,k9,l8,l7,kq,jg,ns,kr,ce,gp,gq,dw,gn,bd,cv,bc,cw,bb,j6,lk,ll,eh,ei,ie,ic,gb]) rfl (hp l[i] (List.getElem_mem h1)) ?_
     cases hpi:p l[i] with
     | true=>
      simp [mw,mh]
      rw [p7 h1 hpi (fun k hk=>hne k hk (by omega))];rfl
     | false=>
      simp
      refine LoopNext.mk (i+1) ⟨by omega,fun k hk hk'=>?_⟩ (by omega) (Le.mk _ _ ?_ ?_)
      · by_cases e:k=i
        · subst e;exact hpi
        · exact hne k (by omega) hk'
      · simp [num];exact wrap_i64 (by omega) (by omega)
      · simp
   · have e:i=l.length:=by omega
     subst e
     simp [num,mw,mh]
     rw [o3 (fun k hk=>hne k hk hk)]
theorem B2 (l:List LWire) (g:Nat) (c0_0 c0_1 c0_2 c0_3 c0_4 c0_5 c0_6 c0_7:RV) (p:LWire→Bool) (hl:l.length < 1099511627776) (hg:fnB Tryz.prog g=true)
 (hp:∀ x∈l,ag Tryz.prog g [.val (ja x),.box [c0_0,c0_1,c0_2,c0_3,c0_4,c0_5,c0_6,c0_7]] (.ret (.val (.bool (p x))) []) [[c0_0,c0_1,c0_2,c0_3,c0_4,c0_5,c0_6,c0_7]]) :
 ag Tryz.prog 135 [.val (.list 7 (l.map ja)),.fn g [.box [c0_0,c0_1,c0_2,c0_3,c0_4,c0_5,c0_6,c0_7]]] (.ret (.val (num (qz l p))) []) [[c0_0,c0_1,c0_2,c0_3,c0_4,c0_5,c0_6,c0_7]]:=by
 refine nz mixed ok135 rfl (fun _=>rfl) ?_
 unfold ir135
 rw [aa]
 simp [ah,am,ax,ac,af,ax,am]
 refine ay (X:=Nat) (fun i=>⟨co [(0,.val (.list 7 (l.map ja))),(1,.fn g [.ptr 900 0]),(7,.val (num l.length)),(8,.val (num i))],cu [(900,.box [.val c0_0,.val c0_1,.val c0_2,.val c0_3,.val c0_4,.val c0_5,.val c0_6,.val c0_7])]⟩) (fun i=>i≤l.length∧∀ k (hk:k < i) (hk':k < l.length),p l[k]=false) (fun i=>l.length - i) 0 (Le.mk _ _ ?_ ?_) ?_ ?_
 · simp [upd,num]
 · simp
 · simp
 · rintro i ⟨hi,hne⟩
   simp [num]
   refine ak (fun h1=>?_) (fun h1=>?_)
   · have e1:(l.map ja)[i]?.getD .nilptr=ja l[i]:=by simp [List.getElem?_eq_getElem h1]
     simp [num,h1,e1,ja,tx,num,hg]
     refine ne (ids:=[900]) rfl rfl (by simp) (by decide) (by simp [tw,dz,ia,d8,gy,d9,ck,d7,gz,bm,ew,ir,iu,au,cf,cg,bf,eb,cj,bh,gx,dy,ci,ch,f9,ga,ql,qn,Option.getD_some,Option.getD_none,fo,cq,b9,f5,b8,bv,f8,bw,f7,fz,fy,iz,dl,b6,fw,dh,bz,fv,fl,fx,di,ft,bu,dg,fu,i7,i6,fm,fp,bx,fq,dm,b7,fa,bo,fk,fj,fi,iv,dc,bq,fg,da,bp,ff,ex,fh,db,fc,bn,cz,fe,ix,iw,ez,cx,bt,fb,de,br,jq,jp,j5,jr,jv,jt,js,j4,ju,jw,jx,jy,jz,eg,ef,ed,kj,kl,ek,ib,ct,ge,dq,j7,cl,l4,ko,kf,lb,ld,lc,l5,l6,ji,jk,jj,jl,jm,k8,dt,k7,gf,gg,gh,du,qp,gu,dx,l2,l3,i8,km,kn,Option.map_some,Option.map_none,gm,dv,dp,ca,gc,gd,jc,jb,lj,li,jo,gv,gw,jn,lf,lg,je,cd,jf,cb,ku,gt,gr,bg,la,lh,jh,ky,k6,kz,dr,eq,eu,er,ba,k9,l8,l7,kq,jg,ns,kr,ce,gp,gq,dw,gn,bd,cv,bc,cw,bb,j6,lk,ll,eh,ei,ie,ic,gb]) rfl (hp l[i] (List.getElem_mem h1)) ?_
     cases hpi:p l[i] with
     | true=>
      simp [mw,mh]
      rw [p7 h1 hpi (fun k hk=>hne k hk (by omega))];rfl
     | false=>
      simp
      refine LoopNext.mk (i+1) ⟨by omega,fun k hk hk'=>?_⟩ (by omega) (Le.mk _ _ ?_ ?_)
      · by_cases e:k=i
        · subst e;exact hpi
        · exact hne k (by omega) hk'
      · simp [num];exact wrap_i64 (by omega) (by omega)
      · simp
   · have e:i=l.length:=by omega
     subst e
     simp [num,mw,mh]
     rw [o3 (fun k hk=>hne k hk hk)]
theorem y9 (l:List LWire) (g:Nat) (c0_0 c0_1 c0_2 c0_3 c0_4 c0_5 c0_6 c0_7:RV) (p:LWire→Bool) (hl:l.length < 1099511627776) (hg:fnB Tryz.prog g=true)
 (hp:∀ x∈l,ag Tryz.prog g [.val (ja x),.box [c0_0,c0_1,c0_2,c0_3,c0_4,c0_5,c0_6,c0_7]] (.ret (.val (.bool (p x))) []) [[c0_0,c0_1,c0_2,c0_3,c0_4,c0_5,c0_6,c0_7]]) :
 ag Tryz.prog 84 [.val (.list 7 (l.map ja)),.fn g [.box [c0_0,c0_1,c0_2,c0_3,c0_4,c0_5,c0_6,c0_7]]] (.ret (.val (.bool (l.any p))) []) [[c0_0,c0_1,c0_2,c0_3,c0_4,c0_5,c0_6,c0_7]]:=by
 refine nz mixed ok84 rfl (fun _=>rfl) ?_
 unfold ir84
 rw [aa]
 simp [ah,am,ax,ac,af,ax,am]
 refine ne (ids:=[900]) rfl rfl (by simp) (by decide) (by simp [tw,dz,ia,d8,gy,d9,ck,d7,gz,bm,ew,ir,iu,au,cf,cg,bf,eb,cj,bh,gx,dy,ci,ch,f9,ga,ql,qn,Option.getD_some,Option.getD_none,fo,cq,b9,f5,b8,bv,f8,bw,f7,fz,fy,iz,dl,b6,fw,dh,bz,fv,fl,fx,di,ft,bu,dg,fu,i7,i6,fm,fp,bx,fq,dm,b7,fa,bo,fk,fj,fi,iv,dc,bq,fg,da,bp,ff,ex,fh,db,fc,bn,cz,fe,ix,iw,ez,cx,bt,fb,de,br,jq,jp,j5,jr,jv,jt,js,j4,ju,jw,jx,jy,jz,eg,ef,ed,kj,kl,ek,ib,ct,ge,dq,j7,cl,l4,ko,kf,lb,ld,lc,l5,l6,ji,jk,jj,jl,jm,k8,dt,k7,gf,gg,gh,du,qp,gu,dx,l2,l3,i8,km,kn,Option.map_some,Option.map_none,gm,dv,dp,ca,gc,gd,jc,jb,lj,li,jo,gv,gw,jn,lf,lg,je,cd,jf,cb,ku,gt,gr,bg,la,lh,jh,ky,k6,kz,dr,eq,eu,er,ba,k9,l8,l7,kq,jg,ns,kr,ce,gp,gq,dw,gn,bd,cv,bc,cw,bb,j6,lk,ll,eh,ei,ie,ic,gb]) rfl (B2 l g c0_0 c0_1 c0_2 c0_3 c0_4 c0_5 c0_6 c0_7 p hl hg hp) ?_
 simp [num,mw,mh]
 exact xb l p
end Go.Proofs
end
section
namespace Go.Proofs
open Go.PW Go.KP
attribute [local simp] RV.cells RV.one PV.cells PV.solid PV.one im ao kh ke RV.ofCells elems PV.killL
variable [GH]
theorem N1 (t:Tx):ag Tryz.prog 173 [.val (tx t)] (.ret (.val (.bool (decide (1≤t.length∧t.length≤8000)))) []) []:=by
 have q:(1≤t.length∧t.length≤8000)↔((1:Int)≤t.length∧(t.length:Int)≤8000):=by omega
 have e:decide (1≤t.length∧t.length≤8000)=decide ((1:Int)≤t.length∧(t.length:Int)≤8000):=decide_eq_decide.2 q
 rw [e]
 have h:=mc t.length 1 8000
 refine aj mixed ok173 rfl (fun _=>rfl) ?_
 unfold ir173
 rw [aa]
 simp [ah,am,ax,ac,af,tx,ae,num]
 refine ab rfl rfl (.inl rfl) h ?_
 simp
theorem Iw (r:LReport) (b1 b2 b3 b4:Bool) (h1:ag Tryz.prog 60 [.val (num r.id),.val (num 1),.val (num 1000000)] (.ret (.val (.bool b1)) []) []) (h2:ag Tryz.prog 60 [.val (num r.born),.val (num 0),.val (num 1000000)] (.ret (.val (.bool b2)) []) [])
 (h3:ag Tryz.prog 60 [.val (num r.tries),.val (num 0),.val (num 3)] (.ret (.val (.bool b3)) []) []) (h4:ag Tryz.prog 173 [.val (tx r.body)] (.ret (.val (.bool b4)) []) []) :
 ag Tryz.prog 172 [.val (aq r)] (.ret (.val (.bool (b1 && b2 && b3 && b4))) []) []:=by
 refine aj mixed ok172 rfl (fun _=>rfl) ?_
 unfold ir172
 rw [aa]
 simp [ah,am,ax,ac,af,aq,tx,num]
 refine ab rfl rfl (.inl rfl) h1 ?_
 cases b1 with
 | false=>simp
 | true=>
  simp [num]
  refine ab rfl rfl (.inl rfl) h2 ?_
  cases b2 with
  | false=>simp
  | true=>
   simp [num]
   refine ab rfl rfl (.inl rfl) h3 ?_
   cases b3 with
   | false=>simp
   | true=>
    simp [num]
    refine ab rfl rfl (.inl rfl) h4 ?_
    cases b4<;>simp
theorem Qv (r:LReport):ag Tryz.prog 172 [.val (aq r)] (.ret (.val (.bool (pj r))) []) []:=
 Iw r _ _ _ _ (mc r.id 1 1000000) (mc r.born 0 1000000) (mc r.tries 0 3) (N1 r.body)
theorem Qr (n:Int):ag Tryz.prog 136 [.val (num n)] (.ret (.val (.bool (decide (100≤n∧n≤599)))) []) []:=by
 refine aj mixed ok136 rfl (fun _=>rfl) ?_
 unfold ir136
 rw [aa]
 have h:=mc n 100 599
 simp [ah,am,ax,ac,af,num]
 refine ab rfl rfl (.inl rfl) h ?_
 simp
theorem T9 (q:LQueue) (hb:tk 1048576 q):ag Tryz.prog 130 [.val (j8 q)] (.ret (.val (.bool (nc q))) []) []:=by
 refine aj mixed ok130 rfl (fun _=>rfl) ?_
 unfold ir130
 rw [aa]
 by_cases h5:q.items.length≤5
 rotate_left
 · have h5':(5:Int) < q.items.length:=by omega
   have:nc q=false:=by unfold nc;rw [decide_eq_false h5];rfl
   simp [ah,am,ax,ac,af,j8,h5',this]
 have h5':¬ (5:Int) < q.items.length:=by omega
 by_cases h6:q.recent.length≤6
 rotate_left
 · have h6':(6:Int) < q.recent.length:=by omega
   have:nc q=false:=by unfold nc;rw [decide_eq_false h6];simp
   simp [ah,am,ax,ac,af,j8,h5',h6',this]
 have h6':¬ (6:Int) < q.recent.length:=by omega
 have hfin:qg q.items.length (w7 q.items)=true→qg q.recent.length (Be q.recent)=true→nc q=true:=fun a b=>by
  unfold nc;rw [decide_eq_true h5,decide_eq_true h6,a,b];rfl
 simp [ah,am,ax,ac,af,j8,h5',h6']
 refine ay (X:=Nat) (fun i=>⟨co [(1,.ptr 1 0),(18,.val (.list 4 (q.items.map aq))),(19,.val (num q.items.length)),(20,.val (num i))],cu [(1,.box [.val (.list 4 (q.items.map aq)),.val (.list 1 (q.recent.map tx))])]⟩) (fun i=>i≤q.items.length∧qg i (w7 q.items)=true) (fun i=>q.items.length - i) 0 (Le.mk _ _ ?_ ?_) ?_ ?_
 · simp [upd,num]
 · simp
 · simp [q9]
 · rintro i ⟨hi,hall⟩
   simp [num]
   refine ak (fun h1=>?_) (fun h1=>?_)
   · have iq:=C3 (q:=q) h1
     have hsu:=qo (w7 q.items) i
     rw [hall,Bool.true_and] at hsu
     obtain ⟨r,hr⟩:∃ r,q.items[i]=r:=⟨_,rfl⟩
     have hR:=Qv r
     have wi:IntKind.i64.wrap ((i:Int)+1)=((i+1:Nat):Int):=by rw [wrap_i64 (by omega) (by omega)];omega
     by_cases h0:i=0
     · subst h0
       rw [Gr h1,hr] at iq hsu
       simp [num,h1,hr,aq,tx,PV.kill,MObj.kill]
       refine em rfl rfl (.inl rfl) hR ?_
       cases hk:pj r with
       | false=>simp [iq hk]
       | true=>
        simp [num]
        refine LoopNext.mk 1 ⟨by omega,by rw [hsu,hk]⟩ (by omega) (Le.mk _ _ ?_ ?_)
        · simp [num,upd,PV.kill];decide
        · simp [tx,PV.kill,MObj.kill]
     · obtain ⟨j,hij⟩:∃ j,i=j+1:=⟨i - 1,by omega⟩
       have hj:j < q.items.length:=by omega
       obtain ⟨s,hs⟩:∃ s,q.items[j]=s:=⟨_,rfl⟩
       have hra:w7 q.items i=(pj r && (decide (s.id < r.id) && decide (s.born≤r.born))):=by
        subst hij;rw [Gs h1,hr,hs]
       rw [hra] at iq hsu
       have wj:IntKind.i64.wrap ((i:Int) - 1)=(j:Int):=by rw [wrap_i64 (by omega) (by omega)];omega
       have hp:0 < i:=by omega
       simp [num,h1,hr,aq,tx,PV.kill,MObj.kill]
       refine em rfl rfl (.inl rfl) hR ?_
       cases hk:pj r with
       | false=>simp [iq (by rw [hk];rfl)]
       | true=>
        rw [hk,Bool.true_and] at iq hsu
        by_cases hA:s.id < r.id
        · have hA':¬ r.id≤s.id:=by omega
          by_cases hB:s.born≤r.born
          · have hB':¬ r.born < s.born:=by omega
            simp [num,h1,hr,hs,hj,hp,wj,aq,tx,PV.kill,MObj.kill,hA',hB']
            refine LoopNext.mk (i+1) ⟨by omega,by rw [hsu,decide_eq_true hA,decide_eq_true hB];rfl⟩ (by omega) (Le.mk _ _ ?_ ?_)
            · simp [num,wi,PV.kill]
            · simp [tx,PV.kill,MObj.kill]
          · have hB':r.born < s.born:=by omega
            simp [num,h1,hr,hs,hj,hp,wj,aq,tx,PV.kill,MObj.kill,hA',hB',iq (by rw [decide_eq_false hB,Bool.and_false])]
        · have hA':r.id≤s.id:=by omega
          simp [num,h1,hr,hs,hj,hp,wj,aq,tx,PV.kill,MObj.kill,hA',iq (by rw [decide_eq_false hA,Bool.false_and])]
   · have e:i=q.items.length:=by omega
     subst e
     simp [num]
     refine ay (X:=Nat) (fun i=>⟨co [(1,.ptr 1 0),(58,.val (.list 1 (q.recent.map tx))),(59,.val (num q.recent.length)),(60,.val (num i))],cu [(1,.box [.val (.list 4 (q.items.map aq)),.val (.list 1 (q.recent.map tx))])]⟩) (fun i=>i≤q.recent.length∧qg i (Be q.recent)=true) (fun i=>q.recent.length - i) 0 (Le.mk _ _ ?_ ?_) ?_ ?_
     · simp [upd,num]
     · simp
     · simp [q9]
     · rintro i ⟨hi2,hall2⟩
       simp [num]
       refine ak (fun h1=>?_) (fun h1=>?_)
       · have iq:=C4 (q:=q) h1
         have hsu:=qo (Be q.recent) i
         rw [hall2,Bool.true_and] at hsu
         rw [Mt h1] at iq hsu
         obtain ⟨r,hr⟩:∃ r,q.recent[i]=r:=⟨_,rfl⟩
         rw [hr] at iq hsu
         have hR:=N1 r
         have hH:=wk (q.recent.take i) r (by simp;omega)
         have wi:IntKind.i64.wrap ((i:Int)+1)=((i+1:Nat):Int):=by rw [wrap_i64 (by omega) (by omega)];omega
         have hile:i≤q.recent.length:=by omega
         simp [num,h1,hr,tx,ae]
         refine ab rfl rfl (.inl rfl) hR ?_
         cases hk:decide (1≤r.length∧r.length≤8000) with
         | false=>simp [iq (by rw [hk];rfl)]
         | true=>
          rw [hk,Bool.true_and] at iq hsu
          simp [num,h1,hr,tx,hile,← List.map_take]
          refine ab rfl rfl (.inl rfl) hH ?_
          by_cases hm:r∈q.recent.take i
          · simp [hm,iq (by rw [decide_eq_false (fun h=>h hm)])]
          · simp [hm]
            refine LoopNext.mk (i+1) ⟨by omega,by rw [hsu,decide_eq_true hm]⟩ (by omega) (Le.mk _ _ ?_ ?_)
            · simp [num,wi]
            · simp [tx]
       · have e:i=q.recent.length:=by omega
         subst e
         simp [hfin hall hall2]
def Dq (p:LPipe):List RV:=[.list 6 (p.channels.map aw),tx p.policy.reportTo,.list 1 (p.policy.uris.map tx),.list 2 (p.policy.rules.map bk),num p.now,num p.next,.list 3 (p.log.map eo),.list 7 (p.wires.map ja)]
theorem T7 (r:LReport) (p:LPipe):ag Tryz.prog 132 [.val (aq r),.box (Dq p)] (.ret (.val (.bool (!(decide (r.id < p.next) && decide (r.born≤p.now))))) []) [Dq p]:=by
 unfold Dq
 refine nz mixed ok132 rfl (fun _=>rfl) ?_
 unfold ir132
 rw [aa]
 by_cases hA:r.id < p.next
 · have hA':¬ p.next≤r.id:=by omega
   by_cases hB:r.born≤p.now
   · have hB':¬ p.now < r.born:=by omega
     simp [ah,am,ax,ac,af,aq,tx,num,hA,hA',hB,hB',mw,mh]
   · have hB':p.now < r.born:=by omega
     simp [ah,am,ax,ac,af,aq,tx,num,hA,hA',hB,hB',mw,mh]
 · have hA':p.next≤r.id:=by omega
   simp [ah,am,ax,ac,af,aq,tx,num,hA,hA',mw,mh]
end Go.Proofs
end
section
namespace Go.Proofs
open Go.PW Go.KP
attribute [local simp] RV.cells RV.one PV.cells PV.solid PV.one im ao kh ke RV.ofCells elems PV.killL
variable [GH]
theorem Hi (a b:List LTarget) (ha:a.length < 1099511627776) (hb:b.length < 1099511627776):ag Tryz.prog 128 [.val (.list 3 (a.map al)),.val (.list 3 (b.map al))] (.ret (.val (.bool (decide (a=b)))) []) []:=by
 refine aj mixed ok128 rfl (fun _=>rfl) ?_
 unfold ir128
 rw [aa]
 by_cases hlen:a.length=b.length
 rotate_left
 · have h1:¬ (a.length:Int)=b.length:=by omega
   have h2:a≠b:=fun e=>hlen (by rw [e])
   simp [ah,am,ax,ac,af,h1,h2]
 simp [ah,am,ax,ac,af,num,hlen]
 refine ay (X:=Nat) (fun i=>⟨co [(0,.val (.list 3 (a.map al))),(1,.val (.list 3 (b.map al))),(12,.val (num b.length)),(13,.val (num i))],cu []⟩) (fun i=>i≤b.length∧a.take i=b.take i) (fun i=>b.length - i) 0 (Le.mk _ _ ?_ ?_) ?_ ?_
 · simp [upd,num]
 · simp
 · simp
 · rintro i ⟨hi,heq⟩
   simp [num]
   refine ak (fun h1b=>?_) (fun h1=>?_)
   · have h1:i < a.length:=by omega
     obtain ⟨x,hx⟩:∃ x,a[i]=x:=⟨_,rfl⟩
     obtain ⟨y,hy⟩:∃ y,b[i]=y:=⟨_,rfl⟩
     have hne:x≠y→a≠b:=fun h e=>h (by subst e;rw [← hx,← hy])
     have wi:IntKind.i64.wrap ((i:Int)+1)=((i+1:Nat):Int):=by rw [wrap_i64 (by omega) (by omega)];omega
     by_cases hu:x.url=y.url
     · by_cases hp:x.prio=y.prio
       · by_cases hw:x.weight=y.weight
         · have hxy:x=y:=by
            cases x;cases y
            simp only at hu hp hw
            subst hu;subst hp;subst hw;rfl
           simp [num,h1,h1b,hx,hy,al,tx,ls,vo,ux,ka,hu,hp,hw]
           refine LoopNext.mk (i+1) ⟨by omega,?_⟩ (by omega) (Le.mk _ _ ?_ ?_)
           · rw [List.take_add_one,List.take_add_one,List.getElem?_eq_getElem h1,List.getElem?_eq_getElem h1b,heq,hx,hy,hxy]
           · simp [num,wi]
           · simp
         · simp [num,h1,h1b,hx,hy,al,tx,ls,vo,ux,ka,hu,hp,hw,hne (fun e=>hw (by rw [e]))]
       · simp [num,h1,h1b,hx,hy,al,tx,ls,vo,ux,ka,hu,hp,hne (fun e=>hp (by rw [e]))]
     · simp [num,h1,h1b,hx,hy,al,tx,ls,vo,ux,ka,hu,hne (fun e=>hu (by rw [e]))]
   · have e:i=b.length:=by omega
     subst e
     rw [← hlen,List.take_length,hlen,List.take_length] at heq
     simp [heq]
theorem Qt (c:LChannel) (name:Tx):ag Tryz.prog 134 [.val (aw c),.box [tx name]] (.ret (.val (.bool (decide (c.group.name=name)))) []) [[tx name]]:=by
 refine nz mixed ok134 rfl (fun _=>rfl) ?_
 unfold ir134
 rw [aa]
 simp [ah,am,ax,ac,af,aw,tx,num,ka,mw,mh]
theorem T6 (p:LPipe) (name:Tx) (hl:p.channels.length < 1099511627776):ag Tryz.prog 83 [.val (ik p),.val (tx name)] (.ret (.val (num (qz p.channels fun c=>decide (c.group.name=name)))) []) []:=by
 have h:=y8 p.channels 134 (tx name) (fun c=>decide (c.group.name=name)) hl (by kernel_rfl) (fun c _=>Qt c name)
 refine aj mixed ok83 rfl (fun _=>rfl) ?_
 unfold ir83
 rw [aa]
 simp [ah,am,ax,ac,af,ik,tx,num]
 refine ne (ids:=[3]) rfl rfl (by simp) (by decide) (by simp [tw,dz,ia,d8,gy,d9,ck,d7,gz,bm,ew,ir,iu,au,cf,cg,bf,eb,cj,bh,gx,dy,ci,ch,f9,ga,ql,qn,Option.getD_some,Option.getD_none,fo,cq,b9,f5,b8,bv,f8,bw,f7,fz,fy,iz,dl,b6,fw,dh,bz,fv,fl,fx,di,ft,bu,dg,fu,i7,i6,fm,fp,bx,fq,dm,b7,fa,bo,fk,fj,fi,iv,dc,bq,fg,da,bp,ff,ex,fh,db,fc,bn,cz,fe,ix,iw,ez,cx,bt,fb,de,br,jq,jp,j5,jr,jv,jt,js,j4,ju,jw,jx,jy,jz,eg,ef,ed,kj,kl,ek,ib,ct,ge,dq,j7,cl,l4,ko,kf,lb,ld,lc,l5,l6,ji,jk,jj,jl,jm,k8,dt,k7,gf,gg,gh,du,qp,gu,dx,l2,l3,i8,km,kn,Option.map_some,Option.map_none,gm,dv,dp,ca,gc,gd,jc,jb,lj,li,jo,gv,gw,jn,lf,lg,je,cd,jf,cb,ku,gt,gr,bg,la,lh,jh,ky,k6,kz,dr,eq,eu,er,ba,k9,l8,l7,kq,jg,ns,kr,ce,gp,gq,dw,gn,bd,cv,bc,cw,bb,j6,lk,ll,eh,ei,ie,ic,gb,tx]) rfl h ?_
 simp
theorem N2 (p:LPipe) (c:LChannel) (hb:md 1048576 c):ag Tryz.prog 82 [.val (ik p),.val (aw c)] (.ret (.val (.bool (mq p.next p.now c))) []) []:=by
 have hG:=Uc c.group hb.1
 have hpl:c.peers.length≤1048576:=hb.2.1.1
 have htl:c.group.targets.length≤1048576:=hb.1.2.1
 have hql:c.queue.items.length≤1048576:=hb.2.2.1.1
 have hP:=Ub c.peers (by omega) (fun x hx=>by have:=hb.2.1.2 x hx;unfold rc nt at this;omega)
 have hT:=E7 c.peers (by omega)
 have hE:=Hi (tgs c.peers) c.group.targets (by simp [tgs];omega) (by omega)
 have hQ:=T9 c.queue hb.2.2
 have hC:=x7 c.queue.items 132 (.list 6 (p.channels.map aw)) (tx p.policy.reportTo) (.list 1 (p.policy.uris.map tx)) (.list 2 (p.policy.rules.map bk)) (num p.now) (num p.next) (.list 3 (p.log.map eo)) (.list 7 (p.wires.map ja)) (fun r=>!(decide (r.id < p.next) && decide (r.born≤p.now))) (by omega) (by kernel_rfl) (fun r _=>T7 r p)
 have hch:mq p.next p.now c=(uf c.group && p6 c.peers && decide (tgs c.peers=c.group.targets) && nc c.queue && !(c.queue.items.any fun r=>!(decide (r.id < p.next) && decide (r.born≤p.now)))):=by
  unfold mq tgs
  rw [List.not_any_eq_all_not]
  simp only [Bool.not_not]
 rw [hch]
 refine aj mixed ok82 rfl (fun _=>rfl) ?_
 unfold ir82
 rw [aa]
 simp [ah,am,ax,ac,af,ik,aw,tx,num]
 refine em rfl rfl (.inl rfl) hG ?_
 cases uf c.group with
 | false=>simp
 | true=>
 simp [num]
 refine em rfl rfl (.inl rfl) hP ?_
 cases p6 c.peers with
 | false=>simp
 | true=>
 simp [num]
 refine em rfl rfl (.inl rfl) hT ?_
 simp [num]
 refine em rfl rfl (.inl rfl) hE ?_
 cases decide (tgs c.peers=c.group.targets) with
 | false=>simp
 | true=>
 simp [num]
 refine em rfl rfl (.inl rfl) hQ ?_
 cases nc c.queue with
 | false=>simp
 | true=>
 simp [num]
 refine ne (ids:=[2]) rfl rfl (by simp) (by decide) (by simp [tw,dz,ia,d8,gy,d9,ck,d7,gz,bm,ew,ir,iu,au,cf,cg,bf,eb,cj,bh,gx,dy,ci,ch,f9,ga,ql,qn,Option.getD_some,Option.getD_none,fo,cq,b9,f5,b8,bv,f8,bw,f7,fz,fy,iz,dl,b6,fw,dh,bz,fv,fl,fx,di,ft,bu,dg,fu,i7,i6,fm,fp,bx,fq,dm,b7,fa,bo,fk,fj,fi,iv,dc,bq,fg,da,bp,ff,ex,fh,db,fc,bn,cz,fe,ix,iw,ez,cx,bt,fb,de,br,jq,jp,j5,jr,jv,jt,js,j4,ju,jw,jx,jy,jz,eg,ef,ed,kj,kl,ek,ib,ct,ge,dq,j7,cl,l4,ko,kf,lb,ld,lc,l5,l6,ji,jk,jj,jl,jm,k8,dt,k7,gf,gg,gh,du,qp,gu,dx,l2,l3,i8,km,kn,Option.map_some,Option.map_none,gm,dv,dp,ca,gc,gd,jc,jb,lj,li,jo,gv,gw,jn,lf,lg,je,cd,jf,cb,ku,gt,gr,bg,la,lh,jh,ky,k6,kz,dr,eq,eu,er,ba,k9,l8,l7,kq,jg,ns,kr,ce,gp,gq,dw,gn,bd,cv,bc,cw,bb,j6,lk,ll,eh,ei,ie,ic,gb,tx,num]) rfl hC ?_
 simp
theorem L8 (p:LPipe) (w:LWire) (b1 b2 b3 b5:Bool) (hn:1≤p.next∧p.next≤1000000) (hil:w.ids.length≤1048576) (h1:ag Tryz.prog 60 [.val (num w.at_),.val (num 0),.val (num p.now)] (.ret (.val (.bool b1)) []) [])
 (h2:ag Tryz.prog 136 [.val (num w.status)] (.ret (.val (.bool b2)) []) []) (h3:ag Tryz.prog 137 [.val (tx w.group)] (.ret (.val (.bool b3)) []) [])
 (h5:ag Tryz.prog 60 [.val (num w.ids.length),.val (num 1),.val (num 3)] (.ret (.val (.bool b5)) []) []) :
 ag Tryz.prog 86 [.val (ik p),.val (ja w)] (.ret (.val (.bool (b1 && b2 && b3 && decide (w.url.length≤100) && b5 && decide (w.body.length≤65536) && qg w.ids.length (zx p.next w.ids)))) []) []:=by
 refine aj mixed ok86 rfl (fun _=>rfl) ?_
 unfold ir86
 rw [aa]
 simp [ah,am,ax,ac,af,ik,ja,tx,num]
 refine ab rfl rfl (.inl rfl) h1 ?_
 cases b1 with
 | false=>simp
 | true=>
 simp [num]
 refine ab rfl rfl (.inl rfl) h2 ?_
 cases b2 with
 | false=>simp
 | true=>
 simp [num]
 refine ab rfl rfl (.inl rfl) h3 ?_
 cases b3 with
 | false=>simp
 | true=>
 by_cases hu:w.url.length≤100
 rotate_left
 · have hu':(100:Int) < w.url.length:=by omega
   simp [num,ae,hu',hu]
 have hu':¬ (100:Int) < w.url.length:=by omega
 simp [num,ae,hu',hu]
 refine ab rfl rfl (.inl rfl) h5 ?_
 cases b5 with
 | false=>simp
 | true=>
 by_cases hy:w.body.length≤65536
 rotate_left
 · have hy':(65536:Int) < w.body.length:=by omega
   simp [num,ae,hy',hy]
 have hy':¬ (65536:Int) < w.body.length:=by omega
 simp [num,ae,hy',hy]
 have wn:IntKind.i64.wrap (p.next - 1)=p.next - 1:=wrap_i64 (by omega) (by omega)
 refine ay (X:=Nat) (fun i=>⟨co [(2,.ptr 2 0),(3,.ptr 3 0),(45,.val (.list 1 (w.ids.map num))),(46,.val (num w.ids.length)),(47,.val (num i))],cu [(2,nu p),(3,Ir w)]⟩) (fun i=>i≤w.ids.length∧qg i (zx p.next w.ids)=true) (fun i=>w.ids.length - i) 0 (Le.mk _ _ ?_ ?_) ?_ ?_
 · simp [upd,num,PV.kill]
 · simp [nu,Ir,tx,num,MObj.kill,PV.kill]
 · simp [q9]
 · rintro i ⟨hi,hall⟩
   simp [num,Ir]
   refine ak (fun hlt=>?_) (fun hlt=>?_)
   · have iq:zx p.next w.ids i=false→qg w.ids.length (zx p.next w.ids)=false:=vk hlt
     have hsu:=qo (zx p.next w.ids) i
     rw [hall,Bool.true_and] at hsu
     obtain ⟨r,hr⟩:∃ r,w.ids[i]=r:=⟨_,rfl⟩
     have hR:=mc r 1 (p.next - 1)
     have wi:IntKind.i64.wrap ((i:Int)+1)=((i+1:Nat):Int):=by rw [wrap_i64 (by omega) (by omega)];omega
     by_cases h0:i=0
     · subst h0
       rw [Jt hlt,hr] at iq hsu
       simp [num,hlt,hr,tx,nu,wn]
       refine ab rfl rfl (.inl rfl) hR ?_
       cases hk:decide (1≤r∧r≤p.next - 1) with
       | false=>simp [iq hk]
       | true=>
        simp [num]
        refine LoopNext.mk 1 ⟨by omega,by rw [hsu,hk]⟩ (by omega) (Le.mk _ _ ?_ ?_)
        · simp [num,upd];decide
        · simp [tx,nu,Ir,num]
     · obtain ⟨j,hij⟩:∃ j,i=j+1:=⟨i - 1,by omega⟩
       have hj:j < w.ids.length:=by omega
       obtain ⟨s,hs⟩:∃ s,w.ids[j]=s:=⟨_,rfl⟩
       have hra:zx p.next w.ids i=(decide (1≤r∧r≤p.next - 1) && decide (s < r)):=by
        subst hij;rw [Ju hlt,hr,hs]
       rw [hra] at iq hsu
       have wj:IntKind.i64.wrap ((i:Int) - 1)=(j:Int):=by rw [wrap_i64 (by omega) (by omega)];omega
       have hp:0 < i:=by omega
       simp [num,hlt,hr,tx,nu,wn]
       refine ab rfl rfl (.inl rfl) hR ?_
       cases hk:decide (1≤r∧r≤p.next - 1) with
       | false=>simp [iq (by rw [hk];rfl)]
       | true=>
        rw [hk,Bool.true_and] at iq hsu
        by_cases hA:s < r
        · have hA':¬ r≤s:=by omega
          simp [num,hlt,hr,hs,hj,hp,wj,tx,hA']
          refine LoopNext.mk (i+1) ⟨by omega,by rw [hsu,decide_eq_true hA]⟩ (by omega) (Le.mk _ _ ?_ ?_)
          · simp [num,wi]
          · simp [tx,nu,Ir,num]
        · have hA':r≤s:=by omega
          simp [num,hlt,hr,hs,hj,hp,wj,tx,hA',iq (decide_eq_false hA)]
   · have e:i=w.ids.length:=by omega
     subst e
     simp [hall,hu,hy]
theorem W7 (p:LPipe) (w:LWire) (hn:1≤p.next∧p.next≤1000000) (hb:ph 1048576 w):ag Tryz.prog 86 [.val (ik p),.val (ja w)] (.ret (.val (.bool (ow p.next p.now w))) []) []:=by
 have hgl:w.group.length≤1048576:=hb.1
 have hil:w.ids.length≤1048576:=hb.2.2.1
 have q:(1≤w.ids.length∧w.ids.length≤3)↔((1:Int)≤w.ids.length∧(w.ids.length:Int)≤3):=by omega
 unfold ow
 rw [decide_eq_decide.2 q]
 exact L8 p w _ _ _ _ hn hil (mc w.at_ 0 p.now) (Qr w.status) (Hh w.group (by omega)) (mc w.ids.length 1 3)
end Go.Proofs
end
section
namespace Go.Proofs
open Go.PW Go.KP
attribute [local simp] RV.cells RV.one PV.cells PV.solid PV.one im ao kh ke RV.ofCells elems PV.killL
variable [GH]
theorem Ua (w:LWire) (p:LPipe) (hn:1≤p.next∧p.next≤1000000) (hb:ph 1048576 w):ag Tryz.prog 85 [.val (ja w),.box (Dq p)] (.ret (.val (.bool (!ow p.next p.now w))) []) [Dq p]:=by
 have hW:=W7 p w hn hb
 unfold Dq
 refine nz mixed ok85 rfl (fun _=>rfl) ?_
 unfold ir85
 rw [aa]
 simp [ah,am,ax,ac,af,ja,tx,num]
 refine ab rfl rfl (.inl rfl) hW ?_
 simp [num,tx,mw,mh]
theorem Xf (p:LPipe) (hb:pi 1048576 p):ag Tryz.prog 41 [.val (ik p)] (.ret (.val (.bool (lq p))) []) []:=by
 have hcl:p.channels.length≤1048576:=hb.1.1
 have hP:=Qw p.policy hb.2.1
 have hN:=i_isNow p.now
 have hX:=mc p.next 1 1000000
 refine aj mixed ok41 rfl (fun _=>rfl) ?_
 unfold ir41
 rw [aa]
 by_cases h5:p.channels.length≤5
 rotate_left
 · have h5':(5:Int) < p.channels.length:=by omega
   have hf:lq p=false:=by unfold lq;rw [decide_eq_false h5];rfl
   simp [ah,am,ax,ac,af,ik,tx,num,h5',hf]
 have h5':¬ (5:Int) < p.channels.length:=by omega
 simp [ah,am,ax,ac,af,ik,tx,num,h5']
 refine ab rfl rfl (.inl rfl) hP ?_
 cases hpol:o2 p.policy with
 | false=>
  have hf:lq p=false:=by unfold lq;rw [hpol];simp
  simp [hf]
 | true=>
 simp [num]
 refine ab rfl rfl (.inl rfl) hN ?_
 cases hnow:decide (0≤p.now∧p.now≤1000000) with
 | false=>
  have hf:lq p=false:=by unfold lq;rw [hnow];simp
  simp [hf]
 | true=>
 simp [num]
 refine ab rfl rfl (.inl rfl) hX ?_
 cases hnext:decide (1≤p.next∧p.next≤1000000) with
 | false=>
  have hf:lq p=false:=by unfold lq;rw [hnext];simp
  simp [hf]
 | true=>
 by_cases hll:p.log.length≤4096
 rotate_left
 · have hll':(4096:Int) < p.log.length:=by omega
   have hf:lq p=false:=by unfold lq;rw [decide_eq_false hll];simp
   simp [num,hll',hf]
 have hll':¬ (4096:Int) < p.log.length:=by omega
 by_cases hwl:p.wires.length≤4096
 rotate_left
 · have hwl':(4096:Int) < p.wires.length:=by omega
   have hf:lq p=false:=by unfold lq;rw [decide_eq_false hwl];simp
   simp [num,hll',hwl',hf]
 have hwl':¬ (4096:Int) < p.wires.length:=by omega
 have hpk:lq p=(qg p.channels.length (uk p) && qg p.log.length (vh p.next p.now p.log) && p.wires.all (ow p.next p.now)):=by
  unfold lq;rw [decide_eq_true h5,hpol,hnow,hnext,decide_eq_true hll,decide_eq_true hwl];simp
 have hn2:1≤p.next∧p.next≤1000000:=of_decide_eq_true hnext
 have wn:IntKind.i64.wrap (p.next - 1)=p.next - 1:=wrap_i64 (by omega) (by omega)
 have hpk2:lq p=(qg p.channels.length (uk p) && qg p.log.length (vh p.next p.now p.log) && !(p.wires.any fun w=>!ow p.next p.now w)):=by
  rw [hpk,List.not_any_eq_all_not]
  simp only [Bool.not_not]
 have hC:=y9 p.wires 85 (.list 6 (p.channels.map aw)) (tx p.policy.reportTo) (.list 1 (p.policy.uris.map tx)) (.list 2 (p.policy.rules.map bk)) (num p.now) (num p.next) (.list 3 (p.log.map eo)) (.list 7 (p.wires.map ja)) (fun w=>!ow p.next p.now w) (by omega) (by kernel_rfl) (fun w hw=>Ua w p hn2 (hb.2.2.2.2 w hw))
 rw [hpk2]
 simp [num,hll',hwl']
 refine ay (X:=Nat) (fun i=>⟨co [(1,.ptr 1 0),(43,.val (.list 6 (p.channels.map aw))),(44,.val (num p.channels.length)),(45,.val (num i))],cu [(1,nu p)]⟩) (fun i=>i≤p.channels.length∧qg i (uk p)=true) (fun i=>p.channels.length - i) 0 (Le.mk _ _ ?_ ?_) ?_ ?_
 · simp [upd,num,PV.kill]
 · simp [nu,tx,num,MObj.kill,PV.kill]
 · simp [q9]
 · rintro i ⟨hi,hall⟩
   simp [num,nu]
   refine ak (fun hlt=>?_) (fun hlt=>?_)
   · have iq:uk p i=false→(qg p.channels.length (uk p) && qg p.log.length (vh p.next p.now p.log) && !(p.wires.any fun w=>!ow p.next p.now w))=false:=fun h=>by rw [vk hlt h];rfl
     have hsu:=qo (uk p) i
     rw [hall,Bool.true_and] at hsu
     rw [J0 hlt] at iq hsu
     have hnm:=Oz p i hlt
     obtain ⟨c,hc⟩:∃ c,p.channels[i]=c:=⟨_,rfl⟩
     have hbc:md 1048576 c:=by rw [← hc];exact hb.1.2 _ (List.getElem_mem hlt)
     rw [hc] at iq hsu hnm
     have hA:=T6 p c.group.name (by omega)
     have hCh:=N2 p c hbc
     have wi:IntKind.i64.wrap ((i:Int)+1)=((i+1:Nat):Int):=by rw [wrap_i64 (by omega) (by omega)];omega
     simp [num,hlt,hc,aw,tx,PV.kill,MObj.kill]
     refine ab rfl rfl (.inl rfl) hCh ?_
     cases hk:mq p.next p.now c with
     | false=>simp [iq (by rw [hk,Bool.and_false])]
     | true=>
      rw [hk,Bool.and_true] at iq hsu
      simp [num,tx,PV.kill,MObj.kill]
      refine ab rfl rfl (.inl rfl) hA ?_
      by_cases hu:c.group.name∈(p.channels.map fun c=>c.group.name).take i
      · have hne:¬ (qz p.channels fun x=>decide (x.group.name=c.group.name))=(i:Int):=fun h=>hnm.1 h hu
        simp [num,hne,iq (decide_eq_false (fun h=>h hu))]
      · have heq:=hnm.2 hu
        simp [num,heq]
        refine LoopNext.mk (i+1) ⟨by omega,by rw [hsu,decide_eq_true hu]⟩ (by omega) (Le.mk _ _ ?_ ?_)
        · simp [num,wi,PV.kill]
        · simp [tx,nu,num,PV.kill,MObj.kill]
   · have e:i=p.channels.length:=by omega
     subst e
     rw [hall,Bool.true_and]
     simp [num]
     refine ay (X:=Nat) (fun i=>⟨co [(1,.ptr 1 0),(5,.val (num (Bn p.log i))),(65,.val (.list 3 (p.log.map eo))),(66,.val (num p.log.length)),(67,.val (num i))],cu [(1,nu p)]⟩) (fun i=>i≤p.log.length∧qg i (vh p.next p.now p.log)=true) (fun i=>p.log.length - i) 0 (Le.mk _ _ ?_ ?_) ?_ ?_
     · simp [upd,num,PV.kill,Bn]
     · simp [nu,tx,num,MObj.kill,PV.kill]
     · simp [q9]
     · rintro i ⟨hi2,hall2⟩
       simp [num,nu]
       refine ak (fun hlt=>?_) (fun hlt=>?_)
       · have iq:vh p.next p.now p.log i=false→(qg p.log.length (vh p.next p.now p.log) && !(p.wires.any fun w=>!ow p.next p.now w))=false:=fun h=>by rw [vk hlt h];rfl
         have hsu:=qo (vh p.next p.now p.log) i
         rw [hall2,Bool.true_and] at hsu
         rw [Hy hlt] at iq hsu
         have hls:=B9 hlt
         obtain ⟨x,hx⟩:∃ x,p.log[i]=x:=⟨_,rfl⟩
         rw [hx] at iq hsu hls
         have hK:=mc x.kind 1 7
         have hI:=mc x.id 1 (p.next - 1)
         have hT:=mc x.at_ (Bn p.log i) p.now
         have wi:IntKind.i64.wrap ((i:Int)+1)=((i+1:Nat):Int):=by rw [wrap_i64 (by omega) (by omega)];omega
         simp [num,hlt,hx,eo,tx,PV.kill,MObj.kill]
         refine ab rfl rfl (.inl rfl) hK ?_
         cases hk:decide (1≤x.kind∧x.kind≤7) with
         | false=>simp [iq (by rw [hk];rfl)]
         | true=>
         rw [hk,Bool.true_and] at iq hsu
         simp [num,wn,PV.kill]
         refine ab rfl rfl (.inl rfl) hI ?_
         cases hid:decide (1≤x.id∧x.id≤p.next - 1) with
         | false=>simp [iq (by rw [hid];rfl)]
         | true=>
         rw [hid,Bool.true_and] at iq hsu
         simp [num,wn,PV.kill]
         refine ab rfl rfl (.inl rfl) hT ?_
         cases hat:decide (Bn p.log i≤x.at_∧x.at_≤p.now) with
         | false=>simp [iq hat]
         | true=>
          simp [num,PV.kill]
          refine LoopNext.mk (i+1) ⟨by omega,by rw [hsu,hat]⟩ (by omega) (Le.mk _ _ ?_ ?_)
          · simp [num,wi,PV.kill,hls]
          · simp [tx,nu,num,PV.kill,MObj.kill]
       · have e:i=p.log.length:=by omega
         subst e
         rw [hall2,Bool.true_and]
         simp [num]
         refine ne (ids:=[1]) rfl rfl (by simp) (by decide) (by simp [tw,dz,ia,d8,gy,d9,ck,d7,gz,bm,ew,ir,iu,au,cf,cg,bf,eb,cj,bh,gx,dy,ci,ch,f9,ga,ql,qn,Option.getD_some,Option.getD_none,fo,cq,b9,f5,b8,bv,f8,bw,f7,fz,fy,iz,dl,b6,fw,dh,bz,fv,fl,fx,di,ft,bu,dg,fu,i7,i6,fm,fp,bx,fq,dm,b7,fa,bo,fk,fj,fi,iv,dc,bq,fg,da,bp,ff,ex,fh,db,fc,bn,cz,fe,ix,iw,ez,cx,bt,fb,de,br,jq,jp,j5,jr,jv,jt,js,j4,ju,jw,jx,jy,jz,eg,ef,ed,kj,kl,ek,ib,ct,ge,dq,j7,cl,l4,ko,kf,lb,ld,lc,l5,l6,ji,jk,jj,jl,jm,k8,dt,k7,gf,gg,gh,du,qp,gu,dx,l2,l3,i8,km,kn,Option.map_some,Option.map_none,gm,dv,dp,ca,gc,gd,jc,jb,lj,li,jo,gv,gw,jn,lf,lg,je,cd,jf,cb,ku,gt,gr,bg,la,lh,jh,ky,k6,kz,dr,eq,eu,er,ba,k9,l8,l7,kq,jg,ns,kr,ce,gp,gq,dw,gn,bd,cv,bc,cw,bb,j6,lk,ll,eh,ei,ie,ic,gb,tx,num]) rfl hC ?_
         simp
end Go.Proofs
end
