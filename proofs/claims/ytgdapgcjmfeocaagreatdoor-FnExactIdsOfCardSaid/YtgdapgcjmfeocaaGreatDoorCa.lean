/- Ca: merged out of KSa, KSb, KSc, KSd, KSe, KSr. -/
import Derived.Test.YtgdapgcjmfeocaaGreatDoorBa
import Derived.Test.YtgdapgcjmfeocaaGreatDoorAc
set_option linter.unusedSectionVars false
set_option linter.unusedSimpArgs false
set_option linter.unusedVariables false
set_option maxRecDepth 100000
section
namespace Go.Proofs
open Go.PW Go.KP
attribute [local simp] RV.cells RV.one PV.cells PV.solid PV.one im ao kh ke RV.ofCells elems PV.killL
theorem mixed:Tryz.prog.follows .mixedOrders=true:=by kernel_rfl
variable [GF]
theorem nh (k:IntKind) (a lo hi:Int):ag Tryz.prog 56 [.val (.int k a),.val (.int k lo),.val (.int k hi)] (.ret (.val (.bool (decide (lo≤a∧a≤hi)))) []) []:=by
 refine aj mixed ok56 rfl (fun _=>rfl) ?_
 unfold ir56
 rw [aa]
 by_cases h:lo≤a
 · simp [ah,am,ax,ac,af,h]
 · simp [ah,am,ax,ac,af,h]
theorem sk (t:Tx) (c:UInt8) (ht:t.length < 1099511627776):ag Tryz.prog 215 [.val (tx t),.val (rvb c)] (.ret (.val (num (kw t c))) []) []:=by
 refine aj mixed ok215 rfl (fun _=>rfl) ?_
 unfold ir215
 rw [aa]
 simp only [dz,ia,d8,gy,d9,ck,d7,gz,bm,ew,ir,iu,au,cf,cg,bf,eb,cj,bh,gx,dy,ci,ch,f9,ga,ql,qn,Option.getD_some,Option.getD_none,fo,cq,b9,f5,b8,bv,f8,bw,f7,fz,fy,iz,dl,b6,fw,dh,bz,fv,fl,fx,di,ft,bu,dg,fu,i7,i6,fm,fp,bx,fq,dm,b7,fa,bo,fk,fj,fi,iv,dc,bq,fg,da,bp,ff,ex,fh,db,fc,bn,cz,fe,ix,iw,ez,cx,bt,fb,de,br,jq,jp,j5,jr,jv,jt,js,j4,ju,jw,jx,jy,jz,eg,ef,ed,kj,kl,ek,ib,ct,ge,dq,j7,cl,l4,ko,kf,lb,ld,lc,l5,l6,ji,jk,jj,jl,jm,k8,dt,k7,gf,gg,gh,du,qp,gu,dx,l2,l3,i8,km,kn,Option.map_some,Option.map_none,gm,dv,dp,ca,gc,gd,jc,jb,lj,li,jo,gv,gw,jn,lf,lg,je,cd,jf,cb,ku,gt,gr,bg,la,lh,jh,ky,k6,kz,dr,eq,eu,er,ba,k9,l8,l7,kq,jg,ns,kr,ce,gp,gq,dw,gn,bd,cv,bc,cw,bb,j6,lk,ll,eh,ei,ie,ic,gb,ah,am,ax,ac,af,tx,rvb,num]
 refine ay (X:=Nat) (fun i=>⟨co [(0,.val (.str (bs t))),(1,.val (.int .u8 c.toNat)),(5,.val (.int .i64 i))],cu []⟩) (fun i=>i≤t.length∧∀ k,k < i→t.getD k 0≠c) (fun i=>t.length - i) 0 (Le.mk _ _ ?_ ?_) ?_ ?_
 · simp [upd]
 · simp
 · simp
 · rintro i ⟨hi,hne⟩
   simp [ae,ar,u8_eq]
   refine ak (fun h1=>?_) (fun h1=>?_)
   · simp [ae,ar,u8_eq,h1]
     refine ak (fun h2=>?_) (fun h2=>?_)
     · simp
       rw [Nn t c i hi hne (.inr (by rw [vw _ _ _ h1];exact h2))];rfl
     · simp
       refine LoopNext.mk (i+1) ⟨by omega,fun k hk=>?_⟩ (by omega) (Le.mk _ _ ?_ ?_)
       · by_cases e:k=i
         · subst e;simpa [List.getElem?_eq_getElem h1] using h2
         · simpa using hne k (by omega)
       · simp [ek,ct];rw [wrap_i64 (by omega) (by omega)]
       · simp
   · have e:i=t.length:=by omega
     simp [ae]
     rw [Nn t c i hi hne (.inl e),e];rfl
theorem Aj (t:Tx):ag Tryz.prog 192 [.val (tx t)] (.ret (.val (.bool (qf t))) []) []:=by
 refine aj mixed ok192 rfl (fun _=>rfl) ?_
 unfold ir192
 rw [aa]
 have e1:(⟨#[104,116,116,112]⟩:ByteArray)=bs yy:=rfl
 have e2:(⟨#[104,116,116,112,115]⟩:ByteArray)=bs Bt:=rfl
 by_cases h:t=yy
 · simp [ah,am,ax,ac,af,tx,e1,e2,ka,qf,h]
 · by_cases h':t=Bt
   · subst h'
     simp [ah,am,ax,ac,af,tx,e1,e2,ka,qf,show ¬ Bt=yy by decide]
   · simp [ah,am,ax,ac,af,tx,e1,e2,ka,qf,h,h']
theorem H7 (t:Tx):ag Tryz.prog 219 [.val (tx t)] (.ret (.val (num (qj t))) []) []:=by
 refine aj mixed ok219 rfl (fun _=>rfl) ?_
 unfold ir219
 rw [aa]
 have e1:(⟨#[104,116,116,112]⟩:ByteArray)=bs yy:=rfl
 by_cases h:t=yy
 · simp [ah,am,ax,ac,af,tx,e1,ka,qj,h,num]
 · simp [ah,am,ax,ac,af,tx,e1,ka,qj,h,num]
theorem wv (c:UInt8):ag Tryz.prog 154 [.val (rvb c)] (.ret (.val (.bool (lw c))) []) []:=by
 refine aj mixed ok154 rfl (fun _=>rfl) ?_
 unfold ir154
 rw [aa]
 have e1:((48:Int)≤c.toNat)↔48≤c.toNat:=by omega
 have e2:((c.toNat:Int)≤57)↔c.toNat≤57:=by omega
 by_cases h:48≤c.toNat
 · simp [ah,am,ax,ac,af,rvb,lw,h,e1,e2]
 · simp [ah,am,ax,ac,af,rvb,lw,h,e1,e2]
theorem Qg {c:UInt8} (h1:65≤c.toNat) (h2:c.toNat≤90):(c.toNat:Int)+32=((c+32).toNat:Int):=by
 rw [UInt8.toNat_add]
 simp
 omega
theorem H9 (t:Tx) (ht:t.length < 1099511627776):ag Tryz.prog 216 [.val (tx t)] (.ret (.val (tx (mi t))) []) []:=by
 refine aj mixed ok216 rfl (fun _=>rfl) ?_
 unfold ir216
 rw [aa]
 simp only [dz,ia,d8,gy,d9,ck,d7,gz,bm,ew,ir,iu,au,cf,cg,bf,eb,cj,bh,gx,dy,ci,ch,f9,ga,ql,qn,Option.getD_some,Option.getD_none,fo,cq,b9,f5,b8,bv,f8,bw,f7,fz,fy,iz,dl,b6,fw,dh,bz,fv,fl,fx,di,ft,bu,dg,fu,i7,i6,fm,fp,bx,fq,dm,b7,fa,bo,fk,fj,fi,iv,dc,bq,fg,da,bp,ff,ex,fh,db,fc,bn,cz,fe,ix,iw,ez,cx,bt,fb,de,br,jq,jp,j5,jr,jv,jt,js,j4,ju,jw,jx,jy,jz,eg,ef,ed,kj,kl,ek,ib,ct,ge,dq,j7,cl,l4,ko,kf,lb,ld,lc,l5,l6,ji,jk,jj,jl,jm,k8,dt,k7,gf,gg,gh,du,qp,gu,dx,l2,l3,i8,km,kn,Option.map_some,Option.map_none,gm,dv,dp,ca,gc,gd,jc,jb,lj,li,jo,gv,gw,jn,lf,lg,je,cd,jf,cb,ku,gt,gr,bg,la,lh,jh,ky,k6,kz,dr,eq,eu,er,ba,k9,l8,l7,kq,jg,ns,kr,ce,gp,gq,dw,gn,bd,cv,bc,cw,bb,j6,lk,ll,eh,ei,ie,ic,gb,ah,am,ax,ac,af,tx,elems]
 refine ay (X:=Nat) (fun i=>⟨co [(0,.val (.str (bs t))),(3,.own 6),(4,.val (.int .i64 i))],cu [(6,.row 5 1 ((mi (t.take i)).map rvb))]⟩) (fun i=>i≤t.length) (fun i=>t.length - i) 0 (Le.mk _ _ ?_ ?_) ?_ ?_
 · simp [upd,PV.kill]
 · simp [upd,mi]
 · simp
 · rintro i hi
   simp [ae,ar,elems]
   refine ak (fun h1=>?_) (fun h1=>?_)
   · have hnext:∀ st':St,st'.env 0=.val (.str (bs t))→st'.env 3=.own 6→st'.env 4=.val (.int .i64 ((i:Int)+1))→st'.mem 6=.row 5 1 ((mi (t.take i)).map rvb++[rvb (Ng (t.getD i 0))]) →
      ∃ x',x'≤t.length∧t.length - x' < t.length - i∧Le st' ⟨co [(0,.val (.str (bs t))),(3,.own 6),(4,.val (.int .i64 (x':Int)))],cu [(6,.row 5 1 ((mi (t.take x')).map rvb))]⟩:=fun st' q1 q2 q3 q4=>by
      refine ⟨i+1,by omega,by omega,Le.mk _ _ ?_ ?_⟩
      · simp [q1,q2,q3]
      · simp only [List.mem_singleton,forall_eq,q4]
        rw [Jh t i 0 h1]
        simp [mi]
     have hlen:(mi (t.take i)).length=i:=by simp [mi];omega
     have e1:((65:Int)≤(t[i].toNat:Int))↔65≤t[i].toNat:=by omega
     have e2:((t[i].toNat:Int)≤90)↔t[i].toNat≤90:=by omega
     by_cases h2:65≤t[i].toNat
     · by_cases h3:t[i].toNat≤90
       · simp [ae,ar,h1,e1,e2,h2,h3,hlen]
         refine ⟨by omega,by omega,hnext _ ?_ ?_ ?_ ?_⟩
         · simp [ek]
         · simp [ek]
         · simp [ek];exact wrap_i64 (by omega) (by omega)
         · rw [vw _ _ _ h1]
           simp [ek,rvb,Ng,h2,h3]
           rw [Qg h2 h3]
           have:=(t[i]+32).toNat_lt
           rw [Fz (by omega) (by omega)]
           omega
       · simp [ae,ar,h1,e1,e2,h2,h3,hlen]
         refine ⟨by omega,by omega,hnext _ ?_ ?_ ?_ ?_⟩
         · simp [ek]
         · simp [ek]
         · simp [ek];exact wrap_i64 (by omega) (by omega)
         · rw [vw _ _ _ h1]
           simp [ek,rvb,Ng,h2,h3]
     · simp [ae,ar,h1,e1,e2,h2,hlen]
       refine ⟨by omega,by omega,hnext _ ?_ ?_ ?_ ?_⟩
       · simp [ek]
       · simp [ek]
       · simp [ek];exact wrap_i64 (by omega) (by omega)
       · rw [vw _ _ _ h1]
         simp [ek,rvb,Ng,h2]
   · have e:i=t.length:=by omega
     subst e
     have e1:(mi t).map rvb=(mi (t.take t.length)).map rvb:=by simp
     simp [ae]
     exact ⟨fun x _=>rfl,by rw [Pc];rfl⟩
theorem A4 (t wo:Tx) (ht:t.length < 1099511627776) (hw:wo.length < 1099511627776):ag Tryz.prog 231 [.val (tx t),.val (tx wo)] (.ret (.val (.bool (o0 t wo))) []) []:=by
 refine aj mixed ok231 rfl (fun _=>rfl) ?_
 unfold ir231
 rw [aa]
 simp only [dz,ia,d8,gy,d9,ck,d7,gz,bm,ew,ir,iu,au,cf,cg,bf,eb,cj,bh,gx,dy,ci,ch,f9,ga,ql,qn,Option.getD_some,Option.getD_none,fo,cq,b9,f5,b8,bv,f8,bw,f7,fz,fy,iz,dl,b6,fw,dh,bz,fv,fl,fx,di,ft,bu,dg,fu,i7,i6,fm,fp,bx,fq,dm,b7,fa,bo,fk,fj,fi,iv,dc,bq,fg,da,bp,ff,ex,fh,db,fc,bn,cz,fe,ix,iw,ez,cx,bt,fb,de,br,jq,jp,j5,jr,jv,jt,js,j4,ju,jw,jx,jy,jz,eg,ef,ed,kj,kl,ek,ib,ct,ge,dq,j7,cl,l4,ko,kf,lb,ld,lc,l5,l6,ji,jk,jj,jl,jm,k8,dt,k7,gf,gg,gh,du,qp,gu,dx,l2,l3,i8,km,kn,Option.map_some,Option.map_none,gm,dv,dp,ca,gc,gd,jc,jb,lj,li,jo,gv,gw,jn,lf,lg,je,cd,jf,cb,ku,gt,gr,bg,la,lh,jh,ky,k6,kz,dr,eq,eu,er,ba,k9,l8,l7,kq,jg,ns,kr,ce,gp,gq,dw,gn,bd,cv,bc,cw,bb,j6,lk,ll,eh,ei,ie,ic,gb,ah,am,ax,ac,af,tx]
 refine ay (X:=Nat) (fun i=>⟨co [(0,.val (.str (bs t))),(1,.val (.str (bs wo))),(5,.val (.int .i64 i))],cu []⟩) (fun i=>i≤t.length∧o0 (t.take i) wo=true) (fun i=>t.length - i) 0 (Le.mk _ _ ?_ ?_) ?_ ?_
 · simp [upd]
 · simp
 · simp [o0]
 · rintro i ⟨hi,hall⟩
   simp [ae,ar]
   refine ak (fun h1=>?_) (fun h1=>?_)
   · have hstep:o0 (t.take (i+1)) wo=(decide (33≤t[i].toNat∧t[i].toNat≤126) && !decide (t[i]∈wo)):=by
      unfold o0 at hall ⊢
      rw [mo t _ i h1,hall,Bool.true_and]
     have iq:(decide (33≤t[i].toNat∧t[i].toNat≤126) && !decide (t[i]∈wo))=false→o0 t wo=false:=fun hb=>by
      unfold o0
      rw [List.all_eq_false]
      exact ⟨t[i],List.getElem_mem h1,by simpa using hb⟩
     have e1:((t[i].toNat:Int) < 33)↔t[i].toNat < 33:=by omega
     have e2:((126:Int) < (t[i].toNat:Int))↔126 < t[i].toNat:=by omega
     by_cases h2:33≤t[i].toNat
     · have h2':¬ t[i].toNat < 33:=by omega
       by_cases h3:126 < t[i].toNat
       · simp [ae,ar,h1,e1,e2,h2,h2',h3]
         exact iq (by simp;omega)
       · simp [ae,ar,h1,e1,e2,h2,h2',h3]
         refine ab rfl rfl (.inl rfl) (sk wo t[i] hw) ?_
         by_cases h4:t[i]∈wo
         · simp [num,ae,og,h4]
           exact iq (by simp [h4])
         · simp [num,ae,og,h4]
           refine LoopNext.mk (i+1) ⟨by omega,by rw [hstep];simp [h4];omega⟩ (by omega) (Le.mk _ _ ?_ ?_)
           · simp [ek];exact wrap_i64 (by omega) (by omega)
           · simp
     · have h2':t[i].toNat < 33:=by omega
       simp [ae,ar,h1,e1,e2,h2,h2']
       exact iq (by simp;omega)
   · have e:i=t.length:=by omega
     subst e
     simp [ae]
     simpa using hall.symm
theorem O5 (t:Tx) (ht:t.length < 1099511627776):ag Tryz.prog 230 [.val (tx t)] (.ret (.val (.bool (oa t))) []) []:=by
 refine aj mixed ok230 rfl (fun _=>rfl) ?_
 unfold ir230
 rw [aa]
 simp [ah,am,ax,ac,af,tx,ae]
 refine ab rfl rfl (.inl rfl) (nh .i64 t.length 1 12) ?_
 by_cases hlen:1≤t.length∧t.length≤12
 rotate_left
 · rw [show decide ((1:Int)≤t.length∧(t.length:Int)≤12)=false from decide_eq_false (by omega)]
   simp
   simp [oa,hlen]
 rw [show decide ((1:Int)≤t.length∧(t.length:Int)≤12)=true from decide_eq_true (by omega)]
 simp
 refine ay (X:=Nat) (fun i=>⟨co [(0,.val (.str (bs t))),(3,.val (.int .i64 i))],cu []⟩) (fun i=>i≤t.length∧vm (t.take i)=true) (fun i=>t.length - i) 0 (Le.mk _ _ ?_ ?_) ?_ ?_
 · simp [upd]
 · simp
 · simp [vm]
 · rintro i ⟨hi,hall⟩
   simp [ae,ar]
   refine ak (fun h1=>?_) (fun h1=>?_)
   · have hstep:=Eo t i h1
     rw [hall,Bool.true_and] at hstep
     have iq:=Cp t i h1
     have hls:oa t=vm t:=by simp [oa,hlen]
     have e1:((97:Int)≤(t[i].toNat:Int))↔97≤t[i].toNat:=by omega
     have e2:((t[i].toNat:Int)≤122)↔t[i].toNat≤122:=by omega
     have hgood:(if i=0 then lz t[i] else oj t[i])=true→∀ st':St,st'.env 0=.val (.str (bs t))→st'.env 3=.val (.int .i64 (IntKind.i64.wrap ((i:Int)+1))) →
      ∃ x',(x'≤t.length∧vm (t.take x')=true)∧t.length - x' < t.length - i∧Le st' ⟨co [(0,.val (.str (bs t))),(3,.val (.int .i64 (x':Int)))],cu []⟩:=fun hg st' q1 q2=>by
      refine ⟨i+1,⟨by omega,by rw [hstep,hg]⟩,by omega,Le.mk _ _ ?_ ?_⟩
      · simp [q1,q2];exact wrap_i64 (by omega) (by omega)
      · simp
     by_cases hs:97≤t[i].toNat∧t[i].toNat≤122
     · simp [ae,ar,h1,e1,e2,hs.1,hs.2]
       refine hgood ?_ _ ?_ ?_
       · simp [lz,oj,hs]
       · simp
       · simp
     · by_cases h2:97≤t[i].toNat
       · have h3:¬ t[i].toNat≤122:=fun h=>hs ⟨h2,h⟩
         have hlow:lz t[i]=false:=by simp [lz];omega
         by_cases h0:i=0
         · simp [ae,ar,h1,e1,e2,h2,h3,(eq_true h0:(i=0)=True)]
           exact hls.trans (iq (by rw [if_pos h0];exact hlow))
         · simp [ae,ar,h1,e1,e2,h2,h3,h0]
           refine ab rfl rfl (.inl rfl) (wv t[i]) ?_
           cases hd:lw t[i] with
           | true=>
            simp [h0]
            refine hgood ?_ _ ?_ ?_
            · simp [h0,oj,hd]
            · simp
            · simp
           | false=>
            have e3:((t[i].toNat:Int)=45)↔t[i].toNat=45:=by omega
            have e4:((t[i].toNat:Int)=43)↔t[i].toNat=43:=by omega
            have e5:((t[i].toNat:Int)=46)↔t[i].toNat=46:=by omega
            by_cases h4:t[i].toNat=45
            · simp [ae,ar,h1,h0,e3,e4,e5,h4]
              refine hgood ?_ _ ?_ ?_
              · simp [h0,oj,h4]
              · simp
              · simp
            · by_cases h5:t[i].toNat=43
              · simp [ae,ar,h1,h0,e3,e4,e5,h4,h5]
                refine hgood ?_ _ ?_ ?_
                · simp [h0,oj,h5]
                · simp
                · simp
              · by_cases h6:t[i].toNat=46
                · simp [ae,ar,h1,h0,e3,e4,e5,h4,h5,h6]
                  refine hgood ?_ _ ?_ ?_
                  · simp [h0,oj,h6]
                  · simp
                  · simp
                · simp [ae,ar,h1,h0,e3,e4,e5,h4,h5,h6]
                  exact hls.trans (iq (by rw [if_neg h0];simp [oj,hlow,hd,h4,h5,h6]))
       · skip
         have hlow:lz t[i]=false:=by simp [lz];omega
         by_cases h0:i=0
         · simp [ae,ar,h1,e1,e2,h2,(eq_true h0:(i=0)=True)]
           exact hls.trans (iq (by rw [if_pos h0];exact hlow))
         · simp [ae,ar,h1,e1,e2,h2,h0]
           refine ab rfl rfl (.inl rfl) (wv t[i]) ?_
           cases hd:lw t[i] with
           | true=>
            simp [h0]
            refine hgood ?_ _ ?_ ?_
            · simp [h0,oj,hd]
            · simp
            · simp
           | false=>
            have e3:((t[i].toNat:Int)=45)↔t[i].toNat=45:=by omega
            have e4:((t[i].toNat:Int)=43)↔t[i].toNat=43:=by omega
            have e5:((t[i].toNat:Int)=46)↔t[i].toNat=46:=by omega
            by_cases h4:t[i].toNat=45
            · simp [ae,ar,h1,h0,e3,e4,e5,h4]
              refine hgood ?_ _ ?_ ?_
              · simp [h0,oj,h4]
              · simp
              · simp
            · by_cases h5:t[i].toNat=43
              · simp [ae,ar,h1,h0,e3,e4,e5,h4,h5]
                refine hgood ?_ _ ?_ ?_
                · simp [h0,oj,h5]
                · simp
                · simp
              · by_cases h6:t[i].toNat=46
                · simp [ae,ar,h1,h0,e3,e4,e5,h4,h5,h6]
                  refine hgood ?_ _ ?_ ?_
                  · simp [h0,oj,h6]
                  · simp
                  · simp
                · simp [ae,ar,h1,h0,e3,e4,e5,h4,h5,h6]
                  exact hls.trans (iq (by rw [if_neg h0];simp [oj,hlow,hd,h4,h5,h6]))
   · have e:i=t.length:=by omega
     subst e
     simp [ae]
     simp [oa,hlen]
     simpa using hall.symm
theorem Ha (last:Bool) (t:Tx) (i:Nat) (h:i < t.length):nr last (t.drop i)=if !(lz t[i] || lw t[i]) && (last || !decide (t[i].toNat=45∨t[i].toNat=46)) then false else nr (!(lz t[i] || lw t[i])) (t.drop (i+1)):=by
 rw [List.drop_eq_getElem_cons h];rfl
theorem U9 (t:Tx) (ht:t.length < 1099511627776):ag Tryz.prog 232 [.val (tx t)] (.ret (.val (.bool (sq t))) []) []:=by
 refine aj mixed ok232 rfl (fun _=>rfl) ?_
 unfold ir232
 rw [aa]
 simp [ah,am,ax,ac,af,tx]
 refine ay (X:=Nat×Bool) (fun x=>⟨co [(0,.val (.str (bs t))),(3,.val (.bool x.2)),(4,.val (.int .i64 x.1))],cu []⟩) (fun x=>x.1≤t.length∧sq t=nr x.2 (t.drop x.1)) (fun x=>t.length - x.1) (0,true) (Le.mk _ _ ?_ ?_) ?_ ?_
 · simp [upd]
 · simp
 · simp [sq]
 · rintro ⟨i,last⟩ ⟨hi,hinv⟩
   simp only at hi hinv
   simp [ae,ar]
   refine ak (fun h1=>?_) (fun h1=>?_)
   · rw [Ha last t i h1] at hinv
     have e1:((97:Int)≤(t[i].toNat:Int))↔97≤t[i].toNat:=by omega
     have e2:((t[i].toNat:Int)≤122)↔t[i].toNat≤122:=by omega
     have e3:((t[i].toNat:Int)=45)↔t[i].toNat=45:=by omega
     have e5:((t[i].toNat:Int)=46)↔t[i].toNat=46:=by omega
     have hgood:∀ (l:Bool),sq t=nr l (t.drop (i+1))→∀ st':St,st'.env 0=.val (.str (bs t))→st'.env 3=.val (.bool l)→st'.env 4=.val (.int .i64 (IntKind.i64.wrap ((i:Int)+1))) →
      ∃ x':Nat×Bool,(x'.1≤t.length∧sq t=nr x'.2 (t.drop x'.1))∧t.length - x'.1 < t.length - i∧Le st' ⟨co [(0,.val (.str (bs t))),(3,.val (.bool x'.2)),(4,.val (.int .i64 (x'.1:Int)))],cu []⟩:=fun l hl st' q1 q2 q3=>by
      refine ⟨(i+1,l),⟨by simp only;omega,hl⟩,by simp only;omega,Le.mk _ _ ?_ ?_⟩
      · simp [q1,q2,q3];exact wrap_i64 (by omega) (by omega)
      · simp
     by_cases hs:97≤t[i].toNat∧t[i].toNat≤122
     · have hlow:lz t[i]=true:=by simp [lz,hs]
       simp [ae,ar,h1,e1,e2,hs.1,hs.2]
       refine hgood false (by rw [hinv];simp [hlow]) _ ?_ ?_ ?_<;>simp
     · have hlow:lz t[i]=false:=by simp [lz];omega
       by_cases h2:97≤t[i].toNat
       · have h3:¬ t[i].toNat≤122:=fun h=>hs ⟨h2,h⟩
         simp [ae,ar,h1,e1,e2,h2,h3]
         refine ab rfl rfl (.inl rfl) (wv t[i]) ?_
         cases hd:lw t[i] with
         | true=>
          simp
          refine hgood false (by rw [hinv];simp [hlow,hd]) _ ?_ ?_ ?_<;>simp
         | false=>
          cases last with
          | true=>
           simp
           rw [hinv];simp [hlow,hd]
          | false=>
           by_cases h4:t[i].toNat=45
           · simp [ae,ar,h1,e3,e5,h4]
             refine hgood true (by rw [hinv];simp [hlow,hd,h4]) _ ?_ ?_ ?_<;>simp
           · by_cases h6:t[i].toNat=46
             · simp [ae,ar,h1,e3,e5,h4,h6]
               refine hgood true (by rw [hinv];simp [hlow,hd,h6]) _ ?_ ?_ ?_<;>simp
             · simp [ae,ar,h1,e3,e5,h4,h6]
               rw [hinv];simp [hlow,hd,h4,h6]
       · skip
         simp [ae,ar,h1,e1,e2,h2]
         refine ab rfl rfl (.inl rfl) (wv t[i]) ?_
         cases hd:lw t[i] with
         | true=>
          simp
          refine hgood false (by rw [hinv];simp [hlow,hd]) _ ?_ ?_ ?_<;>simp
         | false=>
          cases last with
          | true=>
           simp
           rw [hinv];simp [hlow,hd]
          | false=>
           by_cases h4:t[i].toNat=45
           · simp [ae,ar,h1,e3,e5,h4]
             refine hgood true (by rw [hinv];simp [hlow,hd,h4]) _ ?_ ?_ ?_<;>simp
           · by_cases h6:t[i].toNat=46
             · simp [ae,ar,h1,e3,e5,h4,h6]
               refine hgood true (by rw [hinv];simp [hlow,hd,h6]) _ ?_ ?_ ?_<;>simp
             · simp [ae,ar,h1,e3,e5,h4,h6]
               rw [hinv];simp [hlow,hd,h4,h6]
   · have e:i=t.length:=by omega
     subst e
     simp [ae]
     rw [hinv];simp [nr]
end Go.Proofs
end
section
namespace Go.Proofs
open Go.PW Go.KP
attribute [local simp] RV.cells RV.one PV.cells PV.solid PV.one im ao kh ke RV.ofCells elems PV.killL
variable [GF]
theorem X3 (m:Nat):pc [RV.int .u8 (48+(m:Int))]=bs [UInt8.ofNat (48+m)]:=by
 have:(48+(m:Int)).toNat=48+m:=by omega
 simp only [pc,bs,List.map,RV.byte,this]
theorem Fw (n:Nat):n≤9223372036854775807→ag Tryz.prog 233 [.val (num n)] (.ret (.val (tx (tz n))) []) []:=by
 induction n using Nat.strongRecOn with
 | ind n ih=>
  intro hn
  refine aj mixed ok233 rfl (fun _=>rfl) ?_
  unfold ir233
  rw [aa]
  have g1:¬ ((n:Int)=-9223372036854775808):=by omega
  have g2:¬ ((n:Int) < 0):=by omega
  by_cases h:n < 10
  · have g3:(n:Int) < 10:=by omega
    have g4:IntKind.i64.wrap (48+(n:Int))=48+(n:Int):=wrap_i64 (by omega) (by omega)
    have g5:IntKind.u8.wrap (48+(n:Int))=48+(n:Int):=Fz (by omega) (by omega)
    simp [ah,am,ax,ac,af,num,g1,g2,g3,g4,g5,RV.isU8]
    rw [sj h]
    rw [X3];rfl
  · have g3:¬ ((n:Int) < 10):=by omega
    have g6:(n:Int).tdiv 10=((n / 10:Nat):Int):=by rw [Int.tdiv_eq_ediv_of_nonneg (by omega)];omega
    have g7:(n:Int).tmod 10=((n % 10:Nat):Int):=by rw [Int.tmod_eq_emod_of_nonneg (by omega)];omega
    have hih:=ih (n / 10) (by omega) (by omega)
    rw [vu h]
    have hl:=Ws (n / 10)
    have ha:n / 10≤922337203685477580:=by omega
    generalize n / 10=a at *
    have hb:n % 10 < 10:=Nat.mod_lt _ (by omega)
    generalize n % 10=b at *
    have g8:IntKind.i64.wrap (a:Int)=(a:Int):=wrap_i64 (by omega) (by omega)
    have g4:IntKind.i64.wrap (48+(b:Int))=48+(b:Int):=wrap_i64 (by omega) (by omega)
    have g5:IntKind.u8.wrap (48+(b:Int))=48+(b:Int):=Fz (by omega) (by omega)
    simp [ah,am,ax,ac,af,num,g1,g2,g3,g6,g7,g8,g4,g5,RV.isU8]
    refine em rfl rfl (.inl rfl) hih ?_
    simp [ah,am,ax,ac,af,num,g1,g2,g3,g6,g7,g8,g4,g5,RV.isU8,tx]
    rw [X3]
    simp [ae,kb]
    omega
def Dt:Option Int→PV
 | some n=>.tup [.val (num n),.val (.bool true)]
 | none=>.tup [.val (num 0),.val (.bool false)]
theorem Kv (u:Tx) (neg:Bool) (st:St) (h0:st.env 0=.val (tx u)) (h4:st.env 4=.val (num (if neg then -1 else 1))) (h5:st.env 5=.val (num 0)) (hu:u.length≤18) :
 EC Tryz.prog ir218_from5 st (K:=⟨sw [.t 2,.t 3] (Dt (if u.all lw then some (if neg then - (n7 u:Int) else (n7 u:Int)) else none))⟩):=by
 unfold ir218_from5
 simp only [dz,ia,d8,gy,d9,ck,d7,gz,bm,ew,ir,iu,au,cf,cg,bf,eb,cj,bh,gx,dy,ci,ch,f9,ga,ql,qn,Option.getD_some,Option.getD_none,fo,cq,b9,f5,b8,bv,f8,bw,f7,fz,fy,iz,dl,b6,fw,dh,bz,fv,fl,fx,di,ft,bu,dg,fu,i7,i6,fm,fp,bx,fq,dm,b7,fa,bo,fk,fj,fi,iv,dc,bq,fg,da,bp,ff,ex,fh,db,fc,bn,cz,fe,ix,iw,ez,cx,bt,fb,de,br,jq,jp,j5,jr,jv,jt,js,j4,ju,jw,jx,jy,jz,eg,ef,ed,kj,kl,ek,ib,ct,ge,dq,j7,cl,l4,ko,kf,lb,ld,lc,l5,l6,ji,jk,jj,jl,jm,k8,dt,k7,gf,gg,gh,du,qp,gu,dx,l2,l3,i8,km,kn,Option.map_some,Option.map_none,gm,dv,dp,ca,gc,gd,jc,jb,lj,li,jo,gv,gw,jn,lf,lg,je,cd,jf,cb,ku,gt,gr,bg,la,lh,jh,ky,k6,kz,dr,eq,eu,er,ba,k9,l8,l7,kq,jg,ns,kr,ce,gp,gq,dw,gn,bd,cv,bc,cw,bb,j6,lk,ll,eh,ei,ie,ic,gb]
 refine ay (X:=Nat) (fun i=>⟨co [(0,.val (tx u)),(4,.val (num (if neg then -1 else 1))),(5,.val (num (n7 (u.take i)))),(6,.val (num i))],cu []⟩) (fun i=>i≤u.length∧(u.take i).all lw=true) (fun i=>u.length - i) 0 (Le.mk _ _ ?_ ?_) ?_ ?_
 · simp [upd,h0,h4,h5,num,n7]
 · simp
 · simp
 · rintro i ⟨hi,hall⟩
   have hlv:n7 (u.take i) < 1000000000000000000:=by
    have h1:=F3 _ hall
    have h2:(u.take i).length≤18:=by simp;omega
    exact Nat.lt_of_lt_of_le h1 (Nat.le_trans (Nat.pow_le_pow_right (by omega) h2) (by decide))
   simp [tx,num,ae,ar]
   refine ak (fun h1=>?_) (fun h1=>?_)
   · have e1:((u[i].toNat:Int) < 48)↔u[i].toNat < 48:=by omega
     have e1':((48:Int)≤(u[i].toNat:Int))↔48≤u[i].toNat:=by omega
     have e2:((57:Int) < (u[i].toNat:Int))↔57 < u[i].toNat:=by omega
     by_cases h2:u[i].toNat < 48
     · have h2':¬ 48≤u[i].toNat:=by omega
       simp [tx,num,ae,ar,h1,e1,e1',e2,h2,h2']
       rw [if_neg (fun hA=>by have:=hA u[i] (List.getElem_mem h1);simp [lw] at this;omega)];rfl
     · have h2':48≤u[i].toNat:=by omega
       by_cases h3:57 < u[i].toNat
       · simp [tx,num,ae,ar,h1,e1,e1',e2,h2,h2',h3]
         rw [if_neg (fun hA=>by have:=hA u[i] (List.getElem_mem h1);simp [lw] at this;omega)];rfl
       · simp [tx,num,ae,ar,h1,e1,e1',e2,h2,h2',h3]
         have hlv2:n7 (u.take i) < 100000000000000000:=by
          have h1':=F3 _ hall
          have h2':(u.take i).length≤17:=by simp;omega
          exact Nat.lt_of_lt_of_le h1' (Nat.le_trans (Nat.pow_le_pow_right (by omega) h2') (by decide))
         have hw:IntKind.i64.wrap (IntKind.i64.wrap (IntKind.i64.wrap ((n7 (u.take i):Int)*10)+IntKind.i64.wrap (u[i].toNat:Int)) - 48)=((n7 (u.take (i+1)):Nat):Int):=by
          rw [Jh u i 0 h1,Ay,vw _ _ _ h1]
          rw [wrap_i64 (x:=(n7 (u.take i):Int)*10) (by omega) (by omega),wrap_i64 (x:=(u[i].toNat:Int)) (by omega) (by omega),wrap_i64 (x:=(n7 (u.take i):Int)*10+(u[i].toNat:Int)) (by omega) (by omega),wrap_i64 (by omega) (by omega)]
          omega
         refine LoopNext.mk (i+1) ⟨by omega,?_⟩ (by omega) (Le.mk _ _ ?_ ?_)
         · rw [mo _ _ _ h1,hall];simp [lw];omega
         · simp [hw,tx,num];exact wrap_i64 (by omega) (by omega)
         · simp
   · have e:i=u.length:=by omega
     subst e
     rw [List.take_length] at hall hlv
     simp [tx,num,ae]
     have hA:∀ x,x∈u→lw x=true:=by simpa using hall
     have w1:IntKind.i64.wrap (-(n7 u:Int))=-(n7 u:Int):=wrap_i64 (by omega) (by omega)
     have w2:IntKind.i64.wrap (n7 u:Int)=(n7 u:Int):=wrap_i64 (by omega) (by omega)
     cases neg with
     | true=>simp [Dt,num,eq_true hA,w1]
     | false=>simp [Dt,num,eq_true hA,w2]
theorem yg (u:Tx) (neg:Bool) (st:St) (h0:st.env 0=.val (tx u)) (h4:st.env 4=.val (num (if neg then -1 else 1))) (hu:u.length < 1099511627776) :
 EC Tryz.prog ir218_from3 st (K:=⟨sw [.t 2,.t 3] (Dt (so neg u))⟩):=by
 unfold ir218_from3
 by_cases a1:u.length=0
 · have:u=[]:=List.eq_nil_of_length_eq_zero a1
   subst this
   simp [h0,tx,ae]
   rw [show so neg []=none by simp [so,uy]];rfl
 · have a1':¬ ((u.length:Int)=0):=by omega
   by_cases a2:18 < u.length
   · have a2':(18:Int) < u.length:=by omega
     have a2'':¬ (u.length:Int)≤18:=by omega
     simp [h0,tx,ae,a1,a1',a2',a2'']
     rw [show so neg u=none by simp [so,uy,a2]];rfl
   · have hpos:0 < u.length:=by omega
     have a2':¬ (18:Int) < u.length:=by omega
     have a2'':(u.length:Int)≤18:=by omega
     have e0:u[0]?.getD 0=u.getD 0 0:=by simp
     have e1:((u[0].toNat:Int)=48)↔u[0].toNat=48:=by omega
     have e2:((1:Int) < (u.length:Int))↔1 < u.length:=by omega
     have hg:u[0]?.getD 0=u[0]:=by simp [List.getElem?_eq_getElem hpos]
     have hgo:uy neg u=false→∀ st':St,st'.env 0=.val (tx u)→st'.env 4=.val (num (if neg then -1 else 1))→st'.env 5=.val (num 0)→EC Tryz.prog ir218_from5 st' (K:=⟨sw [.t 2,.t 3] (Dt (so neg u))⟩):=fun hb st' q1 q2 q3=>by
      rw [show so neg u=(if u.all lw then some (if neg then - (n7 u:Int) else (n7 u:Int)) else none) by unfold so;rw [hb];rfl]
      exact Kv u neg st' q1 q2 q3 (by omega)
     by_cases a3:u[0].toNat=48
     · by_cases a4:1 < u.length
       · simp [h0,tx,ae,a1,a1',a2',a2'',ar,hpos,e1,e2,a3,a4]
         rw [show so neg u=none by simp [so,uy,hg,a3,a4]];rfl
       · cases neg with
         | true=>
          simp [h0,h4,num,tx,ae,a1,a1',a2',a2'',ar,hpos,e1,e2,a3,a4]
          rw [show so true u=none by simp [so,uy,hg,a3]];rfl
         | false=>
          simp [h0,h4,num,tx,ae,a1,a1',a2',a2'',ar,hpos,e1,e2,a3,a4]
          refine hgo ?_ _ ?_ ?_ ?_
          · simp [uy,hg,a3,a4,a1,a2]
          · simp [h0,tx]
          · simp [h4,num]
          · simp [num]
     · simp [h0,tx,ae,a1,a1',a2',a2'',ar,hpos,e1,e2,a3]
       refine hgo ?_ _ ?_ ?_ ?_
       · simp [uy,hg,a3,a1,a2]
       · simp [h0,tx]
       · simp [h4,num]
       · simp [num]
theorem O7 (t:Tx) (ht:t.length < 1099511627776):ag Tryz.prog 218 [.val (tx t)] (.ret (Dt (om t)) []) []:=by
 refine aj mixed ok218 rfl (fun ι=>by cases om t<;>rfl) ?_
 unfold ir218
 rw [aa]
 cases t with
 | nil=>
  simp [ah,am,ax,ac,af,tx,ae]
  rw [show om []=so false [] by simp [om,so,uy]]
  refine yg [] false _ ?_ ?_ (by simp)<;>simp [tx,num]
 | cons c r=>
  have hr:r.length < 1099511627776:=by simp at ht;omega
  have e0:(0:Int) < ((r.length:Int)+1):=by omega
  by_cases hc:c=45
  · have e1:((c.toNat:Int)=45):=by rw [hc];rfl
    simp [ah,am,ax,ac,af,tx,ae,ar,e0,e1,mr]
    rw [show om (c :: r)=so true r by simp [om,hc]]
    refine yg r true _ ?_ ?_ hr<;>simp [tx,num]
  · have e1:¬ ((c.toNat:Int)=45):=fun h=>hc (UInt8.toNat_inj.1 (by simp;omega))
    simp [ah,am,ax,ac,af,tx,ae,ar,e0,e1]
    rw [show om (c :: r)=so false (c :: r) by simp [om,hc]]
    refine yg (c :: r) false _ ?_ ?_ ht<;>simp [tx,num]
theorem U8 (u:LUrl) (hs:u.Small):ag Tryz.prog 220 [.val (oq u)] (.ret (.val (tx (Sg u))) []) []:=by
 refine aj mixed ok220 rfl (fun _=>rfl) ?_
 unfold ir220
 rw [aa]
 obtain ⟨s1,s2,s3,s4,s5,s6,s7⟩:=hs
 have e1:(⟨#[58,47,47]⟩:ByteArray)=bs [58,47,47]:=rfl
 have e2:(⟨#[58]⟩:ByteArray)=bs [58]:=rfl
 simp [ah,am,ax,ac,af,oq,tx,num,ae,e1,e2,kb]
 refine ⟨by omega,by omega,ak (fun h=>?_) (fun h=>?_)⟩
 · obtain ⟨p,hp⟩:=Int.eq_ofNat_of_zero_le (show 0≤u.port by omega)
   simp [oq,tx,num,ae,e1,e2,kb]
   refine ab rfl rfl (.inl rfl) (by rw [hp];exact Fw p (by omega)) ?_
   have hl:=wh 18 p (by omega)
   simp [oq,tx,num,ae,e1,e2,kb]
   refine ⟨by omega,by omega,?_⟩
   simp [Sg,sr,hp,show 0 < p by omega]
 · simp [oq,tx,num,ae,e1,e2,kb]
   simp [Sg,sr,h]
theorem Ge (u:LUrl) (hs:u.Small) (pre:Tx) (hp:pre.length < 4398046511104) (st:St) (h1:st.env 1=.ptr 1 0) (h3:st.env 3=.val (tx pre)) (hm:st.mem 1=.box [.val (tx u.scheme),.val (tx u.user),.val (tx u.host),.val (num u.port),.val (tx u.path),.val (tx u.query),.val (tx u.frag),.val (.bool u.hasQ),.val (.bool u.hasF)]) :
 EC Tryz.prog ir193_from4 st (K:=⟨sw [.t 2] (.val (tx (pre++(u.host++sr u.port++u.path)++(if u.hasQ then 63 :: u.query else [])++(if u.hasF then 35 :: u.frag else []))))⟩):=by
 unfold ir193_from4
 obtain ⟨s1,s2,s3,s4,s5,s6,s7⟩:=hs
 have e3:(⟨#[]⟩:ByteArray)=bs []:=rfl
 have e5:(⟨#[63]⟩:ByteArray)=bs [63]:=rfl
 have e6:(⟨#[35]⟩:ByteArray)=bs [35]:=rfl
 simp [h1,h3,hm,tx,num,ae,e3,e5,e6,kb]
 refine em rfl rfl (.inl rfl) (U8 ⟨[],[],u.host,u.port,[],[],[],false,false⟩ ⟨by simp,by simp,s3,by simp,by simp,by simp,s7⟩) ?_
 simp [h1,h3,hm,tx,num,ae,e3,e5,e6,kb,mr,Sg]
 have hpl:=Py u.port s7
 have htk:List.take (u.host.length+(sr u.port).length) (u.host++sr u.port)=u.host++sr u.port:=List.take_of_length_le (by simp)
 refine ⟨by omega,by omega,?_⟩
 cases hq:u.hasQ with
 | true=>
  refine ak (fun _=>?_) (fun h=>(h (by simp)).elim)
  simp [h1,h3,hm,tx,num,ae,e3,e5,e6,kb,htk]
  refine ⟨by omega,by omega,?_⟩
  cases hf:u.hasF with
  | true=>
   refine ak (fun _=>?_) (fun h=>(h (by simp)).elim)
   simp [h1,h3,hm,tx,num,ae,e3,e5,e6,kb,htk]
   omega
  | false=>
   refine ak (fun h=>by simp at h) (fun _=>?_)
   simp [h1,h3,hm,tx,num,ae,e3,e5,e6,kb,htk]
 | false=>
  refine ak (fun h=>by simp at h) (fun _=>?_)
  simp [h1,h3,hm,tx,num,ae,e3,e5,e6,kb,htk]
  cases hf:u.hasF with
  | true=>
   refine ak (fun _=>?_) (fun h=>(h (by simp)).elim)
   simp [h1,h3,hm,tx,num,ae,e3,e5,e6,kb,htk]
   omega
  | false=>
   refine ak (fun h=>by simp at h) (fun _=>?_)
   simp [h1,h3,hm,tx,num,ae,e3,e5,e6,kb,htk]
theorem Ed (u:LUrl) (hs:u.Small):ag Tryz.prog 193 [.val (oq u)] (.ret (.val (tx (oz u))) []) []:=by
 refine aj mixed ok193 rfl (fun _=>rfl) ?_
 unfold ir193
 rw [aa]
 have hs':=hs
 obtain ⟨s1,s2,s3,s4,s5,s6,s7⟩:=hs
 have e1:(⟨#[58,47,47]⟩:ByteArray)=bs [58,47,47]:=rfl
 have e2:(⟨#[58]⟩:ByteArray)=bs [58]:=rfl
 have e3:(⟨#[]⟩:ByteArray)=bs []:=rfl
 have e4:(⟨#[64]⟩:ByteArray)=bs [64]:=rfl
 have e5:(⟨#[63]⟩:ByteArray)=bs [63]:=rfl
 have e6:(⟨#[35]⟩:ByteArray)=bs [35]:=rfl
 simp [ah,am,ax,ac,af,oq,tx,num,ae,e1,e2,kb]
 refine ab rfl rfl (.inl rfl) (Aj u.scheme) ?_
 by_cases hw:qf u.scheme=true
 · simp [oq,tx,num,ae,e1,e2,e3,e4,kb,ka,hw]
   refine ⟨by omega,ak (fun hu=>?_) (fun hu=>?_)⟩
   · simp [oq,tx,num,ae,e1,e2,e3,e4,kb,ka]
     refine ⟨by omega,by omega,?_⟩
     have e:oz u=(u.scheme++[58,47,47]++(u.user++[64]))++(u.host++sr u.port++u.path)++(if u.hasQ then 63 :: u.query else [])++(if u.hasF then 35 :: u.frag else []):=by simp [oz,hw,hu]
     have:=Ge u hs' (u.scheme++[58,47,47]++(u.user++[64])) (by simp;omega)
     rw [← e] at this
     refine this _ ?_ ?_ ?_<;>simp [tx,num]
   · have hu:u.user=[]:=Classical.byContradiction hu
     have e:oz u=(u.scheme++[58,47,47])++(u.host++sr u.port++u.path)++(if u.hasQ then 63 :: u.query else [])++(if u.hasF then 35 :: u.frag else []):=by simp [oz,hw,hu]
     have:=Ge u hs' (u.scheme++[58,47,47]) (by simp;omega)
     rw [← e] at this
     simp [oq,tx,num,ae,e1,e2,e3,e4,kb,ka]
     refine this _ ?_ ?_ ?_<;>simp [tx,num]
 · simp [oq,tx,num,ae,e1,e2,kb,hw]
   refine ⟨by omega,by omega,?_⟩
   simp [oz,hw]
end Go.Proofs
end
section
namespace Go.Proofs
open Go.PW Go.KP
attribute [local simp] RV.cells RV.one PV.cells PV.solid PV.one im ao kh ke RV.ofCells elems PV.killL
variable [GF]
theorem Ma (u:LUrl) (hs:u.Small) (hw:qf u.scheme=true) (st:St) (h1:st.env 1=.ptr 1 0) (hm:st.mem 1=.box [.val (tx u.scheme),.val (tx u.user),.val (tx u.host),.val (num u.port),.val (tx u.path),.val (tx u.query),.val (tx u.frag),.val (.bool u.hasQ),.val (.bool u.hasF)]) :
 EC Tryz.prog ir217_from3 st (K:=⟨sw [.t 2] (.val (.bool (o0 u.user [47,63,35,64] && sq u.host && decide (0≤u.port∧u.port≤65535) && decide (u.port≠qj u.scheme) && decide (0 < u.path.length) && decide ((u.path.getD 0 0).toNat=47))))⟩):=by
 unfold ir217_from3
 obtain ⟨s1,s2,s3,s4,s5,s6,s7⟩:=hs
 have e3:(⟨#[47,63,35,64]⟩:ByteArray)=bs [47,63,35,64]:=rfl
 simp [h1,hm,tx,num,ae,e3]
 refine em rfl rfl (.inl rfl) (A4 u.user [47,63,35,64] s2 (by simp)) ?_
 cases a1:o0 u.user [47,63,35,64] with
 | false=>simp [h1,hm,tx,num,ae]
 | true=>
  simp [h1,hm,tx,num,ae]
  refine em rfl rfl (.inl rfl) (U9 u.host s3) ?_
  cases a2:sq u.host with
  | false=>simp [h1,hm,tx,num,ae]
  | true=>
   simp [h1,hm,tx,num,ae]
   refine em rfl rfl (.inl rfl) (nh .i64 u.port 0 65535) ?_
   cases a3:decide (0≤u.port∧u.port≤65535) with
   | false=>simp [h1,hm,tx,num,ae]
   | true=>
    simp [h1,hm,tx,num,ae]
    refine em rfl rfl (.inl rfl) (H7 u.scheme) ?_
    by_cases a4:u.port=qj u.scheme
    · simp [h1,hm,tx,num,ae,a4]
    · simp [h1,hm,tx,num,ae,a4]
      by_cases a5:0 < u.path.length
      · have a5':u.path≠[]:=fun e=>by simp [e] at a5
        have e7:((u.path[0].toNat:Int)=47)↔u.path[0].toNat=47:=by omega
        simp [h1,hm,tx,num,ae,ar,a4,a5,a5',e7,List.getElem?_eq_getElem a5]
        by_cases h47:u.path[0].toNat=47
        · simp [h47]
        · have h47':((u.path[0].toNat:Int) == 47)=false:=by simp;omega
          rw [h47'];simp [h47]
      · simp [h1,hm,tx,num,ae,a4,a5]
def yc (u:LUrl):Bool:=
 if qf u.scheme then o0 u.user [47,63,35,64] && sq u.host && decide (0≤u.port∧u.port≤65535) && decide (u.port≠qj u.scheme) && decide (0 < u.path.length) && decide ((u.path.getD 0 0).toNat=47)
 else decide (u.user=[]) && decide (u.host=[]) && decide (u.port=0) && !u.hasQ && !u.hasF
theorem Mb (u:LUrl) (hs:u.Small) (st:St) (h1:st.env 1=.ptr 1 0) (hm:st.mem 1=.box [.val (tx u.scheme),.val (tx u.user),.val (tx u.host),.val (num u.port),.val (tx u.path),.val (tx u.query),.val (tx u.frag),.val (.bool u.hasQ),.val (.bool u.hasF)]) :
 EC Tryz.prog ir217_from2 st (K:=⟨sw [.t 2] (.val (.bool (yc u)))⟩):=by
 unfold ir217_from2
 have e3:(⟨#[]⟩:ByteArray)=bs []:=rfl
 simp [h1,hm,tx,num,ae]
 refine ab rfl rfl (.inl rfl) (Aj u.scheme) ?_
 cases hw:qf u.scheme with
 | true=>
  simp [h1,hm,tx,num,ae]
  rw [show yc u=_ by unfold yc;rw [hw,if_pos rfl]]
  refine Ma u hs hw _ ?_ ?_<;>simp [h1,hm,tx,num]
 | false=>
  rw [show yc u=_ by unfold yc;rw [hw,if_neg (by simp)]]
  by_cases a1:u.user=[]
  · by_cases a2:u.host=[]
    · by_cases a3:u.port=0
      · cases a4:u.hasQ with
        | true=>simp [h1,hm,tx,num,ae,e3,ka,a1,a2,a3,a4]
        | false=>simp [h1,hm,tx,num,ae,e3,ka,a1,a2,a3,a4]
      · simp [h1,hm,tx,num,ae,e3,ka,a1,a2,a3]
    · simp [h1,hm,tx,num,ae,e3,ka,a1,a2]
  · simp [h1,hm,tx,num,ae,e3,ka,a1]
structure UO (st:St) (u:LUrl):Prop where
 e1:st.env 1=.ptr 1 0
 m1:st.mem 1=.box [.val (tx u.scheme),.val (tx u.user),.val (tx u.host),.val (num u.port),.val (tx u.path),.val (tx u.query),.val (tx u.frag),.val (.bool u.hasQ),.val (.bool u.hasF)]
section
variable {Ks:Kx (St→Prop)} {kx:Kx (RV→St→Prop)} {st:St} {u:LUrl} {b:Bool}
def Sx (u:LUrl):Bool:=decide (100 < (oz u).length)
theorem okops43 (hs:u.Small) (h:UO st u) (hb:st.env 45=.val (.bool b)) (hK:∀ st',UO st' u→st'.env 50=.val (.bool (b || Sx u))→Ks.k st'):EO Tryz.prog ir217_ops1_43 st (Ks:=Ks) (kx:=kx):=by
 unfold ir217_ops1_43
 obtain ⟨e1,m1⟩:=h
 cases b with
 | true=>
  simp [hb]
  refine hK _ ⟨?_,?_⟩ ?_<;>simp [e1,m1]
 | false=>
  simp [hb,e1,m1]
  refine ab rfl rfl (.inl rfl) (Ed u hs) ?_
  have e:((100:Int) < ((oz u).length:Int))↔100 < (oz u).length:=by omega
  simp [hb,e1,m1,tx,ae]
  refine hK _ ⟨?_,?_⟩ ?_<;>simp [e1,m1,Sx,e,tx,num]
def Sy (u:LUrl):Bool:=!o0 u.frag [] || Sx u
theorem okops37 (hs:u.Small) (h:UO st u) (hb:st.env 39=.val (.bool b)) (hK:∀ st',UO st' u→st'.env 50=.val (.bool (b || Sy u))→Ks.k st'):EO Tryz.prog ir217_ops1_37 st (Ks:=Ks) (kx:=kx):=by
 unfold ir217_ops1_37
 have e3:(⟨#[]⟩:ByteArray)=bs []:=rfl
 cases b with
 | true=>
  simp [hb]
  refine okops43 (b:=true) hs ⟨?_,?_⟩ ?_ (fun st' q1 q2=>hK st' q1 ?_)
  · simp [h.e1]
  · simp [h.m1]
  · simp
  · simpa using q2
 | false=>
  simp [hb,h.e1,h.m1,e3,tx]
  refine ab rfl rfl (.inl rfl) (A4 u.frag [] hs.2.2.2.2.2.1 (by simp)) ?_
  simp [hb,e3,tx]
  refine okops43 (b:=!o0 u.frag []) hs ⟨?_,?_⟩ ?_ (fun st' q1 q2=>hK st' q1 ?_)
  · simp [h.e1]
  · simp [h.m1]
  · simp
  · simpa [Sy] using q2
def Sz (u:LUrl):Bool:=!o0 u.query [35] || Sy u
theorem okops31 (hs:u.Small) (h:UO st u) (hb:st.env 33=.val (.bool b)) (hK:∀ st',UO st' u→st'.env 50=.val (.bool (b || Sz u))→Ks.k st'):EO Tryz.prog ir217_ops1_31 st (Ks:=Ks) (kx:=kx):=by
 unfold ir217_ops1_31
 have e3:(⟨#[35]⟩:ByteArray)=bs [35]:=rfl
 cases b with
 | true=>
  simp [hb]
  refine okops37 (b:=true) hs ⟨?_,?_⟩ ?_ (fun st' q1 q2=>hK st' q1 ?_)
  · simp [h.e1]
  · simp [h.m1]
  · simp
  · simpa using q2
 | false=>
  simp [hb,h.e1,h.m1,e3,tx]
  refine ab rfl rfl (.inl rfl) (A4 u.query [35] hs.2.2.2.2.1 (by simp)) ?_
  simp [hb,e3,tx]
  refine okops37 (b:=!o0 u.query [35]) hs ⟨?_,?_⟩ ?_ (fun st' q1 q2=>hK st' q1 ?_)
  · simp [h.e1]
  · simp [h.m1]
  · simp
  · simpa [Sz] using q2
def S0 (u:LUrl):Bool:=!o0 u.path [63,35] || Sz u
theorem okops25 (hs:u.Small) (h:UO st u) (hb:st.env 27=.val (.bool b)) (hK:∀ st',UO st' u→st'.env 50=.val (.bool (b || S0 u))→Ks.k st'):EO Tryz.prog ir217_ops1_25 st (Ks:=Ks) (kx:=kx):=by
 unfold ir217_ops1_25
 have e3:(⟨#[63,35]⟩:ByteArray)=bs [63,35]:=rfl
 cases b with
 | true=>
  simp [hb]
  refine okops31 (b:=true) hs ⟨?_,?_⟩ ?_ (fun st' q1 q2=>hK st' q1 ?_)
  · simp [h.e1]
  · simp [h.m1]
  · simp
  · simpa using q2
 | false=>
  simp [hb,h.e1,h.m1,e3,tx]
  refine ab rfl rfl (.inl rfl) (A4 u.path [63,35] hs.2.2.2.1 (by simp)) ?_
  simp [hb,e3,tx]
  refine okops31 (b:=!o0 u.path [63,35]) hs ⟨?_,?_⟩ ?_ (fun st' q1 q2=>hK st' q1 ?_)
  · simp [h.e1]
  · simp [h.m1]
  · simp
  · simpa [S0] using q2
def Ii (u:LUrl):Bool:=(!u.hasF && !decide (u.frag=[])) || S0 u
theorem okops15 (hs:u.Small) (h:UO st u) (hb:st.env 17=.val (.bool b)) (hK:∀ st',UO st' u→st'.env 50=.val (.bool (b || Ii u))→Ks.k st'):EO Tryz.prog ir217_ops1_15 st (Ks:=Ks) (kx:=kx):=by
 unfold ir217_ops1_15
 have e3:(⟨#[]⟩:ByteArray)=bs []:=rfl
 cases b with
 | true=>
  simp [hb]
  refine okops25 (b:=true) hs ⟨?_,?_⟩ ?_ (fun st' q1 q2=>hK st' q1 ?_)
  · simp [h.e1]
  · simp [h.m1]
  · simp
  · simpa using q2
 | false=>
  cases hf:u.hasF with
  | true=>
   simp [hb,h.e1,h.m1,e3,tx,hf]
   refine okops25 (b:=false) hs ⟨?_,?_⟩ ?_ (fun st' q1 q2=>hK st' q1 ?_)
   · simp [h.e1]
   · simp [h.m1]
   · simp
   · simpa [Ii,hf] using q2
  | false=>
   simp [hb,h.e1,h.m1,e3,tx,hf,ka]
   refine okops25 (b:=!decide (u.frag=[])) hs ⟨?_,?_⟩ ?_ (fun st' q1 q2=>hK st' q1 ?_)
   · simp [h.e1]
   · simp [h.m1]
   · simp
   · simpa [Ii,hf] using q2
end
theorem Su (u:LUrl) (hs:u.Small):ag Tryz.prog 217 [.val (oq u)] (.ret (.val (.bool (mp u))) []) []:=by
 refine aj mixed ok217 rfl (fun _=>rfl) ?_
 unfold ir217
 rw [aa]
 have hlu:mp u=(oa u.scheme && (u.hasQ || decide (u.query=[])) && (u.hasF || decide (u.frag=[])) && o0 u.path [63,35] && o0 u.query [35] && o0 u.frag [] && decide ((oz u).length≤100) && yc u):=rfl
 have hend:∀ st':St,UO st' u→∀ b,st'.env 50=.val (.bool (b || Ii u))→b=(!oa u.scheme || (!u.hasQ && !decide (u.query=[]))) →
  CD (st'.env 50) (A:=⟨EC Tryz.prog (.seq (.reg [⟨some 2,.mov (.k (.val (.bool false))),none⟩]) .ret) st' (K:=⟨fun e st'=>ET e st' (Ks:=⟨fun st'=>EC Tryz.prog ir217_from2 st' (K:=⟨sw [.t 2] (.val (.bool (mp u)))⟩)⟩) (K:=⟨sw [.t 2] (.val (.bool (mp u)))⟩)⟩)⟩)
   (B:=⟨EC Tryz.prog .skip st' (K:=⟨fun e st'=>ET e st' (Ks:=⟨fun st'=>EC Tryz.prog ir217_from2 st' (K:=⟨sw [.t 2] (.val (.bool (mp u)))⟩)⟩) (K:=⟨sw [.t 2] (.val (.bool (mp u)))⟩)⟩)⟩):=by
  intro st' h b hb hbb
  have hlu2:mp u=(!(b || Ii u) && yc u):=by
   rw [hlu,hbb]
   unfold Ii S0 Sz Sy Sx
   have e:decide ((oz u).length≤100)=!decide (100 < (oz u).length):=by
    by_cases h:(oz u).length≤100
    · have h':¬ 100 < (oz u).length:=by omega
      simp [h,h']
    · have h':100 < (oz u).length:=by omega
      simp [h,h']
   rw [e]
   cases oa u.scheme<;>cases u.hasQ<;>cases u.hasF<;>cases decide (u.query=[])<;>cases decide (u.frag=[])<;>cases o0 u.path [63,35]<;>cases o0 u.query [35]<;>cases o0 u.frag []<;>cases decide (100 < (oz u).length)<;>rfl
  rw [hb,hlu2]
  cases (b || Ii u) with
  | true=>simp
  | false=>
   simp only [dz,ia,d8,gy,d9,ck,d7,gz,bm,ew,ir,iu,au,cf,cg,bf,eb,cj,bh,gx,dy,ci,ch,f9,ga,ql,qn,Option.getD_some,Option.getD_none,fo,cq,b9,f5,b8,bv,f8,bw,f7,fz,fy,iz,dl,b6,fw,dh,bz,fv,fl,fx,di,ft,bu,dg,fu,i7,i6,fm,fp,bx,fq,dm,b7,fa,bo,fk,fj,fi,iv,dc,bq,fg,da,bp,ff,ex,fh,db,fc,bn,cz,fe,ix,iw,ez,cx,bt,fb,de,br,jq,jp,j5,jr,jv,jt,js,j4,ju,jw,jx,jy,jz,eg,ef,ed,kj,kl,ek,ib,ct,ge,dq,j7,cl,l4,ko,kf,lb,ld,lc,l5,l6,ji,jk,jj,jl,jm,k8,dt,k7,gf,gg,gh,du,qp,gu,dx,l2,l3,i8,km,kn,Option.map_some,Option.map_none,gm,dv,dp,ca,gc,gd,jc,jb,lj,li,jo,gv,gw,jn,lf,lg,je,cd,jf,cb,ku,gt,gr,bg,la,lh,jh,ky,k6,kz,dr,eq,eu,er,ba,k9,l8,l7,kq,jg,ns,kr,ce,gp,gq,dw,gn,bd,cv,bc,cw,bb,j6,lk,ll,eh,ei,ie,ic,gb]
   refine ak (fun h=>by cases h) (fun _=>?_)
   simp only [dz,ia,d8,gy,d9,ck,d7,gz,bm,ew,ir,iu,au,cf,cg,bf,eb,cj,bh,gx,dy,ci,ch,f9,ga,ql,qn,Option.getD_some,Option.getD_none,fo,cq,b9,f5,b8,bv,f8,bw,f7,fz,fy,iz,dl,b6,fw,dh,bz,fv,fl,fx,di,ft,bu,dg,fu,i7,i6,fm,fp,bx,fq,dm,b7,fa,bo,fk,fj,fi,iv,dc,bq,fg,da,bp,ff,ex,fh,db,fc,bn,cz,fe,ix,iw,ez,cx,bt,fb,de,br,jq,jp,j5,jr,jv,jt,js,j4,ju,jw,jx,jy,jz,eg,ef,ed,kj,kl,ek,ib,ct,ge,dq,j7,cl,l4,ko,kf,lb,ld,lc,l5,l6,ji,jk,jj,jl,jm,k8,dt,k7,gf,gg,gh,du,qp,gu,dx,l2,l3,i8,km,kn,Option.map_some,Option.map_none,gm,dv,dp,ca,gc,gd,jc,jb,lj,li,jo,gv,gw,jn,lf,lg,je,cd,jf,cb,ku,gt,gr,bg,la,lh,jh,ky,k6,kz,dr,eq,eu,er,ba,k9,l8,l7,kq,jg,ns,kr,ce,gp,gq,dw,gn,bd,cv,bc,cw,bb,j6,lk,ll,eh,ei,ie,ic,gb]
   exact Mb u hs st' h.e1 h.m1
 simp [ah,am,ax,ac,af,oq,tx,num,ae]
 refine ab rfl rfl (.inl rfl) (O5 u.scheme hs.1) ?_
 have e3:(⟨#[]⟩:ByteArray)=bs []:=rfl
 cases b1:oa u.scheme with
 | false=>
  simp [tx,num,ae]
  refine okops15 (b:=true) hs ⟨?_,?_⟩ ?_ (fun st' q1 q2=>hend st' q1 true q2 (by simp [b1]))
  · simp
  · simp [tx,num]
  · simp
 | true=>
  cases hq:u.hasQ with
  | true=>
   simp [tx,num,ae,hq]
   refine okops15 (b:=false) hs ⟨?_,?_⟩ ?_ (fun st' q1 q2=>hend st' q1 false q2 (by simp [b1,hq]))
   · simp
   · simp [tx,num,hq]
   · simp
  | false=>
   simp [tx,num,ae,hq,e3,ka]
   refine okops15 (b:=!decide (u.query=[])) hs ⟨?_,?_⟩ ?_ (fun st' q1 q2=>hend st' q1 _ q2 (by simp [b1,hq]))
   · simp
   · simp [tx,num,hq]
   · simp
end Go.Proofs
end
section
namespace Go.Proofs
open Go.PW Go.KP
attribute [local simp] RV.cells RV.one PV.cells PV.solid PV.one im ao kh ke RV.ofCells elems PV.killL
variable [GF]
abbrev prs (r:LUrl×Bool):Kx (PExit→St→Prop):=⟨sw [.c 2 true 9,.t 3] (xz r)⟩
structure UP (st:St) (u:LUrl) (r:Tx):Prop where
 e2:st.env 2=.ptr 2 0
 e5:st.env 5=.ptr 5 0
 e6:st.env 6=.val (tx r)
 m2:st.mem 2=.box (ai LUrl.zero)
 m5:st.mem 5=.box (ai u)
theorem vi (t:Tx) (k:Nat):List.drop k (List.take t.length t)=t.drop k:=by rw [List.take_length]
theorem ye (u:LUrl) (hs:u.Small) (r:Tx) (st:St) (h:UP st u r):EC Tryz.prog ir191_from18 st (K:=prs (u,mp u)):=by
 unfold ir191_from18
 obtain ⟨e2,e5,e6,m2,m5⟩:=h
 simp [e2,e5,m2,m5,ai,ao,tx,num]
 refine em rfl rfl (.inl rfl) (Su u hs) ?_
 simp [e2,e5,m2,m5,ai,ao,tx,num]
 refine zh (id:=2) ?_ ?_ ?_
 · simp [e2]
 · simp [e2,ai,tx,num]
 · simp
theorem qv (st:St) (e2:st.env 2=.ptr 2 0) (m2:st.mem 2=.box (ai LUrl.zero)) (e3:st.env 3=.val (.bool false)):sw [.c 2 true 9,.t 3] (xz (LUrl.zero,false)) .ret st:=
 zh e2 m2 e3
def nf (u:LUrl) (r:Tx):LUrl×Bool:=match tc u.scheme r with
 | none=>(LUrl.zero,false)
 | some p=>({ u with port:=p },mp { u with port:=p })
theorem Qh {t:Tx} {n:Int} (h:om t=some n):n≤1000000000000000000:=by
 obtain ⟨_,_,u,h1,h2,h3,h4⟩:=yl h
 have:=F3 u h2
 have h5:n7 u < 10 ^ 18:=Nat.lt_of_lt_of_le this (Nat.pow_le_pow_right (by omega) h3)
 have h6:(10:Nat) ^ 18=1000000000000000000:=by decide
 rcases h4 with h4 | h4<;>omega
theorem Kn (u:LUrl) (hs:u.Small) (hp:u.port=0) (r:Tx) (hr:r.length < 1099511627776) (st:St) (h:UP st u r) (e4:st.env 4=.val (num (kw r 58))):EC Tryz.prog ir191_from17 st (K:=prs (nf u r)):=by
 unfold ir191_from17
 obtain ⟨e2,e5,e6,m2,m5⟩:=h
 have hle:=q7 r 58
 by_cases hc:58∈r
 · have hlt:=og.2 hc
   have g1:((kw r 58:Nat):Int) < (r.length:Int):=by omega
   have g2:IntKind.i64.wrap ((kw r 58:Nat)+1:Int)=((kw r 58+1:Nat):Int):=by rw [wrap_i64 (by omega) (by omega)];omega
   have g3:kw r 58+1≤r.length:=by omega
   have g4:(0:Int)≤((kw r 58:Nat):Int)+1:=by omega
   simp [e2,e4,e5,e6,m2,m5,tx,num,ae,g1,g2,g3,g4,mr,vi,hlt]
   have hn:=O7 (ip r 58) (by have:=pm r 58;omega)
   cases hnum:om (ip r 58) with
   | none=>
    rw [hnum] at hn
    refine o5 rfl rfl (.inl rfl) hn ?_
    rw [show nf u r=(LUrl.zero,false) by simp [nf,tc,hc,hnum]]
    simp [e2,e4,e5,e6,m2,m5,tx,num,ai]
    refine qv _ ?_ ?_ ?_
    · simp [e2]
    · simp [ai,LUrl.zero,tx,num,bs]
    · simp
   | some n=>
    have hn1:=Qh hnum
    rw [hnum] at hn
    refine o5 rfl rfl (.inl rfl) hn ?_
    by_cases hin:1≤n∧n≤65535
    · simp [e2,e4,e5,e6,m2,m5,tx,num,ai]
      refine ab rfl rfl (.inl rfl) (nh .i64 n 1 65535) ?_
      simp [e2,e4,e5,e6,m2,m5,tx,num,ai,hin]
      refine ab rfl rfl (.inl rfl) (H7 u.scheme) ?_
      by_cases hu:n=qj u.scheme
      · have e:nf u r=(u,mp u):=by
         have hl:tc u.scheme r=some 0:=by
          simp only [tc,hc,hnum,hin,if_true,and_self]
          rw [if_pos hu]
         have:({ u with port:=0 }:LUrl)=u:=by rw [← hp]
         simp only [nf,hl,this]
        rw [e]
        simp [e2,e4,e5,e6,m2,m5,tx,num,ai,hu]
        refine ye u hs r _ ⟨?_,?_,?_,?_,?_⟩<;>simp [e2,e5,e6,m2,m5,ai,tx,num]
      · have e:nf u r=({ u with port:=n },mp { u with port:=n }):=by
         simp only [nf,tc,hc,hnum,hin,if_true,and_self,hu,if_false]
        rw [e]
        simp [e2,e4,e5,e6,m2,m5,tx,num,ai,hu]
        refine ye { u with port:=n } ?_ r _ ⟨?_,?_,?_,?_,?_⟩
        · exact ⟨hs.1,hs.2.1,hs.2.2.1,hs.2.2.2.1,hs.2.2.2.2.1,hs.2.2.2.2.2.1,by show n≤_;omega⟩
        all_goals simp [e2,e5,e6,m2,m5,ai,tx,num]
    · rw [show nf u r=(LUrl.zero,false) by simp only [nf,tc,hc,hnum,hin,if_true,if_false]]
      simp [e2,e4,e5,e6,m2,m5,tx,num,ai]
      refine ab rfl rfl (.inl rfl) (nh .i64 n 1 65535) ?_
      have hd:decide (1≤n∧n≤65535)=false:=decide_eq_false hin
      rw [hd]
      simp [e2,e4,e5,e6,m2,m5,tx,num,ai]
      refine qv _ ?_ ?_ ?_
      · simp [e2]
      · simp [ai,LUrl.zero,tx,num,bs]
      · simp
 · have hge:kw r 58=r.length:=by have:=mt og.1 hc;omega
   have e:nf u r=(u,mp u):=by
    simp only [nf,tc,hc,if_false]
    have:({ u with port:=0 }:LUrl)=u:=by rw [← hp]
    rw [this]
   rw [e]
   simp [e2,e4,e5,e6,m2,m5,tx,num,ae,hge]
   refine ye u hs r _ ⟨?_,?_,?_,?_,?_⟩<;>simp [e2,e5,e6,m2,m5,ai,tx,num]
theorem Cu (sc us pa qu fr:Tx) (hq hf:Bool) (h1:sc.length < 1099511627776) (h2:us.length < 1099511627776) (h3:pa.length < 1099511627776) (h4:qu.length < 1099511627776) (h5:fr.length < 1099511627776) (r:Tx) (hr:r.length < 1099511627776) (st:St)
 (h:UP st ⟨sc,us,[],0,pa,qu,fr,hq,hf⟩ r):EC Tryz.prog ir191_from15 st (K:=prs (nf ⟨sc,us,mi (az r 58),0,pa,qu,fr,hq,hf⟩ r)):=by
 unfold ir191_from15
 obtain ⟨e2,e5,e6,m2,m5⟩:=h
 have hle:=q7 r 58
 simp [e2,e5,e6,m2,m5,tx,num,ae]
 refine ab rfl rfl (.inl rfl) (sk r 58 hr) ?_
 simp [e2,e5,e6,m2,m5,tx,num,ae,hle,mr]
 refine ab rfl rfl (.inl rfl) (H9 (az r 58) (by have:=mm r 58;omega)) ?_
 simp [e2,e5,e6,m2,m5,tx,num,ae,ai]
 refine Kn ⟨sc,us,mi (az r 58),0,pa,qu,fr,hq,hf⟩ ?_ rfl r hr _ ⟨?_,?_,?_,?_,?_⟩ ?_
 · refine ⟨h1,h2,?_,h3,h4,h5,by show (0:Int)≤_;omega⟩
   have:=mm r 58
   simp [mi];omega
 all_goals simp [e2,e5,e6,m2,m5,ai,tx,num]
theorem Cv (sc pa qu fr:Tx) (hq hf:Bool) (h1:sc.length < 1099511627776) (h3:pa.length < 1099511627776) (h4:qu.length < 1099511627776) (h5:fr.length < 1099511627776) (r:Tx) (hr:r.length < 1099511627776) (st:St)
 (h:UP st ⟨sc,[],[],0,pa,qu,fr,hq,hf⟩ r):EC Tryz.prog ir191_from14 st (K:=prs (nf ⟨sc,if 64∈r then az r 64 else [],mi (az (if 64∈r then ip r 64 else r) 58),0,pa,qu,fr,hq,hf⟩ (if 64∈r then ip r 64 else r))):=by
 unfold ir191_from14
 obtain ⟨e2,e5,e6,m2,m5⟩:=h
 have hle:=q7 r 64
 simp [e2,e5,e6,m2,m5,tx,num,ae]
 refine ab rfl rfl (.inl rfl) (sk r 64 hr) ?_
 by_cases hc:64∈r
 · have hlt:=og.2 hc
   have g2:IntKind.i64.wrap ((kw r 64:Nat)+1:Int)=((kw r 64+1:Nat):Int):=by rw [wrap_i64 (by omega) (by omega)];omega
   have g3:kw r 64+1≤r.length:=by omega
   have g4:(0:Int)≤((kw r 64:Nat):Int)+1:=by omega
   simp [e2,e5,e6,m2,m5,tx,num,ae,ai,hlt,hle,g2,g3,g4,mr,vi]
   have e:(if 64∈r then ip r 64 else r)=ip r 64:=if_pos hc
   rw [if_pos hc,e]
   refine Cu sc (az r 64) pa qu fr hq hf h1 (by have:=mm r 64;omega) h3 h4 h5 (ip r 64) (by have:=pm r 64;omega) _ ⟨?_,?_,?_,?_,?_⟩<;>simp [e2,e5,e6,m2,m5,ai,tx,num,az,ip]
 · have hge:kw r 64=r.length:=by have:=mt og.1 hc;omega
   simp [e2,e5,e6,m2,m5,tx,num,ae,hge]
   have e:(if 64∈r then ip r 64 else r)=r:=if_neg hc
   rw [if_neg hc,e]
   refine Cu sc [] pa qu fr hq hf h1 (by simp) h3 h4 h5 r hr _ ⟨?_,?_,?_,?_,?_⟩<;>simp [e2,e5,e6,m2,m5,ai,tx,num]
def F1 (sc pa qu fr:Tx) (hq hf:Bool) (r:Tx):LUrl×Bool:=
 nf ⟨sc,if 64∈r then az r 64 else [],mi (az (if 64∈r then ip r 64 else r) 58),0,pa,qu,fr,hq,hf⟩ (if 64∈r then ip r 64 else r)
theorem Ko (sc qu fr:Tx) (hq hf:Bool) (h1:sc.length < 1099511627776) (h4:qu.length < 1099511627776) (h5:fr.length < 1099511627776) (r:Tx) (hr:r.length < 1099511627776) (st:St)
 (h:UP st ⟨sc,[],[],0,r.drop (kw r 47),qu,fr,hq,hf⟩ r) (e4:st.env 4=.val (num (kw r 47))):EC Tryz.prog ir191_from12 st (K:=prs (F1 sc (if 47∈r then r.drop (kw r 47) else [47]) qu fr hq hf (az r 47))):=by
 unfold ir191_from12
 obtain ⟨e2,e5,e6,m2,m5⟩:=h
 have hle:=q7 r 47
 have e3:(⟨#[]⟩:ByteArray)=bs []:=rfl
 by_cases hc:47∈r
 · have hlt:=og.2 hc
   have hne:¬ r.drop (kw r 47)=[]:=by
    intro e;have:=congrArg List.length e;simp at this;omega
   have hne2:¬ r.length≤kw r 47:=by omega
   rw [if_pos hc]
   simp [e2,e4,e5,e6,m2,m5,tx,num,ae,ai,e3,ka,hne,hne2,hle,mr]
   refine Cv sc (r.drop (kw r 47)) qu fr hq hf h1 (by simp;omega) h4 h5 (az r 47) (by have:=mm r 47;omega) _ ⟨?_,?_,?_,?_,?_⟩<;>simp [e2,e5,e6,m2,m5,ai,tx,num,az]
 · have hge:kw r 47=r.length:=by have:=mt og.1 hc;omega
   have e4':(⟨#[47]⟩:ByteArray)=bs [47]:=rfl
   rw [if_neg hc]
   simp [e2,e4,e5,e6,m2,m5,tx,num,ae,ai,e3,e4',ka,hge,mr]
   refine Cv sc [47] qu fr hq hf h1 (by simp) h4 h5 (az r 47) (by have:=mm r 47;omega) _ ⟨?_,?_,?_,?_,?_⟩<;>simp [e2,e5,e6,m2,m5,ai,tx,num,az,hge]
def Aq (sc qu fr:Tx) (hq hf:Bool) (r:Tx):LUrl×Bool:=F1 sc (if 47∈r then r.drop (kw r 47) else [47]) qu fr hq hf (az r 47)
theorem Cw (sc qu fr:Tx) (hq hf:Bool) (h1:sc.length < 1099511627776) (h4:qu.length < 1099511627776) (h5:fr.length < 1099511627776) (r:Tx) (hr:r.length < 1099511627776) (st:St)
 (h:UP st ⟨sc,[],[],0,[],qu,fr,hq,hf⟩ r):EC Tryz.prog ir191_from10 st (K:=prs (Aq sc qu fr hq hf r)):=by
 unfold ir191_from10
 obtain ⟨e2,e5,e6,m2,m5⟩:=h
 have hle:=q7 r 47
 simp [e2,e5,e6,m2,m5,tx,num,ae]
 refine ab rfl rfl (.inl rfl) (sk r 47 hr) ?_
 simp [e2,e5,e6,m2,m5,tx,num,ae,hle,mr,ai,vi]
 refine Ko sc qu fr hq hf h1 h4 h5 r hr _ ⟨?_,?_,?_,?_,?_⟩ ?_<;>simp [e2,e5,e6,m2,m5,ai,tx,num]
theorem Es (sc fr:Tx) (hf:Bool) (h1:sc.length < 1099511627776) (h5:fr.length < 1099511627776) (r:Tx) (hr:r.length < 1099511627776) (st:St)
 (h:UP st ⟨sc,[],[],0,[],[],fr,false,hf⟩ r):EC Tryz.prog ir191_from9 st (K:=prs (Aq sc (ip r 63) fr (decide (63∈r)) hf (az r 63))):=by
 unfold ir191_from9
 obtain ⟨e2,e5,e6,m2,m5⟩:=h
 have hle:=q7 r 63
 simp [e2,e5,e6,m2,m5,tx,num,ae]
 refine ab rfl rfl (.inl rfl) (sk r 63 hr) ?_
 by_cases hc:63∈r
 · have hlt:=og.2 hc
   have g2:IntKind.i64.wrap ((kw r 63:Nat)+1:Int)=((kw r 63+1:Nat):Int):=by rw [wrap_i64 (by omega) (by omega)];omega
   have g3:kw r 63+1≤r.length:=by omega
   have g4:(0:Int)≤((kw r 63:Nat):Int)+1:=by omega
   simp [e2,e5,e6,m2,m5,tx,num,ae,ai,hlt,hle,g2,g3,g4,mr,vi]
   rw [decide_eq_true hc]
   refine Cw sc (ip r 63) fr true hf h1 (by have:=pm r 63;omega) h5 (az r 63) (by have:=mm r 63;omega) _ ⟨?_,?_,?_,?_,?_⟩<;>simp [e2,e5,e6,m2,m5,ai,tx,num,az,ip]
 · have hge:kw r 63=r.length:=by have:=mt og.1 hc;omega
   simp [e2,e5,e6,m2,m5,tx,num,ae,hge]
   rw [decide_eq_false hc,rp hc,Bx hc]
   refine Cw sc [] fr false hf h1 (by simp) h5 r hr _ ⟨?_,?_,?_,?_,?_⟩<;>simp [e2,e5,e6,m2,m5,ai,tx,num]
theorem Mz (sc:Tx) (h1:sc.length < 1099511627776) (r:Tx) (hr:r.length < 1099511627776) (st:St)
 (h:UP st ⟨sc,[],[],0,[],[],[],false,false⟩ r):EC Tryz.prog ir191_from8 st (K:=prs (xa sc r)):=by
 unfold ir191_from8
 obtain ⟨e2,e5,e6,m2,m5⟩:=h
 have hle:=q7 r 35
 have e:xa sc r=Aq sc (ip (az r 35) 63) (ip r 35) (decide (63∈az r 35)) (decide (35∈r)) (az (az r 35) 63):=rfl
 rw [e]
 simp [e2,e5,e6,m2,m5,tx,num,ae]
 refine ab rfl rfl (.inl rfl) (sk r 35 hr) ?_
 by_cases hc:35∈r
 · have hlt:=og.2 hc
   have g2:IntKind.i64.wrap ((kw r 35:Nat)+1:Int)=((kw r 35+1:Nat):Int):=by rw [wrap_i64 (by omega) (by omega)];omega
   have g3:kw r 35+1≤r.length:=by omega
   have g4:(0:Int)≤((kw r 35:Nat):Int)+1:=by omega
   simp [e2,e5,e6,m2,m5,tx,num,ae,ai,hlt,hle,g2,g3,g4,mr,vi]
   rw [decide_eq_true hc]
   refine Es sc (ip r 35) true h1 (by have:=pm r 35;omega) (az r 35) (by have:=mm r 35;omega) _ ⟨?_,?_,?_,?_,?_⟩<;>simp [e2,e5,e6,m2,m5,ai,tx,num,az,ip]
 · have hge:kw r 35=r.length:=by have:=mt og.1 hc;omega
   simp [e2,e5,e6,m2,m5,tx,num,ae,hge]
   rw [decide_eq_false hc,rp hc,Bx hc]
   refine Es sc [] false h1 (by simp) r hr _ ⟨?_,?_,?_,?_,?_⟩<;>simp [e2,e5,e6,m2,m5,ai,tx,num]
theorem M0 (sc:Tx) (h1:sc.length < 1099511627776) (r:Tx) (hr:r.length < 1099511627776) (st:St)
 (h:UP st ⟨sc,[],[],0,[],[],[],false,false⟩ r):EC Tryz.prog ir191_from5 st (K:=prs (if qf sc then if r.take 2=[47,47] then xa sc (r.drop 2) else (LUrl.zero,false) else (⟨sc,[],[],0,az (az r 35) 63,[],[],false,false⟩,mp ⟨sc,[],[],0,az (az r 35) 63,[],[],false,false⟩))):=by
 unfold ir191_from5
 obtain ⟨e2,e5,e6,m2,m5⟩:=h
 have e7:(⟨#[47,47]⟩:ByteArray)=bs [47,47]:=rfl
 simp [e2,e5,e6,m2,m5,tx,num,ae,ai]
 refine ab rfl rfl (.inl rfl) (Aj sc) ?_
 by_cases hw:qf sc=true
 · rw [if_pos hw]
   by_cases h2:r.length < 2
   · have h2':(r.length:Int) < 2:=by omega
     have ht:¬ r.take 2=[47,47]:=fun e=>by have:=congrArg List.length e;simp at this;omega
     rw [if_neg ht]
     simp [e2,e5,e6,m2,m5,tx,num,ae,ai,hw,h2']
     refine qv _ ?_ ?_ ?_
     · simp [e2]
     · simp [ai,LUrl.zero,tx,num,bs]
     · simp
   · have h2':¬ (r.length:Int) < 2:=by omega
     have h2'':(2:Int)≤r.length:=by omega
     have h2n:2≤r.length:=by omega
     by_cases ht:r.take 2=[47,47]
     · rw [if_pos ht]
       simp [e2,e5,e6,m2,m5,tx,num,ae,ai,hw,h2',h2'',h2n,e7,mr,ht,vi]
       refine Mz sc h1 (r.drop 2) (by simp;omega) _ ⟨?_,?_,?_,?_,?_⟩<;>simp [e2,e5,e6,m2,m5,ai,tx,num]
     · rw [if_neg ht]
       simp [e2,e5,e6,m2,m5,tx,num,ae,ai,hw,h2',h2'',h2n,e7,mr,ka,ht]
       refine qv _ ?_ ?_ ?_
       · simp [e2]
       · simp [ai,LUrl.zero,tx,num,bs]
       · simp
 · rw [if_neg hw]
   have hl1:=q7 r 35
   have hl2:=q7 (az r 35) 63
   have hl3:=mm r 35
   have hl4:=mm (az r 35) 63
   simp [e2,e5,e6,m2,m5,tx,num,ae,ai,hw]
   refine ab rfl rfl (.inl rfl) (sk r 35 hr) ?_
   simp [e2,e5,e6,m2,m5,tx,num,ae,ai,hw,hl1,mr]
   refine ab rfl rfl (.inl rfl) (sk (az r 35) 63 (by omega)) ?_
   have hl2':kw (az r 35) 63≤kw r 35∧kw (az r 35) 63≤r.length:=by
    refine ⟨?_,by omega⟩
    have:(az r 35).length≤kw r 35:=by unfold az;simp;omega
    omega
   have hl2i:((kw (az r 35) 63:Nat):Int)≤(min (kw r 35) r.length:Nat):=by omega
   simp [e2,e5,e6,m2,m5,tx,num,ae,ai,hw,hl1,hl2',mr,ao]
   refine em rfl rfl (.inl rfl) (Su ⟨sc,[],[],0,az (az r 35) 63,[],[],false,false⟩ ⟨h1,by simp,by simp,by show (az (az r 35) 63).length < _;omega,by simp,by simp,by show (0:Int)≤_;omega⟩) ?_
   simp [e2,e5,e6,m2,m5,tx,num,ae,ai,hw,hl1,mr,ao]
   refine zh (id:=2) ?_ ?_ ?_
   · simp [e2]
   · simp [ai,tx,num,az]
   · simp
theorem H8 (t:Tx) (ht:t.length < 1099511627776):ag Tryz.prog 191 [.val (tx t)] (.ret (xz (jd t)) []) []:=by
 refine aj mixed ok191 rfl (fun _=>rfl) ?_
 unfold ir191
 rw [aa]
 have hle:=q7 t 58
 simp [ah,am,ax,ac,af,tx,num,ae]
 refine ab rfl rfl (.inl rfl) (sk t 58 ht) ?_
 by_cases hc:58∈t
 · have hlt:=og.2 hc
   have hne:¬ ((kw t 58:Nat):Int)=(t.length:Int):=by omega
   have hne':¬ kw t 58=t.length:=by omega
   have g2:IntKind.i64.wrap ((kw t 58:Nat)+1:Int)=((kw t 58+1:Nat):Int):=by rw [wrap_i64 (by omega) (by omega)];omega
   have g3:kw t 58+1≤t.length:=by omega
   have g4:(0:Int)≤((kw t 58:Nat):Int)+1:=by omega
   simp [tx,num,ae,hlt,hle,hne,hne',mr]
   refine ab rfl rfl (.inl rfl) (H9 (az t 58) (by have:=mm t 58;omega)) ?_
   simp [tx,num,ae,hlt,hle,hne,hne',g2,g3,g4,mr,vi]
   rw [show jd t=(if qf (mi (az t 58)) then if (ip t 58).take 2=[47,47] then xa (mi (az t 58)) ((ip t 58).drop 2) else (LUrl.zero,false) else (⟨mi (az t 58),[],[],0,az (az (ip t 58) 35) 63,[],[],false,false⟩,mp ⟨mi (az t 58),[],[],0,az (az (ip t 58) 35) 63,[],[],false,false⟩)) by unfold jd;rw [if_pos hc]]
   refine M0 (mi (az t 58)) (by have:=mm t 58;simp [mi];omega) (ip t 58) (by have:=pm t 58;omega) _ ⟨?_,?_,?_,?_,?_⟩<;>simp [ai,tx,num,LUrl.zero,bs,ip]
 · have hge:kw t 58=t.length:=by have:=mt og.1 hc;omega
   rw [show jd t=(LUrl.zero,false) by unfold jd;rw [if_neg hc]]
   simp [tx,num,ae,hge]
   refine qv _ ?_ ?_ ?_
   · simp
   · simp [ai,LUrl.zero,tx,num,bs]
   · simp
end Go.Proofs
end
section
namespace Go.Proofs
open Go.PW Go.KP
attribute [local simp] RV.cells RV.one PV.cells PV.solid PV.one im ao kh ke RV.ofCells elems PV.killL
variable [GF]
structure TO (st:St) (x:LTarget) (u:LUrl):Prop where
 e1:st.env 1=.ptr 1 0
 e3:st.env 3=.ptr 3 0
 m1:st.mem 1=.box [.val (tx x.url),.val (num x.prio),.val (num x.weight)]
 m3:st.mem 3=.box (ai u)
section
variable {Ks:Kx (St→Prop)} {st:St} {x:LTarget} {u:LUrl} {b:Bool}
def tg35 (x:LTarget):Bool:=decide (1≤x.weight∧x.weight≤9)
theorem Vp (h:TO st x u) (hb:st.env 34=.val (.bool b)) (hK:∀ st',TO st' x u→st'.env 38=.val (.bool (b && tg35 x))→Ks.k st'):EX Tryz.prog ir150_o35 st (Ks:=Ks):=by
 unfold ir150_o35
 cases b with
 | false=>
  simp [hb]
  refine hK _ ⟨?_,?_,?_,?_⟩ ?_<;>simp [h.e1,h.e3,h.m1,h.m3]
 | true=>
  simp [hb,h.e1,h.m1,num]
  refine em rfl rfl (.inl rfl) (nh .i64 x.weight 1 9) ?_
  simp [hb]
  refine hK _ ⟨?_,?_,?_,?_⟩ ?_<;>simp [h.e1,h.e3,h.m1,h.m3,tg35]
def tg30 (x:LTarget):Bool:=decide (1≤x.prio∧x.prio≤9) && tg35 x
theorem Vq (h:TO st x u) (hb:st.env 29=.val (.bool b)) (hK:∀ st',TO st' x u→st'.env 38=.val (.bool (b && tg30 x))→Ks.k st'):EX Tryz.prog ir150_o30 st (Ks:=Ks):=by
 unfold ir150_o30
 cases b with
 | false=>
  simp [hb]
  refine Vp (x:=x) (u:=u) (b:=false) ⟨?_,?_,?_,?_⟩ ?_ (fun st' q1 q2=>hK st' q1 (by simpa using q2))<;>simp [h.e1,h.e3,h.m1,h.m3]
 | true=>
  simp [hb,h.e1,h.m1,num]
  refine em rfl rfl (.inl rfl) (nh .i64 x.prio 1 9) ?_
  simp [hb]
  refine Vp (x:=x) (u:=u) (b:=decide (1≤x.prio∧x.prio≤9)) ⟨?_,?_,?_,?_⟩ ?_ (fun st' q1 q2=>hK st' q1 (by rw [q2];simp [tg30]))<;>simp [h.e1,h.e3,h.m1,h.m3]
def tg23 (x:LTarget) (u:LUrl):Bool:=decide (oz u=x.url) && tg30 x
theorem Vr (hs:u.Small) (h:TO st x u) (hb:st.env 22=.val (.bool b)) (hK:∀ st',TO st' x u→st'.env 38=.val (.bool (b && tg23 x u))→Ks.k st'):EX Tryz.prog ir150_o23 st (Ks:=Ks):=by
 unfold ir150_o23
 cases b with
 | false=>
  simp [hb]
  refine Vq (x:=x) (u:=u) (b:=false) ⟨?_,?_,?_,?_⟩ ?_ (fun st' q1 q2=>hK st' q1 (by simpa using q2))<;>simp [h.e1,h.e3,h.m1,h.m3]
 | true=>
  simp [hb,h.e1,h.m1,h.e3,h.m3,num,tx,ai,ao]
  refine em rfl rfl (.inl rfl) (Ed u hs) ?_
  simp [hb,h.e1,h.m1,num,tx,ka]
  refine Vq (x:=x) (u:=u) (b:=decide (oz u=x.url)) ⟨?_,?_,?_,?_⟩ ?_ (fun st' q1 q2=>hK st' q1 (by rw [q2];simp [tg23]))<;>simp [h.e1,h.e3,h.m1,h.m3]
def tg18 (x:LTarget) (u:LUrl):Bool:=!u.hasF && tg23 x u
theorem Vs (hs:u.Small) (h:TO st x u) (hb:st.env 17=.val (.bool b)) (hK:∀ st',TO st' x u→st'.env 38=.val (.bool (b && tg18 x u))→Ks.k st'):EX Tryz.prog ir150_o18 st (Ks:=Ks):=by
 unfold ir150_o18
 cases b with
 | false=>
  simp [hb]
  refine Vr (x:=x) (u:=u) (b:=false) hs ⟨?_,?_,?_,?_⟩ ?_ (fun st' q1 q2=>hK st' q1 (by simpa using q2))<;>simp [h.e1,h.e3,h.m1,h.m3]
 | true=>
  simp [hb,h.e1,h.m1,h.e3,h.m3,num,tx,ai,ao]
  refine Vr (x:=x) (u:=u) (b:=!u.hasF) hs ⟨?_,?_,?_,?_⟩ ?_ (fun st' q1 q2=>hK st' q1 (by rw [q2];simp [tg18]))<;>simp [h.e1,h.e3,h.m1,h.m3,ai,tx,num]
end
theorem Fi (x:LTarget) (hx:x.url.length < 1099511627776):ag Tryz.prog 150 [.val (al x)] (.ret (.val (.bool (l0 x))) []) []:=by
 refine aj mixed ok150 rfl (fun _=>rfl) ?_
 unfold ir150
 rw [aa]
 have hs:=C6 hx
 simp [ah,am,ax,ac,af,al,tx,num]
 have hp:=H8 x.url hx
 have e:l0 x=(((jd x.url).2 && qf (jd x.url).1.scheme) && tg18 x (jd x.url).1):=by
  unfold l0 tg18 tg23 tg30 tg35
  simp only [Bool.and_assoc]
 rw [e]
 generalize jd x.url=r at *
 obtain ⟨u,ok⟩:=r
 dsimp only at *
 refine o5 rfl rfl (.inl rfl) hp ?_
 simp [ah,am,ax,ac,af,oq,tx,num]
 cases ok with
 | false=>
  simp
  refine Vs (x:=x) (u:=u) (b:=false) hs ⟨?_,?_,?_,?_⟩ ?_ (fun st' q1 q2=>?_)
  all_goals simp [ai,tx,num]
  simp [q2,dz,ia,d8,gy,d9,ck,d7,gz,bm,ew,ir,iu,au,cf,cg,bf,eb,cj,bh,gx,dy,ci,ch,f9,ga,ql,qn,Option.getD_some,Option.getD_none,fo,cq,b9,f5,b8,bv,f8,bw,f7,fz,fy,iz,dl,b6,fw,dh,bz,fv,fl,fx,di,ft,bu,dg,fu,i7,i6,fm,fp,bx,fq,dm,b7,fa,bo,fk,fj,fi,iv,dc,bq,fg,da,bp,ff,ex,fh,db,fc,bn,cz,fe,ix,iw,ez,cx,bt,fb,de,br,jq,jp,j5,jr,jv,jt,js,j4,ju,jw,jx,jy,jz,eg,ef,ed,kj,kl,ek,ib,ct,ge,dq,j7,cl,l4,ko,kf,lb,ld,lc,l5,l6,ji,jk,jj,jl,jm,k8,dt,k7,gf,gg,gh,du,qp,gu,dx,l2,l3,i8,km,kn,Option.map_some,Option.map_none,gm,dv,dp,ca,gc,gd,jc,jb,lj,li,jo,gv,gw,jn,lf,lg,je,cd,jf,cb,ku,gt,gr,bg,la,lh,jh,ky,k6,kz,dr,eq,eu,er,ba,k9,l8,l7,kq,jg,ns,kr,ce,gp,gq,dw,gn,bd,cv,bc,cw,bb,j6,lk,ll,eh,ei,ie,ic,gb]
 | true=>
  simp
  refine em rfl rfl (.inl rfl) (Aj u.scheme) ?_
  simp
  refine Vs (x:=x) (u:=u) (b:=qf u.scheme) hs ⟨?_,?_,?_,?_⟩ ?_ (fun st' q1 q2=>?_)
  all_goals simp [ai,tx,num]
  simp [q2,dz,ia,d8,gy,d9,ck,d7,gz,bm,ew,ir,iu,au,cf,cg,bf,eb,cj,bh,gx,dy,ci,ch,f9,ga,ql,qn,Option.getD_some,Option.getD_none,fo,cq,b9,f5,b8,bv,f8,bw,f7,fz,fy,iz,dl,b6,fw,dh,bz,fv,fl,fx,di,ft,bu,dg,fu,i7,i6,fm,fp,bx,fq,dm,b7,fa,bo,fk,fj,fi,iv,dc,bq,fg,da,bp,ff,ex,fh,db,fc,bn,cz,fe,ix,iw,ez,cx,bt,fb,de,br,jq,jp,j5,jr,jv,jt,js,j4,ju,jw,jx,jy,jz,eg,ef,ed,kj,kl,ek,ib,ct,ge,dq,j7,cl,l4,ko,kf,lb,ld,lc,l5,l6,ji,jk,jj,jl,jm,k8,dt,k7,gf,gg,gh,du,qp,gu,dx,l2,l3,i8,km,kn,Option.map_some,Option.map_none,gm,dv,dp,ca,gc,gd,jc,jb,lj,li,jo,gv,gw,jn,lf,lg,je,cd,jf,cb,ku,gt,gr,bg,la,lh,jh,ky,k6,kz,dr,eq,eu,er,ba,k9,l8,l7,kq,jg,ns,kr,ce,gp,gq,dw,gn,bd,cv,bc,cw,bb,j6,lk,ll,eh,ei,ie,ic,gb]
def na (x:LPeer):List PV:=[.val (tx x.target.url),.val (num x.target.prio),.val (num x.target.weight),.val (num x.fails),.val (num x.retry),.val (.bool x.gone)]
structure PO (st:St) (l:List LPeer) (i:Nat) (x:LPeer):Prop where
 e0:st.env 0=.val (lx l)
 e3:st.env 3=.val (num i)
 e4:st.env 4=.ptr 4 0
 m4:st.mem 4=.box (na x)
section
variable {Ks:Kx (St→Prop)} {kx:Kx (RV→St→Prop)} {st:St} {l:List LPeer} {i:Nat} {x:LPeer} {b:Bool}
def Iy (x:LPeer):Bool:=decide (x.fails=0) && !decide (x.retry=0)
theorem V9 (h:PO st l i x) (hb:st.env 35=.val (.bool b)) (hK:∀ st',PO st' l i x→st'.env 44=.val (.bool (b || Iy x))→Ks.k st'):EO Tryz.prog ir113_o36 st (Ks:=Ks) (kx:=kx):=by
 unfold ir113_o36
 cases b with
 | true=>
  simp [hb]
  refine hK _ ⟨?_,?_,?_,?_⟩ ?_<;>simp [h.e0,h.e3,h.e4,h.m4]
 | false=>
  by_cases h0:x.fails=0
  · by_cases h1:x.retry=0
    · simp [hb,h.e4,h.m4,na,num,h0,h1]
      refine hK _ ⟨?_,?_,?_,?_⟩ ?_<;>simp [h.e0,h.e3,h.e4,h.m4,Iy,h0,h1]
    · simp [hb,h.e4,h.m4,na,num,h0,h1]
      refine hK _ ⟨?_,?_,?_,?_⟩ ?_<;>simp [h.e0,h.e3,h.e4,h.m4,Iy,h0,h1]
  · simp [hb,h.e4,h.m4,na,num,h0]
    refine hK _ ⟨?_,?_,?_,?_⟩ ?_<;>simp [h.e0,h.e3,h.e4,h.m4,Iy,h0]
def Tg (x:LPeer):Bool:=!decide (0≤x.retry∧x.retry≤1000032) || Iy x
theorem Wa (h:PO st l i x) (hb:st.env 29=.val (.bool b)) (hK:∀ st',PO st' l i x→st'.env 44=.val (.bool (b || Tg x))→Ks.k st'):EO Tryz.prog ir113_o30 st (Ks:=Ks) (kx:=kx):=by
 unfold ir113_o30
 cases b with
 | true=>
  simp [hb]
  refine V9 (l:=l) (i:=i) (x:=x) (b:=true) ⟨?_,?_,?_,?_⟩ ?_ (fun st' q1 q2=>hK st' q1 (by simpa using q2))<;>simp [h.e0,h.e3,h.e4,h.m4]
 | false=>
  simp [hb,h.e4,h.m4,na,num]
  refine ab rfl rfl (.inl rfl) (nh .i64 x.retry 0 1000032) ?_
  simp [hb]
  refine V9 (l:=l) (i:=i) (x:=x) (b:=!decide (0≤x.retry∧x.retry≤1000032)) ⟨?_,?_,?_,?_⟩ ?_ (fun st' q1 q2=>hK st' q1 (by rw [q2];simp [Tg]))<;>simp [h.e0,h.e3,h.e4,h.m4]
def P2 (x:LPeer):Bool:=!decide (0≤x.fails∧x.fails≤1000000) || Tg x
theorem pops24 (h:PO st l i x) (hb:st.env 23=.val (.bool b)) (hK:∀ st',PO st' l i x→st'.env 44=.val (.bool (b || P2 x))→Ks.k st'):EO Tryz.prog ir113_o24 st (Ks:=Ks) (kx:=kx):=by
 unfold ir113_o24
 cases b with
 | true=>
  simp [hb]
  refine Wa (l:=l) (i:=i) (x:=x) (b:=true) ⟨?_,?_,?_,?_⟩ ?_ (fun st' q1 q2=>hK st' q1 (by simpa using q2))<;>simp [h.e0,h.e3,h.e4,h.m4]
 | false=>
  simp [hb,h.e4,h.m4,na,num]
  refine ab rfl rfl (.inl rfl) (nh .i64 x.fails 0 1000000) ?_
  simp [hb]
  refine Wa (l:=l) (i:=i) (x:=x) (b:=!decide (0≤x.fails∧x.fails≤1000000)) ⟨?_,?_,?_,?_⟩ ?_ (fun st' q1 q2=>hK st' q1 (by rw [q2];simp [P2]))<;>simp [h.e0,h.e3,h.e4,h.m4]
end
theorem G8 (x:LPeer):vt x=!(!l0 x.target || P2 x):=by
 unfold vt P2 Tg Iy
 cases l0 x.target<;>cases decide (0≤x.fails∧x.fails≤1000000)<;>cases decide (0≤x.retry∧x.retry≤1000032)<;>by_cases h:x.retry=0<;>simp [h]
theorem Ct {l:List LPeer} {j:Nat} (h:j < l.length):((l.map ig).getD j .nilptr)=ig l[j]:=by
 rw [vw _ _ _ (by simpa using h)];simp
theorem Mx {K:Kx (PExit→St→Prop)} {st:St} {l:List LPeer} {i:Nat} {x:LPeer} (hi:i < l.length) (hl:l.length < 1099511627776) (h:PO st l i x) (h5:st.env 5=.val (num 0))
 (hK:∀ st',PO st' l i x→x.target.url∉(l.take i).map (fun p=>p.target.url)→K.k .normal st') (hR:∀ st',st'.env 2=.val (.bool false)→x.target.url∈(l.take i).map (fun p=>p.target.url)→K.k .ret st') :
 EC Tryz.prog ir113_s45 st (K:=K):=by
 unfold ir113_s45
 simp only [dz,ia,d8,gy,d9,ck,d7,gz,bm,ew,ir,iu,au,cf,cg,bf,eb,cj,bh,gx,dy,ci,ch,f9,ga,ql,qn,Option.getD_some,Option.getD_none,fo,cq,b9,f5,b8,bv,f8,bw,f7,fz,fy,iz,dl,b6,fw,dh,bz,fv,fl,fx,di,ft,bu,dg,fu,i7,i6,fm,fp,bx,fq,dm,b7,fa,bo,fk,fj,fi,iv,dc,bq,fg,da,bp,ff,ex,fh,db,fc,bn,cz,fe,ix,iw,ez,cx,bt,fb,de,br,jq,jp,j5,jr,jv,jt,js,j4,ju,jw,jx,jy,jz,eg,ef,ed,kj,kl,ek,ib,ct,ge,dq,j7,cl,l4,ko,kf,lb,ld,lc,l5,l6,ji,jk,jj,jl,jm,k8,dt,k7,gf,gg,gh,du,qp,gu,dx,l2,l3,i8,km,kn,Option.map_some,Option.map_none,gm,dv,dp,ca,gc,gd,jc,jb,lj,li,jo,gv,gw,jn,lf,lg,je,cd,jf,cb,ku,gt,gr,bg,la,lh,jh,ky,k6,kz,dr,eq,eu,er,ba,k9,l8,l7,kq,jg,ns,kr,ce,gp,gq,dw,gn,bd,cv,bc,cw,bb,j6,lk,ll,eh,ei,ie,ic,gb]
 refine ay (X:=Nat) (fun j=>⟨co [(0,.val (lx l)),(3,.val (num i)),(4,.ptr 4 0),(5,.val (num j))],cu [(4,.box (na x))]⟩) (fun j=>j≤i∧∀ k (hk:k < j) (hk':k < l.length),l[k].target.url≠x.target.url) (fun j=>i - j) 0 (Le.mk _ _ ?_ ?_) ?_ ?_
 · simp [h.e0,h.e3,h.e4,h5]
 · simp [h.m4]
 · simp
 · rintro j ⟨hj,hne⟩
   unfold ir113_l45
   simp [num,lx,na]
   refine ak (fun h1=>?_) (fun h1=>?_)
   · have hjl:j < l.length:=by omega
     have e:=Ct hjl
     rw [List.getD_eq_getElem?_getD] at e
     simp [num,lx,na,e,h1,hjl,ig,tx,ka]
     by_cases hu:l[j].target.url=x.target.url
     · refine ak (fun _=>?_) (fun h=>absurd hu h)
       simp
       refine hR _ (by simp) ?_
       rw [List.mem_map]
       exact ⟨l[j],by rw [List.mem_take_iff_getElem];exact ⟨j,by omega,rfl⟩,hu⟩
     · refine ak (fun h=>absurd h hu) (fun _=>?_)
       simp
       refine LoopNext.mk (j+1) ⟨by omega,fun k hk hk'=>?_⟩ (by omega) (Le.mk _ _ ?_ ?_)
       · by_cases e:k=j
         · subst e;exact hu
         · exact hne k (by omega) hk'
       · simp [num,lx];rw [wrap_i64 (by omega) (by omega)]
       · simp [na,num,tx]
   · have e:j=i:=by omega
     simp
     refine hK _ ⟨?_,?_,?_,?_⟩ ?_
     · simp [lx]
     · simp [num]
     · simp
     · simp [na,num]
     · intro hm
       rw [List.mem_map] at hm
       obtain ⟨p,hp,hpu⟩:=hm
       rw [List.mem_take_iff_getElem] at hp
       obtain ⟨k,hk,rfl⟩:=hp
       exact hne k (by omega) (by omega) hpu
theorem c_l07OK (l:List LPeer) (hl:l.length < 1099511627776) (hs:∀ p∈l,p.target.url.length < 1099511627776):ag Tryz.prog 113 [.val (lx l)] (.ret (.val (.bool (p6 l))) []) []:=by
 refine aj mixed ok113 rfl (fun _=>rfl) ?_
 unfold ir113
 rw [aa]
 by_cases h4:4 < l.length
 · have h4':(4:Int) < l.length:=by omega
   have e:p6 l=false:=by
    unfold p6
    rw [decide_eq_false (by omega)];rfl
   simp [ah,am,ax,ac,af,lx,h4',e]
 · have h4':¬ (4:Int) < l.length:=by omega
   have e:p6 l=(l.all vt && ng [] l):=by
    unfold p6
    rw [decide_eq_true (by omega)];rfl
   rw [e]
   simp [ah,am,ax,ac,af,lx,h4']
   refine ay (X:=Nat) (fun i=>⟨co [(0,.val (lx l)),(3,.val (num i))],cu []⟩) (fun i=>i≤l.length∧(l.take i).all vt=true∧ng [] (l.take i)=true) (fun i=>l.length - i) 0 (Le.mk _ _ ?_ ?_) ?_ ?_
   · simp [upd,lx,num]
   · simp
   · simp [ng]
   · rintro i ⟨hi,ha,hu⟩
     unfold ir113_l9
     simp [num,lx]
     refine ak (fun h1=>?_) (fun h1=>?_)
     · have e1:=Ct h1
       rw [List.getD_eq_getElem?_getD] at e1
       simp [num,lx,h1,e1,ig,tx]
       unfold ir113_s19
       simp [num,lx,ao,tx]
       refine ab rfl rfl (.inl rfl) (Fi l[i].target (hs _ (List.getElem_mem h1))) ?_
       simp
       refine pops24 (l:=l) (i:=i) (x:=l[i]) (b:=!l0 l[i].target) ⟨?_,?_,?_,?_⟩ ?_ (fun st' q1 q2=>?_)
       · simp [lx]
       · simp [num]
       · simp
       · simp [na,num,tx]
       · simp
       · have hpk:=G8 l[i]
         simp only [dz,ia,d8,gy,d9,ck,d7,gz,bm,ew,ir,iu,au,cf,cg,bf,eb,cj,bh,gx,dy,ci,ch,f9,ga,ql,qn,Option.getD_some,Option.getD_none,fo,cq,b9,f5,b8,bv,f8,bw,f7,fz,fy,iz,dl,b6,fw,dh,bz,fv,fl,fx,di,ft,bu,dg,fu,i7,i6,fm,fp,bx,fq,dm,b7,fa,bo,fk,fj,fi,iv,dc,bq,fg,da,bp,ff,ex,fh,db,fc,bn,cz,fe,ix,iw,ez,cx,bt,fb,de,br,jq,jp,j5,jr,jv,jt,js,j4,ju,jw,jx,jy,jz,eg,ef,ed,kj,kl,ek,ib,ct,ge,dq,j7,cl,l4,ko,kf,lb,ld,lc,l5,l6,ji,jk,jj,jl,jm,k8,dt,k7,gf,gg,gh,du,qp,gu,dx,l2,l3,i8,km,kn,Option.map_some,Option.map_none,gm,dv,dp,ca,gc,gd,jc,jb,lj,li,jo,gv,gw,jn,lf,lg,je,cd,jf,cb,ku,gt,gr,bg,la,lh,jh,ky,k6,kz,dr,eq,eu,er,ba,k9,l8,l7,kq,jg,ns,kr,ce,gp,gq,dw,gn,bd,cv,bc,cw,bb,j6,lk,ll,eh,ei,ie,ic,gb,q2]
         cases hb:(!l0 l[i].target || P2 l[i]) with
         | true=>
          rw [hb] at hpk
          have:l.all vt=false:=by rw [List.all_eq_false];exact ⟨l[i],List.getElem_mem h1,by rw [hpk];simp⟩
          rw [this]
          simp
         | false=>
          rw [hb] at hpk
          refine ak (fun h=>by cases h) (fun _=>?_)
          simp only [dz,ia,d8,gy,d9,ck,d7,gz,bm,ew,ir,iu,au,cf,cg,bf,eb,cj,bh,gx,dy,ci,ch,f9,ga,ql,qn,Option.getD_some,Option.getD_none,fo,cq,b9,f5,b8,bv,f8,bw,f7,fz,fy,iz,dl,b6,fw,dh,bz,fv,fl,fx,di,ft,bu,dg,fu,i7,i6,fm,fp,bx,fq,dm,b7,fa,bo,fk,fj,fi,iv,dc,bq,fg,da,bp,ff,ex,fh,db,fc,bn,cz,fe,ix,iw,ez,cx,bt,fb,de,br,jq,jp,j5,jr,jv,jt,js,j4,ju,jw,jx,jy,jz,eg,ef,ed,kj,kl,ek,ib,ct,ge,dq,j7,cl,l4,ko,kf,lb,ld,lc,l5,l6,ji,jk,jj,jl,jm,k8,dt,k7,gf,gg,gh,du,qp,gu,dx,l2,l3,i8,km,kn,Option.map_some,Option.map_none,gm,dv,dp,ca,gc,gd,jc,jb,lj,li,jo,gv,gw,jn,lf,lg,je,cd,jf,cb,ku,gt,gr,bg,la,lh,jh,ky,k6,kz,dr,eq,eu,er,ba,k9,l8,l7,kq,jg,ns,kr,ce,gp,gq,dw,gn,bd,cv,bc,cw,bb,j6,lk,ll,eh,ei,ie,ic,gb]
          refine Mx (x:=l[i]) h1 hl ⟨?_,?_,?_,?_⟩ ?_ (fun st'' r1 r2=>?_) (fun st'' r1 r2=>?_)
          · simp [q1.e0]
          · simp [q1.e3]
          · simp [q1.e4]
          · simp [q1.m4]
          · simp [num]
          · simp [r1.e3,num]
            refine LoopNext.mk (i+1) ⟨by omega,?_,?_⟩ (by omega) (Le.mk _ _ ?_ ?_)
            · rw [mo _ _ _ h1,ha,hpk];rfl
            · rw [yk l i h1,hu,decide_eq_true r2];rfl
            · simp [r1.e0,num,lx];rw [wrap_i64 (by omega) (by omega)]
            · simp
          · have:ng [] l=false:=uq l (i+1) (by rw [yk l i h1,hu,decide_eq_false (fun h=>h r2)];rfl)
            rw [this]
            simp [r1]
     · have e1:i=l.length:=by omega
       subst e1
       rw [List.take_length] at ha hu
       rw [ha,hu]
       simp
end Go.Proofs
end
section
namespace Go.Proofs
open Go.PW Go.KP
variable [GF]
theorem Fj (c:UInt8):ag Tryz.prog 153 [.val (rvb c)] (.ret (.val (.bool (rq c))) []) []:=by
 refine aj mixed ok153 rfl (fun _=>rfl) ?_
 unfold ir153
 rw [aa]
 have e1:((97:Int)≤c.toNat)↔97≤c.toNat:=by omega
 have e2:((c.toNat:Int)≤122)↔c.toNat≤122:=by omega
 have e3:((65:Int)≤c.toNat)↔65≤c.toNat:=by omega
 have e4:((c.toNat:Int)≤90)↔c.toNat≤90:=by omega
 have e5:((c.toNat:Int)=95)↔c.toNat=95:=by omega
 by_cases h1:97≤c.toNat<;>by_cases h2:c.toNat≤122<;>by_cases h3:65≤c.toNat<;>by_cases h4:c.toNat≤90<;>by_cases h5:c.toNat=95<;>first | (exfalso;omega) | simp [ah,am,ax,ac,af,rvb,rq,lz,isUp,e1,e2,e3,e4,e5,h1,h2,h3,h4,h5]
theorem xe {c:UInt8} (h:rq c=true):ut c=true:=by simp [ut,h]
theorem Ef (t:Tx) (ht:t.length < 1099511627776):ag Tryz.prog 115 [.val (tx t)] (.ret (.val (.bool (re t))) []) []:=by
 refine aj mixed ok115 rfl (fun _=>rfl) ?_
 unfold ir115
 rw [aa]
 by_cases h1:t.length < 1
 · have:re t=false:=by unfold re;rw [decide_eq_false (by omega)];rfl
   have h1':(t.length:Int) < 1:=by omega
   simp [ah,am,ax,ac,af,tx,ae,h1',this]
 by_cases h2:12 < t.length
 · have h1':¬ (t.length:Int) < 1:=by omega
   have h2':(12:Int) < t.length:=by omega
   have:re t=false:=by unfold re;rw [decide_eq_false (by omega)];rfl
   simp [ah,am,ax,ac,af,tx,ae,h1',h2',this]
 have h1':¬ (t.length:Int) < 1:=by omega
 have h2':¬ (12:Int) < t.length:=by omega
 have h0:0 < t.length:=by omega
 have hw:re t=ox rq ut t:=by unfold re;rw [decide_eq_true (by omega)];rfl
 simp [ah,am,ax,ac,af,tx,ae,h1',h2',ar,h0]
 refine ab rfl rfl (.inl rfl) (Fj t[0]) ?_
 cases hl:rq t[0] with
 | false=>
  have:re t=false:=by rw [hw];exact td t 0 h0 (by rw [if_pos rfl];exact hl)
  simp [this]
 | true=>
  have hst:=uj (p:=rq) (q:=ut) (fun _ h=>xe h) t 0 h0
  simp
  refine ay (X:=Nat) (fun i=>⟨co [(0,.val (.str (bs t))),(3,.val (.int .i64 i))],cu []⟩) (fun i=>1≤i∧i≤t.length∧ox rq ut (t.take i)=true) (fun i=>t.length - i) 1 (Le.mk _ _ ?_ ?_) ?_ ?_
  · simp [upd]
  · simp
  · refine ⟨Nat.le_refl _,h0,?_⟩
    rw [hst,if_pos rfl,hl];simp [ox]
  · rintro i ⟨hi1,hi,hall⟩
    have hi0:i≠0:=by omega
    simp [ae,ar]
    refine ak (fun h3=>?_) (fun h3=>?_)
    · have hstep:=uj (p:=rq) (q:=ut) (fun _ h=>xe h) t i h3
      rw [hall,Bool.true_and,if_neg hi0] at hstep
      have iq:=td (p:=rq) (q:=ut) t i h3
      rw [if_neg hi0] at iq
      simp [ae,ar,h3]
      refine ab rfl rfl (.inl rfl) (Fj t[i]) ?_
      cases hlt:rq t[i] with
      | true=>
       simp
       refine LoopNext.mk (i+1) ⟨by omega,by omega,by rw [hstep];exact xe hlt⟩ (by omega) (Le.mk _ _ ?_ ?_)
       · simp;exact wrap_i64 (by omega) (by omega)
       · simp
      | false=>
       simp [ae,ar,h3]
       refine ab rfl rfl (.inl rfl) (wv t[i]) ?_
       cases hd:lw t[i] with
       | true=>
        simp
        refine LoopNext.mk (i+1) ⟨by omega,by omega,by rw [hstep];simp [ut,hd]⟩ (by omega) (Le.mk _ _ ?_ ?_)
        · simp;exact wrap_i64 (by omega) (by omega)
        · simp
       | false=>
        have:re t=false:=by rw [hw];exact iq (by simp [ut,hd,hlt])
        simp [this]
    · have e:i=t.length:=by omega
      subst e
      rw [List.take_length] at hall
      simp [hw,hall]
end Go.Proofs
end
