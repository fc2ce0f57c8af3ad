/- Cd: merged out of KSu, KSx. -/
import Derived.Test.YtgdapgcjmfeocaaGreatDoorCc
import Derived.Test.YtgdapgcjmfeocaaGreatDoorCb
import Derived.Test.YtgdapgcjmfeocaaGreatDoorAc
import Derived.Test.YtgdapgcjmfeocaaGreatDoorBa
set_option linter.unusedSectionVars false
set_option linter.unusedSimpArgs false
set_option linter.unusedVariables false
set_option maxRecDepth 100000
section
namespace Go.Proofs
open Go.PW Go.KP
attribute [local simp] RV.cells RV.one PV.cells PV.solid PV.one im ao kh ke RV.ofCells elems PV.killL
variable [GF]
theorem Hc (r:LReport) (b1 b2 b3 b4:Bool) (h1:ag Tryz.prog 56 [.val (.int .i64 r.id),.val (.int .i64 1),.val (.int .i64 1000000)] (.ret (.val (.bool b1)) []) []) (h2:ag Tryz.prog 56 [.val (.int .i64 r.born),.val (.int .i64 0),.val (.int .i64 1000000)] (.ret (.val (.bool b2)) []) [])
 (h3:ag Tryz.prog 56 [.val (.int .i64 r.tries),.val (.int .i64 0),.val (.int .i64 3)] (.ret (.val (.bool b3)) []) []) (h4:ag Tryz.prog 56 [.val (.int .i64 r.body.length),.val (.int .i64 1),.val (.int .i64 8000)] (.ret (.val (.bool b4)) []) []) :
 ag Tryz.prog 152 [.val (aq r)] (.ret (.val (.bool (b1 && b2 && b3 && b4))) []) []:=by
 refine aj mixed ok152 rfl (fun _=>rfl) ?_
 unfold ir152
 rw [aa]
 simp [ah,am,ax,ac,af,aq,tx,num,ae]
 refine ab rfl rfl (.inl rfl) h1 ?_
 cases b1 with
 | false=>simp
 | true=>
  simp [num,ae]
  refine ab rfl rfl (.inl rfl) h2 ?_
  cases b2 with
  | false=>simp
  | true=>
   simp [num,ae]
   refine ab rfl rfl (.inl rfl) h3 ?_
   cases b3 with
   | false=>simp
   | true=>
    simp [num,ae]
    refine ab rfl rfl (.inl rfl) h4 ?_
    cases b4<;>simp
theorem O4 (r:LReport):ag Tryz.prog 152 [.val (aq r)] (.ret (.val (.bool (pj r))) []) []:=by
 have h:=Hc r _ _ _ _ (nh .i64 r.id 1 1000000) (nh .i64 r.born 0 1000000) (nh .i64 r.tries 0 3) (nh .i64 r.body.length 1 8000)
 have q:(1≤r.body.length∧r.body.length≤8000)↔((1:Int)≤r.body.length∧(r.body.length:Int)≤8000):=by omega
 unfold pj
 rw [decide_eq_decide.2 q]
 exact h
theorem c_l08At (l:List LChannel) (name:Tx) (hl:l.length < 1099511627776):ag Tryz.prog 72 [.val (.list 6 (l.map aw)),.val (tx name)] (.ret (.val (num (qz l fun r=>decide (r.group.name=name)))) []) []:=by
 refine aj mixed ok72 rfl (fun _=>rfl) ?_
 unfold ir72
 rw [aa]
 simp [ah,am,ax,ac,af,num]
 refine ay (X:=Nat) (fun i=>⟨co [(0,.val (.list 6 (l.map aw))),(1,.val (tx name)),(5,.val (num i))],cu []⟩) (fun i=>i≤l.length∧∀ k (hk:k < i) (hk':k < l.length),l[k].group.name≠name) (fun i=>l.length - i) 0 (Le.mk _ _ ?_ ?_) ?_ ?_
 · simp [upd,num]
 · simp
 · simp
 · rintro i ⟨hi,hne⟩
   simp [num]
   refine ak (fun h1=>?_) (fun h1=>?_)
   · have e1:(l.map aw)[i]?.getD .nilptr=aw l[i]:=by simp [List.getElem?_eq_getElem h1]
     simp [num,h1,e1,aw,tx,ka]
     by_cases hu:l[i].group.name=name
     · have hh:qz l (fun r=>decide (r.group.name=name))=i:=p7 h1 (by simp [hu]) (fun k hk=>by simp [hne k hk (by omega)])
       simp [hu,hh,num]
     · simp [hu]
       refine LoopNext.mk (i+1) ⟨by omega,fun k hk hk'=>?_⟩ (by omega) (Le.mk _ _ ?_ ?_)
       · by_cases e:k=i
         · subst e;exact hu
         · exact hne k (by omega) hk'
       · simp [num,tx];exact wrap_i64 (by omega) (by omega)
       · simp
   · have e:i=l.length:=by omega
     have hh:qz l (fun r=>decide (r.group.name=name))=-1:=o3 (fun k hk=>by simp [hne k (by omega) hk])
     simp [hh,num]
theorem c_l06OK (q:LQueue) (hb:tk 1048576 q):ag Tryz.prog 114 [.val (j8 q)] (.ret (.val (.bool (nc q))) []) []:=by
 refine aj mixed ok114 rfl (fun _=>rfl) ?_
 unfold ir114
 rw [aa]
 by_cases h5:q.items.length≤5
 rotate_left
 · have h5':(5:Int) < q.items.length:=by omega
   have:nc q=false:=by unfold nc;rw [decide_eq_false h5];rfl
   simp [ah,am,ax,ac,af,j8,h5',this]
 have h5':¬ (5:Int) < q.items.length:=by omega
 by_cases h6:q.recent.length≤6
 rotate_left
 · have h6':(6:Int) < q.recent.length:=by omega
   have:nc q=false:=by unfold nc;rw [decide_eq_false h6];simp
   simp [ah,am,ax,ac,af,j8,h5',h6',this]
 have h6':¬ (6:Int) < q.recent.length:=by omega
 have hfin:qg q.items.length (w7 q.items)=true→qg q.recent.length (Be q.recent)=true→nc q=true:=fun a b=>by
  unfold nc;rw [decide_eq_true h5,decide_eq_true h6,a,b];rfl
 simp [ah,am,ax,ac,af,j8,h5',h6']
 refine ay (X:=Nat) (fun i=>⟨co [(1,.ptr 1 0),(3,.val (num i))],cu [(1,.box [.val (.list 4 (q.items.map aq)),.val (.list 1 (q.recent.map tx))])]⟩) (fun i=>i≤q.items.length∧qg i (w7 q.items)=true) (fun i=>q.items.length - i) 0 (Le.mk _ _ ?_ ?_) ?_ ?_
 · simp [upd,num]
 · simp
 · simp [q9]
 · rintro i ⟨hi,hall⟩
   simp [num]
   refine ak (fun h1=>?_) (fun h1=>?_)
   · have iq:=C3 (q:=q) h1
     have hsu:=qo (w7 q.items) i
     rw [hall,Bool.true_and] at hsu
     obtain ⟨r,hr⟩:∃ r,q.items[i]=r:=⟨_,rfl⟩
     have hR:=O4 r
     have wi:IntKind.i64.wrap ((i:Int)+1)=((i+1:Nat):Int):=by rw [wrap_i64 (by omega) (by omega)];omega
     by_cases h0:i=0
     · subst h0
       rw [Gr h1,hr] at iq hsu
       simp [num,h1,hr,aq,tx]
       refine em rfl rfl (.inl rfl) hR ?_
       cases hk:pj r with
       | false=>simp [iq hk]
       | true=>
        simp [num]
        refine LoopNext.mk 1 ⟨by omega,by rw [hsu,hk]⟩ (by omega) (Le.mk _ _ ?_ ?_)
        · simp [num,upd];decide
        · simp [tx]
     · obtain ⟨j,hij⟩:∃ j,i=j+1:=⟨i - 1,by omega⟩
       have hj:j < q.items.length:=by omega
       obtain ⟨s,hs⟩:∃ s,q.items[j]=s:=⟨_,rfl⟩
       have hra:w7 q.items i=(pj r && (decide (s.id < r.id) && decide (s.born≤r.born))):=by
        subst hij;rw [Gs h1,hr,hs]
       rw [hra] at iq hsu
       have wj:IntKind.i64.wrap ((i:Int) - 1)=(j:Int):=by rw [wrap_i64 (by omega) (by omega)];omega
       have hp:0 < i:=by omega
       simp [num,h1,hr,aq,tx]
       refine em rfl rfl (.inl rfl) hR ?_
       cases hk:pj r with
       | false=>simp [iq (by rw [hk];rfl)]
       | true=>
        rw [hk,Bool.true_and] at iq hsu
        by_cases hA:s.id < r.id
        · have hA':¬ r.id≤s.id:=by omega
          by_cases hB:s.born≤r.born
          · have hB':¬ r.born < s.born:=by omega
            simp [num,h1,hr,hs,hj,hp,wj,aq,tx,hA',hB']
            refine LoopNext.mk (i+1) ⟨by omega,by rw [hsu,decide_eq_true hA,decide_eq_true hB];rfl⟩ (by omega) (Le.mk _ _ ?_ ?_)
            · simp [num,wi]
            · simp [tx]
          · have hB':r.born < s.born:=by omega
            simp [num,h1,hr,hs,hj,hp,wj,aq,tx,hA',hB',iq (by rw [decide_eq_false hB,Bool.and_false])]
        · have hA':r.id≤s.id:=by omega
          simp [num,h1,hr,hs,hj,hp,wj,aq,tx,hA',iq (by rw [decide_eq_false hA,Bool.false_and])]
   · have e:i=q.items.length:=by omega
     subst e
     simp [num]
     refine ay (X:=Nat) (fun i=>⟨co [(1,.ptr 1 0),(4,.val (num i))],cu [(1,.box [.val (.list 4 (q.items.map aq)),.val (.list 1 (q.recent.map tx))])]⟩) (fun i=>i≤q.recent.length∧qg i (Be q.recent)=true) (fun i=>q.recent.length - i) 0 (Le.mk _ _ ?_ ?_) ?_ ?_
     · simp [upd,num]
     · simp
     · simp [q9]
     · rintro i ⟨hi2,hall2⟩
       simp [num]
       refine ak (fun h1=>?_) (fun h1=>?_)
       · have iq:=C4 (q:=q) h1
         have hsu:=qo (Be q.recent) i
         rw [hall2,Bool.true_and] at hsu
         rw [Mt h1] at iq hsu
         obtain ⟨r,hr⟩:∃ r,q.recent[i]=r:=⟨_,rfl⟩
         rw [hr] at iq hsu
         have hR:=nh .i64 r.length 1 8000
         have hq:(1≤r.length∧r.length≤8000)↔((1:Int)≤r.length∧(r.length:Int)≤8000):=by omega
         rw [decide_eq_decide.2 hq] at iq hsu
         have hH:=O6 (q.recent.take i) r (by simp;omega)
         have wi:IntKind.i64.wrap ((i:Int)+1)=((i+1:Nat):Int):=by rw [wrap_i64 (by omega) (by omega)];omega
         have hile:i≤q.recent.length:=by omega
         simp [num,h1,hr,tx,ae]
         refine em rfl rfl (.inl rfl) hR ?_
         cases hk:decide ((1:Int)≤r.length∧(r.length:Int)≤8000) with
         | false=>simp [iq (by rw [hk];rfl)]
         | true=>
          rw [hk,Bool.true_and] at iq hsu
          simp [num,h1,hr,tx,hile,← List.map_take]
          refine em rfl rfl (.inl rfl) hH ?_
          by_cases hm:r∈q.recent.take i
          · simp [hm,iq (by rw [decide_eq_false (fun h=>h hm)])]
          · simp [hm]
            refine LoopNext.mk (i+1) ⟨by omega,by rw [hsu,decide_eq_true hm]⟩ (by omega) (Le.mk _ _ ?_ ?_)
            · simp [num,wi]
            · simp [tx]
       · have e:i=q.recent.length:=by omega
         subst e
         simp [hfin hall hall2]
def nu (p:LPipe):MObj:=.box [.val (.list 6 (p.channels.map aw)),.val (tx p.policy.reportTo),.val (.list 1 (p.policy.uris.map tx)),.val (.list 2 (p.policy.rules.map bk)),.val (num p.now),.val (num p.next),.val (.list 3 (p.log.map eo)),.val (.list 7 (p.wires.map ja))]
def Pb (c:LChannel):MObj:=.box [.val (tx c.group.name),.val (num c.group.age),.val (.list 3 (c.group.targets.map al)),.val (.list 6 (c.peers.map ig)),.val (.list 4 (c.queue.items.map aq)),.val (.list 1 (c.queue.recent.map tx))]
theorem Ly (p:LPipe) (c:LChannel) (hb:md 1048576 c):ag Tryz.prog 73 [.val (ik p),.val (aw c)] (.ret (.val (.bool (mq p.next p.now c))) []) []:=by
 have hO:=c_l03OK c.group hb.1
 have hpl:c.peers.length≤1048576:=hb.2.1.1
 have htl:c.group.targets.length≤1048576:=hb.1.2.1
 have hP:=c_l07OK c.peers (by omega) (fun x hx=>by have:=hb.2.1.2 x hx;unfold rc nt at this;omega)
 have hQ:=c_l06OK c.queue hb.2.2
 have hql:c.queue.items.length≤1048576:=hb.2.2.1.1
 refine aj mixed ok73 rfl (fun _=>rfl) ?_
 unfold ir73
 rw [aa]
 simp [ah,am,ax,ac,af,ik,aw,tx,num]
 refine ab rfl rfl (.inl rfl) hO ?_
 cases hg:uf c.group with
 | false=>
  have hf:mq p.next p.now c=false:=by unfold mq;rw [hg];rfl
  simp [hf]
 | true=>
 simp [num]
 refine ab rfl rfl (.inl rfl) hP ?_
 cases hp:p6 c.peers with
 | false=>
  have hf:mq p.next p.now c=false:=by unfold mq;rw [hg,hp];rfl
  simp [hf]
 | true=>
 by_cases hl:c.peers.length=c.group.targets.length
 rotate_left
 · have hf:mq p.next p.now c=false:=by
    unfold mq
    rw [decide_eq_false (fun h=>hl (by have:=congrArg List.length h;simpa using this))]
    simp
   have hl':¬ ((c.peers.length:Int)=c.group.targets.length):=by omega
   simp [hf,hl,hl']
 simp [num,hl]
 refine ab rfl rfl (.inl rfl) hQ ?_
 cases hq:nc c.queue with
 | false=>
  have hf:mq p.next p.now c=false:=by unfold mq;rw [hq];simp
  simp [hf]
 | true=>
 have hch:mq p.next p.now c=(decide (c.peers.map (fun p=>p.target)=c.group.targets) && c.queue.items.all fun r=>decide (r.id < p.next) && decide (r.born≤p.now)):=by
  unfold mq;rw [hg,hp,hq];simp
 rw [hch]
 simp [num]
 refine ay (X:=Nat) (fun i=>⟨co [(2,.ptr 2 0),(3,.ptr 3 0),(5,.val (num i))],cu [(2,nu p),(3,Pb c)]⟩) (fun i=>i≤c.peers.length∧∀ k,k < i→∀ (h:k < c.peers.length) (h':k < c.group.targets.length),(c.peers[k]).target=c.group.targets[k]) (fun i=>c.peers.length - i) 0 (Le.mk _ _ ?_ ?_) ?_ ?_
 · simp [upd,num,PV.kill]
 · simp [nu,Pb,tx,num,MObj.kill,PV.kill]
 · simp
 · rintro i ⟨hi,hall⟩
   simp [num,Pb]
   refine ak (fun h1=>?_) (fun h1=>?_)
   · have h1':i < c.group.targets.length:=by omega
     obtain ⟨x,hx⟩:∃ x,c.peers[i]=x:=⟨_,rfl⟩
     obtain ⟨t,ht⟩:∃ t,c.group.targets[i]=t:=⟨_,rfl⟩
     have wi:IntKind.i64.wrap ((i:Int)+1)=((i+1:Nat):Int):=by rw [wrap_i64 (by omega) (by omega)];omega
     have iq:x.target≠t→(decide (c.peers.map (fun p=>p.target)=c.group.targets) && c.queue.items.all fun r=>decide (r.id < p.next) && decide (r.born≤p.now))=false:=fun hne=>by
      rw [decide_eq_false,Bool.false_and]
      intro he
      apply hne
      have:=congrArg (fun l=>l[i]?) he
      simp [List.getElem?_eq_getElem h1,List.getElem?_eq_getElem h1',hx,ht] at this
      exact this
     by_cases hu:x.target.url=t.url
     · by_cases hp2:x.target.prio=t.prio
       · by_cases hw:x.target.weight=t.weight
         · have hxt:x.target=t:=by
            cases hxx:x.target;cases t
            rw [hxx] at hu hp2 hw
            simp only at hu hp2 hw
            subst hu;subst hp2;subst hw;rfl
           simp [num,h1,h1',hx,ht,ig,al,tx,ls,vo,ux,ka,hu,hp2,hw]
           refine LoopNext.mk (i+1) ⟨by omega,fun k hk h h'=>?_⟩ (by omega) (Le.mk _ _ ?_ ?_)
           · by_cases e:k=i
             · subst e;rw [hx,ht];exact hxt
             · exact hall k (by omega) h h'
           · simp [num,wi]
           · simp [Pb,nu,tx,num]
         · simp [num,h1,h1',hx,ht,ig,al,tx,ls,vo,ux,ka,hu,hp2,hw,iq (fun e=>hw (by rw [e]))]
       · simp [num,h1,h1',hx,ht,ig,al,tx,ls,vo,ux,ka,hu,hp2,iq (fun e=>hp2 (by rw [e]))]
     · simp [num,h1,h1',hx,ht,ig,al,tx,ls,vo,ux,ka,hu,iq (fun e=>hu (by rw [e]))]
   · have e:i=c.peers.length:=by omega
     subst e
     have heq:c.peers.map (fun p=>p.target)=c.group.targets:=by
      refine List.ext_getElem (by simpa using hl) fun k h h'=>?_
      simp only [List.getElem_map]
      exact hall k (by simpa using h) (by simpa using h) h'
     rw [decide_eq_true heq,Bool.true_and]
     simp [num]
     refine ay (X:=Nat) (fun i=>⟨co [(2,.ptr 2 0),(3,.ptr 3 0),(6,.val (num i))],cu [(2,nu p),(3,Pb c)]⟩) (fun i=>i≤c.queue.items.length∧((c.queue.items.take i).all fun r=>decide (r.id < p.next) && decide (r.born≤p.now))=true) (fun i=>c.queue.items.length - i) 0 (Le.mk _ _ ?_ ?_) ?_ ?_
     · simp [upd,num,PV.kill]
     · simp [nu,Pb,tx,num,MObj.kill,PV.kill]
     · simp
     · rintro i ⟨hi2,hall2⟩
       simp [num,Pb]
       refine ak (fun h2=>?_) (fun h2=>?_)
       · have hst:((c.queue.items.take (i+1)).all fun r=>decide (r.id < p.next) && decide (r.born≤p.now))=_:=mo _ _ _ h2
         rw [hall2,Bool.true_and] at hst
         obtain ⟨r,hr⟩:∃ r,c.queue.items[i]=r:=⟨_,rfl⟩
         rw [hr] at hst
         have wi:IntKind.i64.wrap ((i:Int)+1)=((i+1:Nat):Int):=by rw [wrap_i64 (by omega) (by omega)];omega
         have iq:(decide (r.id < p.next) && decide (r.born≤p.now))=false→(c.queue.items.all fun r=>decide (r.id < p.next) && decide (r.born≤p.now))=false:=fun h=>by
          rw [List.all_eq_false]
          exact ⟨r,by rw [← hr];exact List.getElem_mem h2,by rw [h];simp⟩
         by_cases hA:r.id < p.next
         · have hA':¬ p.next≤r.id:=by omega
           by_cases hB:r.born≤p.now
           · have hB':¬ p.now < r.born:=by omega
             simp [num,h2,hr,aq,tx,nu,PV.kill,MObj.kill,hA',hB']
             refine LoopNext.mk (i+1) ⟨by omega,by rw [hst,decide_eq_true hA,decide_eq_true hB];rfl⟩ (by omega) (Le.mk _ _ ?_ ?_)
             · simp [num,wi,PV.kill]
             · simp [Pb,nu,MObj.kill,PV.kill,tx,num]
           · have hB':p.now < r.born:=by omega
             simp [num,h2,hr,aq,tx,nu,PV.kill,MObj.kill,hA',hB',iq (by rw [decide_eq_false hB,Bool.and_false])]
         · have hA':p.next≤r.id:=by omega
           simp [num,h2,hr,aq,tx,nu,PV.kill,MObj.kill,hA',iq (by rw [decide_eq_false hA,Bool.false_and])]
       · have e:i=c.queue.items.length:=by omega
         subst e
         rw [List.take_length] at hall2
         simp [hall2]
end Go.Proofs
end
section
namespace Go.Proofs
open Go.PW Go.KP
attribute [local simp] RV.cells RV.one PV.cells PV.solid PV.one im ao kh ke RV.ofCells elems PV.killL
variable [GF]
def Ir (w:LWire):MObj:=.box [.val (num w.at_),.val (num w.status),.val (tx w.group),.val (tx w.url),.val (.list 1 (w.ids.map num)),.val (tx w.body),.val (.bool w.lost)]
theorem K9 (p:LPipe) (w:LWire) (b1 b2 b3 b5:Bool) (hn:1≤p.next∧p.next≤1000000) (hil:w.ids.length≤1048576) (h1:ag Tryz.prog 56 [.val (.int .i64 w.at_),.val (.int .i64 0),.val (.int .i64 p.now)] (.ret (.val (.bool b1)) []) [])
 (h2:ag Tryz.prog 56 [.val (.int .i64 w.status),.val (.int .i64 100),.val (.int .i64 599)] (.ret (.val (.bool b2)) []) []) (h3:ag Tryz.prog 115 [.val (tx w.group)] (.ret (.val (.bool b3)) []) [])
 (h5:ag Tryz.prog 56 [.val (.int .i64 w.ids.length),.val (.int .i64 1),.val (.int .i64 3)] (.ret (.val (.bool b5)) []) []) :
 ag Tryz.prog 74 [.val (ik p),.val (ja w)] (.ret (.val (.bool (b1 && b2 && b3 && decide (w.url.length≤100) && b5 && decide (w.body.length≤65536) && qg w.ids.length (zx p.next w.ids)))) []) []:=by
 refine aj mixed ok74 rfl (fun _=>rfl) ?_
 unfold ir74
 rw [aa]
 simp [ah,am,ax,ac,af,ik,ja,tx,num]
 refine ab rfl rfl (.inl rfl) h1 ?_
 cases b1 with
 | false=>simp
 | true=>
 simp [num]
 refine ab rfl rfl (.inl rfl) h2 ?_
 cases b2 with
 | false=>simp
 | true=>
 simp [num]
 refine ab rfl rfl (.inl rfl) h3 ?_
 cases b3 with
 | false=>simp
 | true=>
 by_cases hu:w.url.length≤100
 rotate_left
 · have hu':(100:Int) < w.url.length:=by omega
   simp [num,ae,hu',hu]
 have hu':¬ (100:Int) < w.url.length:=by omega
 simp [num,ae,hu',hu]
 refine ab rfl rfl (.inl rfl) h5 ?_
 cases b5 with
 | false=>simp
 | true=>
 by_cases hy:w.body.length≤65536
 rotate_left
 · have hy':(65536:Int) < w.body.length:=by omega
   simp [num,ae,hy',hy]
 have hy':¬ (65536:Int) < w.body.length:=by omega
 simp [num,ae,hy',hy]
 have wn:IntKind.i64.wrap (p.next - 1)=p.next - 1:=wrap_i64 (by omega) (by omega)
 refine ay (X:=Nat) (fun i=>⟨co [(2,.ptr 2 0),(3,.ptr 3 0),(5,.val (num i))],cu [(2,nu p),(3,Ir w)]⟩) (fun i=>i≤w.ids.length∧qg i (zx p.next w.ids)=true) (fun i=>w.ids.length - i) 0 (Le.mk _ _ ?_ ?_) ?_ ?_
 · simp [upd,num,PV.kill]
 · simp [nu,Ir,tx,num,MObj.kill,PV.kill]
 · simp [q9]
 · rintro i ⟨hi,hall⟩
   simp [num,Ir]
   refine ak (fun hlt=>?_) (fun hlt=>?_)
   · have iq:zx p.next w.ids i=false→qg w.ids.length (zx p.next w.ids)=false:=vk hlt
     have hsu:=qo (zx p.next w.ids) i
     rw [hall,Bool.true_and] at hsu
     obtain ⟨r,hr⟩:∃ r,w.ids[i]=r:=⟨_,rfl⟩
     have hR:=nh .i64 r 1 (p.next - 1)
     have wi:IntKind.i64.wrap ((i:Int)+1)=((i+1:Nat):Int):=by rw [wrap_i64 (by omega) (by omega)];omega
     by_cases h0:i=0
     · subst h0
       rw [Jt hlt,hr] at iq hsu
       simp [num,hlt,hr,tx,nu,wn]
       refine em rfl rfl (.inl rfl) hR ?_
       cases hk:decide (1≤r∧r≤p.next - 1) with
       | false=>simp [iq hk]
       | true=>
        simp [num]
        refine LoopNext.mk 1 ⟨by omega,by rw [hsu,hk]⟩ (by omega) (Le.mk _ _ ?_ ?_)
        · simp [num,upd];decide
        · simp [tx,nu,Ir,num]
     · obtain ⟨j,hij⟩:∃ j,i=j+1:=⟨i - 1,by omega⟩
       have hj:j < w.ids.length:=by omega
       obtain ⟨s,hs⟩:∃ s,w.ids[j]=s:=⟨_,rfl⟩
       have hra:zx p.next w.ids i=(decide (1≤r∧r≤p.next - 1) && decide (s < r)):=by
        subst hij;rw [Ju hlt,hr,hs]
       rw [hra] at iq hsu
       have wj:IntKind.i64.wrap ((i:Int) - 1)=(j:Int):=by rw [wrap_i64 (by omega) (by omega)];omega
       have hp:0 < i:=by omega
       simp [num,hlt,hr,tx,nu,wn]
       refine em rfl rfl (.inl rfl) hR ?_
       cases hk:decide (1≤r∧r≤p.next - 1) with
       | false=>simp [iq (by rw [hk];rfl)]
       | true=>
        rw [hk,Bool.true_and] at iq hsu
        by_cases hA:s < r
        · have hA':¬ r≤s:=by omega
          simp [num,hlt,hr,hs,hj,hp,wj,tx,hA']
          refine LoopNext.mk (i+1) ⟨by omega,by rw [hsu,decide_eq_true hA]⟩ (by omega) (Le.mk _ _ ?_ ?_)
          · simp [num,wi]
          · simp [tx,nu,Ir,num]
        · have hA':r≤s:=by omega
          simp [num,hlt,hr,hs,hj,hp,wj,tx,hA',iq (decide_eq_false hA)]
   · have e:i=w.ids.length:=by omega
     subst e
     simp [hall,hu,hy]
theorem U4 (p:LPipe) (w:LWire) (hn:1≤p.next∧p.next≤1000000) (hb:ph 1048576 w):ag Tryz.prog 74 [.val (ik p),.val (ja w)] (.ret (.val (.bool (ow p.next p.now w))) []) []:=by
 have hgl:w.group.length≤1048576:=hb.1
 have hil:w.ids.length≤1048576:=hb.2.2.1
 have q:(1≤w.ids.length∧w.ids.length≤3)↔((1:Int)≤w.ids.length∧(w.ids.length:Int)≤3):=by omega
 unfold ow
 rw [decide_eq_decide.2 q]
 exact K9 p w _ _ _ _ hn hil (nh .i64 w.at_ 0 p.now) (nh .i64 w.status 100 599) (Ef w.group (by omega)) (nh .i64 w.ids.length 1 3)
theorem Oz (p:LPipe) (i:Nat) (h:i < p.channels.length):(qz p.channels fun c=>decide (c.group.name=(p.channels[i]).group.name))=(i:Int)↔(p.channels[i]).group.name∉(p.channels.map fun c=>c.group.name).take i:=D0 (fun c:LChannel=>c.group.name) p.channels i h
theorem c_l08OK (p:LPipe) (hb:pi 1048576 p):ag Tryz.prog 35 [.val (ik p)] (.ret (.val (.bool (lq p))) []) []:=by
 have hcl:p.channels.length≤1048576:=hb.1.1
 have hP:=c_l04OK p.policy hb.2.1
 have hN:=nh .i64 p.now 0 1000000
 have hX:=nh .i64 p.next 1 1000000
 refine aj mixed ok35 rfl (fun _=>rfl) ?_
 unfold ir35
 rw [aa]
 by_cases h5:p.channels.length≤5
 rotate_left
 · have h5':(5:Int) < p.channels.length:=by omega
   have hf:lq p=false:=by unfold lq;rw [decide_eq_false h5];rfl
   simp [ah,am,ax,ac,af,ik,tx,num,h5',hf]
 have h5':¬ (5:Int) < p.channels.length:=by omega
 simp [ah,am,ax,ac,af,ik,tx,num,h5']
 refine ab rfl rfl (.inl rfl) hP ?_
 cases hpol:o2 p.policy with
 | false=>
  have hf:lq p=false:=by unfold lq;rw [hpol];simp
  simp [hf]
 | true=>
 simp [num]
 refine ab rfl rfl (.inl rfl) hN ?_
 cases hnow:decide (0≤p.now∧p.now≤1000000) with
 | false=>
  have hf:lq p=false:=by unfold lq;rw [hnow];simp
  simp [hf]
 | true=>
 simp [num]
 refine ab rfl rfl (.inl rfl) hX ?_
 cases hnext:decide (1≤p.next∧p.next≤1000000) with
 | false=>
  have hf:lq p=false:=by unfold lq;rw [hnext];simp
  simp [hf]
 | true=>
 by_cases hll:p.log.length≤4096
 rotate_left
 · have hll':(4096:Int) < p.log.length:=by omega
   have hf:lq p=false:=by unfold lq;rw [decide_eq_false hll];simp
   simp [num,hll',hf]
 have hll':¬ (4096:Int) < p.log.length:=by omega
 by_cases hwl:p.wires.length≤4096
 rotate_left
 · have hwl':(4096:Int) < p.wires.length:=by omega
   have hf:lq p=false:=by unfold lq;rw [decide_eq_false hwl];simp
   simp [num,hll',hwl',hf]
 have hwl':¬ (4096:Int) < p.wires.length:=by omega
 have hpk:lq p=(qg p.channels.length (uk p) && qg p.log.length (vh p.next p.now p.log) && p.wires.all (ow p.next p.now)):=by
  unfold lq;rw [decide_eq_true h5,hpol,hnow,hnext,decide_eq_true hll,decide_eq_true hwl];simp
 have hn2:1≤p.next∧p.next≤1000000:=of_decide_eq_true hnext
 have wn:IntKind.i64.wrap (p.next - 1)=p.next - 1:=wrap_i64 (by omega) (by omega)
 rw [hpk]
 simp [num,hll',hwl']
 refine ay (X:=Nat) (fun i=>⟨co [(1,.ptr 1 0),(3,.val (num i))],cu [(1,nu p)]⟩) (fun i=>i≤p.channels.length∧qg i (uk p)=true) (fun i=>p.channels.length - i) 0 (Le.mk _ _ ?_ ?_) ?_ ?_
 · simp [upd,num,PV.kill]
 · simp [nu,tx,num,MObj.kill,PV.kill]
 · simp [q9]
 · rintro i ⟨hi,hall⟩
   simp [num,nu]
   refine ak (fun hlt=>?_) (fun hlt=>?_)
   · have iq:uk p i=false→(qg p.channels.length (uk p) && qg p.log.length (vh p.next p.now p.log) && p.wires.all (ow p.next p.now))=false:=fun h=>by rw [vk hlt h];rfl
     have hsu:=qo (uk p) i
     rw [hall,Bool.true_and] at hsu
     rw [J0 hlt] at iq hsu
     have hnm:=Oz p i hlt
     obtain ⟨c,hc⟩:∃ c,p.channels[i]=c:=⟨_,rfl⟩
     have hbc:md 1048576 c:=by rw [← hc];exact hb.1.2 _ (List.getElem_mem hlt)
     rw [hc] at iq hsu hnm
     have hA:=c_l08At p.channels c.group.name (by omega)
     have hC:=Ly p c hbc
     have wi:IntKind.i64.wrap ((i:Int)+1)=((i+1:Nat):Int):=by rw [wrap_i64 (by omega) (by omega)];omega
     simp [num,hlt,hc,aw,tx]
     refine em rfl rfl (.inl rfl) hA ?_
     by_cases hu:c.group.name∈(p.channels.map fun c=>c.group.name).take i
     · have hne:¬ (qz p.channels fun x=>decide (x.group.name=c.group.name))=(i:Int):=fun h=>hnm.1 h hu
       simp [num,hne,iq (by rw [decide_eq_false (fun h=>h hu),Bool.false_and])]
     · have heq:=hnm.2 hu
       rw [decide_eq_true hu,Bool.true_and] at iq hsu
       simp [num,heq,hlt,hc,aw,tx]
       refine em rfl rfl (.inl rfl) hC ?_
       cases hk:mq p.next p.now c with
       | false=>simp [iq hk]
       | true=>
        simp
        refine LoopNext.mk (i+1) ⟨by omega,by rw [hsu,hk]⟩ (by omega) (Le.mk _ _ ?_ ?_)
        · simp [num,wi]
        · simp [tx,nu,num]
   · have e:i=p.channels.length:=by omega
     subst e
     rw [hall,Bool.true_and]
     simp [num]
     refine ay (X:=Nat) (fun i=>⟨co [(1,.ptr 1 0),(4,.val (num i))],cu [(1,nu p)]⟩) (fun i=>i≤p.log.length∧qg i (vh p.next p.now p.log)=true) (fun i=>p.log.length - i) 0 (Le.mk _ _ ?_ ?_) ?_ ?_
     · simp [upd,num,PV.kill]
     · simp [nu,tx,num,MObj.kill,PV.kill]
     · simp [q9]
     · rintro i ⟨hi2,hall2⟩
       simp [num,nu]
       refine ak (fun hlt=>?_) (fun hlt=>?_)
       · have iq:vh p.next p.now p.log i=false→(qg p.log.length (vh p.next p.now p.log) && p.wires.all (ow p.next p.now))=false:=fun h=>by rw [vk hlt h];rfl
         have hsu:=qo (vh p.next p.now p.log) i
         have hlo:=Dd (by omega) hall2
         rw [hall2,Bool.true_and] at hsu
         rw [Hy hlt] at iq hsu
         obtain ⟨x,hx⟩:∃ x,p.log[i]=x:=⟨_,rfl⟩
         rw [hx] at iq hsu
         have hK:=nh .i64 x.kind 1 7
         have hI:=nh .i64 x.id 1 (p.next - 1)
         have hT:=nh .i64 x.at_ 0 p.now
         have wi:IntKind.i64.wrap ((i:Int)+1)=((i+1:Nat):Int):=by rw [wrap_i64 (by omega) (by omega)];omega
         simp [num,hlt,hx,eo,tx,PV.kill,MObj.kill]
         refine em rfl rfl (.inl rfl) hK ?_
         cases hk:decide (1≤x.kind∧x.kind≤7) with
         | false=>simp [iq (by rw [hk];rfl)]
         | true=>
         rw [hk,Bool.true_and] at iq hsu
         simp [num,wn,PV.kill]
         refine em rfl rfl (.inl rfl) hI ?_
         cases hid:decide (1≤x.id∧x.id≤p.next - 1) with
         | false=>simp [iq (by rw [hid];rfl)]
         | true=>
         rw [hid,Bool.true_and] at iq hsu
         simp [num,wn,PV.kill]
         refine em rfl rfl (.inl rfl) hT ?_
         cases hat:decide (0≤x.at_∧x.at_≤p.now) with
         | false=>simp [iq (decide_eq_false (fun h=>(of_decide_eq_false hat) ⟨by omega,h.2⟩))]
         | true=>
         have hat2:=of_decide_eq_true hat
         by_cases h0:i=0
         · subst h0
           have hl0:Bn p.log 0=0:=rfl
           rw [hl0] at hsu
           simp [num]
           refine LoopNext.mk 1 ⟨by omega,by rw [hsu,hat]⟩ (by omega) (Le.mk _ _ ?_ ?_)
           · simp [num,upd,PV.kill];decide
           · simp [tx,nu,num,PV.kill,MObj.kill]
         · obtain ⟨j,hij⟩:∃ j,i=j+1:=⟨i - 1,by omega⟩
           have hj:j < p.log.length:=by omega
           obtain ⟨y,hy⟩:∃ y,p.log[j]=y:=⟨_,rfl⟩
           have hly:Bn p.log i=y.at_:=by subst hij;rw [B9 hj,hy]
           rw [hly] at iq hsu
           have wj:IntKind.i64.wrap ((i:Int) - 1)=(j:Int):=by rw [wrap_i64 (by omega) (by omega)];omega
           have hp:0 < i:=by omega
           by_cases hA:x.at_ < y.at_
           · simp [num,hlt,hx,hy,hj,hp,wj,eo,tx,PV.kill,MObj.kill,hA,iq (decide_eq_false (fun h=>by omega))]
           · simp [num,hlt,hx,hy,hj,hp,wj,eo,tx,PV.kill,MObj.kill,hA]
             refine LoopNext.mk (i+1) ⟨by omega,by rw [hsu];exact decide_eq_true ⟨by omega,hat2.2⟩⟩ (by omega) (Le.mk _ _ ?_ ?_)
             · simp [num,wi,PV.kill]
             · simp [tx,nu,num,PV.kill,MObj.kill]
       · have e:i=p.log.length:=by omega
         subst e
         rw [hall2,Bool.true_and]
         simp [num]
         refine ay (X:=Nat) (fun i=>⟨co [(1,.ptr 1 0),(6,.val (num i))],cu [(1,nu p)]⟩) (fun i=>i≤p.wires.length∧(p.wires.take i).all (ow p.next p.now)=true) (fun i=>p.wires.length - i) 0 (Le.mk _ _ ?_ ?_) ?_ ?_
         · simp [upd,num,PV.kill]
         · simp [nu,tx,num,MObj.kill,PV.kill]
         · simp
         · rintro i ⟨hi3,hall3⟩
           simp [num,nu]
           refine ak (fun hlt3=>?_) (fun hlt3=>?_)
           · have hst:=mo p.wires (ow p.next p.now) i hlt3
             rw [hall3,Bool.true_and] at hst
             obtain ⟨x,hx⟩:∃ x,p.wires[i]=x:=⟨_,rfl⟩
             have hbw:ph 1048576 x:=by rw [← hx];exact hb.2.2.2.2 _ (List.getElem_mem hlt3)
             rw [hx] at hst
             have hW:=U4 p x hn2 hbw
             have wi:IntKind.i64.wrap ((i:Int)+1)=((i+1:Nat):Int):=by rw [wrap_i64 (by omega) (by omega)];omega
             have iq:ow p.next p.now x=false→p.wires.all (ow p.next p.now)=false:=fun h=>List.all_eq_false.2 ⟨x,by rw [← hx];exact List.getElem_mem hlt3,by simp [h]⟩
             simp [num,hlt3,hx,ja,tx]
             refine em rfl rfl (.inl rfl) hW ?_
             cases hk:ow p.next p.now x with
             | false=>simp [iq hk]
             | true=>
              simp
              refine LoopNext.mk (i+1) ⟨by omega,by rw [hst,hk]⟩ (by omega) (Le.mk _ _ ?_ ?_)
              · simp [num,wi]
              · simp [tx,nu,num]
           · have e:i=p.wires.length:=by omega
             subst e
             rw [List.take_length] at hall3
             simp [hall3]
end Go.Proofs
end
