/- Fi: merged out of KXw, KXy. -/
import Derived.Test.YtapjdgcfakhpaaaGreatDoorFg
import Derived.Test.YtapjdgcfakhpaaaGreatDoorEg
import Derived.Test.YtapjdgcfakhpaaaGreatDoorEa
import Derived.Test.YtapjdgcfakhpaaaGreatDoorAc
import Derived.Test.YtapjdgcfakhpaaaGreatDoorBa
set_option linter.unusedSectionVars false
set_option linter.unusedSimpArgs false
set_option linter.unusedVariables false
set_option maxRecDepth 100000
section
namespace Go.Proofs
open Go.PW Go.KP
attribute [local simp] RV.cells RV.one PV.cells PV.solid PV.one G6 i7 M3 L4 RV.ofCells elems PV.killL
variable [GH]
theorem a6v (n:Int) (h0:0≤n) (h1:n≤1000000000000):d8 Tryz.prog 137 [.val (num n)] (.ret (.val (tx (a0y n))) []) []:=by
 obtain ⟨m,rfl⟩:∃ m:Nat,n=m:=⟨n.toNat,by omega⟩
 have:=a7s m (by omega)
 have e:a0y (m:Int)=a23 m:=by unfold a0y;rw [if_neg (by omega),Int.toNat_natCast]
 rw [e];exact this
theorem Z5 {n:Int} (h0:0≤n) (h1:n≤1000000000000):(a0y n).length≤20:=c1m n (by omega) (by omega)
theorem a5f {l:List Int} (h:∀ n∈l,0≤n∧n≤1000000000000):(a1x l).length≤21*l.length:=by
 induction l with
 | nil=>simp [a1x]
 | cons n l ih=>
  have h1:=ih fun m hm=>h m (List.mem_cons_of_mem _ hm)
  have h2:=Z5 (h n (List.mem_cons_self ..)).1 (h n (List.mem_cons_self ..)).2
  have e:a1x (n :: l)=32 :: a0y n++a1x l:=by simp [a1x]
  rw [e];simp only [List.length_append,List.length_cons];omega
theorem d1r (l:List Int) (hl:l.length≤16) (h:∀ n∈l,0≤n∧n≤1000000000000):d8 Tryz.prog 138 [.val (.list 1 (l.map num))] (.ret (.val (tx (a1x l))) []) []:=by
 refine f8 mixed ok138 rfl (fun _=>rfl) ?_
 unfold ir138
 rw [b6]
 simp [d9,i6,j9,b9,d7,num]
 refine j8 (X:=Nat) (fun i=>⟨u0 [(0,.val (.list 1 (l.map num))),(3,.val (tx (a1x (l.take i)))),(4,.val (num i))],u5 []⟩) (fun i=>i≤l.length) (fun i=>l.length - i) 0 (Le.mk _ _ ?_ ?_) (Nat.zero_le _) ?_
 · simp [num,tx,a1x,a0o]
 · simp
 · intro i hi
   simp [num]
   refine f7 (fun h1=>?_) (fun h1=>?_)
   · obtain ⟨n,hn⟩:∃ n,l[i]=n:=⟨_,rfl⟩
     have hmem:=h _ (List.getElem_mem h1)
     rw [hn] at hmem
     have hst:=b3f l i h1
     rw [hn] at hst
     have hlen:=a5f (l:=l.take i) fun m hm=>h m (List.mem_of_mem_take hm)
     rw [List.length_take] at hlen
     have hdl:=Z5 hmem.1 hmem.2
     simp [num,tx,h1,hn]
     refine b7 rfl rfl (.inl rfl) (a6v n hmem.1 hmem.2) ?_
     simp [num,tx,b8,a0o,l4]
     refine ⟨by omega,by omega,?_⟩
     refine LoopNext.mk (i+1) h1 (by omega) (Le.mk _ _ ?_ ?_)
     · simp [num,hst,tx];exact wrap_i64 (by omega) (by omega)
     · simp
   · have e:i=l.length:=by omega
     subst e
     simp [num]
theorem c7z (l:List Int) (hl:l.length≤16) (h:∀ n∈l,0≤n∧n≤1000000000000):d8 Tryz.prog 140 [.val (.list 1 (l.map num))] (.ret (.val (tx (a1x l))) []) []:=by
 refine f8 mixed ok140 rfl (fun _=>rfl) ?_
 unfold ir140
 rw [b6]
 simp [d9,i6,j9,b9,d7,num]
 refine j8 (X:=Nat) (fun i=>⟨u0 [(6,.val (.list 1 (l.map num))),(3,.val (tx (a1x (l.take i)))),(7,.val (num l.length)),(8,.val (num i))],u5 []⟩) (fun i=>i≤l.length) (fun i=>l.length - i) 0 (Le.mk _ _ ?_ ?_) (Nat.zero_le _) ?_
 · simp [num,tx,a1x,a0o]
 · simp
 · intro i hi
   simp [num]
   refine f7 (fun h1=>?_) (fun h1=>?_)
   · obtain ⟨n,hn⟩:∃ n,l[i]=n:=⟨_,rfl⟩
     have hmem:=h _ (List.getElem_mem h1)
     rw [hn] at hmem
     have hst:=b3f l i h1
     rw [hn] at hst
     have hlen:=a5f (l:=l.take i) fun m hm=>h m (List.mem_of_mem_take hm)
     rw [List.length_take] at hlen
     have hdl:=Z5 hmem.1 hmem.2
     simp [num,tx,h1,hn]
     refine b7 rfl rfl (.inl rfl) (a35 n (by omega) (by omega)) ?_
     simp [num,tx,b8,a0o,l4]
     refine ⟨by omega,by omega,?_⟩
     refine LoopNext.mk (i+1) h1 (by omega) (Le.mk _ _ ?_ ?_)
     · simp [num,hst,tx];exact wrap_i64 (by omega) (by omega)
     · simp
   · have e:i=l.length:=by omega
     subst e
     simp [num]
structure PeerLine (x:LPeer):Prop where
 url:x.target.url.length≤100
 prio:0≤x.target.prio∧x.target.prio≤9
 weight:0≤x.target.weight∧x.target.weight≤9
 fails:0≤x.fails∧x.fails≤1000000
 retry:0≤x.retry∧x.retry≤1000032
structure ChanLine (c:LChannel):Prop where
 name:c.group.name.length≤12
 age:0≤c.group.age∧c.group.age≤100
 q:c.queue.items.length≤5
 ids:∀ n∈a0b c.queue.items,0≤n∧n≤1000000000000
 peers:c.peers.length≤4
 peer:∀ x∈c.peers,PeerLine x
theorem ok_lines {p:LPipe} (hb:a07 1048576 p) (h:M1 p=true):∀ c∈p.channels,ChanLine c:=fun c hc=>by
 have hbc:=hb.1.2 c hc
 unfold M1 at h
 simp only [Bool.and_eq_true,decide_eq_true_eq] at h
 obtain ⟨i,hi,rfl⟩:=List.mem_iff_getElem.1 hc
 have h3:=b4h h.2.1.1 i hi
 rw [a6u hi] at h3
 obtain ⟨c,hce⟩:∃ c,p.channels[i]=c:=⟨_,rfl⟩
 rw [hce] at h3 hbc ⊢
 unfold Q1 S7 a2r X7 at h3
 simp only [Bool.and_eq_true,decide_eq_true_eq] at h3
 obtain ⟨h4,⟨⟨⟨⟨⟨⟨h5,h6⟩,h7⟩,h8⟩,⟨⟨h9,h10⟩,h11⟩⟩,h12⟩,⟨⟨h13,h14⟩,h15,h16⟩⟩,h17⟩:=h3
 unfold a1h at h5
 simp only [Bool.and_eq_true,decide_eq_true_eq] at h5
 refine ⟨h5.1.2,by omega,h13,fun n hn=>?_,h9,fun x hx=>?_⟩
 · unfold a0b at hn
   obtain ⟨r,hr,rfl⟩:=List.mem_map.1 hn
   obtain ⟨j,hj,rfl⟩:=List.mem_iff_getElem.1 hr
   have h18:=b4h h15 j hj
   unfold a5b at h18
   rw [List.getElem?_eq_getElem hj] at h18
   simp only [Bool.and_eq_true] at h18
   have h19:=h18.1
   unfold Y6 at h19
   simp only [Bool.and_eq_true,decide_eq_true_eq] at h19
   omega
 · have h18:=List.all_eq_true.1 h10 x hx
   unfold a4e at h18
   simp only [Bool.and_eq_true,decide_eq_true_eq] at h18
   obtain ⟨u1,u2,u3⟩:=b30 h18.1.1.1
   exact ⟨u1,by omega,by omega,by omega,by omega⟩
theorem b7e {x:LPeer} (h:PeerLine x):(a03 x).length≤300:=by
 have h1:=Z5 h.prio.1 (by have:=h.prio;omega)
 have h2:=Z5 h.weight.1 (by have:=h.weight;omega)
 have h3:=Z5 h.fails.1 (by have:=h.fails;omega)
 have h4:=Z5 h.retry.1 (by have:=h.retry;omega)
 have h5:=h.url
 unfold a03
 split
 · simp;omega
 · split<;>simp<;>omega
theorem b7h {c:LChannel} (h:ChanLine c):(a0e c).length≤300:=by
 have h1:=Z5 h.age.1 (by have:=h.age;omega)
 have h2:=a5f h.ids
 have h3:=h.name
 have h4:(a0b c.queue.items).length≤5:=by unfold a0b;simpa using h.q
 unfold a0e
 unfold a0b at h2 h4
 simp only [List.length_append,List.length_cons,List.length_nil];omega
theorem c4d {cs:List LChannel} (h:∀ c∈cs,ChanLine c):∀ s∈W4 cs,s.length≤1048576:=fun s hs=>by
 unfold W4 at hs
 obtain ⟨c,hc,hs⟩:=List.mem_flatMap.1 hs
 rcases List.mem_cons.1 hs with rfl | hs
 · have:=b7h (h c hc);omega
 · obtain ⟨x,hx,rfl⟩:=List.mem_map.1 hs
   have:=b7e ((h c hc).peer x hx);omega
def a56 (c:LChannel):MObj:=.box [.val (tx c.group.name),.val (num c.group.age),.val (.list 3 (c.group.targets.map f9)),.val (.list 6 (c.peers.map A6)),.val (.list 4 (c.queue.items.map i8)),.val (.list 1 (c.queue.recent.map tx))]
def a5i (o:List Tx) (c:LChannel) (i:Nat):List Tx:=o++a0e c :: (c.peers.take i).map a03
theorem b5u (o:List Tx) (c:LChannel) (i:Nat) (h:i < c.peers.length):a5i o c (i+1)=a5i o c i++[a03 c.peers[i]]:=by
 unfold a5i
 rw [List.take_add_one,List.getElem?_eq_getElem h,List.map_append];simp
theorem b8c (o:List Tx) (c:LChannel) (i:Nat):(a5i o c i).length≤o.length+1+i:=by
 unfold a5i;simp;omega
theorem b7v (p:LPipe) (hb:a07 1048576 p) (hok:M1 p=true):d8 Tryz.prog 81 [.val (L8 p)] (.ret (.val (.list 1 ((W4 p.channels).map tx))) []) []:=by
 have hch:=ok_lines hb hok
 have hc5:=(ok_channels hok).2
 have hlen:∀ k,(W4 (p.channels.take k)).length≤10*5:=fun k=>by
  have:=a8c (p.channels.take k) fun c hc=>by have:=(hch c (List.mem_of_mem_take hc)).peers;omega
  rw [List.length_take] at this;omega
 refine f8 mixed ok81 rfl (fun _=>rfl) ?_
 unfold ir81
 rw [b6]
 simp [d9,i6,j9,b9,d7,L8,tx,num]
 refine j8 (X:=Nat) (fun k=>⟨u0 [(1,.ptr 1 0),(3,.own 9),(4,.val (num k))],u5 [(1,U6 p),(9,.row 9 1 ((W4 (p.channels.take k)).map tx))]⟩) (fun k=>k≤p.channels.length) (fun k=>p.channels.length - k) 0 (Le.mk _ _ ?_ ?_) (Nat.zero_le _) ?_
 · simp [num,PV.kill]
 · simp [W4,U6,tx,num,MObj.kill,PV.kill]
 · intro k hk
   simp [num,U6,tx]
   refine f7 (fun h1=>?_) (fun h1=>?_)
   · obtain ⟨c,hce⟩:∃ c,p.channels[k]=c:=⟨_,rfl⟩
     have hc:=hch _ (List.getElem_mem h1)
     have hst:=b1o p.channels k h1
     rw [hce] at hc hst
     obtain ⟨o,ho⟩:∃ o,W4 (p.channels.take k)=o:=⟨_,rfl⟩
     have hol:=hlen k
     rw [ho] at hst hol ⊢
     have hd:=a6v c.group.age hc.age.1 (by have:=hc.age;omega)
     have hdl:=Z5 hc.age.1 (by have:=hc.age;omega)
     have hn:=hc.name
     have hil:(a0b c.queue.items).length≤5:=by unfold a0b;simpa using hc.q
     have hsl:=a5f hc.ids
     have hline:a0e c=[99,104,97,110,110,101,108,32]++(c.group.name++([32,97,103,101,32]++(a0y c.group.age++([32,119,97,105,116,115]++a1x (a0b c.queue.items))))):=by
      unfold a0e a0b;simp
     have hr0:a5i o c 0=o++[a0e c]:=by simp [a5i]
     simp [num,h1,hce,j6,tx,b8,a0o,l4]
     refine ⟨by omega,by omega,?_⟩
     refine l6 rfl rfl (.inl rfl) hd ?_
     simp [num,tx,b8,a0o,l4]
     refine ⟨by omega,by omega,?_⟩
     refine l6 rfl rfl (.inl rfl) (d1s c.queue.items (by have:=hc.q;omega)) ?_
     simp [num,tx]
     refine l6 rfl rfl (.inl rfl) (d1r (a0b c.queue.items) (by omega) hc.ids) ?_
     simp [num,tx,b8,a0o,l4]
     refine ⟨by omega,by omega,by omega,?_⟩
     refine j8 (X:=Nat) (fun i=>⟨u0 [(1,.ptr 1 0),(3,.own 9),(4,.val (num k)),(5,.ptr 5 0),(6,.val (num i))],u5 [(1,U6 p),(5,a56 c),(9,.row 9 1 ((a5i o c i).map tx))]⟩) (fun i=>i≤c.peers.length) (fun i=>c.peers.length - i) 0 (Le.mk _ _ ?_ ?_) (Nat.zero_le _) ?_
     · simp [num,PV.kill]
     · simp [hr0,hline,U6,a56,tx,num,MObj.kill,PV.kill]
     · intro i hi
       have hrl:=b8c o c i
       have hp4:=hc.peers
       simp [num,a56,tx]
       refine f7 (fun h2=>?_) (fun h2=>?_)
       · obtain ⟨x,hx⟩:∃ x,c.peers[i]=x:=⟨_,rfl⟩
         have hpx:=hc.peer _ (List.getElem_mem h2)
         have hs2:=b5u o c i h2
         rw [hx] at hpx hs2
         obtain ⟨o1,ho1⟩:∃ o1,a5i o c i=o1:=⟨_,rfl⟩
         rw [ho1] at hs2 hrl
         have hd1:=a6v x.target.prio hpx.prio.1 (by have:=hpx.prio;omega)
         have hd2:=a6v x.target.weight hpx.weight.1 (by have:=hpx.weight;omega)
         have hd3:=a6v x.fails hpx.fails.1 (by have:=hpx.fails;omega)
         have hd4:=a6v x.retry hpx.retry.1 (by have:=hpx.retry;omega)
         have hl1:=Z5 hpx.prio.1 (by have:=hpx.prio;omega)
         have hl2:=Z5 hpx.weight.1 (by have:=hpx.weight;omega)
         have hl3:=Z5 hpx.fails.1 (by have:=hpx.fails;omega)
         have hl4:=Z5 hpx.retry.1 (by have:=hpx.retry;omega)
         have hl5:=hpx.url
         have hpl:a03 x=[112,101,101,114,32]++(x.target.url++([32,112,114,105,111,114,105,116,121,32]++(a0y x.target.prio++([32,119,101,105,103,104,116,32]++(a0y x.target.weight ++
          (if x.gone then [32,103,111,110,101] else if 0 < x.fails then [32,102,97,105,108,115,32]++(a0y x.fails++([32,117,110,116,105,108,32]++a0y x.retry)) else [])))))):=by
          unfold a03;simp
         simp [num,h2,hx,A6,tx,b8,a0o,l4,ho1]
         refine ⟨by omega,by omega,?_⟩
         refine l6 rfl rfl (.inl rfl) hd1 ?_
         simp [num,tx,b8,a0o,l4]
         refine ⟨by omega,by omega,?_⟩
         refine l6 rfl rfl (.inl rfl) hd2 ?_
         simp [num,tx,b8,a0o,l4]
         refine ⟨by omega,?_⟩
         refine f7 (fun hg=>?_) (fun hg=>?_)
         · rw [if_pos hg] at hpl
           simp [num,tx,b8,a0o,l4,hg]
           refine ⟨by omega,by omega,by omega,?_⟩
           refine LoopNext.mk (i+1) h2 (by omega) (Le.mk _ _ ?_ ?_)
           · simp [num,PV.kill];exact wrap_i64 (by omega) (by omega)
           · simp [hs2,hpl,U6,a56,tx,num,MObj.kill,PV.kill]
         · rw [if_neg hg] at hpl
           simp [num,tx,b8,a0o,l4,hg]
           refine f7 (fun hf=>?_) (fun hf=>?_)
           · rw [if_pos hf] at hpl
             simp [num,tx,b8,a0o,l4,hg]
             refine l6 rfl rfl (.inl rfl) hd3 ?_
             simp [num,tx,b8,a0o,l4]
             refine ⟨by omega,by omega,?_⟩
             refine l6 rfl rfl (.inl rfl) hd4 ?_
             simp [num,tx,b8,a0o,l4]
             refine ⟨by omega,by omega,by omega,by omega,?_⟩
             refine LoopNext.mk (i+1) h2 (by omega) (Le.mk _ _ ?_ ?_)
             · simp [num,PV.kill];exact wrap_i64 (by omega) (by omega)
             · simp [hs2,hpl,U6,a56,tx,num,MObj.kill,PV.kill]
           · rw [if_neg hf] at hpl
             simp [num,tx,b8,a0o,l4,hg]
             refine ⟨by omega,by omega,?_⟩
             refine LoopNext.mk (i+1) h2 (by omega) (Le.mk _ _ ?_ ?_)
             · simp [num,PV.kill];exact wrap_i64 (by omega) (by omega)
             · simp [hs2,hpl,U6,a56,tx,num,MObj.kill,PV.kill]
       · have e:i=c.peers.length:=by omega
         subst e
         simp [num]
         refine LoopNext.mk (k+1) h1 (by omega) (Le.mk _ _ ?_ ?_)
         · simp [num,PV.kill];exact wrap_i64 (by omega) (by omega)
         · simp [hst,a5i,U6,tx,num,MObj.kill,PV.kill]
   · have e:k=p.channels.length:=by omega
     subst e
     rw [List.take_length]
     simp [num,a1p,PV.pl]
theorem i_lines (p:LPipe) (hb:a07 1048576 p) (hok:M1 p=true):d8 Tryz.prog 82 [.val (L8 p)] (.ret (.own 0) [⟨9,1,(W4 p.channels).map tx⟩]) []:=by
 have hch:=ok_lines hb hok
 have hc5:=(ok_channels hok).2
 have hlen:∀ k,(W4 (p.channels.take k)).length≤10*5:=fun k=>by
  have:=a8c (p.channels.take k) fun c hc=>by have:=(hch c (List.mem_of_mem_take hc)).peers;omega
  rw [List.length_take] at this;omega
 refine a7j (mk:=fun i=>.own i) mixed ok82 rfl (fun _=>rfl) ?_
 unfold ir82
 rw [b6]
 simp [d9,i6,j9,b9,d7,L8,tx,num]
 refine j8 (X:=Nat) (fun k=>⟨u0 [(1,.ptr 1 0),(3,.own 12),(14,.val (.list 6 (p.channels.map j6))),(15,.val (num p.channels.length)),(16,.val (num k))],u5 [(1,U6 p),(12,.row 9 1 ((W4 (p.channels.take k)).map tx))]⟩) (fun k=>k≤p.channels.length) (fun k=>p.channels.length - k) 0 (Le.mk _ _ ?_ ?_) (Nat.zero_le _) ?_
 · simp [num,PV.kill]
 · simp [W4,U6,tx,num,MObj.kill,PV.kill]
 · intro k hk
   simp [num,U6,tx]
   refine f7 (fun h1=>?_) (fun h1=>?_)
   · obtain ⟨c,hce⟩:∃ c,p.channels[k]=c:=⟨_,rfl⟩
     have hc:=hch _ (List.getElem_mem h1)
     have hst:=b1o p.channels k h1
     rw [hce] at hc hst
     obtain ⟨o,ho⟩:∃ o,W4 (p.channels.take k)=o:=⟨_,rfl⟩
     have hol:=hlen k
     rw [ho] at hst hol ⊢
     have hd:=a35 c.group.age (by have:=hc.age;omega) (by have:=hc.age;omega)
     have hdl:=Z5 hc.age.1 (by have:=hc.age;omega)
     have hn:=hc.name
     have hcq:=hc.q
     have hil:(a0b c.queue.items).length≤5:=by unfold a0b;simpa using hc.q
     have hsl:=a5f hc.ids
     have hline:a0e c=[99,104,97,110,110,101,108,32]++(c.group.name++([32,97,103,101,32]++(a0y c.group.age++([32,119,97,105,116,115]++a1x (a0b c.queue.items))))):=by
      unfold a0e a0b;simp
     have hr0:a5i o c 0=o++[a0e c]:=by simp [a5i]
     simp [num,h1,hce,j6,tx]
     refine j8 (X:=Nat) (fun i=>⟨u0 [(1,.ptr 1 0),(3,.own 12),(14,.val (.list 6 (p.channels.map j6))),(15,.val (num p.channels.length)),(16,.val (num k)),(5,.ptr 5 0),(6,.own 20),(23,.val (.list 4 (c.queue.items.map i8))),(24,.val (num c.queue.items.length)),(25,.val (num i))],
      u5 [(1,U6 p),(5,a56 c),(12,.row 9 1 (o.map tx)),(20,.row 3 1 ((a0b (c.queue.items.take i)).map num))]⟩) (fun i=>i≤c.queue.items.length) (fun i=>c.queue.items.length - i) 0 (Le.mk _ _ ?_ ?_) (Nat.zero_le _) ?_
     · simp [num,PV.kill]
     · simp [U6,a56,tx,num,MObj.kill,PV.kill,a0b]
     · intro i hi
       simp [num,a56,tx]
       refine f7 (fun h2=>?_) (fun h2=>?_)
       · obtain ⟨r,hr⟩:∃ r,c.queue.items[i]=r:=⟨_,rfl⟩
         have hs2:a0b (c.queue.items.take (i+1))=a0b (c.queue.items.take i)++[r.id]:=by unfold a0b;rw [List.take_add_one,List.getElem?_eq_getElem h2,List.map_append,hr];rfl
         have hln:(a0b (c.queue.items.take i)).length=i:=by unfold a0b;simp;omega
         simp [num,h2,hr,i8,tx]
         refine ⟨by omega,by omega,?_⟩
         refine LoopNext.mk (i+1) h2 (by omega) (Le.mk _ _ ?_ ?_)
         · simp [num,PV.kill];exact wrap_i64 (by omega) (by omega)
         · simp [hs2,U6,a56,tx,num,MObj.kill,PV.kill]
       · have e:i=c.queue.items.length:=by omega
         subst e
         rw [List.take_length]
         simp [num,tx,b8,a0o,l4]
         refine ⟨by omega,by omega,?_⟩
         refine l6 rfl rfl (.inl rfl) hd ?_
         simp [num,tx,b8,a0o,l4]
         refine ⟨by omega,by omega,?_⟩
         refine l6 rfl rfl (.inr rfl) (c7z (a0b c.queue.items) (by omega) hc.ids) ?_
         simp [num,tx,b8,a0o,l4]
         refine ⟨by omega,by omega,by omega,?_⟩
         refine j8 (X:=Nat) (fun i=>⟨u0 [(1,.ptr 1 0),(3,.own 12),(14,.val (.list 6 (p.channels.map j6))),(15,.val (num p.channels.length)),(16,.val (num k)),(53,.val (.list 6 (c.peers.map A6))),(54,.val (num c.peers.length)),(55,.val (num i))],u5 [(1,U6 p),(12,.row 9 1 ((a5i o c i).map tx))]⟩) (fun i=>i≤c.peers.length) (fun i=>c.peers.length - i) 0 (Le.mk _ _ ?_ ?_) (Nat.zero_le _) ?_
         · simp [num,PV.kill]
         · simp [hr0,hline,U6,a56,tx,num,MObj.kill,PV.kill]
         · intro i hi
           have hrl:=b8c o c i
           have hp4:=hc.peers
           simp [num,tx]
           refine f7 (fun h2=>?_) (fun h2=>?_)
           · obtain ⟨x,hx⟩:∃ x,c.peers[i]=x:=⟨_,rfl⟩
             have hpx:=hc.peer _ (List.getElem_mem h2)
             have hs2:=b5u o c i h2
             rw [hx] at hpx hs2
             obtain ⟨o1,ho1⟩:∃ o1,a5i o c i=o1:=⟨_,rfl⟩
             rw [ho1] at hs2 hrl
             have hd1:=a35 x.target.prio (by have:=hpx.prio;omega) (by have:=hpx.prio;omega)
             have hd2:=a35 x.target.weight (by have:=hpx.weight;omega) (by have:=hpx.weight;omega)
             have hd3:=a35 x.fails (by have:=hpx.fails;omega) (by have:=hpx.fails;omega)
             have hd4:=a35 x.retry (by have:=hpx.retry;omega) (by have:=hpx.retry;omega)
             have hl1:=Z5 hpx.prio.1 (by have:=hpx.prio;omega)
             have hl2:=Z5 hpx.weight.1 (by have:=hpx.weight;omega)
             have hl3:=Z5 hpx.fails.1 (by have:=hpx.fails;omega)
             have hl4:=Z5 hpx.retry.1 (by have:=hpx.retry;omega)
             have hl5:=hpx.url
             have hpl:a03 x=[112,101,101,114,32]++(x.target.url++([32,112,114,105,111,114,105,116,121,32]++(a0y x.target.prio++([32,119,101,105,103,104,116,32]++(a0y x.target.weight ++
              (if x.gone then [32,103,111,110,101] else if 0 < x.fails then [32,102,97,105,108,115,32]++(a0y x.fails++([32,117,110,116,105,108,32]++a0y x.retry)) else [])))))):=by
              unfold a03;simp
             simp [num,h2,hx,A6,tx,b8,a0o,l4,ho1]
             refine ⟨by omega,by omega,?_⟩
             refine l6 rfl rfl (.inl rfl) hd1 ?_
             simp [num,tx,b8,a0o,l4]
             refine ⟨by omega,by omega,?_⟩
             refine l6 rfl rfl (.inl rfl) hd2 ?_
             simp [num,tx,b8,a0o,l4]
             refine ⟨by omega,?_⟩
             refine f7 (fun hg=>?_) (fun hg=>?_)
             · rw [if_pos hg] at hpl
               simp [num,tx,b8,a0o,l4,hg]
               refine ⟨by omega,by omega,by omega,?_⟩
               refine LoopNext.mk (i+1) h2 (by omega) (Le.mk _ _ ?_ ?_)
               · simp [num,PV.kill];exact wrap_i64 (by omega) (by omega)
               · simp [hs2,hpl,U6,a56,tx,num,MObj.kill,PV.kill]
             · rw [if_neg hg] at hpl
               simp [num,tx,b8,a0o,l4,hg]
               refine f7 (fun hf=>?_) (fun hf=>?_)
               · rw [if_pos hf] at hpl
                 simp [num,tx,b8,a0o,l4,hg]
                 refine l6 rfl rfl (.inl rfl) hd3 ?_
                 simp [num,tx,b8,a0o,l4]
                 refine ⟨by omega,by omega,?_⟩
                 refine l6 rfl rfl (.inl rfl) hd4 ?_
                 simp [num,tx,b8,a0o,l4]
                 refine ⟨by omega,by omega,by omega,by omega,?_⟩
                 refine LoopNext.mk (i+1) h2 (by omega) (Le.mk _ _ ?_ ?_)
                 · simp [num,PV.kill];exact wrap_i64 (by omega) (by omega)
                 · simp [hs2,hpl,U6,a56,tx,num,MObj.kill,PV.kill]
               · rw [if_neg hf] at hpl
                 simp [num,tx,b8,a0o,l4,hg]
                 refine ⟨by omega,by omega,?_⟩
                 refine LoopNext.mk (i+1) h2 (by omega) (Le.mk _ _ ?_ ?_)
                 · simp [num,PV.kill];exact wrap_i64 (by omega) (by omega)
                 · simp [hs2,hpl,U6,a56,tx,num,MObj.kill,PV.kill]
           · have e:i=c.peers.length:=by omega
             subst e
             simp [num]
             refine LoopNext.mk (k+1) h1 (by omega) (Le.mk _ _ ?_ ?_)
             · simp [num,PV.kill];exact wrap_i64 (by omega) (by omega)
             · simp [hst,a5i,U6,tx,num,MObj.kill,PV.kill]
   · have e:k=p.channels.length:=by omega
     subst e
     rw [List.take_length]
     simp [num]
def clC (p:LPipe):Int:=if M1 p then 0 else 1
def clR (p:LPipe):List Tx:=if M1 p then W4 p.channels else []
theorem b6t (p:LPipe) (hb:a07 1048576 p):d8 Tryz.prog 29 [.val (L8 p)] (.ret (.tup [.val (.list 1 ((clR p).map tx)),.val (num (clC p))]) []) []:=by
 refine f8 mixed ok29 rfl (fun _=>rfl) ?_
 unfold ir29
 rw [b6]
 unfold clR clC
 simp [d9,i6,j9,b9,d7,L8,tx,num,i7]
 refine b7 rfl rfl (.inl rfl) (c_l08OK p hb) ?_
 cases hok:M1 p with
 | false=>simp [num,a1p,PV.pl]
 | true=>
  simp [num,i7]
  refine b7 rfl rfl (.inl rfl) (b7v p hb hok) ?_
  simp [num,tx]
theorem b51 (p:LPipe) (hb:a07 1048576 p):d8 Tryz.prog 30 [.val (L8 p)] (.ret (.tup [.own 0,.val (num (clC p))]) [⟨9,1,(clR p).map tx⟩]) []:=by
 refine d1q (mk:=fun i=>.tup [.own i,.val (num (clC p))]) mixed ok30 rfl (fun _=>rfl) ?_
 unfold ir30
 rw [b6]
 unfold clR clC
 simp [d9,i6,j9,b9,d7,L8,tx,num,i7]
 refine b7 rfl rfl (.inl rfl) (d04 p hb) ?_
 cases hok:M1 p with
 | false=>
  simp [num]
  exact c9v 1 4 (by omega) (.inl (by omega)) (by omega) (by simp) (by simp)
 | true=>
  simp [num,i7]
  refine c2t rfl rfl rfl (.inl rfl) (i_lines p hb hok) ?_
  simp [num,l5,PV.shift]
  exact c9u 9000 (by simp) (by simp) (by simp)
theorem c6s (p:LPipe):(clR p).length≤1048576:=by
 unfold clR
 cases hok:M1 p with
 | false=>simp
 | true=>
  have h9:∀ c∈p.channels,c.peers.length≤4:=fun c hc=>by
   unfold M1 at hok
   simp only [Bool.and_eq_true,decide_eq_true_eq] at hok
   obtain ⟨i,hi,rfl⟩:=List.mem_iff_getElem.1 hc
   have h3:=b4h hok.2.1.1 i hi
   rw [a6u hi] at h3
   unfold Q1 X7 at h3
   simp only [Bool.and_eq_true,decide_eq_true_eq] at h3
   exact h3.2.1.1.1.2.1.1
  have:=a8c p.channels fun c hc=>by have:=h9 c hc;omega
  have:=(ok_channels hok).2
  simp only [if_true];omega
theorem clR_bd (p:LPipe) (hb:a07 1048576 p):bdS 1048576 (fun t=>t.length≤1048576) (clR p):=by
 refine ⟨c6s p,?_⟩
 unfold clR
 cases hok:M1 p with
 | false=>simp
 | true=>exact c4d (ok_lines hb hok)
end Go.Proofs
end
section
namespace Go.Proofs
open Go.PW Go.KP
attribute [local simp] RV.cells RV.one PV.cells PV.solid PV.one G6 i7 M3 L4 RV.ofCells elems PV.killL
variable [GH]
attribute [local simp] a6x b1y b76 b77 b75 b5i a39 b2s a8g b63 b00 b2z a83 dK_lo dK_DN dM_lo dM_DN inR A7
theorem b2j (p:LPipe) (hb:a07 9223372036854775807 p):d8 Tryz.prog 6 [.val (L8 p)] (.ret (.val (.bool true)) []) []:=by
 refine f8 mixed ok6 rfl (fun _=>rfl) ?_
 unfold ir6
 rw [b6]
 simp [d9,i6,j9,b9,d7,L8,tx,num,i7]
 refine b7 rfl rfl (.inl rfl) (d09 p 1048576 (by omega) (by omega) hb) ?_
 by_cases hz:cut 1048576 (b4k p) < 0
 · simp [num,hz]
 · obtain ⟨hz1,_⟩:=c8w hz (by omega)
   have hs:a07 1048576 p:=c9g (by omega)
   have hcnt:=c5l p
   have hlen:(clR p).length≤1048576:=c6s p
   have hmk:=c5h p 1 hs (by omega)
   obtain ⟨mk,hmk0⟩:∃ m,1+a7g p=m:=⟨_,rfl⟩
   rw [hmk0] at hmk
   have hne1:¬ (mk:Int) < 0:=by omega
   have hm:=a4g (clR p) 1 (by omega) hlen
   have hh:=b7q (clR p).length 1 (by omega) hlen
   obtain ⟨m1,hm1⟩:∃ m,1+1*(clR p).length=m:=⟨_,rfl⟩
   rw [hm1] at hm hh
   have hne2:¬ (m1:Int) < 0:=by omega
   have hsp:=b6t p hs
   have hip:=b51 p hs
   have hbd:=clR_bd p hs;have heq:=a50 (clR p) hbd
   have hfl:=a5m (f:=tx) (fun _=>rfl) (clR p)
   obtain ⟨rw0,hrw⟩:∃ l,(clR p).map tx=l:=⟨_,rfl⟩
   obtain ⟨rk0,hrk⟩:∃ l,(mkL lmk 1 (clR p).length 1).map tx=l:=⟨_,rfl⟩
   obtain ⟨c0,hc0⟩:∃ c,clC p=c:=⟨_,rfl⟩
   rw [hrw,hc0] at hsp hip
   rw [hrw] at heq hm hfl
   rw [hrk] at hm hh
   simp [num,hz,i7]
   refine b7 rfl rfl (.inl rfl) (b4s p hs) ?_
   simp [i7,num]
   refine Z0 rfl rfl (.inl rfl) hsp ?_
   simp [i7,L8,tx,num]
   refine a3x (rs:=[L8 p]) a0w rfl (c2j p hs) (fun k j hk hl=>⟨b2e p k j hl,a6o p k j,b0c p k j⟩) (a9m p) ?_
   simp [i7,tx,num,a4b,a0w,PV.kill,R3,P3,V0,a00,P5,V2,X4,a22]
   refine callR (rs:=[L8 p]) a0w (R3 p) hip rfl (fun k j hk hT=>?_) (fun k j hk=>⟨a6o p k j,b0c p k j⟩) (fun M hM j hj=>?_) ?_ rfl (by simp [PV.flat,PV.flat.go,RV.flat,num]) ?_ (by omega) (by simp) ?_
   · simp [hk,hT,b2f]
   · have:j=0:=by simp at hj;omega
     subst this
     exact b47 p M hM
   · intro q hq
     simp only [List.mem_cons,List.not_mem_nil,or_false] at hq
     subst hq
     exact a9m p
   · intro q hq x hx
     rw [List.mem_singleton.1 hq] at hx
     exact hfl x hx
   simp [i7,tx,num,PV.shift,PV.shiftL,l5]
   refine b7 rfl rfl (.inr rfl) heq ?_
   simp [i7,tx,num]
   refine l6 rfl rfl (.inl rfl) (b4s p hs) ?_
   simp [i7,tx,num,PV.kill]
   refine callR (rs:=[L8 p,L8 p]) a0w (R3 p) (d1e p hs) rfl (fun k j hk hT=>?_) (fun k j hk=>⟨a6o p k j,b0c p k j⟩) (fun M hM j hj=>?_) ?_ rfl rfl ?_ (by omega) (by simp) ?_
   · simp [hk,hT,b2f]
   · have:j=0∨j=1:=by simp at hj;omega
     rcases this with rfl | rfl
     · exact b47 p M hM
     · exact .val _
   · intro q hq
     simp only [List.mem_cons,List.not_mem_nil,or_false] at hq
     rcases hq with rfl | rfl
     · exact a9m p
     · exact T0
   · intro r hr;cases hr
   simp [i7,tx,num,PV.shift,PV.kill,l5]
   refine c2s (G:=R3 p) a0w hmk ?_ (fun k j hk hl=>⟨b2e p k j hl,?_,a6o p k j⟩) ?_
   · intro q hq
     simp only [List.mem_cons,List.not_mem_nil,or_false] at hq
     rcases hq with rfl | rfl
     · exact a9m p
     · exact T0
   · have hT:=b2e p k j hl
     simp [hk,hT,b2f]
   simp [i7,tx,num,PV.kill,a0w,hne1]
   refine b7 rfl rfl (.inr rfl) heq ?_
   simp [i7,tx,num,PV.kill,hne1,hne2]
   refine b8v rfl rfl rfl rfl hm rfl ?_
   simp [i7,tx,num,PV.kill,hne1,hne2]
   refine b7 rfl rfl (.inr rfl) hh ?_
   simp [i7,tx,num,PV.kill,hne1,hne2]
   refine b7 rfl rfl (.inl rfl) (b4s p hs) ?_
   simp [i7,L8,tx,num,PV.kill]
   refine c2t rfl rfl rfl (.inl rfl) hip ?_
   simp [i7,tx,num,PV.kill,PV.shift,PV.shiftL,l5]
   refine b7 rfl rfl (.inr rfl) heq ?_
   simp [i7,tx,num,PV.kill]
   refine b7 rfl rfl (.inr rfl) hh ?_
   simp [i7,tx,num,PV.kill,hne2]
end Go.Proofs
end
