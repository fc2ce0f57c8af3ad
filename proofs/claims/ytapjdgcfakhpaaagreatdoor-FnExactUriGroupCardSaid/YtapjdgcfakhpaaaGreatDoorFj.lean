/- Fj: merged out of KXz, KXx, KXaa. -/
import Derived.Test.YtapjdgcfakhpaaaGreatDoorFc
import Derived.Test.YtapjdgcfakhpaaaGreatDoorCa
import Derived.Test.YtapjdgcfakhpaaaGreatDoorAc
import Derived.Test.YtapjdgcfakhpaaaGreatDoorBa
import Derived.Test.YtapjdgcfakhpaaaGreatDoorFd
import Derived.Test.YtapjdgcfakhpaaaGreatDoorPWai
import Derived.Test.YtapjdgcfakhpaaaGreatDoorEc
import Derived.Test.YtapjdgcfakhpaaaGreatDoorCb
import Derived.Test.YtapjdgcfakhpaaaGreatDoorCc
import Derived.Test.YtapjdgcfakhpaaaGreatDoorEa
import Derived.Test.YtapjdgcfakhpaaaGreatDoorFb
set_option linter.unusedSectionVars false
set_option linter.unusedSimpArgs false
set_option linter.unusedVariables false
set_option maxRecDepth 100000
section
namespace Go.Proofs
open Go.PW Go.KP
attribute [local simp] RV.cells RV.one PV.cells PV.solid PV.one w5 i6 n7 n6 RV.ofCells elems PV.killL
variable [GF]
theorem b1o (n k:Nat) (hk:k < 8388608) (hl:n≤1048576):f7 Tryz.prog 80 [.val (.list 3 ((mkL H4 3 n k).map l2)),.val (num k)] (.ret (.val (num ((k+3*n:Nat):Int))) []) []:=by
 refine f9 mixed ok80 rfl (fun _=>rfl) ?_
 unfold ir80
 rw [b9]
 have hlen:=a07 H4 3 n k
 simp [d9,j4,l0,b7,d8,num]
 refine l4 (X:=Nat) (fun i=>⟨u0 [(0,.val (.list 3 ((mkL H4 3 n k).map l2))),(1,.val (num ((k+3*i:Nat):Int))),(5,.val (num i))],u4 []⟩) (fun i=>i≤n) (fun i=>n - i) 0 (Le.mk _ _ ?_ ?_) (Nat.zero_le _) ?_
 · simp [upd,num,PV.kill]
 · simp
 · intro i hi
   unfold ir80_l6
   by_cases h1:i < n
   · have hi':i < (mkL H4 3 n k).length:=by omega
     have hat:(mkL H4 3 n k)[i]=H4 (k+3*i):=mkL_at h1
     have e1:((mkL H4 3 n k).map l2)[i]?.getD .nilptr=l2 (H4 (k+3*i)):=by simp [List.getElem?_eq_getElem hi',hat]
     generalize hj:k+3*i=j at *
     have hjj:j < 1099511627776:=by omega
     have s1:IntKind.i64.wrap ((j:Int)+1)=((j+1:Nat):Int):=by rw [wrap_i64 (by omega) (by omega)];omega
     have s2:IntKind.i64.wrap (((j+1:Nat):Int)+1)=((j+2:Nat):Int):=by rw [wrap_i64 (by omega) (by omega)];omega
     have s3:IntKind.i64.wrap (((j+2:Nat):Int)+1)=((j+3:Nat):Int):=by rw [wrap_i64 (by omega) (by omega)];omega
     have si:IntKind.i64.wrap ((i:Int)+1)=((i+1:Nat):Int):=by rw [wrap_i64 (by omega) (by omega)];omega
     have hmk0:f7 Tryz.prog 83 [.val (.int .i64 ((j+0:Nat):Int))] (.ret (.val (.str (bs (lmk (j+0))))) []) []:=a3y (j+0) (by omega)
     have hat2:H4 j=⟨lmk j,((j+1:Nat):Int),((j+2:Nat):Int)⟩:=rfl
     generalize hj1:((j+1:Nat):Int)=j1 at *
     generalize hj2:((j+2:Nat):Int)=j2 at *
     simp [num,a07,h1,e1,hat,hat2,l2,tx,s1,s2,s3,si]
     refine B0 rfl rfl (.inl rfl) hmk0 ?_
     simp [num,a07,h1,e1,hat,hat2,l2,tx,s1,s2,s3,si]
     refine LoopNext.mk (i+1) h1 (by omega) (Le.mk _ _ ?_ ?_)
     · simp [num,s1,s2,s3,si]
       omega
     · simp
   · have e:i=n:=by omega
     subst e
     simp [num,a07]
end Go.Proofs
end
section
namespace Go.KP
def lug (us:List Tx):List LTarget:=us.zipIdx.map fun x=>⟨x.1,(x.2:Int)+1,1⟩
theorem b4x (us:List Tx) (i:Nat) (h:i < us.length):lug (us.take (i+1))=lug (us.take i)++[⟨us[i],(i:Int)+1,1⟩]:=by
 unfold lug
 rw [List.take_add_one,List.getElem?_eq_getElem h,List.zipIdx_append,List.map_append]
 simp [Nat.min_eq_left (Nat.le_of_lt h)]
theorem b24 (us:List Tx):(lug us).length=us.length:=by simp [lug]
theorem lug_bd {us:List Tx} (h:bdS 1048576 (fun t=>t.length≤1048576) us):bdS 1048576 (a42 1048576) (lug us):=by
 refine ⟨by rw [b24];exact h.1,fun x hx=>?_⟩
 unfold lug at hx
 obtain ⟨y,hy,rfl⟩:=List.mem_map.1 hx
 exact h.2 _ (List.fst_mem_of_mem_zipIdx hy)
def ugC (p:LPolicy):Int:=if J5 p then (if p.uris=[] then 5 else 0) else 1
def ugG (p:LPolicy):LGroup:=if ugC p=0 then ⟨[117,114,105],100,lug p.uris⟩ else ⟨[],0,[]⟩
end Go.KP
namespace Go.Proofs
open Go.PW Go.KP
attribute [local simp] RV.cells RV.one PV.cells PV.solid PV.one w5 i6 n7 n6 RV.ofCells elems PV.killL
variable [GH]
attribute [local simp] a3c a7f b11 b12 b1z b10 a06 a7z a4l b2g a73 a74 a44
def b8w (p:LPolicy):MObj:=.box [.val (tx p.reportTo),.val (.list 1 (p.uris.map tx)),.val (.list 2 (p.rules.map j5))]
def a79 (i:Nat):MObj:=.box [.val (tx [117,114,105]),.val (num 100),.own i]
theorem b77 (p:LPolicy) (hb:M4 1048576 p):f7 Tryz.prog 69 [.val (j8 p)] (.ret (.val (Z5 ⟨[117,114,105],100,lug p.uris⟩)) []) []:=by
 have hl:p.uris.length≤1048576:=hb.2.1.1
 refine f9 mixed ok69 rfl (fun _=>rfl) ?_
 unfold ir69
 rw [b9]
 simp [d9,j4,l0,b7,d8,j8,tx,num,PV.kill,PV.killL]
 refine l4 (X:=Nat) (fun i=>⟨u0 [(1,.ptr 1 0),(2,.ptr 2 0),(3,.ptr 3 0),(4,.val (num i))],u4 [(1,b8w p),(2,.box [.val (tx []),.val (num 0),.emp 3]),(3,a79 5),(5,.row 185 3 ((lug (p.uris.take i)).map l2))]⟩) (fun i=>i≤p.uris.length) (fun i=>p.uris.length - i) 0 (Le.mk _ _ ?_ ?_) (Nat.zero_le _) ?_
 · simp [num,PV.kill]
 · simp [lug,b8w,a79,tx,num,MObj.kill,PV.kill,a8v]
 · intro i hi
   simp [num,b8w,a79,tx]
   refine i7 (fun h1=>?_) (fun h1=>?_)
   · obtain ⟨u,hu⟩:∃ u,p.uris[i]=u:=⟨_,rfl⟩
     have hst:=b4x p.uris i h1
     rw [hu] at hst
     have hll:=b24 (p.uris.take i)
     rw [List.length_take] at hll
     have wi:IntKind.i64.wrap (1+(i:Int))=(i:Int)+1:=by rw [wrap_i64 (by omega) (by omega)];omega
     simp [num,h1,hu,tx,wi]
     refine ⟨by omega,by omega,?_⟩
     refine LoopNext.mk (i+1) h1 (by omega) (Le.mk _ _ ?_ ?_)
     · simp [num];exact wrap_i64 (by omega) (by omega)
     · simp [hst,num,l2,tx,b8w,a79]
   · have e:i=p.uris.length:=by omega
     subst e
     rw [List.take_length]
     simp [num,a0t,PV.pl,PV.frz,PV.frzL,Z5,tx]
     simp [H7,a3j,St.fin,St.freeze,MObj.pl,PV.frzL,PV.frz,PV.plL,PV.pl,a0t,n7,okId,i6]
def gU (g:LGroup) (i:Nat):PV:=.agg [.val (tx g.name),.val (num g.age),.own i]
theorem b7l (p:LPolicy) (hb:M4 1048576 p):f7 Tryz.prog 75 [.val (j8 p)] (.ret (gU ⟨[117,114,105],100,lug p.uris⟩ 0) [⟨185,3,(lug p.uris).map l2⟩]) []:=by
 have hl:p.uris.length≤1048576:=hb.2.1.1
 refine b5x (mk:=fun i=>gU ⟨[117,114,105],100,lug p.uris⟩ i) mixed ok75 rfl (fun _=>rfl) ?_
 unfold ir75
 rw [b9]
 simp [d9,j4,l0,b7,d8,j8,tx,num,PV.kill,PV.killL]
 refine l4 (X:=Nat) (fun i=>⟨u0 [(2,.ptr 2 0),(3,.ptr 3 0),(8,.val (.list 1 (p.uris.map tx))),(9,.val (num p.uris.length)),(10,.val (num i))],u4 [(2,.box [.val (tx []),.val (num 0),.emp 3]),(3,a79 22),(22,.row 185 3 ((lug (p.uris.take i)).map l2))]⟩) (fun i=>i≤p.uris.length) (fun i=>p.uris.length - i) 0
  ((Le.adoptBox 3 22 185 3 [.val (tx [117,114,105]),.val (num 100),.emp 3] [.val (tx [117,114,105]),.val (num 100),.own 22] (by omega) (.inl (by omega)) (by omega) (by simp [tx,num,a8v]) rfl (fun j hj=>?_)).trans (Le.mk _ _ ?_ ?_)) (Nat.zero_le _) ?_
 · have:j=0∨j=1∨j=2:=by simp at hj;omega
   rcases this with rfl | rfl | rfl
   · exact .kill _
   · exact .kill _
   · exact .emp _
 · simp [num,PV.kill]
 · simp [lug,a79,tx,num,MObj.kill,PV.kill,a8v]
 · intro i hi
   simp [num,a79,tx]
   refine i7 (fun h1=>?_) (fun h1=>?_)
   · obtain ⟨u,hu⟩:∃ u,p.uris[i]=u:=⟨_,rfl⟩
     have hst:=b4x p.uris i h1
     rw [hu] at hst
     have hll:=b24 (p.uris.take i)
     rw [List.length_take] at hll
     have wi:IntKind.i64.wrap ((i:Int)+1)=(i:Int)+1:=by rw [wrap_i64 (by omega) (by omega)]
     simp [num,h1,hu,tx,wi]
     refine ⟨by omega,by omega,?_⟩
     refine LoopNext.mk (i+1) h1 (by omega) (Le.mk _ _ ?_ ?_)
     · simp [num]
     · simp [hst,num,l2,tx,a79,MObj.kill,PV.kill]
   · have e:i=p.uris.length:=by omega
     subst e
     rw [List.take_length]
     simp [num]
     exact c1k 22 (by simp [H7,a3j,n7,i6,gU,tx,num]) (by simp)
theorem b8b (p:LPolicy) (hb:M4 1048576 p):f7 Tryz.prog 21 [.val (j8 p)] (.ret (.tup [.val (Z5 (ugG p)),.val (num (ugC p))]) []) []:=by
 refine f9 mixed ok21 rfl (fun _=>rfl) ?_
 unfold ir21
 rw [b9]
 unfold ugG ugC
 simp [d9,j4,l0,b7,d8,j8,tx,num,i6]
 refine d7 rfl rfl (.inl rfl) (c_l04OK p hb) ?_
 cases hok:J5 p with
 | false=>
  simp [num,Z5,tx,a8v]
  simp [H7,a1n,a3j,St.fin,St.freeze,MObj.pl,PV.frzL,PV.frz,PV.plL,PV.pl,a0t,n7,okId,i6]
 | true=>
  simp [num,i6]
  refine i7 (fun h0=>?_) (fun h0=>?_)
  · simp [num,Z5,tx,a8v,h0]
    simp [H7,a1n,a3j,St.fin,St.freeze,MObj.pl,PV.frzL,PV.frz,PV.plL,PV.pl,a0t,n7,okId,i6]
  · simp [num,i6,h0]
    refine d7 rfl rfl (.inl rfl) (b77 p hb) ?_
    simp [num,Z5,tx,a8v,h0]
    simp [H7,a1n,a3j,St.fin,St.freeze,MObj.pl,PV.frzL,PV.frz,PV.plL,PV.pl,a0t,n7,okId,i6]
theorem b7o (p:LPolicy) (hb:M4 1048576 p):f7 Tryz.prog 23 [.val (j8 p)] (.ret (.tup [gU (ugG p) 0,.val (num (ugC p))]) [⟨185,3,(ugG p).targets.map l2⟩]) []:=by
 refine b5x (mk:=fun i=>.tup [gU (ugG p) i,.val (num (ugC p))]) mixed ok23 rfl (fun _=>rfl) ?_
 unfold ir23
 rw [b9]
 have hf:=i_first [if J5 p then 0 else 1,if decide (0 < p.uris.length) then 0 else 5] (by simp)
 have hr:a1x [if J5 p then 0 else 1,if decide (0 < p.uris.length) then 0 else 5]=ugC p:=by
  unfold ugC
  cases J5 p<;>cases p.uris<;>simp [a1x]
 rw [hr] at hf
 have hf2:f7 Tryz.prog 72 [.val (.list 1 [.int .i64 (if J5 p=true then 0 else 1),.int .i64 (if 0 < p.uris.length then 0 else 5)])] (.ret (.val (num (ugC p))) []) []:=by simpa [num] using hf
 simp [d9,j4,l0,b7,d8,j8,tx,num,i6]
 refine B0 rfl rfl (.inl rfl) (b7p p hb) ?_
 simp [num]
 refine B0 rfl rfl (.inl rfl) (b0j (J5 p) 1) ?_
 simp [num]
 refine B0 rfl rfl (.inl rfl) (b0j (decide (0 < p.uris.length)) 5) ?_
 simp [num]
 refine B0 rfl rfl (.inr rfl) hf2 ?_
 obtain ⟨z,hz⟩:∃ z,ugC p=z:=⟨_,rfl⟩
 by_cases h0:z=0
 · subst h0
   have hg:ugG p=⟨[117,114,105],100,lug p.uris⟩:=by unfold ugG;rw [if_pos hz]
   simp [num,hz,i6]
   refine b5z rfl rfl rfl (.inl rfl) (b7l p hb) ?_
   simp [num,i8,gU,PV.shift,PV.shiftL,tx]
   refine ⟨_,Le.refl _,21000,by simp [H7,a1n,a3j,n7,i6,gU,hg,tx,num,hz],by simp [hg]⟩
 · have hg:ugG p=⟨[],0,[]⟩:=by unfold ugG;rw [if_neg (by omega)]
   simp [num,hz,h0]
   refine ⟨_,Le.adoptBox 2 500 185 3 [.val (tx []),.val (num 0),.emp 3] [.val (tx []),.val (num 0),.own 500] (by omega) (.inl (by omega)) (by omega) (by simp [tx,num,a8v]) rfl (fun j hj=>?_),500,by simp [H7,a1n,a3j,n7,i6,gU,hg,tx,num,hz,PV.kill],by simp [hg]⟩
   have:j=0∨j=1∨j=2:=by simp at hj;omega
   rcases this with rfl | rfl | rfl
   · exact .kill _
   · exact .kill _
   · exact .emp _
end Go.Proofs
end
section
namespace Go.Proofs
open Go.PW Go.KP
attribute [local simp] RV.cells RV.one PV.cells PV.solid PV.one w5 i6 n7 n6 RV.ofCells elems PV.killL
variable [GH]
attribute [local simp] a3c a7f b11 b12 b1z b10 a06 a7z a4l b2g a73 a74 a44 dK_lo dK_DN dM_lo dM_DN inR k6
def T9 (k i:Nat):Bool:=k == 1 && i == 0 || k == 9 || k == 2 && i == 0
theorem a0k (p:LPolicy) (k i:Nat):(n9 p k i).onT (TD T9):=a8j p k i fun k j h=>by subst h;simp [T9]
theorem a4i (p:LPolicy) (k i:Nat):∀ cs,n9 p k i≠.box cs:=by
 intro cs h
 have hl:(n9 p k i).live=true:=by rw [h];rfl
 exact (a4g p k i (S:=fun _=>true) (fun _ _ _=>rfl) hl).2.2 cs h
theorem b4u (p:LPolicy) (k i:Nat) (d:Nat→Bool) (h:∀ x,TD T9 x=true→d x=false):(n9 p k i).kill d=n9 p k i:=(a0k p k i).2 d h
theorem a4h (p:LPolicy) (k i n:Nat) (hn:n < 1000000):(n9 p k i).kill (fun x=>x == n)=n9 p k i:=b4u p k i _ fun x hx=>by
 have:=TD_D hx
 simp [isD] at this
 simp;omega
theorem a57 (p:LPolicy) (k i:Nat) (h:(n9 p k i).live=true):T9 k i=true:=(a4g p k i (S:=fun _=>true) (fun _ _ _=>rfl) h).1
theorem a2j (p:LPolicy):(PV.agg (X8 p)).onT (TD T9):=a91 fun q hq=>by
 simp only [X8,List.mem_cons,List.not_mem_nil,or_false] at hq
 rcases hq with rfl | rfl | rfl
 · exact a2c
 · exact a1p (by simp [T9])
 · exact a1p (by simp [T9])
theorem a55 (p:LPolicy) (M:Nat→MObj) (h:∀ k j,k < 16→T9 k j=true→M (DN k j)=n9 p k j):Res M (.agg (X8 p)) (j8 p):=by
 have hr:=c1l (M:=M) p.rules (by rw [h 2 0 (by omega) (by simp [T9])];simp [n9,S4]) fun k j hk hl=>by
  rcases a3t p.rules k j with ⟨h',_,_⟩ | e
  · rw [h k j hk (by subst h';simp [T9])]
    unfold n9 S4;rw [if_neg (by omega),if_neg (by omega)]
  · rw [e] at hl;cases hl
 refine .agg _ _ rfl fun i hi=>?_
 have:i=0∨i=1∨i=2:=by simp [X8] at hi;omega
 rcases this with rfl | rfl | rfl
 · exact .val _
 · exact .row _ 9 _ _ (by rw [h 1 0 (by omega) (by simp [T9])];simp [n9])
 · exact hr
theorem a50 (p:LPolicy) (hs:M4 1048576 p):f7 Tryz.prog 22 [.val (j8 p)] (.ret (.val (j8 p)) []) []:=
 ok_of_mem (b0r p hs) (a55 p _ fun k j hk _=>a06 hk)
theorem b34 (g:LGroup) (k:Nat) (hk:k < 8388608) (hl:g.targets.length≤1048576):a5j Tryz.prog 27 (gU g 0) 185 3 (g.targets.map l2) [.val (num k)] (num ((k+3*g.targets.length:Nat):Int)) ((mkL H4 3 g.targets.length k).map l2):=by
 refine a6n mixed ok27 rfl ?_
 unfold ir27
 rw [b9]
 have hm:=b1n g.targets k hk hl
 simp [d9,j4,l0,b7,d8,R4,gU,PV.nm,PV.nmL,num,tx]
 refine rowC rfl rfl rfl rfl hm rfl ?_
 simp [num]
theorem b35 (n a:Int) (t:Tx) (m k:Nat) (hk:k < 8388608) (hl:m≤1048576):f7 Tryz.prog 28 [.val (.agg [tx t,num a,.list 3 ((mkL H4 3 m k).map l2)]),.val (num k)] (.ret (.val (num ((k+3*m:Nat):Int))) []) []:=by
 refine f9 mixed ok28 rfl (fun _=>rfl) ?_
 unfold ir28
 rw [b9]
 simp [d9,j4,l0,b7,d8,num,tx]
 refine d7 rfl rfl (.inl rfl) (b1o m k hk hl) ?_
 have:¬ ((k:Int)+3*(m:Int) < 0):=by omega
 simp [num,this]
theorem b3d (p:LPolicy) (hb:M4 9223372036854775807 p):f7 Tryz.prog 5 [.val (j8 p)] (.ret (.val (.bool true)) []) []:=by
 refine f9 mixed ok5 rfl (fun _=>rfl) ?_
 unfold ir5
 rw [b9]
 simp [d9,j4,l0,b7,d8,j8,tx,num,i6]
 refine d7 rfl rfl (.inl rfl) (b7x p 1048576 (by omega) (by omega) hb) ?_
 by_cases hz:cut 1048576 (a47 p) < 0
 · simp [num,hz]
 · obtain ⟨hz1,_⟩:=c0r hz (by omega)
   have hs:M4 1048576 p:=b6c (by omega)
   have hcnt:p.uris.length+S1 T8 p.rules≤6291456:=by
    have h2:=c1y T8 T2 (fun x=>by have:=b74 x;omega) p.rules
    have h4:=c06 List.length p.uris
    unfold a47 at hz1
    omega
   have hgb:b3u 1048576 (ugG p):=by
    unfold ugG
    split
    · exact ⟨by simp,lug_bd hs.2.1⟩
    · exact ⟨by simp,by simp,by simp⟩
   have hlen:(ugG p).targets.length≤1048576:=hgb.2.1
   have hmk:=b3q p 1 hs (by omega)
   obtain ⟨mk,hmk0⟩:∃ m,1+p.uris.length+S1 T8 p.rules=m:=⟨_,rfl⟩
   rw [hmk0] at hmk
   have hne1:¬ (mk:Int) < 0:=by omega
   have hm:=b34 (ugG p) 1 (by omega) hlen
   have hh:=b35 (ugG p).age (ugG p).age (ugG p).name (ugG p).targets.length 1 (by omega) hlen
   obtain ⟨m1,hm1⟩:∃ m,1+3*(ugG p).targets.length=m:=⟨_,rfl⟩
   rw [hm1] at hm hh
   have hne2:¬ (m1:Int) < 0:=by omega
   have hsp:=b8b p hs
   have hip:=b7o p hs
   have heq:=c0p (ugG p) hgb
   have hfl:=b5m (f:=l2) (fun _=>rfl) (ugG p).targets
   unfold gU at hip hm
   unfold Z5 at hsp heq
   obtain ⟨gn,hgn⟩:∃ n,(ugG p).name=n:=⟨_,rfl⟩
   obtain ⟨ga,hga⟩:∃ n,(ugG p).age=n:=⟨_,rfl⟩
   obtain ⟨rw0,hrw⟩:∃ l,(ugG p).targets.map l2=l:=⟨_,rfl⟩
   obtain ⟨rk0,hrk⟩:∃ l,(mkL H4 3 (ugG p).targets.length 1).map l2=l:=⟨_,rfl⟩
   obtain ⟨c0,hc0⟩:∃ c,ugC p=c:=⟨_,rfl⟩
   rw [hrw,hc0,hgn,hga] at hsp hip
   rw [hrw,hgn,hga] at heq
   rw [hrw,hgn,hga] at hm
   rw [hgn,hga] at hh
   rw [hrw] at hfl
   rw [hrk] at hm hh
   simp [num,hz,i6]
   refine d7 rfl rfl (.inl rfl) (a50 p hs) ?_
   simp [i6,num]
   refine V4 rfl rfl (.inl rfl) hsp ?_
   simp [i6,j8,tx,num]
   refine b50 (rs:=[j8 p]) T9 rfl (b0r p hs) (fun k j hk hl=>⟨a57 p k j hl,a0k p k j,a4i p k j⟩) (a2j p) ?_
   simp [i6,tx,num,X8,T9,PV.kill,n9,S4,a0j]
   refine callR (rs:=[j8 p]) T9 (n9 p) hip rfl (fun k j hk hT=>?_) (fun k j hk=>⟨a0k p k j,a4i p k j⟩) (fun M hM j hj=>?_) ?_ rfl (by simp [PV.flat,PV.flat.go,RV.flat,num,tx]) ?_ (by omega) (by simp) ?_
   · simp [hk,hT,a4h]
   · have:j=0:=by simp at hj;omega
     subst this
     exact a55 p M hM
   · intro q hq
     simp only [List.mem_cons,List.not_mem_nil,or_false] at hq
     subst hq
     exact a2j p
   · intro q hq x hx
     rw [List.mem_singleton.1 hq] at hx
     exact hfl x hx
   simp [i6,tx,num,PV.shift,PV.shiftL,i8,PV.kill,PV.killL]
   refine d7 rfl rfl (.inr rfl) heq ?_
   simp [i6,tx,num]
   refine B0 rfl rfl (.inl rfl) (a50 p hs) ?_
   simp [i6,tx,num,PV.kill]
   refine callR (rs:=[j8 p,j8 p]) T9 (n9 p) (b7z p hs) rfl (fun k j hk hT=>?_) (fun k j hk=>⟨a0k p k j,a4i p k j⟩) (fun M hM j hj=>?_) ?_ rfl rfl ?_ (by omega) (by simp) ?_
   · simp [hk,hT,a4h]
   · have:j=0∨j=1:=by simp at hj;omega
     rcases this with rfl | rfl
     · exact a55 p M hM
     · exact .val _
   · intro q hq
     simp only [List.mem_cons,List.not_mem_nil,or_false] at hq
     rcases hq with rfl | rfl
     · exact a2j p
     · exact a2c
   · intro r hr;cases hr
   simp [i6,tx,num,PV.shift,PV.kill,i8]
   refine callU (G:=n9 p) T9 hmk ?_ (fun k j hk hl=>⟨a57 p k j hl,?_,a0k p k j⟩) ?_
   · intro q hq
     simp only [List.mem_cons,List.not_mem_nil,or_false] at hq
     rcases hq with rfl | rfl
     · exact a2j p
     · exact a2c
   · have hT:=a57 p k j hl
     simp [hk,hT,a4h]
   simp [i6,tx,num,PV.kill,T9,hne1]
   refine d7 rfl rfl (.inr rfl) heq ?_
   simp [i6,tx,num,PV.kill,hne1,hne2]
   refine rowC rfl rfl rfl rfl hm rfl ?_
   simp [i6,tx,num,PV.kill,hne1,hne2]
   refine d7 rfl rfl (.inr rfl) hh ?_
   simp [i6,tx,num,PV.kill,hne1,hne2]
   refine d7 rfl rfl (.inl rfl) (a50 p hs) ?_
   simp [i6,j8,tx,num,PV.kill]
   refine b5z rfl rfl rfl (.inl rfl) hip ?_
   simp [i6,tx,num,PV.kill,PV.shift,PV.shiftL,i8]
   refine d7 rfl rfl (.inr rfl) heq ?_
   simp [i6,tx,num,PV.kill]
   refine d7 rfl rfl (.inr rfl) hh ?_
   simp [i6,tx,num,PV.kill,hne2]
end Go.Proofs
end
