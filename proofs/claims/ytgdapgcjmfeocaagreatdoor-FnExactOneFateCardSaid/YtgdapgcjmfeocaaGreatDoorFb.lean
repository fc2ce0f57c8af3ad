/- Fb: merged out of KUa, KUc, KUd. -/
import Derived.Test.YtgdapgcjmfeocaaGreatDoorFa
import Derived.Test.YtgdapgcjmfeocaaGreatDoorEa
import Derived.Test.YtgdapgcjmfeocaaGreatDoorRows
import Derived.ProofKit
import Derived.LaidMore
import Derived.OpenShut
import Derived.Stop.Joined
import Derived.Lib.LaidTab
import Derived.Test.YtgdapgcjmfeocaaGreatDoorAc
import Derived.JoinedOf
import Derived.SevenTiedAt
set_option linter.unusedSectionVars false
set_option linter.unusedSimpArgs false
set_option linter.unusedVariables false
set_option maxRecDepth 100000
section
namespace Go.Proofs.YtgdapgcjmfeocaaGreatDoor
open Go.ChangeShapes Go.WideShapes Go.ChangeAt Go.WideMaps Go.WideElems Go.RowKit Go.PW Go.KP
theorem own:ownKnob Tryz.prog.godebug=none:=by kernel_rfl
theorem c2p:laidOutB Tryz.prog=true:=by kernel_rfl
def c65:List (String×DataW Unit):=[("math/bits.deBruijn32tab",Rows.laid_math_bits_deBruijn32tab),("math/bits.deBruijn64tab",Rows.laid_math_bits_deBruijn64tab),("internal/strconv.uint64pow10",Rows.laid_internal_strconv_uint64pow10),("strconv.ErrRange",Rows.laid_strconv_ErrRange),("strconv.ErrSyntax",Rows.laid_strconv_ErrSyntax)]
theorem c78 (os:Os) (args:Array Value):laidMetH Tryz.prog c65 ((World.doorLaid Tryz.prog 4000 os).forCall (fun _ _=>0) ⟨#[],args,[]⟩).memory:=
 laidMetH_of_parts3 (fuel:=8) (laidMet_of_run' 8 (by kernel_rfl) (by kernel_rfl)) (by kernel_rfl) (by kernel_rfl)
theorem b95 {H:Type}:(Rows.laid_internal_strconv_uint64pow10:DataW H)=Lib.tabData .u64 Lib.pow10Tab:=by rfl
theorem gPow:Tryz.prog.globalNamed "internal/strconv.uint64pow10" = some 3:=by kernel_rfl
theorem gSyn:Tryz.prog.globalNamed "strconv.ErrSyntax" = some 1:=by kernel_rfl
theorem gRng:Tryz.prog.globalNamed "strconv.ErrRange" = some 2:=by kernel_rfl
def b55 (P:Program) (t:TypeId):Bool:=match P.underlying t with | some (.interface _)=>true | _=>false
theorem b8e {w:World} {enc:TypeId×Value→Unit} {sp:Nat→Bool} {fuel:Nat} {t:TypeId} {cs:List Value} {name:String} {d:DataW Unit} {p:List MemPlace} (ht:b55 Tryz.prog t=true)
 (h:DataW.trod enc Tryz.prog w 0 sp false fuel t cs=some (.iface name d,p)):∃ u v,cs=[.iface u v]:=by
 unfold b55 at ht
 split at ht
 · rename_i ms hu
   cases fuel with
   | zero=>simp [DataW.trod] at h
   | succ fuel=>
    unfold DataW.trod at h
    rw [hu] at h
    split at h<;>simp_all
 · cases ht
theorem gh_of {W:World} (hL:laidMetH Tryz.prog c65 W) (hsh:W.ShapedOpen Tryz.prog):∃ I:GH,(∀ g∈I.gs,W.cell? ⟨g.1,g.2.1,none⟩=some g.2.2)∧∀ g∈I.bs,W.heap[g.1]?=some g.2:=by
 obtain ⟨m,hm⟩:=Tryz.laysM145.s1_3 W hsh
 rw [MakeChecks.laidMetH_plain _ _ _ (by kernel_rfl)] at hL
 obtain ⟨ps,⟨g0,t0,cs0,f0,p0,q0,_,_,_,_,⟨g1,t1,cs1,f1,p1,q1,_,_,_,_,⟨g2,t2,cs2,f2,p2,q2,hg2,ht2,hv2,hd2,⟨g3,t3,cs3,f3,p3,q3,hg3,ht3,hv3,hd3,⟨g4,t4,cs4,f4,p4,q4,hg4,ht4,hv4,hd4,_⟩,_⟩,_⟩,_⟩,_⟩,_⟩:=hL
 have k1:(Tryz.prog.globals[3]?).map (·.type)=some 293:=by kernel_rfl
 have k2:Tryz.prog.underlying 293=some (.array 20 224):=by kernel_rfl
 have k3:Tryz.prog.underlying 224=some (.int .u64):=by kernel_rfl
 have k4:Tryz.prog.cellsOf 224=1:=by kernel_rfl
 have k5:Tryz.prog.cellsOf 293=20:=by kernel_rfl
 have y1:(Tryz.prog.globals[1]?).map (·.type)=some 270:=by kernel_rfl
 have r1:(Tryz.prog.globals[2]?).map (·.type)=some 270:=by kernel_rfl
 have y2:b55 Tryz.prog 270=true:=by kernel_rfl
 have r2:=y2
 obtain rfl:=Option.some.inj (gPow.symm.trans hg2)
 obtain rfl:=Option.some.inj (gRng.symm.trans hg3)
 obtain rfl:=Option.some.inj (gSyn.symm.trans hg4)
 obtain rfl:=Option.some.inj (k1.symm.trans ht2)
 obtain rfl:=Option.some.inj (r1.symm.trans ht3)
 obtain rfl:=Option.some.inj (y1.symm.trans ht4)
 rw [b95] at hd2
 have hp:=Lib.cells_of_tab k2 k3 k4 k5 hd2
 have hblock:∃ T z,W.heap[3]?=some (.cells cs2 T z):=by
  have h2:=hv2
  unfold World.var? at h2
  rw [gPow] at h2
  simp only [Option.bind_some] at h2
  split at h2
  · rename_i c T z hh
    obtain rfl:=Option.some.inj h2
    exact ⟨T,z,hh⟩
  · cases h2
 obtain ⟨T,z,hblk⟩:=hblock
 have ecs:cs2=(Lib.pow10Tab.map fun z=>Value.int .u64 z).toArray:=by rw [← hp]
 rw [ecs] at hblk
 obtain ⟨ur,vr,hr⟩:=b8e r2 hd3
 obtain ⟨us,vs,hs⟩:=b8e y2 hd4
 have cr:W.cell? ⟨2,0,none⟩=some (.iface ur vr):=by
  have:=World.var?_cell hg3 hv3 0
  rw [Array.eq_one_of_toList hr] at this
  simpa using this
 have cs:W.cell? ⟨1,0,none⟩=some (.iface us vs):=by
  have:=World.var?_cell hg4 hv4 0
  rw [Array.eq_one_of_toList hs] at this
  simpa using this
 refine ⟨{ gs:=[(0,0,.int .i64 m),(1,0,.iface us vs),(2,0,.iface ur vr)],bs:=[(3,.cells (Lib.pow10Tab.map fun z=>Value.int .u64 z).toArray T z)],m:=m,hm:=by simp,T10:=T,z10:=z,h10:=by simp,ts:=us,ps:=vs,hs:=by simp,tr:=ur,pr:=vr,hr:=by simp },?_,?_⟩
 · intro g hg
   rcases List.mem_cons.1 hg with rfl | hg
   · exact hm
   · rcases List.mem_cons.1 hg with rfl | hg
     · exact cs
     · rcases List.mem_cons.1 hg with rfl | hg
       · exact cr
       · cases hg
 · intro g hg
   rcases List.mem_cons.1 hg with rfl | hg
   · exact hblk
   · cases hg
end Go.Proofs.YtgdapgcjmfeocaaGreatDoor
end
section
namespace Go.Proofs.YtgdapgcjmfeocaaGreatDoor
open Go.ChangeShapes Go.WideShapes Go.ChangeAt Go.RowKit Go.PW Go.KP
theorem a01 {n:Nat} {rs:List RV} (h:S8 Tryz.prog (n+1) 9 rs):∃ s:Tx,rs=[tx s]∧s.length≤maxLen:=by
 unfold S8 at h
 rw [Tryz.underlying9] at h
 obtain ⟨s,rfl,hs⟩:=h
 refine ⟨s.data.toList,?_,?_⟩
 · show _=[RV.str (bs s.data.toList)]
   rw [bs_eta]
 · have e:s.data.toList.length=s.size:=by rw [Array.length_toList];rfl
   rw [e];exact hs
theorem T1 {n:Nat} {rs:List RV} (h:S8 Tryz.prog (n+1) 3 rs):∃ a:Int,rs=[num a]:=by
 unfold S8 at h
 rw [Tryz.underlying3] at h
 obtain ⟨a,rfl,_⟩:=h
 exact ⟨a,rfl⟩
theorem b3q {n:Nat} {rs:List RV} (h:S8 Tryz.prog (n+1) 4 rs):∃ a:Bool,rs=[.bool a]:=by
 unfold S8 at h
 rw [Tryz.underlying4] at h
 obtain ⟨a,rfl⟩:=h
 exact ⟨a,rfl⟩
theorem Y6 {α:Type} {rv:α→RV} {p:α→Prop} {f:List RV→RV}:∀ css:List (List RV),(∀ cs∈css,∃ x,f cs=rv x∧p x)→∃ l:List α,css.map f=l.map rv∧∀ x∈l,p x
 | [],_=>⟨[],rfl,by simp⟩
 | c :: css,h=>by
  obtain ⟨l,q1,q2⟩:=Y6 css (fun cs hcs=>h cs (List.mem_cons_of_mem _ hcs))
  obtain ⟨x,q3,q4⟩:=h c (by simp)
  refine ⟨x :: l,by simp only [List.map_cons,q1,q3],?_⟩
  intro y hy
  rcases List.mem_cons.1 hy with rfl | hy
  · exact q4
  · exact q2 y hy
theorem a7x {n:Nat} {rs:List RV} (h:S8 Tryz.prog (n+2) 23 rs):∃ l:List Tx,rs=[.list 1 (l.map tx)]∧bdS maxLen (fun t=>t.length≤maxLen) l:=by
 unfold S8 at h
 rw [Tryz.underlying23] at h
 obtain ⟨css,h1,h2,h3⟩:=h
 have hc:Tryz.prog.cellsOf 9=1:=by kernel_rfl
 have hs:Z5 Tryz.prog 9=false:=by kernel_rfl
 obtain ⟨l,q1,q2⟩:=Y6 (rv:=tx) (p:=fun t:Tx=>t.length≤maxLen) (f:=a25 Tryz.prog 9) css (fun cs hcs=>by
  obtain ⟨x,q3,q4⟩:=a01 (h3 cs hcs)
  exact ⟨x,by unfold a25;rw [hs,q3];rfl,q4⟩)
 refine ⟨l,?_,?_,q2⟩
 · rw [h1,hc,q1]
 · have:=congrArg List.length q1
   simp at this
   omega
theorem c00 {n:Nat} {rs:List RV} (h:S8 Tryz.prog (n+2) 53 rs):∃ l:List Int,rs=[.list 1 (l.map num)]∧l.length≤maxLen:=by
 unfold S8 at h
 rw [Tryz.underlying53] at h
 obtain ⟨css,h1,h2,h3⟩:=h
 have hc:Tryz.prog.cellsOf 3=1:=by kernel_rfl
 have hs:Z5 Tryz.prog 3=false:=by kernel_rfl
 obtain ⟨l,q1,q2⟩:=Y6 (rv:=num) (p:=fun _:Int=>True) (f:=a25 Tryz.prog 3) css (fun cs hcs=>by
  obtain ⟨x,q3⟩:=T1 (h3 cs hcs)
  exact ⟨x,by unfold a25;rw [hs,q3];rfl,trivial⟩)
 refine ⟨l,?_,?_⟩
 · rw [h1,hc,q1]
 · have:=congrArg List.length q1
   simp at this
   omega
theorem b0j {n:Nat} {rs:List RV} (h:S8 Tryz.prog (n+2) 189 rs):∃ x:LTarget,i7 x=.agg rs∧T0 maxLen x:=by
 unfold S8 at h
 rw [Tryz.underlying189] at h
 obtain ⟨r0,r1,rfl,h0,r2,r3,rfl,h1,r4,r5,rfl,h2,rfl⟩:=h
 obtain ⟨s0,rfl,b0⟩:=a01 h0
 obtain ⟨s1,rfl⟩:=T1 h1
 obtain ⟨s2,rfl⟩:=T1 h2
 exact ⟨⟨s0,s1,s2⟩,rfl,b0⟩
theorem b5d {n:Nat} {rs:List RV} (h:S8 Tryz.prog (n+3) 97 rs):∃ l:List LTarget,rs=[.list 3 (l.map i7)]∧bdS maxLen (T0 maxLen) l:=by
 unfold S8 at h
 rw [Tryz.underlying97] at h
 obtain ⟨css,h1,h2,h3⟩:=h
 have hc:Tryz.prog.cellsOf 189=3:=by kernel_rfl
 have hs:Z5 Tryz.prog 189=true:=by kernel_rfl
 obtain ⟨l,q1,q2⟩:=Y6 (rv:=i7) (p:=T0 maxLen) (f:=a25 Tryz.prog 189) css (fun cs hcs=>by
  obtain ⟨x,q3,q4⟩:=b0j (h3 cs hcs)
  exact ⟨x,by unfold a25;rw [hs];exact q3.symm,q4⟩)
 refine ⟨l,?_,?_,q2⟩
 · rw [h1,hc,q1]
 · have:=congrArg List.length q1
   simp at this
   omega
theorem c3z {n:Nat} {rs:List RV} (h:S8 Tryz.prog (n+3) 191 rs):∃ x:LPeer,A7 x=.agg rs∧a0y maxLen x:=by
 unfold S8 at h
 rw [Tryz.underlying191] at h
 obtain ⟨r0,r1,rfl,h0,r2,r3,rfl,h1,r4,r5,rfl,h2,r6,r7,rfl,h3,rfl⟩:=h
 obtain ⟨s0,q0,b0⟩:=b0j h0
 unfold i7 at q0
 simp only [RV.agg.injEq] at q0
 subst q0
 obtain ⟨s1,rfl⟩:=T1 h1
 obtain ⟨s2,rfl⟩:=T1 h2
 obtain ⟨s3,rfl⟩:=b3q h3
 exact ⟨⟨s0,s1,s2,s3⟩,rfl,b0⟩
theorem b99 {n:Nat} {rs:List RV} (h:S8 Tryz.prog (n+4) 100 rs):∃ l:List LPeer,rs=[.list 6 (l.map A7)]∧bdS maxLen (a0y maxLen) l:=by
 unfold S8 at h
 rw [Tryz.underlying100] at h
 obtain ⟨css,h1,h2,h3⟩:=h
 have hc:Tryz.prog.cellsOf 191=6:=by kernel_rfl
 have hs:Z5 Tryz.prog 191=true:=by kernel_rfl
 obtain ⟨l,q1,q2⟩:=Y6 (rv:=A7) (p:=a0y maxLen) (f:=a25 Tryz.prog 191) css (fun cs hcs=>by
  obtain ⟨x,q3,q4⟩:=c3z (h3 cs hcs)
  exact ⟨x,by unfold a25;rw [hs];exact q3.symm,q4⟩)
 refine ⟨l,?_,?_,q2⟩
 · rw [h1,hc,q1]
 · have:=congrArg List.length q1
   simp at this
   omega
theorem c3u {n:Nat} {rs:List RV} (h:S8 Tryz.prog (n+3) 153 rs):∃ x:LRule,j9 x=.agg rs∧Y8 maxLen x:=by
 unfold S8 at h
 rw [Tryz.underlying153] at h
 obtain ⟨r0,r1,rfl,h0,r2,r3,rfl,h1,rfl⟩:=h
 obtain ⟨s0,rfl,b0⟩:=a01 h0
 obtain ⟨s1,rfl,b1⟩:=a7x h1
 exact ⟨⟨s0,s1⟩,rfl,⟨b0,b1⟩⟩
theorem b9z {n:Nat} {rs:List RV} (h:S8 Tryz.prog (n+4) 24 rs):∃ l:List LRule,rs=[.list 2 (l.map j9)]∧bdS maxLen (Y8 maxLen) l:=by
 unfold S8 at h
 rw [Tryz.underlying24] at h
 obtain ⟨css,h1,h2,h3⟩:=h
 have hc:Tryz.prog.cellsOf 153=2:=by kernel_rfl
 have hs:Z5 Tryz.prog 153=true:=by kernel_rfl
 obtain ⟨l,q1,q2⟩:=Y6 (rv:=j9) (p:=Y8 maxLen) (f:=a25 Tryz.prog 153) css (fun cs hcs=>by
  obtain ⟨x,q3,q4⟩:=c3u (h3 cs hcs)
  exact ⟨x,by unfold a25;rw [hs];exact q3.symm,q4⟩)
 refine ⟨l,?_,?_,q2⟩
 · rw [h1,hc,q1]
 · have:=congrArg List.length q1
   simp at this
   omega
theorem b7e {n:Nat} {rs:List RV} (h:S8 Tryz.prog (n+5) 26 rs):∃ x:LPolicy,k8 x=.agg rs∧Y3 maxLen x:=by
 unfold S8 at h
 rw [Tryz.underlying26] at h
 obtain ⟨r0,r1,rfl,h0,r2,r3,rfl,h1,r4,r5,rfl,h2,rfl⟩:=h
 obtain ⟨s0,rfl,b0⟩:=a01 h0
 obtain ⟨s1,rfl,b1⟩:=a7x h1
 obtain ⟨s2,rfl,b2⟩:=b9z h2
 exact ⟨⟨s0,s1,s2⟩,rfl,⟨b0,b1,b2⟩⟩
theorem c1g {n:Nat} {rs:List RV} (h:S8 Tryz.prog (n+4) 99 rs):∃ x:LGroup,H1 x=.agg rs∧a07 maxLen x:=by
 unfold S8 at h
 rw [Tryz.underlying99] at h
 obtain ⟨r0,r1,rfl,h0,r2,r3,rfl,h1,r4,r5,rfl,h2,rfl⟩:=h
 obtain ⟨s0,rfl,b0⟩:=a01 h0
 obtain ⟨s1,rfl⟩:=T1 h1
 obtain ⟨s2,rfl,b2⟩:=b5d h2
 exact ⟨⟨s0,s1,s2⟩,rfl,⟨b0,b2⟩⟩
theorem b7a {n:Nat} {rs:List RV} (h:S8 Tryz.prog (n+2) 227 rs):∃ x:LReport,j5 x=.agg rs∧W6 maxLen x:=by
 unfold S8 at h
 rw [Tryz.underlying227] at h
 obtain ⟨r0,r1,rfl,h0,r2,r3,rfl,h1,r4,r5,rfl,h2,r6,r7,rfl,h3,rfl⟩:=h
 obtain ⟨s0,rfl⟩:=T1 h0
 obtain ⟨s1,rfl⟩:=T1 h1
 obtain ⟨s2,rfl⟩:=T1 h2
 obtain ⟨s3,rfl,b3⟩:=a01 h3
 exact ⟨⟨s0,s1,s2,s3⟩,rfl,b3⟩
theorem b5g {n:Nat} {rs:List RV} (h:S8 Tryz.prog (n+3) 101 rs):∃ l:List LReport,rs=[.list 4 (l.map j5)]∧bdS maxLen (W6 maxLen) l:=by
 unfold S8 at h
 rw [Tryz.underlying101] at h
 obtain ⟨css,h1,h2,h3⟩:=h
 have hc:Tryz.prog.cellsOf 227=4:=by kernel_rfl
 have hs:Z5 Tryz.prog 227=true:=by kernel_rfl
 obtain ⟨l,q1,q2⟩:=Y6 (rv:=j5) (p:=W6 maxLen) (f:=a25 Tryz.prog 227) css (fun cs hcs=>by
  obtain ⟨x,q3,q4⟩:=b7a (h3 cs hcs)
  exact ⟨x,by unfold a25;rw [hs];exact q3.symm,q4⟩)
 refine ⟨l,?_,?_,q2⟩
 · rw [h1,hc,q1]
 · have:=congrArg List.length q1
   simp at this
   omega
theorem b92 {n:Nat} {rs:List RV} (h:S8 Tryz.prog (n+4) 103 rs):∃ x:LQueue,A4 x=.agg rs∧a1r maxLen x:=by
 unfold S8 at h
 rw [Tryz.underlying103] at h
 obtain ⟨r0,r1,rfl,h0,r2,r3,rfl,h1,rfl⟩:=h
 obtain ⟨s0,rfl,b0⟩:=b5g h0
 obtain ⟨s1,rfl,b1⟩:=a7x h1
 exact ⟨⟨s0,s1⟩,rfl,⟨b0,b1⟩⟩
theorem b6i {n:Nat} {rs:List RV} (h:S8 Tryz.prog (n+5) 105 rs):∃ x:LChannel,i8 x=.agg rs∧Q9 maxLen x:=by
 unfold S8 at h
 rw [Tryz.underlying105] at h
 obtain ⟨r0,r1,rfl,h0,r2,r3,rfl,h1,r4,r5,rfl,h2,rfl⟩:=h
 obtain ⟨s0,q0,b0⟩:=c1g h0
 unfold H1 at q0
 simp only [RV.agg.injEq] at q0
 subst q0
 obtain ⟨s1,rfl,b1⟩:=b99 h1
 obtain ⟨s2,q2,b2⟩:=b92 h2
 unfold A4 at q2
 simp only [RV.agg.injEq] at q2
 subst q2
 exact ⟨⟨s0,s1,s2⟩,rfl,⟨b0,b1,b2⟩⟩
theorem b4j {n:Nat} {rs:List RV} (h:S8 Tryz.prog (n+6) 22 rs):∃ l:List LChannel,rs=[.list 6 (l.map i8)]∧bdS maxLen (Q9 maxLen) l:=by
 unfold S8 at h
 rw [Tryz.underlying22] at h
 obtain ⟨css,h1,h2,h3⟩:=h
 have hc:Tryz.prog.cellsOf 105=6:=by kernel_rfl
 have hs:Z5 Tryz.prog 105=true:=by kernel_rfl
 obtain ⟨l,q1,q2⟩:=Y6 (rv:=i8) (p:=Q9 maxLen) (f:=a25 Tryz.prog 105) css (fun cs hcs=>by
  obtain ⟨x,q3,q4⟩:=b6i (h3 cs hcs)
  exact ⟨x,by unfold a25;rw [hs];exact q3.symm,q4⟩)
 refine ⟨l,?_,?_,q2⟩
 · rw [h1,hc,q1]
 · have:=congrArg List.length q1
   simp at this
   omega
theorem c1s {n:Nat} {rs:List RV} (h:S8 Tryz.prog (n+2) 127 rs):∃ x:LEntry,u1 x=.agg rs∧a9o maxLen x:=by
 unfold S8 at h
 rw [Tryz.underlying127] at h
 obtain ⟨r0,r1,rfl,h0,r2,r3,rfl,h1,r4,r5,rfl,h2,rfl⟩:=h
 obtain ⟨s0,rfl⟩:=T1 h0
 obtain ⟨s1,rfl⟩:=T1 h1
 obtain ⟨s2,rfl⟩:=T1 h2
 exact ⟨⟨s0,s1,s2⟩,rfl,trivial⟩
theorem b84 {n:Nat} {rs:List RV} (h:S8 Tryz.prog (n+3) 27 rs):∃ l:List LEntry,rs=[.list 3 (l.map u1)]∧bdS maxLen (a9o maxLen) l:=by
 unfold S8 at h
 rw [Tryz.underlying27] at h
 obtain ⟨css,h1,h2,h3⟩:=h
 have hc:Tryz.prog.cellsOf 127=3:=by kernel_rfl
 have hs:Z5 Tryz.prog 127=true:=by kernel_rfl
 obtain ⟨l,q1,q2⟩:=Y6 (rv:=u1) (p:=a9o maxLen) (f:=a25 Tryz.prog 127) css (fun cs hcs=>by
  obtain ⟨x,q3,q4⟩:=c1s (h3 cs hcs)
  exact ⟨x,by unfold a25;rw [hs];exact q3.symm,q4⟩)
 refine ⟨l,?_,?_,q2⟩
 · rw [h1,hc,q1]
 · have:=congrArg List.length q1
   simp at this
   omega
theorem c3n {n:Nat} {rs:List RV} (h:S8 Tryz.prog (n+3) 109 rs):∃ x:LWire,u4 x=.agg rs∧a0h maxLen x:=by
 unfold S8 at h
 rw [Tryz.underlying109] at h
 obtain ⟨r0,r1,rfl,h0,r2,r3,rfl,h1,r4,r5,rfl,h2,r6,r7,rfl,h3,r8,r9,rfl,h4,r10,r11,rfl,h5,r12,r13,rfl,h6,rfl⟩:=h
 obtain ⟨s0,rfl⟩:=T1 h0
 obtain ⟨s1,rfl⟩:=T1 h1
 obtain ⟨s2,rfl,b2⟩:=a01 h2
 obtain ⟨s3,rfl,b3⟩:=a01 h3
 obtain ⟨s4,rfl,b4⟩:=c00 h4
 obtain ⟨s5,rfl,b5⟩:=a01 h5
 obtain ⟨s6,rfl⟩:=b3q h6
 exact ⟨⟨s0,s1,s2,s3,s4,s5,s6⟩,rfl,⟨b2,b3,b4,b5⟩⟩
theorem b9t {n:Nat} {rs:List RV} (h:S8 Tryz.prog (n+4) 28 rs):∃ l:List LWire,rs=[.list 7 (l.map u4)]∧bdS maxLen (a0h maxLen) l:=by
 unfold S8 at h
 rw [Tryz.underlying28] at h
 obtain ⟨css,h1,h2,h3⟩:=h
 have hc:Tryz.prog.cellsOf 109=7:=by kernel_rfl
 have hs:Z5 Tryz.prog 109=true:=by kernel_rfl
 obtain ⟨l,q1,q2⟩:=Y6 (rv:=u4) (p:=a0h maxLen) (f:=a25 Tryz.prog 109) css (fun cs hcs=>by
  obtain ⟨x,q3,q4⟩:=c3n (h3 cs hcs)
  exact ⟨x,by unfold a25;rw [hs];exact q3.symm,q4⟩)
 refine ⟨l,?_,?_,q2⟩
 · rw [h1,hc,q1]
 · have:=congrArg List.length q1
   simp at this
   omega
theorem c3y {n:Nat} {rs:List RV} (h:S8 Tryz.prog (n+7) 30 rs):∃ x:LPipe,u0 x=.agg rs∧V6 maxLen x:=by
 unfold S8 at h
 rw [Tryz.underlying30] at h
 obtain ⟨r0,r1,rfl,h0,r2,r3,rfl,h1,r4,r5,rfl,h2,r6,r7,rfl,h3,r8,r9,rfl,h4,r10,r11,rfl,h5,rfl⟩:=h
 obtain ⟨s0,rfl,b0⟩:=b4j h0
 obtain ⟨s1,q1,b1⟩:=b7e h1
 unfold k8 at q1
 simp only [RV.agg.injEq] at q1
 subst q1
 obtain ⟨s2,rfl⟩:=T1 h2
 obtain ⟨s3,rfl⟩:=T1 h3
 obtain ⟨s4,rfl,b4⟩:=b84 h4
 obtain ⟨s5,rfl,b5⟩:=b9t h5
 exact ⟨⟨s0,s1,s2,s3,s4,s5⟩,rfl,⟨b0,b1,b4.1,b5⟩⟩
end Go.Proofs.YtgdapgcjmfeocaaGreatDoor
end
section
namespace Go.Proofs.YtgdapgcjmfeocaaGreatDoor
open Go Go.ChangeShapes Go.WideShapes Go.ChangeAt Go.RowKit
theorem z5All:mapsRowed Tryz.prog=true:=by kernel_rfl
theorem z6All:(Tryz.prog.stops == [])=true:=by kernel_rfl
theorem z7All:(Tryz.prog.stopKnobs == [])=true:=by kernel_rfl
theorem z9All:Tryz.prog.stopsHeard=true:=by kernel_rfl
theorem z10All:Tryz.prog.mayEnter=true:=by kernel_rfl
theorem y3All:true=Tryz.prog.looks []:=by kernel_rfl
theorem z8All:Tryz.prog.plainKeys=true:=by kernel_rfl
theorem z11All:Tryz.prog.liftsFinal=false:=by kernel_rfl
theorem y2All:Tryz.prog.mainIs=some (true, "2e2573802ff5d0b2756901822aa9ff57152d18fe02fe994b4a45ed53894a6ecc".toList):=by kernel_rfl
end Go.Proofs.YtgdapgcjmfeocaaGreatDoor
end
