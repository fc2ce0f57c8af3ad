/- Fb: merged out of KUa, KUc, KUd. -/
import Derived.Test.YtapjdgcfakhpaaaGreatDoorFa
import Derived.Test.YtapjdgcfakhpaaaGreatDoorEa
import Derived.Test.YtapjdgcfakhpaaaGreatDoorRows
import Derived.ProofKit
import Derived.LaidMore
import Derived.OpenShut
import Derived.Stop.Joined
import Derived.Lib.LaidTab
import Derived.Test.YtapjdgcfakhpaaaGreatDoorAc
import Derived.JoinedOf
import Derived.SevenTiedAt
set_option linter.unusedSectionVars false
set_option linter.unusedSimpArgs false
set_option linter.unusedVariables false
set_option maxRecDepth 100000
section
namespace Go.Proofs.YtapjdgcfakhpaaaGreatDoor
open Go.ChangeShapes Go.WideShapes Go.ChangeAt Go.WideMaps Go.WideElems Go.RowKit Go.PW Go.KP
theorem own:ownKnob Tryz.prog.godebug=none:=by kernel_rfl
theorem c6h:laidOutB Tryz.prog=true:=by kernel_rfl
def d0k:List (String×DataW Unit):=[("math/bits.deBruijn32tab",Rows.laid_math_bits_deBruijn32tab),("math/bits.deBruijn64tab",Rows.laid_math_bits_deBruijn64tab),("internal/strconv.uint64pow10",Rows.laid_internal_strconv_uint64pow10),("strconv.ErrRange",Rows.laid_strconv_ErrRange),("strconv.ErrSyntax",Rows.laid_strconv_ErrSyntax)]
theorem d1h (os:Os) (args:Array Value):laidMetH Tryz.prog d0k ((World.doorLaid Tryz.prog 4000 os).forCall (fun _ _=>0) ⟨#[],args,[]⟩).memory:=
 laidMetH_of_parts3 (fuel:=8) (laidMet_of_run' 8 (by kernel_rfl) (by kernel_rfl)) (by kernel_rfl) (by kernel_rfl)
theorem c3p {H:Type}:(Rows.laid_internal_strconv_uint64pow10:DataW H)=Lib.tabData .u64 Lib.pow10Tab:=by rfl
theorem gPow:Tryz.prog.globalNamed "internal/strconv.uint64pow10" = some 1:=by kernel_rfl
theorem gSyn:Tryz.prog.globalNamed "strconv.ErrSyntax" = some 2:=by kernel_rfl
theorem gRng:Tryz.prog.globalNamed "strconv.ErrRange" = some 3:=by kernel_rfl
def b9q (P:Program) (t:TypeId):Bool:=match P.underlying t with | some (.interface _)=>true | _=>false
theorem c1t {w:World} {enc:TypeId×Value→Unit} {sp:Nat→Bool} {fuel:Nat} {t:TypeId} {cs:List Value} {name:String} {d:DataW Unit} {p:List MemPlace} (ht:b9q Tryz.prog t=true)
 (h:DataW.trod enc Tryz.prog w 0 sp false fuel t cs=some (.iface name d,p)):∃ u v,cs=[.iface u v]:=by
 unfold b9q at ht
 split at ht
 · rename_i ms hu
   cases fuel with
   | zero=>simp [DataW.trod] at h
   | succ fuel=>
    unfold DataW.trod at h
    rw [hu] at h
    split at h<;>simp_all
 · cases ht
theorem gh_of {W:World} (hL:laidMetH Tryz.prog d0k W) (hsh:W.ShapedOpen Tryz.prog):∃ I:GH,(∀ g∈I.gs,W.cell? ⟨g.1,g.2.1,none⟩=some g.2.2)∧∀ g∈I.bs,W.heap[g.1]?=some g.2:=by
 obtain ⟨m,hm⟩:=Tryz.laysM145.s1_3 W hsh
 rw [MakeChecks.laidMetH_plain _ _ _ (by kernel_rfl)] at hL
 obtain ⟨ps,⟨g0,t0,cs0,f0,p0,q0,_,_,_,_,⟨g1,t1,cs1,f1,p1,q1,_,_,_,_,⟨g2,t2,cs2,f2,p2,q2,hg2,ht2,hv2,hd2,⟨g3,t3,cs3,f3,p3,q3,hg3,ht3,hv3,hd3,⟨g4,t4,cs4,f4,p4,q4,hg4,ht4,hv4,hd4,_⟩,_⟩,_⟩,_⟩,_⟩,_⟩:=hL
 have k1:(Tryz.prog.globals[1]?).map (·.type)=some 345:=by kernel_rfl
 have k2:Tryz.prog.underlying 345=some (.array 20 290):=by kernel_rfl
 have k3:Tryz.prog.underlying 290=some (.int .u64):=by kernel_rfl
 have k4:Tryz.prog.cellsOf 290=1:=by kernel_rfl
 have k5:Tryz.prog.cellsOf 345=20:=by kernel_rfl
 have y1:(Tryz.prog.globals[2]?).map (·.type)=some 255:=by kernel_rfl
 have r1:(Tryz.prog.globals[3]?).map (·.type)=some 255:=by kernel_rfl
 have y2:b9q Tryz.prog 255=true:=by kernel_rfl
 have r2:=y2
 obtain rfl:=Option.some.inj (gPow.symm.trans hg2)
 obtain rfl:=Option.some.inj (gRng.symm.trans hg3)
 obtain rfl:=Option.some.inj (gSyn.symm.trans hg4)
 obtain rfl:=Option.some.inj (k1.symm.trans ht2)
 obtain rfl:=Option.some.inj (r1.symm.trans ht3)
 obtain rfl:=Option.some.inj (y1.symm.trans ht4)
 rw [c3p] at hd2
 have hp:=Lib.cells_of_tab k2 k3 k4 k5 hd2
 have hblock:∃ T z,W.heap[1]?=some (.cells cs2 T z):=by
  have h2:=hv2
  unfold World.var? at h2
  rw [gPow] at h2
  simp only [Option.bind_some] at h2
  split at h2
  · rename_i c T z hh
    obtain rfl:=Option.some.inj h2
    exact ⟨T,z,hh⟩
  · cases h2
 obtain ⟨T,z,hblk⟩:=hblock
 have ecs:cs2=(Lib.pow10Tab.map fun z=>Value.int .u64 z).toArray:=by rw [← hp]
 rw [ecs] at hblk
 obtain ⟨ur,vr,hr⟩:=c1t r2 hd3
 obtain ⟨us,vs,hs⟩:=c1t y2 hd4
 have cr:W.cell? ⟨3,0,none⟩=some (.iface ur vr):=by
  have:=World.var?_cell hg3 hv3 0
  rw [Array.eq_one_of_toList hr] at this
  simpa using this
 have cs:W.cell? ⟨2,0,none⟩=some (.iface us vs):=by
  have:=World.var?_cell hg4 hv4 0
  rw [Array.eq_one_of_toList hs] at this
  simpa using this
 refine ⟨{ gs:=[(0,0,.int .i64 m),(2,0,.iface us vs),(3,0,.iface ur vr)],bs:=[(1,.cells (Lib.pow10Tab.map fun z=>Value.int .u64 z).toArray T z)],m:=m,hm:=by simp,T10:=T,z10:=z,h10:=by simp,ts:=us,ps:=vs,hs:=by simp,tr:=ur,pr:=vr,hr:=by simp },?_,?_⟩
 · intro g hg
   rcases List.mem_cons.1 hg with rfl | hg
   · exact hm
   · rcases List.mem_cons.1 hg with rfl | hg
     · exact cs
     · rcases List.mem_cons.1 hg with rfl | hg
       · exact cr
       · cases hg
 · intro g hg
   rcases List.mem_cons.1 hg with rfl | hg
   · exact hblk
   · cases hg
end Go.Proofs.YtapjdgcfakhpaaaGreatDoor
end
section
namespace Go.Proofs.YtapjdgcfakhpaaaGreatDoor
open Go.ChangeShapes Go.WideShapes Go.ChangeAt Go.RowKit Go.PW Go.KP
theorem a18 {n:Nat} {rs:List RV} (h:U5 Tryz.prog (n+1) 9 rs):∃ s:Tx,rs=[tx s]∧s.length≤maxLen:=by
 unfold U5 at h
 rw [Tryz.underlying9] at h
 obtain ⟨s,rfl,hs⟩:=h
 refine ⟨s.data.toList,?_,?_⟩
 · show _=[RV.str (bs s.data.toList)]
   rw [bs_eta]
 · have e:s.data.toList.length=s.size:=by rw [Array.length_toList];rfl
   rw [e];exact hs
theorem V3 {n:Nat} {rs:List RV} (h:U5 Tryz.prog (n+1) 3 rs):∃ a:Int,rs=[num a]:=by
 unfold U5 at h
 rw [Tryz.underlying3] at h
 obtain ⟨a,rfl,_⟩:=h
 exact ⟨a,rfl⟩
theorem b6w {n:Nat} {rs:List RV} (h:U5 Tryz.prog (n+1) 4 rs):∃ a:Bool,rs=[.bool a]:=by
 unfold U5 at h
 rw [Tryz.underlying4] at h
 obtain ⟨a,rfl⟩:=h
 exact ⟨a,rfl⟩
theorem a0s {α:Type} {rv:α→RV} {p:α→Prop} {f:List RV→RV}:∀ css:List (List RV),(∀ cs∈css,∃ x,f cs=rv x∧p x)→∃ l:List α,css.map f=l.map rv∧∀ x∈l,p x
 | [],_=>⟨[],rfl,by simp⟩
 | c :: css,h=>by
  obtain ⟨l,q1,q2⟩:=a0s css (fun cs hcs=>h cs (List.mem_cons_of_mem _ hcs))
  obtain ⟨x,q3,q4⟩:=h c (by simp)
  refine ⟨x :: l,by simp only [List.map_cons,q1,q3],?_⟩
  intro y hy
  rcases List.mem_cons.1 hy with rfl | hy
  · exact q4
  · exact q2 y hy
theorem a97 {n:Nat} {rs:List RV} (h:U5 Tryz.prog (n+2) 23 rs):∃ l:List Tx,rs=[.list 1 (l.map tx)]∧bdS maxLen (fun t=>t.length≤maxLen) l:=by
 unfold U5 at h
 rw [Tryz.underlying23] at h
 obtain ⟨css,h1,h2,h3⟩:=h
 have hc:Tryz.prog.cellsOf 9=1:=by kernel_rfl
 have hs:a04 Tryz.prog 9=false:=by kernel_rfl
 obtain ⟨l,q1,q2⟩:=a0s (rv:=tx) (p:=fun t:Tx=>t.length≤maxLen) (f:=a4o Tryz.prog 9) css (fun cs hcs=>by
  obtain ⟨x,q3,q4⟩:=a18 (h3 cs hcs)
  exact ⟨x,by unfold a4o;rw [hs,q3];rfl,q4⟩)
 refine ⟨l,?_,?_,q2⟩
 · rw [h1,hc,q1]
 · have:=congrArg List.length q1
   simp at this
   omega
theorem c4k {n:Nat} {rs:List RV} (h:U5 Tryz.prog (n+2) 45 rs):∃ l:List Int,rs=[.list 1 (l.map num)]∧l.length≤maxLen:=by
 unfold U5 at h
 rw [Tryz.underlying45] at h
 obtain ⟨css,h1,h2,h3⟩:=h
 have hc:Tryz.prog.cellsOf 3=1:=by kernel_rfl
 have hs:a04 Tryz.prog 3=false:=by kernel_rfl
 obtain ⟨l,q1,q2⟩:=a0s (rv:=num) (p:=fun _:Int=>True) (f:=a4o Tryz.prog 3) css (fun cs hcs=>by
  obtain ⟨x,q3⟩:=V3 (h3 cs hcs)
  exact ⟨x,by unfold a4o;rw [hs,q3];rfl,trivial⟩)
 refine ⟨l,?_,?_⟩
 · rw [h1,hc,q1]
 · have:=congrArg List.length q1
   simp at this
   omega
theorem b23 {n:Nat} {rs:List RV} (h:U5 Tryz.prog (n+2) 262 rs):∃ x:LTarget,f9 x=.agg rs∧U9 maxLen x:=by
 unfold U5 at h
 rw [Tryz.underlying262] at h
 obtain ⟨r0,r1,rfl,h0,r2,r3,rfl,h1,r4,r5,rfl,h2,rfl⟩:=h
 obtain ⟨s0,rfl,b0⟩:=a18 h0
 obtain ⟨s1,rfl⟩:=V3 h1
 obtain ⟨s2,rfl⟩:=V3 h2
 exact ⟨⟨s0,s1,s2⟩,rfl,b0⟩
theorem b8t {n:Nat} {rs:List RV} (h:U5 Tryz.prog (n+3) 136 rs):∃ l:List LTarget,rs=[.list 3 (l.map f9)]∧bdS maxLen (U9 maxLen) l:=by
 unfold U5 at h
 rw [Tryz.underlying136] at h
 obtain ⟨css,h1,h2,h3⟩:=h
 have hc:Tryz.prog.cellsOf 262=3:=by kernel_rfl
 have hs:a04 Tryz.prog 262=true:=by kernel_rfl
 obtain ⟨l,q1,q2⟩:=a0s (rv:=f9) (p:=U9 maxLen) (f:=a4o Tryz.prog 262) css (fun cs hcs=>by
  obtain ⟨x,q3,q4⟩:=b23 (h3 cs hcs)
  exact ⟨x,by unfold a4o;rw [hs];exact q3.symm,q4⟩)
 refine ⟨l,?_,?_,q2⟩
 · rw [h1,hc,q1]
 · have:=congrArg List.length q1
   simp at this
   omega
theorem c7d {n:Nat} {rs:List RV} (h:U5 Tryz.prog (n+3) 264 rs):∃ x:LPeer,A6 x=.agg rs∧a1n maxLen x:=by
 unfold U5 at h
 rw [Tryz.underlying264] at h
 obtain ⟨r0,r1,rfl,h0,r2,r3,rfl,h1,r4,r5,rfl,h2,r6,r7,rfl,h3,rfl⟩:=h
 obtain ⟨s0,q0,b0⟩:=b23 h0
 unfold f9 at q0
 simp only [RV.agg.injEq] at q0
 subst q0
 obtain ⟨s1,rfl⟩:=V3 h1
 obtain ⟨s2,rfl⟩:=V3 h2
 obtain ⟨s3,rfl⟩:=b6w h3
 exact ⟨⟨s0,s1,s2,s3⟩,rfl,b0⟩
theorem c3t {n:Nat} {rs:List RV} (h:U5 Tryz.prog (n+4) 139 rs):∃ l:List LPeer,rs=[.list 6 (l.map A6)]∧bdS maxLen (a1n maxLen) l:=by
 unfold U5 at h
 rw [Tryz.underlying139] at h
 obtain ⟨css,h1,h2,h3⟩:=h
 have hc:Tryz.prog.cellsOf 264=6:=by kernel_rfl
 have hs:a04 Tryz.prog 264=true:=by kernel_rfl
 obtain ⟨l,q1,q2⟩:=a0s (rv:=A6) (p:=a1n maxLen) (f:=a4o Tryz.prog 264) css (fun cs hcs=>by
  obtain ⟨x,q3,q4⟩:=c7d (h3 cs hcs)
  exact ⟨x,by unfold a4o;rw [hs];exact q3.symm,q4⟩)
 refine ⟨l,?_,?_,q2⟩
 · rw [h1,hc,q1]
 · have:=congrArg List.length q1
   simp at this
   omega
theorem c69 {n:Nat} {rs:List RV} (h:U5 Tryz.prog (n+3) 180 rs):∃ x:LRule,l7 x=.agg rs∧Y2 maxLen x:=by
 unfold U5 at h
 rw [Tryz.underlying180] at h
 obtain ⟨r0,r1,rfl,h0,r2,r3,rfl,h1,rfl⟩:=h
 obtain ⟨s0,rfl,b0⟩:=a18 h0
 obtain ⟨s1,rfl,b1⟩:=a97 h1
 exact ⟨⟨s0,s1⟩,rfl,⟨b0,b1⟩⟩
theorem c3j {n:Nat} {rs:List RV} (h:U5 Tryz.prog (n+4) 24 rs):∃ l:List LRule,rs=[.list 2 (l.map l7)]∧bdS maxLen (Y2 maxLen) l:=by
 unfold U5 at h
 rw [Tryz.underlying24] at h
 obtain ⟨css,h1,h2,h3⟩:=h
 have hc:Tryz.prog.cellsOf 180=2:=by kernel_rfl
 have hs:a04 Tryz.prog 180=true:=by kernel_rfl
 obtain ⟨l,q1,q2⟩:=a0s (rv:=l7) (p:=Y2 maxLen) (f:=a4o Tryz.prog 180) css (fun cs hcs=>by
  obtain ⟨x,q3,q4⟩:=c69 (h3 cs hcs)
  exact ⟨x,by unfold a4o;rw [hs];exact q3.symm,q4⟩)
 refine ⟨l,?_,?_,q2⟩
 · rw [h1,hc,q1]
 · have:=congrArg List.length q1
   simp at this
   omega
theorem c01 {n:Nat} {rs:List RV} (h:U5 Tryz.prog (n+5) 26 rs):∃ x:LPolicy,x5 x=.agg rs∧a0p maxLen x:=by
 unfold U5 at h
 rw [Tryz.underlying26] at h
 obtain ⟨r0,r1,rfl,h0,r2,r3,rfl,h1,r4,r5,rfl,h2,rfl⟩:=h
 obtain ⟨s0,rfl,b0⟩:=a18 h0
 obtain ⟨s1,rfl,b1⟩:=a97 h1
 obtain ⟨s2,rfl,b2⟩:=c3j h2
 exact ⟨⟨s0,s1,s2⟩,rfl,⟨b0,b1,b2⟩⟩
theorem c41 {n:Nat} {rs:List RV} (h:U5 Tryz.prog (n+4) 138 rs):∃ x:LGroup,M4 x=.agg rs∧a2d maxLen x:=by
 unfold U5 at h
 rw [Tryz.underlying138] at h
 obtain ⟨r0,r1,rfl,h0,r2,r3,rfl,h1,r4,r5,rfl,h2,rfl⟩:=h
 obtain ⟨s0,rfl,b0⟩:=a18 h0
 obtain ⟨s1,rfl⟩:=V3 h1
 obtain ⟨s2,rfl,b2⟩:=b8t h2
 exact ⟨⟨s0,s1,s2⟩,rfl,⟨b0,b2⟩⟩
theorem c0x {n:Nat} {rs:List RV} (h:U5 Tryz.prog (n+2) 308 rs):∃ x:LReport,i8 x=.agg rs∧X9 maxLen x:=by
 unfold U5 at h
 rw [Tryz.underlying308] at h
 obtain ⟨r0,r1,rfl,h0,r2,r3,rfl,h1,r4,r5,rfl,h2,r6,r7,rfl,h3,rfl⟩:=h
 obtain ⟨s0,rfl⟩:=V3 h0
 obtain ⟨s1,rfl⟩:=V3 h1
 obtain ⟨s2,rfl⟩:=V3 h2
 obtain ⟨s3,rfl,b3⟩:=a18 h3
 exact ⟨⟨s0,s1,s2,s3⟩,rfl,b3⟩
theorem b8y {n:Nat} {rs:List RV} (h:U5 Tryz.prog (n+3) 140 rs):∃ l:List LReport,rs=[.list 4 (l.map i8)]∧bdS maxLen (X9 maxLen) l:=by
 unfold U5 at h
 rw [Tryz.underlying140] at h
 obtain ⟨css,h1,h2,h3⟩:=h
 have hc:Tryz.prog.cellsOf 308=4:=by kernel_rfl
 have hs:a04 Tryz.prog 308=true:=by kernel_rfl
 obtain ⟨l,q1,q2⟩:=a0s (rv:=i8) (p:=X9 maxLen) (f:=a4o Tryz.prog 308) css (fun cs hcs=>by
  obtain ⟨x,q3,q4⟩:=c0x (h3 cs hcs)
  exact ⟨x,by unfold a4o;rw [hs];exact q3.symm,q4⟩)
 refine ⟨l,?_,?_,q2⟩
 · rw [h1,hc,q1]
 · have:=congrArg List.length q1
   simp at this
   omega
theorem c3m {n:Nat} {rs:List RV} (h:U5 Tryz.prog (n+4) 142 rs):∃ x:LQueue,L5 x=.agg rs∧a2y maxLen x:=by
 unfold U5 at h
 rw [Tryz.underlying142] at h
 obtain ⟨r0,r1,rfl,h0,r2,r3,rfl,h1,rfl⟩:=h
 obtain ⟨s0,rfl,b0⟩:=b8y h0
 obtain ⟨s1,rfl,b1⟩:=a97 h1
 exact ⟨⟨s0,s1⟩,rfl,⟨b0,b1⟩⟩
theorem b96 {n:Nat} {rs:List RV} (h:U5 Tryz.prog (n+5) 144 rs):∃ x:LChannel,j6 x=.agg rs∧R4 maxLen x:=by
 unfold U5 at h
 rw [Tryz.underlying144] at h
 obtain ⟨r0,r1,rfl,h0,r2,r3,rfl,h1,r4,r5,rfl,h2,rfl⟩:=h
 obtain ⟨s0,q0,b0⟩:=c41 h0
 unfold M4 at q0
 simp only [RV.agg.injEq] at q0
 subst q0
 obtain ⟨s1,rfl,b1⟩:=c3t h1
 obtain ⟨s2,q2,b2⟩:=c3m h2
 unfold L5 at q2
 simp only [RV.agg.injEq] at q2
 subst q2
 exact ⟨⟨s0,s1,s2⟩,rfl,⟨b0,b1,b2⟩⟩
theorem b7u {n:Nat} {rs:List RV} (h:U5 Tryz.prog (n+6) 22 rs):∃ l:List LChannel,rs=[.list 6 (l.map j6)]∧bdS maxLen (R4 maxLen) l:=by
 unfold U5 at h
 rw [Tryz.underlying22] at h
 obtain ⟨css,h1,h2,h3⟩:=h
 have hc:Tryz.prog.cellsOf 144=6:=by kernel_rfl
 have hs:a04 Tryz.prog 144=true:=by kernel_rfl
 obtain ⟨l,q1,q2⟩:=a0s (rv:=j6) (p:=R4 maxLen) (f:=a4o Tryz.prog 144) css (fun cs hcs=>by
  obtain ⟨x,q3,q4⟩:=b96 (h3 cs hcs)
  exact ⟨x,by unfold a4o;rw [hs];exact q3.symm,q4⟩)
 refine ⟨l,?_,?_,q2⟩
 · rw [h1,hc,q1]
 · have:=congrArg List.length q1
   simp at this
   omega
theorem c5c {n:Nat} {rs:List RV} (h:U5 Tryz.prog (n+2) 159 rs):∃ x:LEntry,G5 x=.agg rs∧b1x maxLen x:=by
 unfold U5 at h
 rw [Tryz.underlying159] at h
 obtain ⟨r0,r1,rfl,h0,r2,r3,rfl,h1,r4,r5,rfl,h2,rfl⟩:=h
 obtain ⟨s0,rfl⟩:=V3 h0
 obtain ⟨s1,rfl⟩:=V3 h1
 obtain ⟨s2,rfl⟩:=V3 h2
 exact ⟨⟨s0,s1,s2⟩,rfl,trivial⟩
theorem c2e {n:Nat} {rs:List RV} (h:U5 Tryz.prog (n+3) 27 rs):∃ l:List LEntry,rs=[.list 3 (l.map G5)]∧bdS maxLen (b1x maxLen) l:=by
 unfold U5 at h
 rw [Tryz.underlying27] at h
 obtain ⟨css,h1,h2,h3⟩:=h
 have hc:Tryz.prog.cellsOf 159=3:=by kernel_rfl
 have hs:a04 Tryz.prog 159=true:=by kernel_rfl
 obtain ⟨l,q1,q2⟩:=a0s (rv:=G5) (p:=b1x maxLen) (f:=a4o Tryz.prog 159) css (fun cs hcs=>by
  obtain ⟨x,q3,q4⟩:=c5c (h3 cs hcs)
  exact ⟨x,by unfold a4o;rw [hs];exact q3.symm,q4⟩)
 refine ⟨l,?_,?_,q2⟩
 · rw [h1,hc,q1]
 · have:=congrArg List.length q1
   simp at this
   omega
theorem c63 {n:Nat} {rs:List RV} (h:U5 Tryz.prog (n+3) 146 rs):∃ x:LWire,I0 x=.agg rs∧a0c maxLen x:=by
 unfold U5 at h
 rw [Tryz.underlying146] at h
 obtain ⟨r0,r1,rfl,h0,r2,r3,rfl,h1,r4,r5,rfl,h2,r6,r7,rfl,h3,r8,r9,rfl,h4,r10,r11,rfl,h5,r12,r13,rfl,h6,rfl⟩:=h
 obtain ⟨s0,rfl⟩:=V3 h0
 obtain ⟨s1,rfl⟩:=V3 h1
 obtain ⟨s2,rfl,b2⟩:=a18 h2
 obtain ⟨s3,rfl,b3⟩:=a18 h3
 obtain ⟨s4,rfl,b4⟩:=c4k h4
 obtain ⟨s5,rfl,b5⟩:=a18 h5
 obtain ⟨s6,rfl⟩:=b6w h6
 exact ⟨⟨s0,s1,s2,s3,s4,s5,s6⟩,rfl,⟨b2,b3,b4,b5⟩⟩
theorem c3d {n:Nat} {rs:List RV} (h:U5 Tryz.prog (n+4) 28 rs):∃ l:List LWire,rs=[.list 7 (l.map I0)]∧bdS maxLen (a0c maxLen) l:=by
 unfold U5 at h
 rw [Tryz.underlying28] at h
 obtain ⟨css,h1,h2,h3⟩:=h
 have hc:Tryz.prog.cellsOf 146=7:=by kernel_rfl
 have hs:a04 Tryz.prog 146=true:=by kernel_rfl
 obtain ⟨l,q1,q2⟩:=a0s (rv:=I0) (p:=a0c maxLen) (f:=a4o Tryz.prog 146) css (fun cs hcs=>by
  obtain ⟨x,q3,q4⟩:=c63 (h3 cs hcs)
  exact ⟨x,by unfold a4o;rw [hs];exact q3.symm,q4⟩)
 refine ⟨l,?_,?_,q2⟩
 · rw [h1,hc,q1]
 · have:=congrArg List.length q1
   simp at this
   omega
theorem c7c {n:Nat} {rs:List RV} (h:U5 Tryz.prog (n+7) 30 rs):∃ x:LPipe,L8 x=.agg rs∧a07 maxLen x:=by
 unfold U5 at h
 rw [Tryz.underlying30] at h
 obtain ⟨r0,r1,rfl,h0,r2,r3,rfl,h1,r4,r5,rfl,h2,r6,r7,rfl,h3,r8,r9,rfl,h4,r10,r11,rfl,h5,rfl⟩:=h
 obtain ⟨s0,rfl,b0⟩:=b7u h0
 obtain ⟨s1,q1,b1⟩:=c01 h1
 unfold x5 at q1
 simp only [RV.agg.injEq] at q1
 subst q1
 obtain ⟨s2,rfl⟩:=V3 h2
 obtain ⟨s3,rfl⟩:=V3 h3
 obtain ⟨s4,rfl,b4⟩:=c2e h4
 obtain ⟨s5,rfl,b5⟩:=c3d h5
 exact ⟨⟨s0,s1,s2,s3,s4,s5⟩,rfl,⟨b0,b1,b4.1,b5⟩⟩
end Go.Proofs.YtapjdgcfakhpaaaGreatDoor
end
section
namespace Go.Proofs.YtapjdgcfakhpaaaGreatDoor
open Go Go.ChangeShapes Go.WideShapes Go.ChangeAt Go.RowKit
theorem z5All:mapsRowed Tryz.prog=true:=by kernel_rfl
theorem z6All:(Tryz.prog.stops == [])=true:=by kernel_rfl
theorem z7All:(Tryz.prog.stopKnobs == [])=true:=by kernel_rfl
theorem z9All:Tryz.prog.stopsHeard=true:=by kernel_rfl
theorem z10All:Tryz.prog.mayEnter=true:=by kernel_rfl
theorem y3All:true=Tryz.prog.looks []:=by kernel_rfl
theorem z8All:Tryz.prog.plainKeys=true:=by kernel_rfl
theorem z11All:Tryz.prog.liftsFinal=false:=by kernel_rfl
theorem y2All:Tryz.prog.mainIs=some (true, "623716184fac11865da5f91f4b0ea5d8be7eed1129acb74824fb6633e5927957".toList):=by kernel_rfl
end Go.Proofs.YtapjdgcfakhpaaaGreatDoor
end
