/- Fb: merged out of KUa, KUc, KUd. -/
import Derived.Test.YtapjdgcfakhpaaaGreatDoorFa
import Derived.Test.YtapjdgcfakhpaaaGreatDoorEa
import Derived.Test.YtapjdgcfakhpaaaGreatDoorRows
import Derived.ProofKit
import Derived.LaidMore
import Derived.OpenShut
import Derived.Stop.Joined
import Derived.Lib.LaidTab
import Derived.Test.YtapjdgcfakhpaaaGreatDoorAc
import Derived.JoinedOf
import Derived.SevenTiedAt
set_option linter.unusedSectionVars false
set_option linter.unusedSimpArgs false
set_option linter.unusedVariables false
set_option maxRecDepth 100000
section
namespace Go.Proofs.YtapjdgcfakhpaaaGreatDoor
open Go.ChangeShapes Go.WideShapes Go.ChangeAt Go.WideMaps Go.WideElems Go.RowKit Go.PW Go.KP
theorem own:ownKnob Tryz.prog.godebug=none:=by kernel_rfl
theorem b86:laidOutB Tryz.prog=true:=by kernel_rfl
def c17:List (String×DataW Unit):=[("math/bits.deBruijn32tab",Rows.laid_math_bits_deBruijn32tab),("math/bits.deBruijn64tab",Rows.laid_math_bits_deBruijn64tab),("internal/strconv.uint64pow10",Rows.laid_internal_strconv_uint64pow10),("strconv.ErrRange",Rows.laid_strconv_ErrRange),("strconv.ErrSyntax",Rows.laid_strconv_ErrSyntax)]
theorem c2t (os:Os) (args:Array Value):laidMetH Tryz.prog c17 ((World.doorLaid Tryz.prog 4000 os).forCall (fun _ _=>0) ⟨#[],args,[]⟩).memory:=
 laidMetH_of_parts3 (fuel:=8) (laidMet_of_run' 8 (by kernel_rfl) (by kernel_rfl)) (by kernel_rfl) (by kernel_rfl)
theorem b6v {H:Type}:(Rows.laid_internal_strconv_uint64pow10:DataW H)=Lib.tabData .u64 Lib.pow10Tab:=by rfl
theorem gPow:Tryz.prog.globalNamed "internal/strconv.uint64pow10" = some 1:=by kernel_rfl
theorem gSyn:Tryz.prog.globalNamed "strconv.ErrSyntax" = some 2:=by kernel_rfl
theorem gRng:Tryz.prog.globalNamed "strconv.ErrRange" = some 3:=by kernel_rfl
def b3h (P:Program) (t:TypeId):Bool:=match P.underlying t with | some (.interface _)=>true | _=>false
theorem b5d {w:World} {enc:TypeId×Value→Unit} {sp:Nat→Bool} {fuel:Nat} {t:TypeId} {cs:List Value} {name:String} {d:DataW Unit} {p:List MemPlace} (ht:b3h Tryz.prog t=true)
 (h:DataW.trod enc Tryz.prog w 0 sp false fuel t cs=some (.iface name d,p)):∃ u v,cs=[.iface u v]:=by
 unfold b3h at ht
 split at ht
 · rename_i ms hu
   cases fuel with
   | zero=>simp [DataW.trod] at h
   | succ fuel=>
    unfold DataW.trod at h
    rw [hu] at h
    split at h<;>simp_all
 · cases ht
theorem gh_of {W:World} (hL:laidMetH Tryz.prog c17 W) (hsh:W.ShapedOpen Tryz.prog):∃ I:GH,(∀ g∈I.gs,W.cell? ⟨g.1,g.2.1,none⟩=some g.2.2)∧∀ g∈I.bs,W.heap[g.1]?=some g.2:=by
 obtain ⟨m,hm⟩:=Tryz.laysM145.s1_3 W hsh
 rw [MakeChecks.laidMetH_plain _ _ _ (by kernel_rfl)] at hL
 obtain ⟨ps,⟨g0,t0,cs0,f0,p0,q0,_,_,_,_,⟨g1,t1,cs1,f1,p1,q1,_,_,_,_,⟨g2,t2,cs2,f2,p2,q2,hg2,ht2,hv2,hd2,⟨g3,t3,cs3,f3,p3,q3,hg3,ht3,hv3,hd3,⟨g4,t4,cs4,f4,p4,q4,hg4,ht4,hv4,hd4,_⟩,_⟩,_⟩,_⟩,_⟩,_⟩:=hL
 have k1:(Tryz.prog.globals[1]?).map (·.type)=some 345:=by kernel_rfl
 have k2:Tryz.prog.underlying 345=some (.array 20 290):=by kernel_rfl
 have k3:Tryz.prog.underlying 290=some (.int .u64):=by kernel_rfl
 have k4:Tryz.prog.cellsOf 290=1:=by kernel_rfl
 have k5:Tryz.prog.cellsOf 345=20:=by kernel_rfl
 have y1:(Tryz.prog.globals[2]?).map (·.type)=some 255:=by kernel_rfl
 have r1:(Tryz.prog.globals[3]?).map (·.type)=some 255:=by kernel_rfl
 have y2:b3h Tryz.prog 255=true:=by kernel_rfl
 have r2:=y2
 obtain rfl:=Option.some.inj (gPow.symm.trans hg2)
 obtain rfl:=Option.some.inj (gRng.symm.trans hg3)
 obtain rfl:=Option.some.inj (gSyn.symm.trans hg4)
 obtain rfl:=Option.some.inj (k1.symm.trans ht2)
 obtain rfl:=Option.some.inj (r1.symm.trans ht3)
 obtain rfl:=Option.some.inj (y1.symm.trans ht4)
 rw [b6v] at hd2
 have hp:=Lib.cells_of_tab k2 k3 k4 k5 hd2
 have hblock:∃ T z,W.heap[1]?=some (.cells cs2 T z):=by
  have h2:=hv2
  unfold World.var? at h2
  rw [gPow] at h2
  simp only [Option.bind_some] at h2
  split at h2
  · rename_i c T z hh
    obtain rfl:=Option.some.inj h2
    exact ⟨T,z,hh⟩
  · cases h2
 obtain ⟨T,z,hblk⟩:=hblock
 have ecs:cs2=(Lib.pow10Tab.map fun z=>Value.int .u64 z).toArray:=by rw [← hp]
 rw [ecs] at hblk
 obtain ⟨ur,vr,hr⟩:=b5d r2 hd3
 obtain ⟨us,vs,hs⟩:=b5d y2 hd4
 have cr:W.cell? ⟨3,0,none⟩=some (.iface ur vr):=by
  have:=World.var?_cell hg3 hv3 0
  rw [Array.eq_one_of_toList hr] at this
  simpa using this
 have cs:W.cell? ⟨2,0,none⟩=some (.iface us vs):=by
  have:=World.var?_cell hg4 hv4 0
  rw [Array.eq_one_of_toList hs] at this
  simpa using this
 refine ⟨{ gs:=[(0,0,.int .i64 m),(2,0,.iface us vs),(3,0,.iface ur vr)],bs:=[(1,.cells (Lib.pow10Tab.map fun z=>Value.int .u64 z).toArray T z)],m:=m,hm:=by simp,T10:=T,z10:=z,h10:=by simp,ts:=us,ps:=vs,hs:=by simp,tr:=ur,pr:=vr,hr:=by simp },?_,?_⟩
 · intro g hg
   rcases List.mem_cons.1 hg with rfl | hg
   · exact hm
   · rcases List.mem_cons.1 hg with rfl | hg
     · exact cs
     · rcases List.mem_cons.1 hg with rfl | hg
       · exact cr
       · cases hg
 · intro g hg
   rcases List.mem_cons.1 hg with rfl | hg
   · exact hblk
   · cases hg
end Go.Proofs.YtapjdgcfakhpaaaGreatDoor
end
section
namespace Go.Proofs.YtapjdgcfakhpaaaGreatDoor
open Go.ChangeShapes Go.WideShapes Go.ChangeAt Go.RowKit Go.PW Go.KP
theorem a7i {n:Nat} {rs:List RV} (h:a0y Tryz.prog (n+1) 9 rs):∃ s:Tx,rs=[tx s]∧s.length≤maxLen:=by
 unfold a0y at h
 rw [Tryz.underlying9] at h
 obtain ⟨s,rfl,hs⟩:=h
 refine ⟨s.data.toList,?_,?_⟩
 · show _=[RV.str (bs s.data.toList)]
   rw [bs_eta]
 · have e:s.data.toList.length=s.size:=by rw [Array.length_toList];rfl
   rw [e];exact hs
theorem a6b {α:Type} {rv:α→RV} {p:α→Prop} {f:List RV→RV}:∀ css:List (List RV),(∀ cs∈css,∃ x,f cs=rv x∧p x)→∃ l:List α,css.map f=l.map rv∧∀ x∈l,p x
 | [],_=>⟨[],rfl,by simp⟩
 | c :: css,h=>by
  obtain ⟨l,q1,q2⟩:=a6b css (fun cs hcs=>h cs (List.mem_cons_of_mem _ hcs))
  obtain ⟨x,q3,q4⟩:=h c (by simp)
  refine ⟨x :: l,by simp only [List.map_cons,q1,q3],?_⟩
  intro y hy
  rcases List.mem_cons.1 hy with rfl | hy
  · exact q4
  · exact q2 y hy
theorem a9p {n:Nat} {rs:List RV} (h:a0y Tryz.prog (n+2) 23 rs):∃ l:List Tx,rs=[.list 1 (l.map tx)]∧bdS maxLen (fun t=>t.length≤maxLen) l:=by
 unfold a0y at h
 rw [Tryz.underlying23] at h
 obtain ⟨css,h1,h2,h3⟩:=h
 have hc:Tryz.prog.cellsOf 9=1:=by kernel_rfl
 have hs:a25 Tryz.prog 9=false:=by kernel_rfl
 obtain ⟨l,q1,q2⟩:=a6b (rv:=tx) (p:=fun t:Tx=>t.length≤maxLen) (f:=a82 Tryz.prog 9) css (fun cs hcs=>by
  obtain ⟨x,q3,q4⟩:=a7i (h3 cs hcs)
  exact ⟨x,by unfold a82;rw [hs,q3];rfl,q4⟩)
 refine ⟨l,?_,?_,q2⟩
 · rw [h1,hc,q1]
 · have:=congrArg List.length q1
   simp at this
   omega
theorem b9u {n:Nat} {rs:List RV} (h:a0y Tryz.prog (n+3) 180 rs):∃ x:LRule,j5 x=.agg rs∧R6 maxLen x:=by
 unfold a0y at h
 rw [Tryz.underlying180] at h
 obtain ⟨r0,r1,rfl,h0,r2,r3,rfl,h1,rfl⟩:=h
 obtain ⟨s0,rfl,b0⟩:=a7i h0
 obtain ⟨s1,rfl,b1⟩:=a9p h1
 exact ⟨⟨s0,s1⟩,rfl,⟨b0,b1⟩⟩
theorem b6q {n:Nat} {rs:List RV} (h:a0y Tryz.prog (n+4) 24 rs):∃ l:List LRule,rs=[.list 2 (l.map j5)]∧bdS maxLen (R6 maxLen) l:=by
 unfold a0y at h
 rw [Tryz.underlying24] at h
 obtain ⟨css,h1,h2,h3⟩:=h
 have hc:Tryz.prog.cellsOf 180=2:=by kernel_rfl
 have hs:a25 Tryz.prog 180=true:=by kernel_rfl
 obtain ⟨l,q1,q2⟩:=a6b (rv:=j5) (p:=R6 maxLen) (f:=a82 Tryz.prog 180) css (fun cs hcs=>by
  obtain ⟨x,q3,q4⟩:=b9u (h3 cs hcs)
  exact ⟨x,by unfold a82;rw [hs];exact q3.symm,q4⟩)
 refine ⟨l,?_,?_,q2⟩
 · rw [h1,hc,q1]
 · have:=congrArg List.length q1
   simp at this
   omega
theorem b4j {n:Nat} {rs:List RV} (h:a0y Tryz.prog (n+5) 26 rs):∃ x:LPolicy,j8 x=.agg rs∧M4 maxLen x:=by
 unfold a0y at h
 rw [Tryz.underlying26] at h
 obtain ⟨r0,r1,rfl,h0,r2,r3,rfl,h1,r4,r5,rfl,h2,rfl⟩:=h
 obtain ⟨s0,rfl,b0⟩:=a7i h0
 obtain ⟨s1,rfl,b1⟩:=a9p h1
 obtain ⟨s2,rfl,b2⟩:=b6q h2
 exact ⟨⟨s0,s1,s2⟩,rfl,⟨b0,b1,b2⟩⟩
end Go.Proofs.YtapjdgcfakhpaaaGreatDoor
end
section
namespace Go.Proofs.YtapjdgcfakhpaaaGreatDoor
open Go Go.ChangeShapes Go.WideShapes Go.ChangeAt Go.RowKit
theorem z5All:mapsRowed Tryz.prog=true:=by kernel_rfl
theorem z6All:(Tryz.prog.stops == [])=true:=by kernel_rfl
theorem z7All:(Tryz.prog.stopKnobs == [])=true:=by kernel_rfl
theorem z9All:Tryz.prog.stopsHeard=true:=by kernel_rfl
theorem z10All:Tryz.prog.mayEnter=true:=by kernel_rfl
theorem y3All:true=Tryz.prog.looks []:=by kernel_rfl
theorem z8All:Tryz.prog.plainKeys=true:=by kernel_rfl
theorem z11All:Tryz.prog.liftsFinal=false:=by kernel_rfl
theorem y2All:Tryz.prog.mainIs=some (true, "623716184fac11865da5f91f4b0ea5d8be7eed1129acb74824fb6633e5927957".toList):=by kernel_rfl
end Go.Proofs.YtapjdgcfakhpaaaGreatDoor
end
