/- Fb: merged out of KUa, KUc, KUd. -/
import Derived.Test.YtfoapolbgpjfaaaGreatDoorFa
import Derived.Test.YtfoapolbgpjfaaaGreatDoorEa
import Derived.Test.YtfoapolbgpjfaaaGreatDoorRows
import Derived.ProofKit
import Derived.LaidMore
import Derived.OpenShut
import Derived.Stop.Joined
import Derived.Lib.LaidTab
import Derived.Test.YtfoapolbgpjfaaaGreatDoorAc
import Derived.JoinedOf
import Derived.SevenTiedAt
set_option linter.unusedSectionVars false
set_option linter.unusedSimpArgs false
set_option linter.unusedVariables false
set_option maxRecDepth 100000
section
namespace Go.Proofs.YtfoapolbgpjfaaaGreatDoor
open Go.ChangeShapes Go.WideShapes Go.ChangeAt Go.WideMaps Go.WideElems Go.RowKit Go.PW Go.KP
theorem own:ownKnob Tryz.prog.godebug=none:=by kernel_rfl
theorem b51:laidOutB Tryz.prog=true:=by kernel_rfl
def b8r:List (String×DataW Unit):=[("math/bits.deBruijn32tab",Rows.laid_math_bits_deBruijn32tab),("math/bits.deBruijn64tab",Rows.laid_math_bits_deBruijn64tab),("internal/strconv.uint64pow10",Rows.laid_internal_strconv_uint64pow10),("strconv.ErrRange",Rows.laid_strconv_ErrRange),("strconv.ErrSyntax",Rows.laid_strconv_ErrSyntax)]
theorem b87 (os:Os) (args:Array Value):laidMetH Tryz.prog b8r ((World.doorLaid Tryz.prog 4000 os).forCall (fun _ _=>0) ⟨#[],args,[]⟩).memory:=
 laidMetH_of_parts3 (fuel:=8) (laidMet_of_run' 8 (by kernel_rfl) (by kernel_rfl)) (by kernel_rfl) (by kernel_rfl)
theorem b32 {H:Type}:(Rows.laid_internal_strconv_uint64pow10:DataW H)=Lib.tabData .u64 Lib.pow10Tab:=by rfl
theorem gPow:Tryz.prog.globalNamed "internal/strconv.uint64pow10" = some 3:=by kernel_rfl
theorem gSyn:Tryz.prog.globalNamed "strconv.ErrSyntax" = some 4:=by kernel_rfl
theorem gRng:Tryz.prog.globalNamed "strconv.ErrRange" = some 5:=by kernel_rfl
def b1i (P:Program) (t:TypeId):Bool:=match P.underlying t with | some (.interface _)=>true | _=>false
theorem b2y {w:World} {enc:TypeId×Value→Unit} {sp:Nat→Bool} {fuel:Nat} {t:TypeId} {cs:List Value} {name:String} {d:DataW Unit} {p:List MemPlace} (ht:b1i Tryz.prog t=true)
 (h:DataW.trod enc Tryz.prog w 0 sp false fuel t cs=some (.iface name d,p)):∃ u v,cs=[.iface u v]:=by
 unfold b1i at ht
 split at ht
 · rename_i ms hu
   cases fuel with
   | zero=>simp [DataW.trod] at h
   | succ fuel=>
    unfold DataW.trod at h
    rw [hu] at h
    split at h<;>simp_all
 · cases ht
theorem gh_of {W:World} (hL:laidMetH Tryz.prog b8r W) (hsh:W.ShapedOpen Tryz.prog):∃ I:GH,(∀ g∈I.gs,W.cell? ⟨g.1,g.2.1,none⟩=some g.2.2)∧∀ g∈I.bs,W.heap[g.1]?=some g.2:=by
 obtain ⟨m,hm⟩:=Tryz.laysM145.s1_3 W hsh
 rw [MakeChecks.laidMetH_plain _ _ _ (by kernel_rfl)] at hL
 obtain ⟨ps,⟨g0,t0,cs0,f0,p0,q0,_,_,_,_,⟨g1,t1,cs1,f1,p1,q1,_,_,_,_,⟨g2,t2,cs2,f2,p2,q2,hg2,ht2,hv2,hd2,⟨g3,t3,cs3,f3,p3,q3,hg3,ht3,hv3,hd3,⟨g4,t4,cs4,f4,p4,q4,hg4,ht4,hv4,hd4,_⟩,_⟩,_⟩,_⟩,_⟩,_⟩:=hL
 have k1:(Tryz.prog.globals[3]?).map (·.type)=some 253:=by kernel_rfl
 have k2:Tryz.prog.underlying 253=some (.array 20 243):=by kernel_rfl
 have k3:Tryz.prog.underlying 243=some (.int .u64):=by kernel_rfl
 have k4:Tryz.prog.cellsOf 243=1:=by kernel_rfl
 have k5:Tryz.prog.cellsOf 253=20:=by kernel_rfl
 have y1:(Tryz.prog.globals[4]?).map (·.type)=some 201:=by kernel_rfl
 have r1:(Tryz.prog.globals[5]?).map (·.type)=some 201:=by kernel_rfl
 have y2:b1i Tryz.prog 201=true:=by kernel_rfl
 have r2:=y2
 obtain rfl:=Option.some.inj (gPow.symm.trans hg2)
 obtain rfl:=Option.some.inj (gRng.symm.trans hg3)
 obtain rfl:=Option.some.inj (gSyn.symm.trans hg4)
 obtain rfl:=Option.some.inj (k1.symm.trans ht2)
 obtain rfl:=Option.some.inj (r1.symm.trans ht3)
 obtain rfl:=Option.some.inj (y1.symm.trans ht4)
 rw [b32] at hd2
 have hp:=Lib.cells_of_tab k2 k3 k4 k5 hd2
 have hblock:∃ T z,W.heap[3]?=some (.cells cs2 T z):=by
  have h2:=hv2
  unfold World.var? at h2
  rw [gPow] at h2
  simp only [Option.bind_some] at h2
  split at h2
  · rename_i c T z hh
    obtain rfl:=Option.some.inj h2
    exact ⟨T,z,hh⟩
  · cases h2
 obtain ⟨T,z,hblk⟩:=hblock
 have ecs:cs2=(Lib.pow10Tab.map fun z=>Value.int .u64 z).toArray:=by rw [← hp]
 rw [ecs] at hblk
 obtain ⟨ur,vr,hr⟩:=b2y r2 hd3
 obtain ⟨us,vs,hs⟩:=b2y y2 hd4
 have cr:W.cell? ⟨5,0,none⟩=some (.iface ur vr):=by
  have:=World.var?_cell hg3 hv3 0
  rw [Array.eq_one_of_toList hr] at this
  simpa using this
 have cs:W.cell? ⟨4,0,none⟩=some (.iface us vs):=by
  have:=World.var?_cell hg4 hv4 0
  rw [Array.eq_one_of_toList hs] at this
  simpa using this
 refine ⟨{ gs:=[(0,0,.int .i64 m),(4,0,.iface us vs),(5,0,.iface ur vr)],bs:=[(3,.cells (Lib.pow10Tab.map fun z=>Value.int .u64 z).toArray T z)],m:=m,hm:=by simp,T10:=T,z10:=z,h10:=by simp,ts:=us,ps:=vs,hs:=by simp,tr:=ur,pr:=vr,hr:=by simp },?_,?_⟩
 · intro g hg
   rcases List.mem_cons.1 hg with rfl | hg
   · exact hm
   · rcases List.mem_cons.1 hg with rfl | hg
     · exact cs
     · rcases List.mem_cons.1 hg with rfl | hg
       · exact cr
       · cases hg
 · intro g hg
   rcases List.mem_cons.1 hg with rfl | hg
   · exact hblk
   · cases hg
end Go.Proofs.YtfoapolbgpjfaaaGreatDoor
end
section
namespace Go.Proofs.YtfoapolbgpjfaaaGreatDoor
open Go.ChangeShapes Go.WideShapes Go.ChangeAt Go.RowKit Go.PW Go.KP
theorem a06 {n:Nat} {rs:List RV} (h:a0r Tryz.prog (n+1) 9 rs):∃ s:Tx,rs=[tx s]∧s.length≤maxLen:=by
 unfold a0r at h
 rw [Tryz.underlying9] at h
 obtain ⟨s,rfl,hs⟩:=h
 refine ⟨s.data.toList,?_,?_⟩
 · show _=[RV.str (bs s.data.toList)]
   rw [bs_eta]
 · have e:s.data.toList.length=s.size:=by rw [Array.length_toList];rfl
   rw [e];exact hs
theorem b0f {n:Nat} {rs:List RV} (h:a0r Tryz.prog (n+1) 3 rs):∃ a:Int,rs=[num a]:=by
 unfold a0r at h
 rw [Tryz.underlying3] at h
 obtain ⟨a,rfl,_⟩:=h
 exact ⟨a,rfl⟩
theorem b5b {n:Nat} {rs:List RV} (h:a0r Tryz.prog (n+1) 4 rs):∃ a:Bool,rs=[.bool a]:=by
 unfold a0r at h
 rw [Tryz.underlying4] at h
 obtain ⟨a,rfl⟩:=h
 exact ⟨a,rfl⟩
theorem a7q {n:Nat} {rs:List RV} (h:a0r Tryz.prog (n+2) 77 rs):∃ x:LViolation,j3 x=.agg rs∧C9 maxLen x:=by
 unfold a0r at h
 rw [Tryz.underlying77] at h
 obtain ⟨r0,r1,rfl,h0,r2,r3,rfl,h1,r4,r5,rfl,h2,r6,r7,rfl,h3,r8,r9,rfl,h4,r10,r11,rfl,h5,r12,r13,rfl,h6,r14,r15,rfl,h7,r16,r17,rfl,h8,rfl⟩:=h
 obtain ⟨s0,rfl,b0⟩:=a06 h0
 obtain ⟨s1,rfl,b1⟩:=a06 h1
 obtain ⟨s2,rfl,b2⟩:=a06 h2
 obtain ⟨s3,rfl,b3⟩:=a06 h3
 obtain ⟨s4,rfl,b4⟩:=a06 h4
 obtain ⟨s5,rfl,b5⟩:=a06 h5
 obtain ⟨s6,rfl⟩:=b0f h6
 obtain ⟨s7,rfl⟩:=b0f h7
 obtain ⟨s8,rfl⟩:=b5b h8
 exact ⟨⟨s0,s1,s2,s3,s4,s5,s6,s7,s8⟩,rfl,⟨b0,b1,b2,b3,b4,b5⟩⟩
end Go.Proofs.YtfoapolbgpjfaaaGreatDoor
end
section
namespace Go.Proofs.YtfoapolbgpjfaaaGreatDoor
open Go Go.ChangeShapes Go.WideShapes Go.ChangeAt Go.RowKit
theorem z5All:mapsRowed Tryz.prog=true:=by kernel_rfl
theorem z6All:(Tryz.prog.stops == [])=true:=by kernel_rfl
theorem z7All:(Tryz.prog.stopKnobs == [])=true:=by kernel_rfl
theorem z9All:Tryz.prog.stopsHeard=true:=by kernel_rfl
theorem z10All:Tryz.prog.mayEnter=true:=by kernel_rfl
theorem y3All:true=Tryz.prog.looks []:=by kernel_rfl
theorem z8All:Tryz.prog.plainKeys=true:=by kernel_rfl
theorem z11All:Tryz.prog.liftsFinal=false:=by kernel_rfl
theorem y2All:Tryz.prog.mainIs=some (true, "ac77757cf8e36a121016858653550d99e632a575f00785e5295a67301b5b6646".toList):=by kernel_rfl
end Go.Proofs.YtfoapolbgpjfaaaGreatDoor
end
