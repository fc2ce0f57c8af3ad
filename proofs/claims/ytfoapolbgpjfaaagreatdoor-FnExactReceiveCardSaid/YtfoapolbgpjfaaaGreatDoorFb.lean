/- Fb: merged out of KUa, KUc, KUd. -/
import Derived.Test.YtfoapolbgpjfaaaGreatDoorFa
import Derived.Test.YtfoapolbgpjfaaaGreatDoorEa
import Derived.Test.YtfoapolbgpjfaaaGreatDoorRows
import Derived.ProofKit
import Derived.LaidMore
import Derived.OpenShut
import Derived.Stop.Joined
import Derived.Lib.LaidTab
import Derived.Test.YtfoapolbgpjfaaaGreatDoorAc
import Derived.JoinedOf
import Derived.SevenTiedAt
set_option linter.unusedSectionVars false
set_option linter.unusedSimpArgs false
set_option linter.unusedVariables false
set_option maxRecDepth 100000
section
namespace Go.Proofs.YtfoapolbgpjfaaaGreatDoor
open Go.ChangeShapes Go.WideShapes Go.ChangeAt Go.WideMaps Go.WideElems Go.RowKit Go.PW Go.KP
theorem own:ownKnob Tryz.prog.godebug=none:=by kernel_rfl
theorem c0u:laidOutB Tryz.prog=true:=by kernel_rfl
def c4t:List (String×DataW Unit):=[("math/bits.deBruijn32tab",Rows.laid_math_bits_deBruijn32tab),("math/bits.deBruijn64tab",Rows.laid_math_bits_deBruijn64tab),("internal/strconv.uint64pow10",Rows.laid_internal_strconv_uint64pow10),("strconv.ErrRange",Rows.laid_strconv_ErrRange),("strconv.ErrSyntax",Rows.laid_strconv_ErrSyntax)]
theorem c5i (os:Os) (args:Array Value):laidMetH Tryz.prog c4t ((World.doorLaid Tryz.prog 4000 os).forCall (fun _ _=>0) ⟨#[],args,[]⟩).memory:=
 laidMetH_of_parts3 (fuel:=8) (laidMet_of_run' 8 (by kernel_rfl) (by kernel_rfl)) (by kernel_rfl) (by kernel_rfl)
theorem b8n {H:Type}:(Rows.laid_internal_strconv_uint64pow10:DataW H)=Lib.tabData .u64 Lib.pow10Tab:=by rfl
theorem gPow:Tryz.prog.globalNamed "internal/strconv.uint64pow10" = some 3:=by kernel_rfl
theorem gSyn:Tryz.prog.globalNamed "strconv.ErrSyntax" = some 4:=by kernel_rfl
theorem gRng:Tryz.prog.globalNamed "strconv.ErrRange" = some 5:=by kernel_rfl
def b44 (P:Program) (t:TypeId):Bool:=match P.underlying t with | some (.interface _)=>true | _=>false
theorem b60 {w:World} {enc:TypeId×Value→Unit} {sp:Nat→Bool} {fuel:Nat} {t:TypeId} {cs:List Value} {name:String} {d:DataW Unit} {p:List MemPlace} (ht:b44 Tryz.prog t=true)
 (h:DataW.trod enc Tryz.prog w 0 sp false fuel t cs=some (.iface name d,p)):∃ u v,cs=[.iface u v]:=by
 unfold b44 at ht
 split at ht
 · rename_i ms hu
   cases fuel with
   | zero=>simp [DataW.trod] at h
   | succ fuel=>
    unfold DataW.trod at h
    rw [hu] at h
    split at h<;>simp_all
 · cases ht
theorem gh_of {W:World} (hL:laidMetH Tryz.prog c4t W) (hsh:W.ShapedOpen Tryz.prog):∃ I:GH,(∀ g∈I.gs,W.cell? ⟨g.1,g.2.1,none⟩=some g.2.2)∧∀ g∈I.bs,W.heap[g.1]?=some g.2:=by
 obtain ⟨m,hm⟩:=Tryz.laysM145.s1_3 W hsh
 rw [MakeChecks.laidMetH_plain _ _ _ (by kernel_rfl)] at hL
 obtain ⟨ps,⟨g0,t0,cs0,f0,p0,q0,_,_,_,_,⟨g1,t1,cs1,f1,p1,q1,_,_,_,_,⟨g2,t2,cs2,f2,p2,q2,hg2,ht2,hv2,hd2,⟨g3,t3,cs3,f3,p3,q3,hg3,ht3,hv3,hd3,⟨g4,t4,cs4,f4,p4,q4,hg4,ht4,hv4,hd4,_⟩,_⟩,_⟩,_⟩,_⟩,_⟩:=hL
 have k1:(Tryz.prog.globals[3]?).map (·.type)=some 253:=by kernel_rfl
 have k2:Tryz.prog.underlying 253=some (.array 20 243):=by kernel_rfl
 have k3:Tryz.prog.underlying 243=some (.int .u64):=by kernel_rfl
 have k4:Tryz.prog.cellsOf 243=1:=by kernel_rfl
 have k5:Tryz.prog.cellsOf 253=20:=by kernel_rfl
 have y1:(Tryz.prog.globals[4]?).map (·.type)=some 201:=by kernel_rfl
 have r1:(Tryz.prog.globals[5]?).map (·.type)=some 201:=by kernel_rfl
 have y2:b44 Tryz.prog 201=true:=by kernel_rfl
 have r2:=y2
 obtain rfl:=Option.some.inj (gPow.symm.trans hg2)
 obtain rfl:=Option.some.inj (gRng.symm.trans hg3)
 obtain rfl:=Option.some.inj (gSyn.symm.trans hg4)
 obtain rfl:=Option.some.inj (k1.symm.trans ht2)
 obtain rfl:=Option.some.inj (r1.symm.trans ht3)
 obtain rfl:=Option.some.inj (y1.symm.trans ht4)
 rw [b8n] at hd2
 have hp:=Lib.cells_of_tab k2 k3 k4 k5 hd2
 have hblock:∃ T z,W.heap[3]?=some (.cells cs2 T z):=by
  have h2:=hv2
  unfold World.var? at h2
  rw [gPow] at h2
  simp only [Option.bind_some] at h2
  split at h2
  · rename_i c T z hh
    obtain rfl:=Option.some.inj h2
    exact ⟨T,z,hh⟩
  · cases h2
 obtain ⟨T,z,hblk⟩:=hblock
 have ecs:cs2=(Lib.pow10Tab.map fun z=>Value.int .u64 z).toArray:=by rw [← hp]
 rw [ecs] at hblk
 obtain ⟨ur,vr,hr⟩:=b60 r2 hd3
 obtain ⟨us,vs,hs⟩:=b60 y2 hd4
 have cr:W.cell? ⟨5,0,none⟩=some (.iface ur vr):=by
  have:=World.var?_cell hg3 hv3 0
  rw [Array.eq_one_of_toList hr] at this
  simpa using this
 have cs:W.cell? ⟨4,0,none⟩=some (.iface us vs):=by
  have:=World.var?_cell hg4 hv4 0
  rw [Array.eq_one_of_toList hs] at this
  simpa using this
 refine ⟨{ gs:=[(0,0,.int .i64 m),(4,0,.iface us vs),(5,0,.iface ur vr)],bs:=[(3,.cells (Lib.pow10Tab.map fun z=>Value.int .u64 z).toArray T z)],m:=m,hm:=by simp,T10:=T,z10:=z,h10:=by simp,ts:=us,ps:=vs,hs:=by simp,tr:=ur,pr:=vr,hr:=by simp },?_,?_⟩
 · intro g hg
   rcases List.mem_cons.1 hg with rfl | hg
   · exact hm
   · rcases List.mem_cons.1 hg with rfl | hg
     · exact cs
     · rcases List.mem_cons.1 hg with rfl | hg
       · exact cr
       · cases hg
 · intro g hg
   rcases List.mem_cons.1 hg with rfl | hg
   · exact hblk
   · cases hg
end Go.Proofs.YtfoapolbgpjfaaaGreatDoor
end
section
namespace Go.Proofs.YtfoapolbgpjfaaaGreatDoor
open Go.ChangeShapes Go.WideShapes Go.ChangeAt Go.RowKit Go.PW Go.KP
theorem a5r {n:Nat} {rs:List RV} (h:a0b Tryz.prog (n+1) 9 rs):∃ s:Tx,rs=[tx s]∧s.length≤maxLen:=by
 unfold a0b at h
 rw [Tryz.underlying9] at h
 obtain ⟨s,rfl,hs⟩:=h
 refine ⟨s.data.toList,?_,?_⟩
 · show _=[RV.str (bs s.data.toList)]
   rw [bs_eta]
 · have e:s.data.toList.length=s.size:=by rw [Array.length_toList];rfl
   rw [e];exact hs
theorem b3r {n:Nat} {rs:List RV} (h:a0b Tryz.prog (n+1) 3 rs):∃ a:Int,rs=[num a]:=by
 unfold a0b at h
 rw [Tryz.underlying3] at h
 obtain ⟨a,rfl,_⟩:=h
 exact ⟨a,rfl⟩
theorem b9z {n:Nat} {rs:List RV} (h:a0b Tryz.prog (n+1) 4 rs):∃ a:Bool,rs=[.bool a]:=by
 unfold a0b at h
 rw [Tryz.underlying4] at h
 obtain ⟨a,rfl⟩:=h
 exact ⟨a,rfl⟩
theorem a61 {α:Type} {rv:α→RV} {p:α→Prop} {f:List RV→RV}:∀ css:List (List RV),(∀ cs∈css,∃ x,f cs=rv x∧p x)→∃ l:List α,css.map f=l.map rv∧∀ x∈l,p x
 | [],_=>⟨[],rfl,by simp⟩
 | c :: css,h=>by
  obtain ⟨l,q1,q2⟩:=a61 css (fun cs hcs=>h cs (List.mem_cons_of_mem _ hcs))
  obtain ⟨x,q3,q4⟩:=h c (by simp)
  refine ⟨x :: l,by simp only [List.map_cons,q1,q3],?_⟩
  intro y hy
  rcases List.mem_cons.1 hy with rfl | hy
  · exact q4
  · exact q2 y hy
theorem b77 {n:Nat} {rs:List RV} (h:a0b Tryz.prog (n+2) 40 rs):∃ l:List Tx,rs=[.list 1 (l.map tx)]∧bdS maxLen (fun t=>t.length≤maxLen) l:=by
 unfold a0b at h
 rw [Tryz.underlying40] at h
 obtain ⟨css,h1,h2,h3⟩:=h
 have hc:Tryz.prog.cellsOf 9=1:=by kernel_rfl
 have hs:a3v Tryz.prog 9=false:=by kernel_rfl
 obtain ⟨l,q1,q2⟩:=a61 (rv:=tx) (p:=fun t:Tx=>t.length≤maxLen) (f:=a9z Tryz.prog 9) css (fun cs hcs=>by
  obtain ⟨x,q3,q4⟩:=a5r (h3 cs hcs)
  exact ⟨x,by unfold a9z;rw [hs,q3];rfl,q4⟩)
 refine ⟨l,?_,?_,q2⟩
 · rw [h1,hc,q1]
 · have:=congrArg List.length q1
   simp at this
   omega
theorem a68 {n:Nat} {rs:List RV} (h:a0b Tryz.prog (n+2) 28 rs):∃ l:List Int,rs=[.list 1 (l.map num)]∧l.length≤maxLen:=by
 unfold a0b at h
 rw [Tryz.underlying28] at h
 obtain ⟨css,h1,h2,h3⟩:=h
 have hc:Tryz.prog.cellsOf 3=1:=by kernel_rfl
 have hs:a3v Tryz.prog 3=false:=by kernel_rfl
 obtain ⟨l,q1,q2⟩:=a61 (rv:=num) (p:=fun _:Int=>True) (f:=a9z Tryz.prog 3) css (fun cs hcs=>by
  obtain ⟨x,q3⟩:=b3r (h3 cs hcs)
  exact ⟨x,by unfold a9z;rw [hs,q3];rfl,trivial⟩)
 refine ⟨l,?_,?_⟩
 · rw [h1,hc,q1]
 · have:=congrArg List.length q1
   simp at this
   omega
theorem c52 {n:Nat} {rs:List RV} (h:a0b Tryz.prog (n+3) 52 rs):∃ x:LBox,O9 x=.agg rs∧a16 maxLen x:=by
 unfold a0b at h
 rw [Tryz.underlying52] at h
 obtain ⟨r0,r1,rfl,h0,r2,r3,rfl,h1,r4,r5,rfl,h2,rfl⟩:=h
 obtain ⟨s0,rfl,b0⟩:=a68 h0
 obtain ⟨s1,rfl,b1⟩:=a68 h1
 obtain ⟨s2,rfl,b2⟩:=b77 h2
 exact ⟨⟨s0,s1,s2⟩,rfl,⟨b0,b1,b2⟩⟩
end Go.Proofs.YtfoapolbgpjfaaaGreatDoor
end
section
namespace Go.Proofs.YtfoapolbgpjfaaaGreatDoor
open Go Go.ChangeShapes Go.WideShapes Go.ChangeAt Go.RowKit
theorem z5All:mapsRowed Tryz.prog=true:=by kernel_rfl
theorem z6All:(Tryz.prog.stops == [])=true:=by kernel_rfl
theorem z7All:(Tryz.prog.stopKnobs == [])=true:=by kernel_rfl
theorem z9All:Tryz.prog.stopsHeard=true:=by kernel_rfl
theorem z10All:Tryz.prog.mayEnter=true:=by kernel_rfl
theorem y3All:true=Tryz.prog.looks []:=by kernel_rfl
theorem z8All:Tryz.prog.plainKeys=true:=by kernel_rfl
theorem z11All:Tryz.prog.liftsFinal=false:=by kernel_rfl
theorem y2All:Tryz.prog.mainIs=some (true, "ac77757cf8e36a121016858653550d99e632a575f00785e5295a67301b5b6646".toList):=by kernel_rfl
end Go.Proofs.YtfoapolbgpjfaaaGreatDoor
end
