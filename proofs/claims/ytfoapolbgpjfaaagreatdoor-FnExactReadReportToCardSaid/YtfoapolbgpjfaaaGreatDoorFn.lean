/- Fn: merged out of KXak, KXal, KXam. -/
import Derived.Test.YtfoapolbgpjfaaaGreatDoorFm
import Derived.Test.YtfoapolbgpjfaaaGreatDoorPWaj
import Derived.Test.YtfoapolbgpjfaaaGreatDoorProg
import Derived.WalkKit
import Derived.Defers
import Derived.Recover
import Derived.Laws.Pointers
import Derived.Test.YtfoapolbgpjfaaaGreatDoorAc
import Derived.Test.YtfoapolbgpjfaaaGreatDoorBa
set_option linter.unusedSectionVars false
set_option linter.unusedSimpArgs false
set_option linter.unusedVariables false
set_option maxRecDepth 1000000
section
namespace Go.Proofs
open Go.PW Go.KP Go.RowKit
theorem b92 (p q:Value) (w:World) :
 CallsD Tryz.prog 179 #[p,q] .returning w fun e u' w'=>e=.returned (.tuple #[])∧u'=.returning∧w'=w:=by
 refine callsD_of_wpS Tryz.func179 rfl fun c₀ cs hu=>?_
 apply wpS_seq
 apply wpS_region
 simp [wpOpsS,go_sem,recoverD,hu,Tryz.ntmps179,Exit.thenS]
 apply wpS_seq
 apply wpS_region
 simp [wpOpsS,go_sem,recoverD,hu,Exit.thenS]
 refine wpS_cond (t:=false) (by simp [Act.eval,Array.replicate]) ?_
 simp only [Bool.false_eq_true,if_false]
 refine wpS_of_wp (wp_skip ?_)
 cases c₀
 simp_all [bodyPostS,results,Tryz.results179]
theorem c2n (v:Value) (w:World):(Instr.typeAssert (.iface 191 v) 20 191 true).run Tryz.prog w=.ok (.tuple #[v,.bool true]) w:=by kernel_rfl
def c26:Value:=.agg #[.int .i64 0,.int .i64 0,.string ⟨#[]⟩,.slice none 0 0,.slice none 0 0]
theorem b7p (b1 b2:Nat) (c:Int) (older:List PanicEntry) (w w1 w2:World) (h1:(Instr.storeAt 81 (.pointer (some ⟨b1,0,none⟩)) c26).run Tryz.prog w=.ok () w1) (h2:(Instr.storeAt 3 (.pointer (some ⟨b2,0,none⟩)) (.int .i64 c)).run Tryz.prog w1=.ok () w2) :
 CallsD Tryz.prog 179 #[.pointer (some ⟨b1,0,none⟩),.pointer (some ⟨b2,0,none⟩)] (.panicking ({ v:=.iface 191 (.int .i64 c),recovered:=false } :: older)) w fun e u' w'=>
  e=.returned (.tuple #[])∧u'=.panicking ({ v:=.iface 191 (.int .i64 c),recovered:=true } :: older)∧w'=w2:=by
 refine callsD_of_wpS Tryz.func179 rfl fun c₀ cs hu=>?_
 apply wpS_seq
 apply wpS_region
 simp [wpOpsS,go_sem,recoverD,hu,Tryz.ntmps179,Exit.thenS]
 apply wpS_seq
 apply wpS_region
 simp [wpOpsS,go_sem,recoverD,hu,Exit.thenS]
 refine wpS_cond (t:=true) (by simp [Act.eval,Array.replicate]) ?_
 simp only [if_true]
 apply wpS_seq
 apply wpS_region
 simp [wpOpsS,go_sem,Exit.thenS,c2n]
 apply wpS_seq
 apply wpS_seq
 apply wpS_region
 simp [wpOpsS,go_sem,Exit.thenS]
 refine wpS_cond (t:=false) (by simp [Act.eval,Array.replicate]) ?_
 simp only [Bool.false_eq_true,if_false]
 refine wpS_of_wp (wp_skip ?_)
 simp only [Exit.thenS]
 apply wpS_region
 simp [go_sem,c26] at h1 h2
 simp [wpOpsS,go_sem,h1,h2]
 simp [bodyPostS,results,Tryz.results179,go_sem]
end Go.Proofs
end
section
namespace Go.Proofs
open Go.PW Go.KP Go.RowKit
attribute [local simp] RV.cells RV.one PV.cells PV.solid PV.one N3 b8 O9 P0 RV.ofCells elems PV.killL
theorem b55 {r0 r1 rest:Code} (h:Tryz.f118.body=some (.seq r0 (.seq r1 rest))) (a:Act) (w:World) (Q:Exit→Act→World→Prop) (ha:a.tmps.size=Tryz.f118.ntmps) (hd:a.defers=[])
 (hQ:∀ a':Act,a'.tmps.size=a.tmps.size→(∀ x,x≠5→a'.tmps.getD x undef=a.tmps.getD x undef)→a'.defers=[{ target:=.fn (.func 179) #[a.tmps.getD 2 undef,a.tmps.getD 3 undef],args:=#[] }]→Q .normal a' w):r1.wp Tryz.prog Q a w:=by
 have hmf:∀ (fn:Fn) (first cap:Array Value) (w:World),(Instr.makeFunc fn first cap).run Tryz.prog w=.ok (.func fn first cap) w:=fun _ _ _ _=>rfl
 simp only [Tryz.f118] at h
 cases h
 go_wp2
 have hsz:a.tmps.size=23:=ha
 refine hQ _ (by simp) (fun x hx=>?_) ?_
 · simp [Array.getD_eq_getD_getElem?,Array.getElem?_setIfInBounds,Ne.symm hx]
 · simp [Array.getD_eq_getD_getElem?,hsz]
variable [GH]
def rdP (t:Tx):PV:=.tup [.val (N6 (a0a t).1),.val (num (a0a t).2)]
def b4h (t:Tx):St:=⟨S7 [(0,.val (tx t)),(2,.ptr 2 0),(3,.ptr 3 0)],S0 [(2,.box [.val (num 0),.val (num 0),.val (tx []),.emp 1,.emp 5]),(3,.box [.val (num 0)])]⟩
def rjS (t:Tx):St:=⟨S7 [(0,.val (tx t)),(2,.ptr 901 0),(3,.ptr 902 0)],S0 [(901,.box [.val (num 0),.val (num 0),.val (tx []),.emp 1,.emp 5]),(902,.box [.val (num 0)])]⟩
def FinR (t:Tx):PExit→St→Prop
 | .normal,st=>∃ st',Le st st'∧R1 [.c 2 true 5,.c 3 false 1] st'=some (rdP t)
 | .ret,st=>∃ st',Le st st'∧R1 [.c 2 true 5,.c 3 false 1] st'=some (rdP t)
 | .pan r,st=>r=flt (a0a t).2∧(a0a t).1=.mk 0 0 [] [] []∧st.env 2=.ptr 901 0∧st.env 3=.ptr 902 0∧(∃ cs,st.mem 901=.box cs∧cs.length=5)∧∃ q,st.mem 902=.box [q]
 | .exit _,_=>False
theorem b56 (t:Tx):W4 Tryz.prog ir118_r0 (w8 [.val (tx t)]) (fun e st=>e=.normal∧Le st (b4h t)):=by
 unfold ir118_r0
 rw [d9]
 simp [w8,J8,P1,b9,q8,num,tx,N7]
 refine Le.mk _ _ ?_ ?_
 · simp [num,tx,PV.kill]
 · simp [num,tx,MObj.kill,PV.kill,PV.killL]
theorem b20 (t:Tx) (ht:t.length≤1048576):W4 Tryz.prog ir118 (rjS t) (FinR t):=by
 have hv:=(b69 t ht 4 (by omega) 0 (by omega))
 have hj:=c0k t 4 0
 obtain ⟨Z,hZ⟩:∃ Z,FinR t=Z:=⟨_,rfl⟩
 rw [hZ]
 unfold ir118 rjS
 rw [d9]
 simp [num,tx,b8,N7]
 cases hp:a66 t 4 0 with
 | err c z=>
  rw [hp] at hv hj
  obtain ⟨hv,_⟩:=hv
  unfold JF ri at hv
  simp only [] at hv
  have hr:a0a t=(.mk 0 0 [] [] [],c):=by unfold a0a b1y;rw [← hj];rfl
  refine Q8 (id:=8) rfl rfl (by omega) rfl (by simp [tx,num,RV.flat]) hv ?_
  show Z _ _
  rw [← hZ]
  refine ⟨by rw [hr],by rw [hr],?_,?_,⟨[.val (num 0),.val (num 0),.val (tx []),.emp 1,.emp 5],?_,rfl⟩,⟨.val (num 0),?_⟩⟩
  all_goals simp [num,tx,PV.kill,PV.killL,MObj.kill]
 | ok x k=>
  rw [hp] at hv hj
  obtain ⟨hv,hle⟩:=hv
  have hk:=hle x k rfl
  unfold JF ri at hv
  simp only [] at hv
  obtain ⟨a1,a2,a3,a4,a5⟩:=x
  rw [N4] at hv
  have hsk:=a6e t k hk ht
  have hk2:=S4 hk
  obtain ⟨k2,hk2e⟩:∃ k2,f5 t k=k2:=⟨_,rfl⟩
  rw [hk2e] at hsk hk2
  unfold ri at hsk
  refine F5 (id:=8) rfl rfl (by omega) rfl rfl hv ?_
  simp [num,tx,PV.shift,PV.shiftL,PV.kill,PV.killL,b8]
  refine F5 (id:=8) rfl rfl (by omega) rfl rfl hsk ?_
  simp [num,tx,PV.shift,PV.shiftL,PV.kill,PV.killL,b7,b8]
  have hrd:a0a t=if k2=t.length then (.mk a1 a2 a3 a4 a5,0) else (.mk 0 0 [] [] [],3):=by
   unfold a0a b1y
   rw [← hj]
   simp only [JZ.jr,hk2e]
   by_cases e:k2=t.length
   · rw [if_pos e,if_pos e]
   · rw [if_neg e,if_neg e]
  by_cases e:k2=t.length
  · rw [if_pos e] at hrd
    have e':¬ (k2:Int) < (t.length:Int):=by omega
    have e2:¬ k2 < t.length:=by omega
    simp [num,tx,e',e2,PV.kill,PV.killL,b8]
    rw [← hZ]
    refine ⟨_,Le.refl _,?_⟩
    unfold rdP
    rw [hrd]
    simp [num,tx,N4,R1,U6,a12,b8,O9]
  · rw [if_neg e] at hrd
    have e':(k2:Int) < (t.length:Int):=by omega
    have e2:k2 < t.length:=by omega
    simp [num,tx,e',e2,PV.kill,PV.killL,b8]
    refine Q8 (id:=8) rfl rfl (by omega) rfl (by simp [tx,num,RV.flat]) (a23 t k2 3) ?_
    show Z _ _
    rw [← hZ]
    refine ⟨by rw [hrd],by rw [hrd],?_,?_,⟨[.val (num a1),.val (num a2),.val (tx a3),.val (.list 1 (a4.map tx)),.val (.list 5 (a5.map N6))],?_,rfl⟩,⟨.val (num 0),?_⟩⟩
    all_goals simp [num,tx,PV.kill,PV.killL,MObj.kill]
def b54 (F:Ctx) (vx vy:Value):Ctx:={ F with pn:=fun i=>if i=901 then some vx else if i=902 then some vy else none,dl:=[{ target:=.fn (.func 179) #[vx,vy],args:=#[] }] }
theorem rj_inv {t:Tx} {F:Ctx} {γ:Nat→Value} {a a':Act} {w:World} (hI:Inv F γ (b4h t) a w) (h1:a'.tmps.size=a.tmps.size) (h2:∀ x,x≠5→a'.tmps.getD x undef=a.tmps.getD x undef) (h3:a'.defers=[{ target:=.fn (.func 179) #[a.tmps.getD 2 undef,a.tmps.getD 3 undef],args:=#[] }]) (hpb:F.pb=[]) (hpo:F.po=fun _=>none) (hpv:F.pv=none) :
 ∃ b1 b2 γ',a.tmps.getD 2 undef=.pointer (some ⟨b1,0,none⟩)∧a.tmps.getD 3 undef=.pointer (some ⟨b2,0,none⟩)∧Inv (b54 F (.pointer (some ⟨b1,0,none⟩)) (.pointer (some ⟨b2,0,none⟩))) γ' (rjS t) a' w:=by
 obtain ⟨b1,arr1,T1,g1,k1,s1,o1,c1⟩:=hI.mem.box 2 _ rfl
 obtain ⟨b2,arr2,T2,g2,k2,s2,o2,c2⟩:=hI.mem.box 3 _ rfl
 have p1:=hI.env 2
 have p2:=hI.env 3
 have v1:a.tmps.getD 2 undef=.pointer (some ⟨b1,0,none⟩):=by
  have e:(b4h t).env 2=.ptr 2 0:=rfl
  rw [e] at p1
  generalize a.tmps.getD 2 undef=v at p1
  cases p1 with
  | ptr id off b h=>rw [g1] at h;cases h;rfl
 have v2:a.tmps.getD 3 undef=.pointer (some ⟨b2,0,none⟩):=by
  have e:(b4h t).env 3=.ptr 3 0:=rfl
  rw [e] at p2
  generalize a.tmps.getD 3 undef=v at p2
  cases p2 with
  | ptr id off b h=>rw [g2] at h;cases h;rfl
 rw [v1,v2] at h3
 let γ':Nat→Value:=fun i=>if i=901 then γ 2 else if i=902 then γ 3 else γ i
 have G1:γ' 901=.pointer (some ⟨b1,0,none⟩):=g1
 have G2:γ' 902=.pointer (some ⟨b2,0,none⟩):=g2
 have M':∀ i,(rjS t).mem i=if i=901 then .box [.val (num 0),.val (num 0),.val (tx []),.emp 1,.emp 5] else if i=902 then .box [.val (num 0)] else .dead:=fun i=>by
  unfold rjS
  simp only [S0]
 have M0:∀ i,(b4h t).mem i=if i=2 then .box [.val (num 0),.val (num 0),.val (tx []),.emp 1,.emp 5] else if i=3 then .box [.val (num 0)] else .dead:=fun i=>by
  unfold b4h
  simp only [S0]
 have l':∀ i,((rjS t).mem i).live=true→i=901∨i=902:=fun i hi=>by
  rw [M'] at hi
  by_cases e1:i=901
  · exact .inl e1
  · by_cases e2:i=902
    · exact .inr e2
    · simp [e1,e2,MObj.live] at hi
 have l0:∀ i,((b4h t).mem i).live=true→i=2∨i=3:=fun i hi=>by
  rw [M0] at hi
  by_cases e1:i=2
  · exact .inl e1
  · by_cases e2:i=3
    · exact .inr e2
    · simp [e1,e2,MObj.live] at hi
 have hL:K3 F.L γ' (rjS t).mem=K3 F.L γ (b4h t).mem:=by
  funext b
  refine propext ⟨?_,?_⟩
  · rintro (h | ⟨i,h,hb⟩)
    · exact .inl h
    · rcases l' i h with rfl | rfl
      · exact .inr ⟨2,rfl,hb⟩
      · exact .inr ⟨3,rfl,hb⟩
  · rintro (h | ⟨i,h,hb⟩)
    · exact .inl h
    · rcases l0 i h with rfl | rfl
      · exact .inr ⟨901,rfl,hb⟩
      · exact .inr ⟨902,rfl,hb⟩
 have rg:∀ {p:PV} {v:Value},((∃ r,p=.val r)∨∃ s,p=.emp s)→RepP γ (K3 F.L γ (b4h t).mem) w p v→RepP γ' (K3 F.L γ' (rjS t).mem) w p v:=fun {p v} hp h=>by
  rw [hL]
  rcases hp with ⟨r,rfl⟩ | ⟨s,rfl⟩
  · cases h with
    | val _ _ h=>exact .val _ _ h
  · cases h with
    | emp=>exact .emp _
 have ob:∀ {i b},F.B≤b∨F.wr i b→F.B≤b:=fun {i b} h=>by
  rcases h with h | h | h
  · exact h
  · rw [hpb] at h;cases h
  · rw [hpo] at h;cases h
 refine ⟨b1,b2,γ',v1,v2,⟨h1.trans hI.sz,h3,fun x=>?_,⟨fun id cs hid=>?_,fun id E sz xs hid=>?_,fun id E sz n c hid=>?_,fun id s clk m hid=>?_,fun id id' b q1 q2 q3 q4=>?_⟩,⟨hI.fr.os,hI.fr.tape,hI.fr.output,hI.fr.size,hI.fr.block,hI.fr.hL,hI.fr.hpb,hI.fr.hn,hI.fr.hgb,hI.fr.hpo,fun i v h=>?_⟩,?_,fun k b cs h _=>?_,fun v E sz xs h _=>?_,fun i v h _=>?_⟩⟩
 · by_cases x0:x=0
   · subst x0
     rw [h2 0 (by omega)]
     exact rg (.inl ⟨_,rfl⟩) (hI.env 0)
   · by_cases x2:x=2
     · subst x2
       rw [h2 2 (by omega),v1]
       exact .ptr 901 0 b1 G1
     · by_cases x3:x=3
       · subst x3
         rw [h2 3 (by omega),v2]
         exact .ptr 902 0 b2 G2
       · have e:(rjS t).env x=.undef:=by simp [rjS,S7,x0,x2,x3]
         rw [e]
         exact .undef _
 · rcases l' id (by rw [hid];rfl) with rfl | rfl
   · have hcs:cs=[.val (num 0),.val (num 0),.val (tx []),.emp 1,.emp 5]:=by rw [M'] at hid;simpa using hid.symm
     subst hcs
     refine ⟨b1,arr1,T1,G1,k1,s1,.inl (ob o1),fun j hj=>?_⟩
     refine ⟨rg ?_ (c1 j hj).1,(c1 j hj).2⟩
     match j,hj with
     | 0,_=>exact .inl ⟨_,rfl⟩
     | 1,_=>exact .inl ⟨_,rfl⟩
     | 2,_=>exact .inl ⟨_,rfl⟩
     | 3,_=>exact .inr ⟨_,rfl⟩
     | 4,_=>exact .inr ⟨_,rfl⟩
     | n+5,h=>simp at h;omega
   · have hcs:cs=[.val (num 0)]:=by rw [M'] at hid;simpa using hid.symm
     subst hcs
     refine ⟨b2,arr2,T2,G2,k2,s2,.inl (ob o2),fun j hj=>?_⟩
     refine ⟨rg ?_ (c2 j hj).1,(c2 j hj).2⟩
     match j,hj with
     | 0,_=>exact .inl ⟨_,rfl⟩
     | n+1,h=>simp at h
 · rcases l' id (by rw [hid];rfl) with rfl | rfl<;>rw [M'] at hid<;>simp at hid
 · rcases l' id (by rw [hid];rfl) with rfl | rfl<;>rw [M'] at hid<;>simp at hid
 · rcases l' id (by rw [hid];rfl) with rfl | rfl<;>rw [M'] at hid<;>simp at hid
 · rcases l' id q1 with rfl | rfl<;>rcases l' id' q2 with rfl | rfl
   · rfl
   · have:=hI.mem.inj 2 3 b rfl rfl q3 q4
     omega
   · have:=hI.mem.inj 3 2 b rfl rfl q3 q4
     omega
   · rfl
 · simp only [b54] at h
   by_cases e1:i=901
   · omega
   · by_cases e2:i=902
     · omega
     · simp [e1,e2] at h
 · show Globs (K3 F.L γ' (rjS t).mem) w
   rw [hL];exact hI.gl
 · have h':F.pb[k]?=some b:=h
   rw [hpb] at h';simp at h'
 · have h':F.pv=some v:=h
   rw [hpv] at h';cases h'
 · simp only [b54] at h
   by_cases e1:i=901
   · subst e1;rw [G1];simpa using h
   · by_cases e2:i=902
     · subst e2;rw [G2];simpa using h
     · simp [e1,e2] at h
theorem c3k:∃ i,Tryz.prog.info? 81=some i∧i.size=5:=by
 have h:(match Tryz.prog.info? 81 with | some i=>i.size == 5 | none=>false)=true:=by kernel_rfl
 split at h
 · rename_i i hi;exact ⟨i,hi,by simpa using h⟩
 · cases h
theorem c3l:∃ i,Tryz.prog.info? 3=some i∧i.size=1:=by
 have h:(match Tryz.prog.info? 3 with | some i=>i.size == 1 | none=>false)=true:=by kernel_rfl
 split at h
 · rename_i i hi;exact ⟨i,hi,by simpa using h⟩
 · cases h
theorem b9d (t:Tx) (ht:t.length≤1048576):z6 Tryz.prog 118 [.val (tx t)] (.ret (rdP t) []) []:=by
 intro L w vs ms hL hgl hgb hargs hnd
 have hc:=ok118
 unfold c5a at hc
 rw [Tryz.func118] at hc
 obtain ⟨r0,r1,rest,hb⟩:∃ r0 r1 rest,Tryz.f118.body=some (.seq r0 (.seq r1 rest)):=⟨_,_,_,rfl⟩
 simp only [hb,Bool.and_eq_true,decide_eq_true_eq] at hc
 obtain ⟨⟨⟨⟨hres,hn⟩,hna⟩,hc0⟩,hcr⟩:=hc
 obtain ⟨hml,hvl,γ,hI⟩:=b38 («as»:=[.val (tx t)]) (n:=Tryz.f118.ntmps) hL hgl hgb hargs hnd hn (by simp)
 have hms:ms=[]:=List.eq_nil_of_length_eq_zero hml
 subst hms
 refine calls_of_wp_defers Tryz.func118 hb ?_
 have fin:∀ (vx vy:Value) (γe:Nat→Value) (ste:St) (a:Act) (we:World),Inv (b54 { L:=L,w0:=w,pb:=[],n:=Tryz.f118.ntmps } vx vy) γe ste a we→(∃ st',Le ste st'∧R1 [.c 2 true 5,.c 3 false 1] st'=some (rdP t)) →
  ∃ v,(results Tryz.f118 a.tmps).run Tryz.prog we=.ok v we∧(Go.PW.Outside [] w we∧∃ v' γ',Ending.returned v=.returned v'∧RepP γ' (K3 L γ' (Q0 [])) we (rdP t) v'∧MemInv { L:=L,w0:=w,pb:=[],n:=0 } γ' (Q0 []) we∧a2q (K3 L γ' (Q0 [])) we [] []):=fun vx vy γe ste a we hIe ⟨st',hle,hq⟩=>by
  obtain ⟨γ2,hI2⟩:=hle _ γe a we hIe
  obtain ⟨v,hrun,hrep⟩:=a55 hI2 hres hq
  have dead:∀ i,Q0 [] i=.dead:=fun i=>by simp [Q0]
  refine ⟨v,hrun,⟨hI2.fr.os,hI2.fr.tape,hI2.fr.output,hI2.fr.size,fun k hk hp=>hI2.fr.block k hk (fun h=>by rcases h with h | ⟨i,h⟩;cases h;cases h)⟩,v,γ2,rfl,?_,⟨fun id cs h=>?_,fun id E sz xs h=>?_,fun id E sz n c h=>?_,fun id s clk m h=>?_,fun id id' b h=>?_⟩,⟨rfl,fun i b cells h=>by simp at h⟩⟩
  · refine hrep.keep (fun b o v hb hc=>⟨fun h=>hb ?_,hc⟩)
    rcases h with h | ⟨i,h,_⟩
    · exact .inl h
    · rw [dead] at h;cases h
  · rw [dead] at h;cases h
  · rw [dead] at h;cases h
  · rw [dead] at h;cases h
  · rw [dead] at h;cases h
  · rw [dead] at h;cases h
 refine wp_seq (U9 mixed ir118_r0 r0 hc0 hI (b56 t) ?_)
 intro e γ1 st1 a1 w1 hI1 hk1
 obtain ⟨rfl,hle⟩:=hk1
 obtain ⟨γ2,hI2⟩:=hle _ γ1 a1 w1 hI1
 show (Code.seq r1 rest).wp Tryz.prog _ a1 w1
 refine wp_seq (b55 hb a1 w1 _ hI2.sz hI2.df (fun a' h1 h2 h3=>?_))
 obtain ⟨b1,b2,γ3,v1,v2,hI3⟩:=rj_inv hI2 h1 h2 h3 rfl rfl rfl
 refine U9 mixed ir118 rest hcr hI3 (b20 t ht) ?_
 intro e γe ste a we hIe hfin
 have idle:(∃ st',Le ste st'∧R1 [.c 2 true 5,.c 3 false 1] st'=some (rdP t))→Leaves Tryz.prog Tryz.f118 a.tmps (fun e w'=>Go.PW.Outside [] w w'∧∃ v γ,e=.returned v∧RepP γ (K3 L γ (Q0 [])) w' (rdP t) v∧MemInv { L:=L,w0:=w,pb:=[],n:=0 } γ (Q0 []) w'∧a2q (K3 L γ (Q0 [])) w' [] []) a.defers .returning we:=fun hq=>by
  rw [hIe.df]
  refine leaves_cons (f:=179) (args:=#[.pointer (some ⟨b1,0,none⟩),.pointer (some ⟨b2,0,none⟩)]) (by simp) (by simp [go_sem]) ?_
  refine (b92 _ _ we).mono ?_
  rintro e u' w'' ⟨rfl,rfl,rfl⟩
  exact fin _ _ γe ste a _ hIe hq
 cases e with
 | normal=>exact idle hfin
 | ret=>exact idle hfin
 | exit id=>exact hfin.elim
 | pan r=>
  intro v hv
  obtain ⟨rfl,hz,e2,e3,⟨cs,m1,hcs⟩,q,m2⟩:=hfin
  cases hv with
  | ifc _ _ v0 hv=>
   cases hv with
   | int=>
    obtain ⟨i5,hi5,hn5⟩:=c3k
    obtain ⟨i1,hi1,hn1⟩:=c3l
    have g1:γe 901=.pointer (some ⟨b1,0,none⟩):=hIe.pinn 901 _ rfl (by rw [m1];rfl)
    have g2:γe 902=.pointer (some ⟨b2,0,none⟩):=hIe.pinn 902 _ rfl (by rw [m2];rfl)
    have hp:RepP γe (K3 (b54 { L:=L,w0:=w,pb:=[],n:=Tryz.f118.ntmps } (.pointer (some ⟨b1,0,none⟩)) (.pointer (some ⟨b2,0,none⟩))).L γe ste.mem) we (.agg [.val (num 0),.val (num 0),.val (tx []),.emp 1,.emp 5]) c26:=by
     refine .agg _ _ rfl (fun j hj=>?_)
     match j,hj with
     | 0,_=>exact .val _ _ (.int _ _)
     | 1,_=>exact .val _ _ (.int _ _)
     | 2,_=>exact .val _ _ (.str _)
     | 3,_=>exact .emp _
     | 4,_=>exact .emp _
     | n+5,h=>simp at h;omega
    obtain ⟨wA,hA,hIA⟩:=a8m hIe (off:=0) hi5 hn5 g1 m1 hp (by simp [PV.solid,num,tx]) rfl (by simp [PV.cells,hcs])
    have m2':({ ste with mem:=upd 901 (.box (P0 cs 0 (PV.agg [.val (num 0),.val (num 0),.val (tx []),.emp 1,.emp 5]).cells)) ste.mem }:St).mem 902=.box [q]:=by
     simp [upd,m2]
    obtain ⟨wB,hB,hIB⟩:=a8m hIA (off:=0) (p:=.val (num (a0a t).2)) hi1 hn1 g2 m2' (.val _ _ (.int _ _)) rfl rfl (by simp [PV.cells,RV.cells,num])
    show Leaves Tryz.prog Tryz.f118 a.tmps _ a.defers _ we
    rw [hIe.df]
    refine leaves_cons (f:=179) (args:=#[.pointer (some ⟨b1,0,none⟩),.pointer (some ⟨b2,0,none⟩)]) (by simp) (by simp [go_sem]) ?_
    refine (b7p b1 b2 _ [] we wA wB hA hB).mono ?_
    rintro e u' w'' ⟨rfl,rfl,rfl⟩
    refine fin _ _ γe _ a _ hIB ⟨St.fin _,(Le.freeze _ _).trans (Le.plain _),?_⟩
    unfold rdP
    rw [hz]
    have hs5:P0 cs 0 [PV.val (num 0),.val (num 0),.val (tx []),.emp 1,.emp 5]=[PV.val (num 0),.val (num 0),.val (tx []),.emp 1,.emp 5]:=by
     unfold P0
     simp [hcs,List.drop_eq_nil_of_le]
    simp [R1,U6,a12,J7,e2,e3,PV.frz,PV.pl,St.fin,St.freeze,MObj.pl,PV.frzL,PV.plL,P0,hcs,PV.cells,RV.cells,num,tx,upd,N6,a0t,b8,O9,List.drop_eq_nil_of_le]
end Go.Proofs
end
section
namespace Go.Proofs
open Go.PW Go.KP
attribute [local simp] RV.cells RV.one PV.cells PV.solid PV.one N3 b8 O9 P0 RV.ofCells elems PV.killL
variable [GH]
def a1y (t:Tx):LJson×Int:=if t.length≤65536 then a0a t else (.mk 0 0 [] [] [],2)
def b8e (t:Tx):PV:=.tup [.val (N6 (a1y t).1),.val (num (a1y t).2)]
theorem b9h (t:Tx):z6 Tryz.prog 58 [.val (tx t)] (.ret (b8e t) []) []:=by
 refine K4 mixed ok58 rfl (fun _=>rfl) ?_
 have hl:=c4x t
 unfold ir58 b8e a1y
 rw [d9]
 simp [w8,J8,P1,b9,q8,num,tx,N7]
 refine f6 rfl rfl (.inl rfl) hl ?_
 by_cases h:t.length≤65536
 · rw [if_pos h]
   have hr:=b9d t (by omega)
   unfold rdP at hr
   obtain ⟨J,c⟩:∃ J,a0a t=J:=⟨_,rfl⟩
   rw [c] at hr ⊢
   obtain ⟨⟨a1,a2,a3,a4,a5⟩,e⟩:=J
   simp only [N4] at hr ⊢
   simp [num,tx,h]
   refine P7 rfl rfl (.inl rfl) hr ?_
   simp [num,tx,R1,U6,a12,St.fin,St.freeze,PV.frzL,PV.frz,PV.plL,PV.pl,R8,okId,MObj.pl,b8,O9,N4]
 · rw [if_neg h]
   simp [num,tx,h,R1,U6,a12,St.fin,St.freeze,PV.frzL,PV.frz,PV.plL,PV.pl,R8,okId,MObj.pl,b8,O9,N6,a0t,N7]
end Go.Proofs
end
