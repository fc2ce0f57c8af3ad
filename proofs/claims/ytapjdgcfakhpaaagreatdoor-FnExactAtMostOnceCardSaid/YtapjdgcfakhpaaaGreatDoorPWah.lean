/- A range over a map of numbers, as a node beside PC: is there an entry above c? -/
import Derived.Test.YtapjdgcfakhpaaaGreatDoorPWag
import Derived.Maps.RangeRun
set_option linter.unusedSectionVars false
set_option linter.unusedSimpArgs false
set_option linter.unusedVariables false
set_option maxRecDepth 100000
namespace Go.PW
variable [GF]
open Go.RowKit
open Go.ChangeMaps (setBlock)
def wpL (P:Program) (Q:Exit→Act→World→Prop):List Oper→(Act→World→Prop)→Act→World→Prop
 | [],K,a,w=>K a w
 | o :: os,K,a,w=>o.wp P a w (wpL P Q os K) Q
theorem a5b {P:Program} {Q:Exit→Act→World→Prop} {ops:Array Oper} {id:Nat} {a:Act} {w:World} (hg:∀ o∈ops.toList,o.guard=none) (h:wpL P Q ops.toList (fun a w=>Q .normal a w) a w):(Code.region id ops false).wp P Q a w:=by
 refine wp_region ?_
 rw [List.range_eq_range',← Array.length_toList]
 have key:∀ (os:List Oper) (k:Nat) (a:Act) (w:World),(∀ j,j < os.length→ops[k+j]?=os[j]?)→(∀ o∈os,o.guard=none)→wpL P Q os (fun a w=>Q .normal a w) a w→wpOps P ops Q (List.range' k os.length) a w:=by
  intro os
  induction os with
  | nil=>intro k a w _ _ h;exact h
  | cons o os ih=>
   intro k a w hk hg h
   have ho:ops[k]?=some o:=by simpa using hk 0 (by simp)
   rw [List.length_cons,List.range'_succ,wpOps_cons]
   unfold wpOp
   simp only [ho]
   have hw:Region.wanted o (yielded ops a.tmps)=true:=by unfold Region.wanted;rw [hg o (by simp)]
   rw [hw,if_pos rfl]
   exact .inl (Oper.wp_mono (fun a w h=>ih (k+1) a w (fun j hj=>by have:=hk (j+1) (by simpa using hj);simpa [Nat.add_assoc,Nat.add_comm 1] using this) (fun o ho=>hg o (by simp [ho])) h) h)
 exact key ops.toList 0 a w (fun j _=>by simp) hg h
theorem c3f {F:Ctx} {γ:Nat→Value} {st:St} {a:Act} {w:World} (hI:Inv F γ st a w) {d:Nat} (hd:d < F.n) (h:st.env d=.undef) (v:Value):Inv F γ st (a.put (some d) v) w:=by
 have:=hI.put d hd (p:=.undef) (v:=v) (.undef v)
 have e:st.set d .undef=st:=by
  unfold St.set
  have:upd d PV.undef st.env=st.env:=by
   funext x
   unfold upd
   by_cases hx:x=d
   · rw [if_pos hx,hx,h]
   · rw [if_neg hx]
  rw [this]
 rwa [e] at this
theorem a1g {a:Act} {d x:Nat} {v:Value} (h:d < a.tmps.size):(a.put (some d) v).tmps.getD x undef=if x=d then v else a.tmps.getD x undef:=by
 simp only [Act.put,Array.getD_eq_getD_getElem?,Array.getElem?_setIfInBounds]
 by_cases hx:x=d
 · subst hx;simp [h]
 · rw [if_neg hx,if_neg (fun e=>hx e.symm)]
structure RngN where
 m:Nat
 it:Nat
 nx:Nat
 ok:Nat
 en:Nat
 ev:Nat
 v:Nat
 m2:Nat
 c2:Nat
 x:Opd
 c:Int
def RngN.sl (r:RngN):List Nat:=[r.m,r.it,r.nx,r.ok,r.en,r.ev,r.v,r.m2,r.c2]
def a5z (o:Oper) (d n:Nat) (f:Op→Bool):Bool:=o.guard.isNone && o.dst == some d && decide (d < n) && f o.op
theorem O3 {o:Oper} {d n:Nat} {f:Op→Bool} (h:a5z o d n f=true):o.guard=none∧o.dst=some d∧d < n∧f o.op=true:=by
 unfold a5z at h
 simp only [Bool.and_eq_true,beq_iff_eq,decide_eq_true_eq,Option.isNone_iff_eq_none] at h
 exact ⟨h.1.1.1,h.1.1.2,h.1.2,h.2⟩
def f1 (x:Opd):Op→Bool
 | .move y=>l6 x y
 | _=>false
def f2 (P:Program) (m:Nat):Op→Bool
 | .range t (.tmp m')=>m' == m && b5p P t false none
 | _=>false
def f3 (it:Nat):Op→Bool
 | .next (.tmp it') false=>it' == it
 | _=>false
def f4 (nx i:Nat):Op→Bool
 | .extract (.tmp nx') i'=>nx' == nx && i' == i
 | _=>false
def f5 (it:Nat):Op→Bool
 | .entry (.tmp it')=>it' == it
 | _=>false
def f7 (ev:Nat):Op→Bool
 | .assign (.tmp ev')=>ev' == ev
 | _=>false
def f9 (m2:Nat) (c:Int):Op→Bool
 | .binOp .gtr _ (.tmp m2') (.const (.int .i64 c')) _=>m2' == m2 && c' == c
 | _=>false
def c1h (P:Program) (n:Nat) (r:RngN) (thn:PC):Code→Bool
 | .seq (.region _ ⟨[o1,o2]⟩ false) (.block b (.loop (.seq (.region _ ⟨[o3,o4]⟩ false) (.seq (.cond (.tmp ok') .skip (.exit b')) (.block b2 (.seq (.region _ ⟨[o5,o6,o7]⟩ false) (.seq (.region _ ⟨[o8,o9]⟩ false) (.cond (.tmp c2') y .skip))))))))=>
  b == b' && ok' == r.ok && c2' == r.c2 && decide r.sl.Nodup && a5z o1 r.m n (f1 r.x) && a5z o2 r.it n (f2 P r.m) && a5z o3 r.nx n (f3 r.it) && a5z o4 r.ok n (f4 r.nx 0) && a5z o5 r.en n (f5 r.it) && a5z o6 r.ev n (f4 r.en 1) && a5z o7 r.v n (f7 r.ev) && a5z o8 r.m2 n (f1 (.t r.v)) && a5z o9 r.c2 n (f9 r.m2 r.c) && a2x P n y thn
 | _=>false
def RngN.out (r:RngN) (st:St):St:=⟨fun x=>if r.sl.contains x then .undef else st.env x,st.mem⟩
def c2n (P:Program) (r:RngN) (thn:PC) (st:St) (K:PExit→St→Prop):Prop:=
 ∃ id clk m,ev st r.x=.own id∧st.mem id=.map false clk m∧(∀ k p b,m k=some (p,b)→∃ z,p=.val (.int .i64 z)) ∧
  (∀ k z b,m k=some (.val (.int .i64 z),b)→r.c < z→a0k P thn (r.out st) fun e s=>e=.ret∧K .ret s)∧((∀ k z b,m k=some (.val (.int .i64 z),b)→¬ r.c < z)→K .normal (r.out st))
section
variable {P:Program} {F:Ctx} {γ:Nat→Value} {st:St} {a:Act} {w:World} {K:Act→World→Prop} {Q:Exit→Act→World→Prop}
theorem b6w {o:Oper} {d:Nat} {v:Value} {w':World} (hd:o.dst=some d) (h:(execOp a.eval o).run P w=.ok (.value v) w') (hk:K (a.put (some d) v) w'):o.wp P a w K Q:=I9 h (by rw [hd];exact hk)
theorem wp_f1 {o:Oper} {d n:Nat} {x:Opd} (h:a5z o d n (f1 x)=true) (hk:∀ y,l6 x y=true→K (a.put (some d) (a.eval y)) w):o.wp P a w K Q:=by
 obtain ⟨_,h2,_,h4⟩:=O3 h
 cases ho:o.op<;>rw [ho] at h4<;>simp [f1] at h4
 exact b6w h2 (by simp [execOp,ho]) (hk _ h4)
theorem wp_f7 {o:Oper} {d n ev:Nat} (h:a5z o d n (f7 ev)=true) (hk:K (a.put (some d) (a.tmps.getD ev undef)) w):o.wp P a w K Q:=by
 obtain ⟨_,h2,_,h4⟩:=O3 h
 unfold f7 at h4
 split at h4
 · rename_i ev' ho
   simp only [beq_iff_eq] at h4
   subst h4
   exact b6w h2 (by simp only [execOp,ho];rfl) hk
 · cases h4
theorem c5l {o:Oper} {d n nx i:Nat} {vs:Array Value} {v:Value} (h:a5z o d n (f4 nx i)=true) (hv:a.tmps.getD nx undef=.tuple vs) (hi:vs[i]?=some v) (hk:K (a.put (some d) v) w):o.wp P a w K Q:=by
 obtain ⟨_,h2,_,h4⟩:=O3 h
 unfold f4 at h4
 split at h4
 · rename_i nx' i' ho
   simp only [Bool.and_eq_true,beq_iff_eq] at h4
   obtain ⟨rfl,rfl⟩:=h4
   refine b6w h2 ?_ hk
   simp only [execOp,ho]
   refine W0 ?_
   show (Instr.extract (a.tmps.getD _ undef) _).run P w=_
   rw [hv]
   unfold Instr.extract
   simp [hi]
 · cases h4
theorem wp_f9 {o:Oper} {d n m2:Nat} {c z:Int} (h:a5z o d n (f9 m2 c)=true) (hv:a.tmps.getD m2 undef=.int .i64 z) (hk:K (a.put (some d) (.bool (decide (c < z)))) w):o.wp P a w K Q:=by
 obtain ⟨_,h2,_,h4⟩:=O3 h
 unfold f9 at h4
 split at h4
 · rename_i t m2' c' t' ho
   simp only [Bool.and_eq_true,beq_iff_eq] at h4
   obtain ⟨rfl,rfl⟩:=h4
   refine b6w h2 ?_ hk
   simp only [execOp,ho]
   refine W0 ?_
   have e:a.eval (.tmp m2')=.int .i64 z:=hv
   have e2:a.eval (.const (.int .i64 c'))=.int .i64 c':=rfl
   rw [e,e2]
   have hg:∀ w,(eqGuard .gtr t (.tmp m2') (.const (.int .i64 c')) (.int .i64 z) (.int .i64 c')).run P w=.ok () w:=by
    intro w;unfold eqGuard;simp
   simp [hg,binOp,Op.intArith,Op.intCmp]
 · cases h4
end
theorem RngN.out_in {r:RngN} {st:St} {x:Nat} (h:x∈r.sl):(r.out st).env x=.undef:=by
 unfold RngN.out;simp [h]
theorem out_inv {F:Ctx} {γ:Nat→Value} {st:St} {a:Act} {w:World} (hI:Inv F γ st a w) (r:RngN):Inv F γ (r.out st) a w:=by
 refine ⟨hI.sz,hI.df,fun x=>?_,hI.mem,hI.fr,hI.gl,hI.pin,hI.pinr,hI.pinn⟩
 show RepP _ _ _ (if r.sl.contains x then .undef else st.env x) _
 split
 · exact .undef _
 · exact hI.env x
theorem c2m {α:Type} {p q:α→Bool} (h:∀ x,q x=true→p x=true):∀ l:List α,(l.filter q).length≤(l.filter p).length
 | []=>by simp
 | x :: l=>by
  have ih:=c2m h l
  simp only [List.filter_cons]
  cases hq:q x with
  | true=>rw [h x hq];simp;exact ih
  | false=>cases hp:p x<;>simp<;>omega
theorem c2l {α:Type} {p q:α→Bool} (h:∀ x,q x=true→p x=true) {e:α} (hp:p e=true) (hq:q e=false):∀ l:List α,e∈l→(l.filter q).length < (l.filter p).length
 | [],he=>by cases he
 | x :: l,he=>by
  have le:=c2m h l
  simp only [List.filter_cons]
  rcases List.mem_cons.1 he with rfl | he
  · rw [hp,hq];simp;omega
  · have ih:=c2l h hp hq l he
    cases hq':q x with
    | true=>rw [h x hq'];simp;exact ih
    | false=>cases hp':p x<;>simp<;>omega
theorem c3t {es:Array MapEntry} {seen:Array Nat} {e:MapEntry} (he:e∈(leftOf es seen).toList):(leftOf es (seen.push e.born)).size < (leftOf es seen).size:=by
 unfold leftOf at he ⊢
 rw [Array.toList_filter,List.mem_filter] at he
 have e1:∀ p:MapEntry→Bool,(es.filter p).size=(es.toList.filter p).length:=fun p=>by rw [← Array.toList_filter,Array.length_toList]
 rw [e1,e1]
 refine c2l (p:=fun x=>!seen.contains x.born) (q:=fun x=>!(seen.push e.born).contains x.born) (e:=e) (fun x hx=>?_) he.2 (by simp) es.toList he.1
 simp at hx ⊢
 exact hx.1
theorem wp_f2 {P:Program} {a:Act} {w:World} {K:Act→World→Prop} {Q:Exit→Act→World→Prop} {o:Oper} {d n m bm clk:Nat} {es:Array MapEntry} (h:a5z o d n (f2 P m)=true) (hv:a.tmps.getD m undef=.map (some bm)) (hb:w.heap[bm]?=some (.map es clk))
 (hk:K (a.put (some d) (.pointer (some ⟨w.heap.size,0,none⟩))) (w.alloc (.mapIter (some bm) clk #[] clk))):o.wp P a w K Q:=by
 obtain ⟨_,h2,_,h4⟩:=O3 h
 unfold f2 at h4
 split at h4
 · rename_i t m' ho
   simp only [Bool.and_eq_true,beq_iff_eq] at h4
   obtain ⟨rfl,h5⟩:=h4
   obtain ⟨kt,et,dd,hu,_⟩:=a8y h5
   refine b6w h2 ?_ hk
   simp only [execOp,ho]
   refine W0 ?_
   show (Instr.range t (a.tmps.getD _ undef)).run P w=_
   rw [hv]
   exact run_range_map w t kt et bm es clk hu hb
 · cases h4
theorem wp_f3 {P:Program} {a:Act} {w:World} {K:Act→World→Prop} {Q:Exit→Act→World→Prop} {o:Oper} {d n it r bm clk c0:Nat} {seen:Array Nat} {es:Array MapEntry} (h:a5z o d n (f3 it)=true) (hv:a.tmps.getD it undef=.pointer (some ⟨r,0,none⟩))
 (hr:w.heap[r]?=some (.mapIter (some bm) clk seen c0)) (hb:w.heap[bm]?=some (.map es clk)) (hold:∀ x∈es.toList,x.born < clk) (hsc:clk≤c0)
 (h0:(leftOf es seen).size=0→K (a.put (some d) (.tuple #[.bool false])) w)
 (h1:∀ e∈(leftOf es seen).toList,∀ w1:World,w1=w∨w1=w.drew→K (a.put (some d) (.tuple #[.bool true,e.key,e.val])) (setBlock w1 r (.mapIter (some bm) clk (seen.push e.born) clk))):o.wp P a w K Q:=by
 obtain ⟨_,h2,_,h4⟩:=O3 h
 unfold f3 at h4
 split at h4
 · rename_i it' ho
   simp only [beq_iff_eq] at h4
   subst h4
   have hx:execOp a.eval o=(do pure (Next.value (← Instr.next (a.tmps.getD it' undef) false o.type))):=by simp only [execOp,ho];rfl
   rw [hv] at hx
   rcases run_next_at (P:=P) w o.type r bm clk c0 seen es clk hr hb hold hsc with ⟨g1,g2⟩ | ⟨e,g1,w1,g2,g3⟩
   · exact b6w h2 (by rw [hx];exact W0 g2) (h0 g1)
   · exact b6w h2 (by rw [hx];exact W0 g3) (h1 e g1 w1 g2)
 · cases h4
theorem wp_f5 {P:Program} {a:Act} {w:World} {K:Act→World→Prop} {Q:Exit→Act→World→Prop} {o:Oper} {d n it r bm clk:Nat} {seen:Array Nat} {es:Array MapEntry} {e:MapEntry} (h:a5z o d n (f5 it)=true) (hv:a.tmps.getD it undef=.pointer (some ⟨r,0,none⟩))
 (hr:w.heap[r]?=some (.mapIter (some bm) clk (seen.push e.born) clk)) (hb:w.heap[bm]?=some (.map es clk)) (he:e∈es.toList) (hn:(es.toList.map (·.born)).Nodup)
 (hk:K (a.put (some d) (.tuple #[e.key,e.val])) w):o.wp P a w K Q:=by
 obtain ⟨_,h2,_,h4⟩:=O3 h
 unfold f5 at h4
 split at h4
 · rename_i it' ho
   simp only [beq_iff_eq] at h4
   subst h4
   have hx:execOp a.eval o=(do pure (Next.value (← Instr.entry (a.tmps.getD it' undef)))):=by simp only [execOp,ho];rfl
   rw [hv] at hx
   exact b6w h2 (by rw [hx];exact W0 (run_entry_at w r bm clk seen es clk e hr hb he hn)) hk
 · cases h4
theorem b9a:∀ {l:List MapEntry},l.Pairwise (fun a b=>a.born≠b.born)→∀ {x y:MapEntry},x∈l→y∈l→x.born=y.born→x=y
 | [],_,x,y,hx,_,_=>by cases hx
 | z :: l,h,x,y,hx,hy,e=>by
  rw [List.pairwise_cons] at h
  rcases List.mem_cons.1 hx with h1 | h1<;>rcases List.mem_cons.1 hy with h2 | h2
  · rw [h1,h2]
  · rw [h1] at e;exact absurd e (h.1 y h2)
  · rw [h2] at e;exact absurd e.symm (h.1 x h1)
  · exact b9a h.2 h1 h2 e
theorem c3d {P:Program} {F:Ctx} (hm:P.follows .mixedOrders=true) {code:Code} {r:RngN} {thn:PC} {γ:Nat→Value} {st:St} {a:Act} {w:World} {K:PExit→St→Prop} {Q:Exit→Act→World→Prop}
 (hc:c1h P F.n r thn code=true) (hI:Inv F γ st a w) (h:c2n P r thn st K) (hQ:Post F K Q):code.wp P Q a w:=by
 unfold c1h at hc
 split at hc
 rotate_left
 · cases hc
 rename_i _ i1 o1 o2 b i2 o3 o4 ok' b' b2 i3 o5 o6 o7 i4 o8 o9 c2' y
 simp only [Bool.and_eq_true,beq_iff_eq,decide_eq_true_eq] at hc
 obtain ⟨⟨⟨⟨⟨⟨⟨⟨⟨⟨⟨⟨⟨rfl,rfl⟩,rfl⟩,hnd⟩,k1⟩,k2⟩,k3⟩,k4⟩,k5⟩,k6⟩,k7⟩,k8⟩,k9⟩,kt⟩:=hc
 obtain ⟨id,clk,m,e1,e2,hint,hyes,hno⟩:=h
 obtain ⟨bm,es,g1,g2,g3,g4⟩:=hI.mem.map id false clk m e2
 have hJ0:=out_inv hI r
 have hbm:bm < w.heap.size:=(Array.getElem?_eq_some_iff.1 g2).1
 have hin:∀ x∈r.sl,(r.out st).env x=.undef:=fun x hx=>RngN.out_in hx
 have put:∀ {a:Act} {w:World} {x:Nat} (v:Value),x∈r.sl→x < F.n→Inv F γ (r.out st) a w→Inv F γ (r.out st) (a.put (some x) v) w:=fun v hx hn h=>c3f h hn (hin _ hx) v
 have n1:=(O3 k1).2.2.1
 have n2:=(O3 k2).2.2.1
 have n3:=(O3 k3).2.2.1
 have n4:=(O3 k4).2.2.1
 have n5:=(O3 k5).2.2.1
 have n6:=(O3 k6).2.2.1
 have n7:=(O3 k7).2.2.1
 have n8:=(O3 k8).2.2.1
 have n9:=(O3 k9).2.2.1
 simp only [RngN.sl,List.nodup_cons,List.mem_cons,List.not_mem_nil,or_false,not_or,List.nodup_nil,and_true] at hnd
 obtain ⟨_,⟨d3,d4,d5,d6,d7,d8,d9⟩,_⟩:=hnd
 have hnd2:(es.toList.map (·.born)).Nodup:=by
  rw [List.nodup_iff_pairwise_ne,List.pairwise_map]
  exact g4.born
 have key:∀ (n:Nat) (a:Act) (wk:World) (seen:Array Nat) (c0:Nat),(leftOf es seen).size < n→Inv F γ (r.out st) a w→Below w.heap.size w wk→wk.heap[w.heap.size]?=some (.mapIter (some bm) clk seen c0)→clk≤c0 →
  a.tmps.getD r.it undef=.pointer (some ⟨w.heap.size,0,none⟩)→(∀ e∈es.toList,seen.contains e.born=true→∀ z,e.val=.int .i64 z→¬ r.c < z) →
  Code.rounds P (.seq (.region i2 ⟨[o3,o4]⟩ false) (.seq (.cond (.tmp r.ok) .skip (.exit b)) (.block b2 (.seq (.region i3 ⟨[o5,o6,o7]⟩ false) (.seq (.region i4 ⟨[o8,o9]⟩ false) (.cond (.tmp r.c2) y .skip)))))) (Exit.inBlock b Q) n a wk:=by
  intro n
  induction n with
  | zero=>intro a wk seen c0 h;omega
  | succ n ih=>
   intro a wk seen c0 hlt hIk hB hit hc0 hat hse
   have hwb:wk.heap[bm]?=some (.map es clk):=(hB.block bm hbm).trans g2
   have sz:∀ {a:Act},Inv F γ (r.out st) a w→a.tmps.size=F.n:=fun h=>h.sz
   rw [rounds_succ]
   refine wp_seq (a5b (fun o ho=>?_) ?_)
   · simp at ho
     rcases ho with rfl | rfl
     · exact (O3 k3).1
     · exact (O3 k4).1
   refine wp_f3 k3 hat hit hwb g4.lt hc0 (fun h0=>?_) (fun e he w1 hw1=>?_)
   · have hI1:=put (a:=a) (.tuple #[.bool false]) (x:=r.nx) (by simp [RngN.sl]) n3 hIk
     refine c5l (vs:=#[.bool false]) (v:=.bool false) k4 (by rw [a1g (by rw [sz hIk];exact n3),if_pos rfl]) rfl ?_
     have hI2:=put (a:=a.put (some r.nx) (.tuple #[.bool false])) (.bool false) (x:=r.ok) (by simp [RngN.sl]) n4 hI1
     refine wp_seq (wp_cond_split (t:=false) (by show Array.getD _ _ _=_;rw [a1g (by rw [sz hI1];exact n4),if_pos rfl]) (fun h=>by cases h) fun _=>wp_exit ?_)
     show Exit.inBlock b Q (.exit b) _ _
     simp only [Exit.inBlock,if_true]
     refine hQ .normal γ (r.out st) _ wk (hI2.later hB) (hno fun k z bo hk hz=>?_)
     by_cases hex:∃ e∈es.toList,W1 e.key=some k
     · obtain ⟨e,he,hek⟩:=hex
       obtain ⟨p,q1,q2,q3⟩:=g4.val e he k hek
       rw [q1] at hk
       cases hk
       have hsn:seen.contains e.born=true:=by
        cases hs:seen.contains e.born with
        | true=>rfl
        | false=>
         have:e∈(leftOf es seen).toList:=by unfold leftOf;rw [Array.toList_filter,List.mem_filter];exact ⟨he,by simpa using hs⟩
         have h1:=List.length_pos_of_mem this
         rw [Array.length_toList] at h1
         omega
       exact hse e he hsn z (by have:=q2.valI;generalize e.val=u at this;cases this;rfl) hz
     · rw [g4.out k fun e he hek=>hex ⟨e,he,hek⟩] at hk;cases hk
   · have hee:e∈es.toList:=by unfold leftOf at he;rw [Array.toList_filter,List.mem_filter] at he;exact he.1
     obtain ⟨k,hek,_⟩:=g4.key e hee
     obtain ⟨p,q1,q2,q3⟩:=g4.val e hee k hek
     obtain ⟨z,rfl⟩:=hint k p _ q1
     have hev:e.val=.int .i64 z:=by have:=q2.valI;generalize e.val=u at this;cases this;rfl
     have hB1:Below w.heap.size w w1:=by rcases hw1 with rfl | rfl;exact hB;exact hB.drew
     have hit1:w1.heap[w.heap.size]?=some (.mapIter (some bm) clk seen c0):=by rcases hw1 with rfl | rfl<;>exact hit
     have hB2:Below w.heap.size w (setBlock w1 w.heap.size (.mapIter (some bm) clk (seen.push e.born) clk)):=⟨hB1.os,hB1.tape,hB1.output,by simp [setBlock];exact hB1.size,fun j hj=>by
      simp only [setBlock,Array.getElem?_setIfInBounds]
      rw [if_neg (by omega)]
      exact hB1.block j hj⟩
     have hit2:(setBlock w1 w.heap.size (.mapIter (some bm) clk (seen.push e.born) clk)).heap[w.heap.size]?=some (.mapIter (some bm) clk (seen.push e.born) clk):=by
      have:=(Array.getElem?_eq_some_iff.1 hit1).1
      simp [setBlock,Array.getElem?_setIfInBounds,this]
     obtain ⟨w2,hw2⟩:∃ w2,setBlock w1 w.heap.size (.mapIter (some bm) clk (seen.push e.born) clk)=w2:=⟨_,rfl⟩
     rw [hw2] at hB2 hit2 ⊢
     have hwb2:w2.heap[bm]?=some (.map es clk):=(hB2.block bm hbm).trans g2
     have hI1:=put (.tuple #[.bool true,e.key,e.val]) (x:=r.nx) (by simp [RngN.sl]) n3 hIk
     refine c5l (vs:=#[.bool true,e.key,e.val]) (v:=.bool true) k4 (by rw [a1g (by rw [sz hIk];exact n3),if_pos rfl]) rfl ?_
     have hI2:=put (.bool true) (x:=r.ok) (by simp [RngN.sl]) n4 hI1
     refine wp_seq (wp_cond_split (t:=true) (by show Array.getD _ _ _=_;rw [a1g (by rw [sz hI1];exact n4),if_pos rfl]) (fun _=>wp_skip ?_) fun h=>by cases h)
     have hat2:((a.put (some r.nx) (.tuple #[.bool true,e.key,e.val])).put (some r.ok) (.bool true)).tmps.getD r.it undef=.pointer (some ⟨w.heap.size,0,none⟩):=by
      rw [a1g (by rw [sz hI1];exact n4),if_neg d4,a1g (by rw [sz hIk];exact n3),if_neg d3];exact hat
     obtain ⟨a2,ha2⟩:∃ a2,(a.put (some r.nx) (.tuple #[.bool true,e.key,e.val])).put (some r.ok) (.bool true)=a2:=⟨_,rfl⟩
     rw [ha2] at hat2 hI2 ⊢
     refine wp_block (wp_seq (a5b (fun o ho=>?_) ?_))
     · simp at ho
       rcases ho with rfl | rfl | rfl
       · exact (O3 k5).1
       · exact (O3 k6).1
       · exact (O3 k7).1
     refine wp_f5 k5 hat2 hit2 hwb2 hee hnd2 ?_
     have hI3:=put (.tuple #[e.key,e.val]) (x:=r.en) (by simp [RngN.sl]) n5 hI2
     have hg3:∀ x,(a2.put (some r.en) (.tuple #[e.key,e.val])).tmps.getD x undef=if x=r.en then .tuple #[e.key,e.val] else a2.tmps.getD x undef:=fun x=>a1g (by rw [sz hI2];exact n5)
     generalize a2.put (some r.en) (.tuple #[e.key,e.val])=a3 at hI3 hg3 ⊢
     refine c5l (vs:=#[e.key,e.val]) (v:=e.val) k6 (by rw [hg3,if_pos rfl]) rfl ?_
     have hI4:=put e.val (x:=r.ev) (by simp [RngN.sl]) n6 hI3
     have hg4:∀ x,(a3.put (some r.ev) e.val).tmps.getD x undef=if x=r.ev then e.val else a3.tmps.getD x undef:=fun x=>a1g (by rw [sz hI3];exact n6)
     generalize a3.put (some r.ev) e.val=a4 at hI4 hg4 ⊢
     refine wp_f7 k7 ?_
     rw [hg4,if_pos rfl]
     have hI5:=put e.val (x:=r.v) (by simp [RngN.sl]) n7 hI4
     have hg5:∀ x,(a4.put (some r.v) e.val).tmps.getD x undef=if x=r.v then e.val else a4.tmps.getD x undef:=fun x=>a1g (by rw [sz hI4];exact n7)
     generalize a4.put (some r.v) e.val=a5 at hI5 hg5 ⊢
     refine wp_seq (a5b (fun o ho=>?_) ?_)
     · simp at ho
       rcases ho with rfl | rfl
       · exact (O3 k8).1
       · exact (O3 k9).1
     refine wp_f1 k8 (fun y' hy'=>?_)
     have hy2:y'=.tmp r.v:=by
      cases y'<;>simp [l6] at hy'
      rw [hy']
     subst hy2
     have hev2:a5.eval (.tmp r.v)=e.val:=by
      show a5.tmps.getD r.v undef=_
      rw [hg5,if_pos rfl]
     rw [hev2]
     have hI6:=put e.val (x:=r.m2) (by simp [RngN.sl]) n8 hI5
     have hg6:∀ x,(a5.put (some r.m2) e.val).tmps.getD x undef=if x=r.m2 then e.val else a5.tmps.getD x undef:=fun x=>a1g (by rw [sz hI5];exact n8)
     generalize a5.put (some r.m2) e.val=a6 at hI6 hg6 ⊢
     refine wp_f9 (z:=z) k9 (by rw [hg6,if_pos rfl];exact hev) ?_
     have hI7:=put (.bool (decide (r.c < z))) (x:=r.c2) (by simp [RngN.sl]) n9 hI6
     have hg7:∀ x,(a6.put (some r.c2) (.bool (decide (r.c < z)))).tmps.getD x undef=if x=r.c2 then .bool (decide (r.c < z)) else a6.tmps.getD x undef:=fun x=>a1g (by rw [sz hI6];exact n9)
     generalize a6.put (some r.c2) (.bool (decide (r.c < z)))=a7 at hI7 hg7 ⊢
     refine wp_cond_split (t:=decide (r.c < z)) (by show a7.tmps.getD r.c2 undef=_;rw [hg7,if_pos rfl]) (fun ht=>?_) (fun ht=>wp_skip ?_)
     · refine W9 hm thn y kt (hI7.later hB2) (hyes k z _ q1 (by simpa using ht)) (fun e' γ' st' a' w' hI' hh=>?_)
       obtain ⟨rfl,hh⟩:=hh
       exact hQ .ret γ' st' a' w' hI' hh
     · show Code.rounds P _ _ n _ _
       refine ih _ w2 (seen.push e.born) clk (by have:=c3t he;omega) hI7 hB2 hit2 (Nat.le_refl _) ?_ (fun e' he' hse' z' hz'=>?_)
       · rw [hg7,if_neg d9,hg6,if_neg d8,hg5,if_neg d7,hg4,if_neg d6,hg3,if_neg d5]
         exact hat2
       · by_cases hbe:seen.contains e'.born=true
         · exact hse e' he' hbe z' hz'
         · have hb1:e'.born=e.born:=by
            simp at hse' hbe
            rcases hse' with h | h
            · exact absurd h hbe
            · exact h
           have:e'=e:=b9a g4.born he' hee hb1
           subst this
           rw [hev] at hz'
           cases hz'
           simpa using ht
 refine wp_seq (a5b (fun o ho=>?_) ?_)
 · simp at ho
   rcases ho with rfl | rfl
   · exact (O3 k1).1
   · exact (O3 k2).1
 refine wp_f1 k1 (fun y' hy'=>?_)
 have hx:=C0 hI hy'
 rw [e1] at hx
 have hv:a.eval y'=.map (some bm):=by rw [hx.ownI,g1]
 rw [hv]
 have hI1:=put (.map (some bm)) (x:=r.m) (by simp [RngN.sl]) n1 hJ0
 refine wp_f2 k2 (by rw [a1g (by rw [hI.sz];exact n1),if_pos rfl]) g2 ?_
 have hI2:=put (.pointer (some ⟨w.heap.size,0,none⟩)) (x:=r.it) (by simp [RngN.sl]) n2 hI1
 refine wp_block (wp_loop_rounds ((leftOf es #[]).size+1) (key _ _ _ #[] clk (by omega) hI2 ((Below.refl _ w).alloc (Nat.le_refl _) _) (heap_alloc_new w _) (Nat.le_refl _) ?_ (fun e he hs=>?_)))
 · rw [a1g (by rw [hI1.sz];exact n2),if_pos rfl]
 · simp at hs
inductive PX where
 | pc (c:PC)
 | seq (a:PC) (b:PX)
 | rng (r:RngN) (thn:PC) (b:PX)
def a4a (P:Program):PX→St→(PExit→St→Prop)→Prop
 | .pc c,st,K=>a0k P c st K
 | .seq a b,st,K=>a0k P a st fun e st'=>e.then st' (fun st'=>a4a P b st' K) K
 | .rng r thn b,st,K=>c2n P r thn st fun e st'=>e.then st' (fun st'=>a4a P b st' K) K
def b28 (P:Program) (n:Nat):Code→PX→Bool
 | code,.pc c=>a2x P n code c
 | .seq x y,.seq a b=>a2x P n x a && b28 P n y b
 | .seq x y,.rng r thn b=>c1h P n r thn x && b28 P n y b
 | _,_=>false
theorem a5o {P:Program} {F:Ctx} (hm:P.follows .mixedOrders=true):∀ (c:PX) (code:Code) {γ:Nat→Value} {st:St} {a:Act} {w:World} {K:PExit→St→Prop} {Q:Exit→Act→World→Prop},
 b28 P F.n code c=true→Inv F γ st a w→a4a P c st K→Post F K Q→code.wp P Q a w
 | .pc c,code,γ,st,a,w,K,Q,hc,hI,h,hQ=>W9 hm c code (by unfold b28 at hc;exact hc) hI h hQ
 | .seq x y,code,γ,st,a,w,K,Q,hc,hI,h,hQ=>by
  cases code<;>simp [b28] at hc
  exact wp_seq (W9 hm x _ hc.1 hI h (hQ.then fun γ st a w hI hk=>a5o hm y _ hc.2 hI hk hQ))
 | .rng r thn y,code,γ,st,a,w,K,Q,hc,hI,h,hQ=>by
  cases code<;>simp [b28] at hc
  exact wp_seq (c3d hm hc.1 hI h (hQ.then fun γ st a w hI hk=>a5o hm y _ hc.2 hI hk hQ))
def b6k (P:Program) (f:Nat) (c:PX) (nargs:Nat) (res:List Rs):Bool:=match P.funcs[f]? with
 | some fn=>(match fn.body with
  | some code=>a17 P fn.results.toList res && decide (fn.ntmps≤900) && decide (nargs≤fn.ntmps) && b28 P fn.ntmps code c
  | none=>false)
 | none=>false
theorem c7o {P:Program} {f:Nat} {c:PX} {res:List Rs} {as:List AV} {out:Out} {bs:List (List RV)} (hm:P.follows .mixedOrders=true) (hc:b6k P f c as.length res=true)
 (h:a4a P c (i6 as) (FinL res (b8 as).length out bs)):f8 P f as out bs:=by
 unfold b6k at hc
 split at hc
 · rename_i fn hf
   split at hc
   · rename_i code hb
     simp only [Bool.and_eq_true,beq_iff_eq,decide_eq_true_eq] at hc
     obtain ⟨⟨⟨hres,hn⟩,hna⟩,hc⟩:=hc
     exact b8y hf hb hres hn hna fun F γ a w Q hF hI hQ=>a5o hm c code (by rw [hF];exact hc) hI h hQ
   · cases hc
 · cases hc
theorem a6r {P:Program}:∀ {c:PX} {st:St} {K K':PExit→St→Prop},(∀ e s,K e s→K' e s)→a4a P c st K→a4a P c st K'
 | .pc c,st,K,K',hK,h=>V0 (c:=c) hK h
 | .seq a b,st,K,K',hK,h=>V0 (c:=a) (fun e s=>PExit.then_mono (fun s=>a6r (c:=b) hK) hK) h
 | .rng r thn b,st,K,K',hK,h=>by
  obtain ⟨id,clk,m,e1,e2,h1,h2,h3⟩:=h
  have hh:∀ e s,PExit.then e s (fun st'=>a4a P b st' K) K→PExit.then e s (fun st'=>a4a P b st' K') K':=fun e s=>PExit.then_mono (fun s=>a6r (c:=b) hK) hK
  exact ⟨id,clk,m,e1,e2,h1,fun k z bo hk hz=>V0 (fun e s hs=>⟨hs.1,hh _ _ hs.2⟩) (h2 k z bo hk hz),fun hall=>hh _ _ (h3 hall)⟩
theorem c42 {P:Program} {f:Nat} {c:PX} {res:List Rs} {as:List AV} {p:PV} (hm:P.follows .mixedOrders=true) (hc:b6k P f c as.length res=true) (hb:b8 as=[]) (hp:∀ ι,p.ren ι=p)
 (h:a4a P c (i6 as) (a1n res p)):f8 P f as (.ret p []) []:=by
 refine c7o hm hc (a6r (fun e s hh=>?_) h)
 have key:a02 res s.fin=some p→∃ st',Le s st'∧b9f res (b8 as).length (.ret p []) [] .ret st':=fun hh=>
  ⟨s.fin,(Le.freeze s _).trans (Le.plain _),(by rw [hb]),⟨⟨id,by rw [hp];exact hh,fun i j hi=>by simp at hi,fun i r hr=>by simp at hr⟩,trivial⟩⟩
 cases e with
 | normal=>exact key hh
 | ret=>exact key hh
 | exit id=>exact hh.elim
 | pan r=>exact hh.elim
def EPX (P:Program) (c:PX) (st:St) [K:Kx (PExit→St→Prop)]:Prop:=a4a P c st K.k
theorem b6h {P:Program} {st:St} {K:PExit→St→Prop} {c:PX}:a4a P c st K=EPX P c st (K:=⟨K⟩):=by rfl
section
variable {P:Program} {st:St} {K:Kx (PExit→St→Prop)}
@[simp] theorem EPX_pc {c:PC}:EPX P (.pc c) st (K:=K)=EC P c st (K:=K):=by rfl
@[simp] theorem EPX_seq {a:PC} {b:PX}:EPX P (.seq a b) st (K:=K)=EC P a st (K:=⟨fun e st'=>ET e st' (Ks:=⟨fun st'=>EPX P b st' (K:=K)⟩) (K:=K)⟩):=by rfl
theorem EPX_rng {r:RngN} {thn:PC} {b:PX} (id clk:Nat) (m:MKey→Option (PV×Nat)) (h1:ev st r.x=.own id) (h2:st.mem id=.map false clk m) (h3:∀ k p b,m k=some (p,b)→∃ z,p=.val (.int .i64 z))
 (hy:∀ k z b,m k=some (.val (.int .i64 z),b)→r.c < z→EC P thn (r.out st) (K:=⟨fun e s=>e=.ret∧K.k .ret s⟩)) (hn:(∀ k z b,m k=some (.val (.int .i64 z),b)→¬ r.c < z)→EPX P b (r.out st) (K:=K)):EPX P (.rng r thn b) st (K:=K):=
 ⟨id,clk,m,h1,h2,h3,hy,hn⟩
end
end Go.PW
