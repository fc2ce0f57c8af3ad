/- The machine does what stepXO says: maps. -/
import Derived.Test.YtfoapolbgpjfaaaGreatDoorPWm
import Derived.MapKept
set_option linter.unusedSectionVars false
set_option linter.unusedSimpArgs false
set_option linter.unusedVariables false
namespace Go.PW
variable [GF]
open Go.RowKit Go.MapKept
def b4n (s:Bool) (d:TypeDesc):Bool:=match s,d with
 | true,.string=>true
 | false,.int k=>k == .i64
 | _,_=>false
theorem b8e {a b:Value} {k:MKey} (ha:K3 a=some k) (hb:K3 b=some k):a=b:=by
 unfold K3 at ha hb
 split at ha<;>split at hb<;>simp_all
 all_goals (subst ha;simp at hb;try simp [hb])
theorem key_rep {γ:Nat→Value} {L:Nat→Prop} {w:World} {p:PV} {v:Value} {key:MKey} (h:RepP γ L w p v) (hk:p.key?=some key):K3 v=some key:=by
 unfold PV.key? at hk
 split at hk
 · rename_i n
   have:=(RepP.valI h);cases this
   simpa [K3] using hk
 · rename_i s
   have:=(RepP.valI h);cases this
   simpa [K3] using hk
 · cases hk
theorem a3e {v:Value} {k:MKey} {s:Bool} {d:TypeDesc} (h:K3 v=some k) (hs:k.isS=s) (hd:b4n s d=true):IsKey d v:=by
 unfold K3 at h
 split at h
 · simp at h;subst h
   simp [MKey.isS] at hs;subst hs
   cases d<;>simp [b4n] at hd ⊢
   subst hd;simp [IsKey]
 · simp at h;subst h
   simp [MKey.isS] at hs;subst hs
   cases d<;>simp [b4n] at hd ⊢
   simp [IsKey]
 · cases h
theorem a8i {P:Program} {t:TypeId} {s:Bool} {z:Option PV} (h:b09 P t s z=true):∃ kt et d,P.underlying t=some (.map kt et)∧P.underlying kt=some d∧b4n s d=true ∧
 (∀ p,z=some p→∃ i v,P.info? et=some i∧i.zero=some v∧a0f p v=true):=by
 unfold b09 at h
 split at h
 · rename_i kt et hu
   simp only [Bool.and_eq_true] at h
   obtain ⟨h1,h2⟩:=h
   refine ⟨kt,et,?_⟩
   cases hd:P.underlying kt with
   | none=>rw [hd] at h1;cases s<;>simp at h1
   | some d=>
    rw [hd] at h1
    refine ⟨d,hu,rfl,?_,fun p hp=>?_⟩
    · cases s<;>cases d<;>simp [b4n] at h1 ⊢<;>exact h1
    · subst hp
      simp only at h2
      split at h2
      · rename_i i hi
        split at h2
        · rename_i v hv;exact ⟨i,v,hi,hv,h2⟩
        · cases h2
      · cases h2
 · cases h
section
variable {P:Program} {F:Ctx} {γ:Nat→Value} {st:St} {a:Act} {w:World} {o:Oper} {K:Act→World→Prop} {Q:Exit→Act→World→Prop}
theorem a8h {L:Nat→Prop} {s:Bool} {clk:Nat} {m:MKey→Option (PV×Nat)} {es:Array MapEntry} {kt:TypeId} {d:TypeDesc} {kv:Value} {key:MKey} (hd:P.underlying kt=some d) (hsd:b4n s d=true)
 (h:MapOK γ L w s clk m es.toList) (hk:K3 kv=some key) (hs:key.isS=s) (w':World) :
 ((Instr.findKey kt kv es.toList).run P w'=.ok none w'∧m key=none∧∀ e∈es.toList,K3 e.key≠some key) ∨
 ∃ j e p,(Instr.findKey kt kv es.toList).run P w'=.ok (some (j,e.val)) w'∧es[j]?=some e∧e.key=kv∧m key=some (p,e.born)∧RepP γ L w p e.val∧e.val.oneCell'=true:=by
 have hik:=a3e hk hs hsd
 have hall:∀ x∈es.toList,IsKey d x.key:=fun x hx=>by
  obtain ⟨k,h1,h2⟩:=h.key x hx
  exact a3e h1 h2 hsd
 rcases findNow_spec hik es.toList 0 hall with ⟨h1,h2⟩ | ⟨j,e,h1,h2,h3⟩
 · have hn:∀ e∈es.toList,K3 e.key≠some key:=fun e he hh=>h2 e he (b8e hh hk)
   exact .inl ⟨run_findKey hd h1,h.out key hn,hn⟩
 · have hm:e∈es.toList:=List.mem_of_getElem? h2
   obtain ⟨p,k1,k2,k3⟩:=h.val e hm key (by rw [h3];exact hk)
   exact .inr ⟨j,e,p,by rw [run_findKey hd h1,Nat.zero_add],by simpa using h2,h3,k1,k2,k3⟩
theorem a3y (hI:Inv F γ st a w) {id:Nat} {s s':Bool} {clk clk':Nat} {m m':MKey→Option (PV×Nat)} {b:Nat} {es es':Array MapEntry} (hm:st.mem id=.map s clk m) (hg:γ id=.map (some b)) (hb:w.heap[b]?=some (.map es clk))
 (hok:∀ L' w',Keeps (i8 F.L γ st.mem) w L' w'→MapOK γ L' w' s' clk' m' es'.toList) :
 Inv F γ { st with mem:=upd id (.map s' clk' m') st.mem } a { w with heap:=w.heap.setIfInBounds b (.map es' clk') }:=by
 have hlt:b < w.heap.size:=(Array.getElem?_eq_some_iff.1 hb).1
 have hold:=hI.mem.map id s clk m hm
 obtain ⟨b',es0,h1,h2,h3,h4⟩:=hold
 rw [hg] at h1
 simp only [Value.map.injEq,Option.some.injEq] at h1
 subst h1
 refine a12 hI id _ _ b (by rw [hg];rfl) (by rw [hm];rfl) rfl (fun _ h=>by cases h) (fun _ _ _ h=>by cases h) rfl rfl rfl (by simp) (fun k _ hk=>?_) fun L' hL hk=>?_
 · simp [Array.getElem?_setIfInBounds,Ne.symm hk]
 · exact ⟨b,es',hg,by simp [Array.getElem?_setIfInBounds,hlt],h3,hok L' _ hk⟩
theorem MapOK.push {L:Nat→Prop} {s:Bool} {clk:Nat} {m:MKey→Option (PV×Nat)} {es:List MapEntry} {kv v:Value} {key:MKey} {p:PV} (h:MapOK γ L w s clk m es) (hk:K3 kv=some key) (hs:key.isS=s) (hn:∀ e∈es,K3 e.key≠some key)
 (hv:RepP γ L w p v) (h1:v.oneCell'=true):MapOK γ L w s (clk+1) (a1m m key p clk) (es++[{ key:=kv,val:=v,born:=clk }]):=by
 have hne:∀ e∈es,∀ k,K3 e.key=some k→k≠key:=fun e he k hek hh=>hn e he (hh ▸ hek)
 refine ⟨fun e he=>?_,List.pairwise_append.2 ⟨h.one,by simp,fun x hx y hy=>?_⟩,fun e he k hek=>?_,fun k hkn=>?_,fun e he=>?_,List.pairwise_append.2 ⟨h.born,by simp,fun x hx y hy=>?_⟩⟩
 · rcases List.mem_append.1 he with he | he
   · exact h.key e he
   · rw [List.mem_singleton.1 he];exact ⟨key,hk,hs⟩
 · rw [List.mem_singleton.1 hy]
   show K3 x.key≠K3 kv
   rw [hk];exact hn x hx
 · rcases List.mem_append.1 he with he | he
   · obtain ⟨q,g1,g2,g3⟩:=h.val e he k hek
     exact ⟨q,by unfold a1m;rw [if_neg (hne e he k hek)];exact g1,g2,g3⟩
   · rw [List.mem_singleton.1 he] at hek ⊢
     have:key=k:=by
      have hek:K3 kv=some k:=hek
      rw [hk] at hek;exact Option.some.inj hek
     subst this
     exact ⟨p,by unfold a1m;rw [if_pos rfl],hv,h1⟩
 · unfold a1m
   have:k≠key:=fun hh=>hkn { key:=kv,val:=v,born:=clk } (by simp) (by rw [hh];exact hk)
   rw [if_neg this]
   exact h.out k fun e he=>hkn e (by simp [he])
 · rcases List.mem_append.1 he with he | he
   · have:=h.lt e he;omega
   · rw [List.mem_singleton.1 he];show clk < clk+1;omega
 · rw [List.mem_singleton.1 hy]
   have:=h.lt x hx
   show x.born≠clk
   omega
theorem a4m (es:Array MapEntry) (j:Nat) (e:MapEntry) (f:MapEntry→MapEntry) (he:es[j]?=some e):(es.modify j f).toList=es.toList.set j (f e):=by
 have hj:j < es.size:=(Array.getElem?_eq_some_iff.1 he).1
 have hej:es[j]=e:=(Array.getElem?_eq_some_iff.1 he).2
 apply List.ext_getElem?
 intro i
 rw [Array.getElem?_toList,List.getElem?_set,Array.getElem?_modify]
 by_cases h:j=i
 · subst h
   simp [hj,hej]
 · simp [h]
theorem MapOK.set {L:Nat→Prop} {s:Bool} {clk:Nat} {m:MKey→Option (PV×Nat)} {es:List MapEntry} {v:Value} {key:MKey} {p:PV} {j:Nat} {e:MapEntry} (h:MapOK γ L w s clk m es) (hj:es[j]?=some e) (hk:K3 e.key=some key)
 (hv:RepP γ L w p v) (h1:v.oneCell'=true):MapOK γ L w s clk (a1m m key p e.born) (es.set j { e with val:=v }):=by
 have hlt:j < es.length:=(List.getElem?_eq_some_iff.1 hj).1
 have hej:es[j]=e:=(List.getElem?_eq_some_iff.1 hj).2
 have hmap:∀ {α:Type} (g:MapEntry→α),g { e with val:=v }=g e→(es.set j { e with val:=v }).map g=es.map g:=fun g hg=>by
  rw [List.map_set,hg]
  apply List.ext_getElem?
  intro i
  rw [List.getElem?_set]
  by_cases hi:j=i
  · subst hi;simp [hlt,hej]
  · simp [hi]
 have hmem:∀ x∈es.set j { e with val:=v },x={ e with val:=v }∨(x∈es∧K3 x.key≠some key):=fun x hx=>by
  obtain ⟨i,hi,rfl⟩:=List.getElem_of_mem hx
  rw [List.getElem_set]
  by_cases hij:j=i
  · rw [if_pos hij];exact .inl rfl
  · rw [if_neg hij]
    have hi':i < es.length:=by simpa using hi
    refine .inr ⟨List.getElem_mem hi',fun hh=>?_⟩
    have hp:=List.pairwise_iff_getElem.1 h.one
    rcases Nat.lt_or_gt_of_ne hij with hlt' | hgt
    · exact hp j i hlt hi' hlt' (by rw [hej,hk,hh])
    · exact hp i j hi' hlt hgt (by rw [hej,hk,hh])
 have hpw:∀ {α:Type} (g:MapEntry→α) (R:α→α→Prop),g { e with val:=v }=g e→es.Pairwise (fun a b=>R (g a) (g b))→(es.set j { e with val:=v }).Pairwise fun a b=>R (g a) (g b):=fun g R hg hp=>by
  have:=List.pairwise_map.2 hp
  rw [← hmap g hg] at this
  exact List.pairwise_map.1 this
 refine ⟨fun x hx=>?_,hpw (fun x=>K3 x.key) (·≠·) rfl h.one,fun x hx k hxk=>?_,fun k hkn=>?_,fun x hx=>?_,hpw (fun x=>x.born) (·≠·) rfl h.born⟩
 · rcases hmem x hx with rfl | ⟨hx,_⟩
   · exact h.key e (List.mem_of_getElem? hj)
   · exact h.key x hx
 · rcases hmem x hx with rfl | ⟨hx,hne⟩
   · have:key=k:=by rw [hk] at hxk;exact Option.some.inj hxk
     subst this
     exact ⟨p,by unfold a1m;rw [if_pos rfl],hv,h1⟩
   · obtain ⟨q,g1,g2,g3⟩:=h.val x hx k hxk
     have:k≠key:=fun hh=>hne (hh ▸ hxk)
     exact ⟨q,by unfold a1m;rw [if_neg this];exact g1,g2,g3⟩
 · have hne:∀ x∈es,K3 x.key≠some k:=fun x hx hh=>by
    have:K3 x.key∈(es.set j { e with val:=v }).map (fun x=>K3 x.key):=by rw [hmap (fun x=>K3 x.key) rfl];exact List.mem_map.2 ⟨x,hx,rfl⟩
    obtain ⟨y,hy,hye⟩:=List.mem_map.1 this
    exact hkn y hy (hye.trans hh)
   have:k≠key:=fun hh=>hne e (List.mem_of_getElem? hj) (by rw [hh];exact hk)
   unfold a1m
   rw [if_neg this]
   exact h.out k hne
 · rcases hmem x hx with rfl | ⟨hx,_⟩
   · exact h.lt e (List.mem_of_getElem? hj)
   · exact h.lt x hx
theorem a9n (n:Nat) {v:Value} {k:MKey} (h:K3 v=some k):Instr.sameBits (n+1) v v=true:=by
 unfold K3 at h
 split at h
 · simp [Instr.sameBits]
 · simp only [Instr.sameBits];exact (bytes_beq _ _).2 rfl
 · cases h
theorem a5h {v:Value} {k:MKey} (h:K3 v=some k) (w':World):(Instr.keyThatStays v v).run P w'=.ok v w':=by
 unfold Instr.keyThatStays
 rw [if_pos (a9n 9999 h)]
 rfl
theorem MapOK.nil {L:Nat→Prop} (s:Bool):MapOK γ L w s 0 (fun _=>none) []:=
 ⟨by simp,by simp,by simp,fun _ _=>rfl,by simp,by simp⟩
theorem b18 {et:TypeId} {i:TypeInfo} {z:Value} (hi:P.info? et=some i) (hz:i.zero=some z) (w':World):(zeroValue et).run P w'=.ok z w':=by
 unfold zeroValue
 simp [a47 hi,hz]
theorem b2h {d:Nat} (hdn:d < 900) {s:Bool} {K':PV→St→Prop} {kx:RV→St→Prop} (hI:Inv F γ st a w) (hc:U9 P o (.mkmap s)=true) (h:l2 st d (.mkmap s) K') (hA:a1y F a o.dst K' kx K Q):o.wp P a w K Q:=by
 obtain ⟨dst,op,type,pos,after,guard⟩:=o
 cases op<;>simp [U9] at hc
 rename_i t r
 cases r<;>simp at hc
 have hI':=hI.alloc d (.map #[] 0) (.map (some w.heap.size)) (.map s 0 fun _=>none) rfl (fun γ' L' hγ hd hkk=>⟨w.heap.size,#[],rfl,heap_alloc_new w _,.inl hI.fr.size,MapOK.nil s⟩) rfl hdn
 refine k6 (v:=.map (some w.heap.size)) (w':=w.alloc (.map #[] 0)) ?_ (hA.1 _ _ _ _ _ hI' (.own d _ (l9 _ _ _).symm) h)
 simp [execOp,Instr.makeMap]
theorem b08 (hI:Inv F γ st a w) {x k:Operand} {px pk:Opd} {id:Nat} {key:MKey} {s:Bool} {clk:Nat} {m:MKey→Option (PV×Nat)} (h1:i7 px x=true) (h2:i7 pk k=true) (e1:ev st px=.own id) (e2:(ev st pk).key?=some key) (hm:st.mem id=.map s clk m) :
 ∃ b es,a.eval x=.map (some b)∧γ id=.map (some b)∧w.heap[b]?=some (.map es clk)∧MapOK γ (i8 F.L γ st.mem) w s clk m es.toList∧K3 (a.eval k)=some key:=by
 have hx:=j5 hI h1
 rw [e1] at hx
 obtain ⟨b,es,g1,g2,g3,g4⟩:=hI.mem.map id s clk m hm
 exact ⟨b,es,by rw [hx.ownI,g1],g1,g2,g4,key_rep (j5 hI h2) e2⟩
theorem b2g {d:Nat} {s ok:Bool} {z:PV} {x k:Opd} {K':PV→St→Prop} {kx:RV→St→Prop} (hI:Inv F γ st a w) (hc:U9 P o (.mlook s ok z x k)=true) (h:l2 st d (.mlook s ok z x k) K') (hA:a1y F a o.dst K' kx K Q):o.wp P a w K Q:=by
 obtain ⟨dst,op,type,pos,after,guard⟩:=o
 cases op<;>simp [U9] at hc
 rename_i t x' k' ok'
 obtain ⟨⟨⟨rfl,h1⟩,h2⟩,h3⟩:=hc
 obtain ⟨kt,et,dd,hu,hd,hkd,hz⟩:=a8i h3
 obtain ⟨i,zv,hi,hzv,hzc⟩:=hz z rfl
 simp only [l2] at h
 split at h
 · rename_i id key e1 e2
   split at h
   · rename_i s' clk m hm
     obtain ⟨rfl,hs,h⟩:=h
     obtain ⟨b,es,v1,v2,v3,v4,v5⟩:=b08 hI h1 h2 e1 e2 hm
     have hck:=fun w'=>run_checkKey (P:=P) (w:=w') hd (a3e v5 hs hkd)
     rcases a8h (w:=w) hd hkd v4 v5 hs w with ⟨g1,g2,_⟩ | ⟨j,e,p,g1,g2,g3,g4,g5,g6⟩
     · rw [g2] at h
       have hrun:(Instr.lookup t (a.eval x') (a.eval k') ok).run P w=.ok (if ok then .tuple #[zv,.bool false] else zv) w:=by
        rw [v1]
        unfold Instr.lookup
        simp [run_underlying hu,MapKept.run_getObj_map v3,hck,g1,b18 hi hzv]
       refine k6 (v:=if ok then .tuple #[zv,.bool false] else zv) (w':=w) (by simp only [execOp];exact P7 hrun) (hA.1 _ _ _ _ _ hI ?_ h)
       cases ok with
       | false=>exact V4 hzc
       | true=>
        refine .tup _ _ rfl fun i hi=>?_
        match i,hi with
        | 0,_=>exact V4 hzc
        | 1,_=>exact a09 _
     · rw [g4] at h
       have hrun:(Instr.lookup t (a.eval x') (a.eval k') ok).run P w=.ok (if ok then .tuple #[e.val,.bool true] else e.val) w:=by
        rw [v1]
        unfold Instr.lookup
        simp [run_underlying hu,MapKept.run_getObj_map v3,hck,g1]
       refine k6 (v:=if ok then .tuple #[e.val,.bool true] else e.val) (w':=w) (by simp only [execOp];exact P7 hrun) (hA.1 _ _ _ _ _ hI ?_ h)
       cases ok with
       | false=>exact g5
       | true=>
        refine .tup _ _ rfl fun i hi=>?_
        match i,hi with
        | 0,_=>exact g5
        | 1,_=>exact a09 _
   · exact h.elim
 · exact h.elim
theorem b8d {t kt et:TypeId} {dd:TypeDesc} {s:Bool} {b clk:Nat} {es:Array MapEntry} {m:MKey→Option (PV×Nat)} {kv v:Value} {key:MKey} {p:PV} {L:Nat→Prop} (hu:P.underlying t=some (.map kt et)) (hd:P.underlying kt=some dd) (hkd:b4n s dd=true)
 (v3:w.heap[b]?=some (.map es clk)) (v4:MapOK γ L w s clk m es.toList) (v5:K3 kv=some key) (hs:key.isS=s) :
 ∃ es' clk',(Instr.mapUpdate t (.map (some b)) kv v).run P w=.ok () { w with heap:=w.heap.setIfInBounds b (.map es' clk') } ∧
  (match m key with
   | some q=>clk'=clk∧∀ L' w',Keeps L w L' w'→RepP γ L w p v→v.oneCell'=true→MapOK γ L' w' s clk (a1m m key p q.2) es'.toList
   | none=>clk'=clk+1∧∀ L' w',Keeps L w L' w'→RepP γ L w p v→v.oneCell'=true→MapOK γ L' w' s (clk+1) (a1m m key p clk) es'.toList):=by
 have hck:=fun w'=>run_checkKey (P:=P) (w:=w') hd (a3e v5 hs hkd)
 rcases a8h (w:=w) hd hkd v4 v5 hs w with ⟨g1,g2,g3⟩ | ⟨j,e,q,g1,g2,g3,g4,g5,g6⟩
 · refine ⟨es.push { key:=kv,val:=v,born:=clk },clk+1,?_,?_⟩
   · unfold Instr.mapUpdate
     simp [run_underlying hu,MapKept.run_getObj_map v3,hck,g1,MapKept.run_setObj_map _ v3]
   · rw [g2]
     refine ⟨rfl,fun L' w' hk hv h1=>?_⟩
     rw [Array.toList_push]
     exact (MapOK.push v4 v5 hs g3 hv h1).keep hk
 · refine ⟨es.modify j fun e=>{ e with key:=kv,val:=v },clk,?_,?_⟩
   · unfold Instr.mapUpdate
     have hst:=a5h (P:=P) v5 w
     simp [run_underlying hu,MapKept.run_getObj_map v3,hck,g1,MapKept.run_setObj_map _ v3,g2,g3,hst]
   · rw [g4]
     refine ⟨rfl,fun L' w' hk hv h1=>?_⟩
     rw [a4m es j e _ g2]
     have he:({ e with key:=kv,val:=v }:MapEntry)={ e with val:=v }:=by rw [← g3]
     rw [he]
     exact (MapOK.set v4 (by simpa using g2) (by rw [g3];exact v5) hv h1).keep hk
theorem b4a {d:Nat} {s:Bool} {x k y:Opd} {K':PV→St→Prop} {kx:RV→St→Prop} (hI:Inv F γ st a w) (hc:U9 P o (.mupd s x k y)=true) (h:l2 st d (.mupd s x k y) K') (hA:a1y F a o.dst K' kx K Q):o.wp P a w K Q:=by
 have main:∀ t x' k' y',i7 x x'=true→i7 k k'=true→i7 y y'=true→b09 P t s none=true→(execOp a.eval o).run P w=(do Instr.mapUpdate t (a.eval x') (a.eval k') (a.eval y');pure Next.skip:Sem Next).run P w→o.wp P a w K Q:=fun t x' k' y' h1 h2 h3 h4 hrun=>by
  obtain ⟨kt,et,dd,hu,hd,hkd,_⟩:=a8i h4
  simp only [l2] at h
  split at h
  · rename_i id key e1 e2
    split at h
    · rename_i s' clk m hm
      obtain ⟨rfl,hs,ho,h⟩:=h
      obtain ⟨b,es,v1,v2,v3,v4,v5⟩:=b08 hI h1 h2 e1 e2 hm
      have hy:=j5 hI h3
      have hy1:=a7h hI hy ho
      obtain ⟨es',clk',r1,r2⟩:=b8d (γ:=γ) (v:=a.eval y') (p:=ev st y) hu hd hkd v3 v4 v5 hs
      rw [v1] at hrun
      cases hq:m key with
      | none=>
       rw [hq] at h r2
       obtain ⟨rfl,r2⟩:=r2
       have hI':=a3y hI (s':=s') (es':=es') hm v2 v3 (fun L' w' hk=>r2 L' w' hk hy hy1)
       exact a25 (by rw [hrun];simp [r1]) (hA.1 _ _ _ _ _ hI' .skip h)
      | some q=>
       rw [hq] at h r2
       obtain ⟨rfl,r2⟩:=r2
       have hI':=a3y hI (s':=s') (es':=es') hm v2 v3 (fun L' w' hk=>r2 L' w' hk hy hy1)
       exact a25 (by rw [hrun];simp [r1]) (hA.1 _ _ _ _ _ hI' .skip h)
    · exact h.elim
  · exact h.elim
 obtain ⟨dst,op,type,pos,after,guard⟩:=o
 cases op<;>simp [U9] at hc
 · exact main _ _ _ _ hc.1.1.1 hc.1.1.2 hc.1.2 hc.2 rfl
 · exact main _ _ _ _ hc.1.1.1 hc.1.1.2 hc.1.2 hc.2 rfl
theorem b67 {b:Nat} {ob:Obj} (h:w.heap[b]?=some ob):{ w with heap:=w.heap.setIfInBounds b ob }=w:=by
 have:w.heap.setIfInBounds b ob=w.heap:=by
  apply Array.ext_getElem?
  intro i
  rw [Array.getElem?_setIfInBounds]
  by_cases hi:b=i
  · subst hi
    have hlt:=(Array.getElem?_eq_some_iff.1 h).1
    simp [hlt,h]
    exact ((Array.getElem?_eq_some_iff.1 h).2).symm
  · simp [hi]
 rw [this]
theorem b4d {d:Nat} {s:Bool} {z:PV} {x k:Opd} {K':PV→St→Prop} {kx:RV→St→Prop} (hI:Inv F γ st a w) (hc:U9 P o (.ment s z x k)=true) (h:l2 st d (.ment s z x k) K') (hA:a1y F a o.dst K' kx K Q):o.wp P a w K Q:=by
 obtain ⟨dst,op,type,pos,after,guard⟩:=o
 cases op<;>simp [U9] at hc
 rename_i t x' k'
 obtain ⟨⟨h1,h2⟩,h3⟩:=hc
 obtain ⟨kt,et,dd,hu,hd,hkd,hz⟩:=a8i h3
 obtain ⟨i,zv,hi,hzv,hzc⟩:=hz z rfl
 simp only [l2] at h
 split at h
 · rename_i id key e1 e2
   split at h
   · rename_i s' clk m hm
     obtain ⟨rfl,hs,h⟩:=h
     obtain ⟨b,es,v1,v2,v3,v4,v5⟩:=b08 hI h1 h2 e1 e2 hm
     have hck:=fun w'=>run_checkKey (P:=P) (w:=w') hd (a3e v5 hs hkd)
     rcases a8h (w:=w) hd hkd v4 v5 hs w with ⟨g1,g2,g3⟩ | ⟨j,e,p,g1,g2,g3,g4,g5,g6⟩
     · rw [g2] at h
       have hrun:(Instr.mapEntry t (a.eval x') (a.eval k')).run P w=.ok (.tuple #[zv,.int .i64 clk]) { w with heap:=w.heap.setIfInBounds b (.map (es.push { key:=a.eval k',val:=zv,born:=clk }) (clk+1)) }:=by
        rw [v1]
        unfold Instr.mapEntry
        simp [run_underlying hu,MapKept.run_getObj_map v3,hck,g1,b18 hi hzv,MapKept.run_setObj_map _ v3,goInt]
       have hI':=a3y hI (s':=s') (es':=es.push { key:=a.eval k',val:=zv,born:=clk }) (clk':=clk+1) (m':=a1m m key z clk) hm v2 v3 (fun L' w' hk=>by
        rw [Array.toList_push]
        exact (MapOK.push v4 v5 hs g3 (V4 hzc) (a60 hzc)).keep hk)
       refine k6 (v:=.tuple #[zv,.int .i64 clk]) (by simp only [execOp];exact P7 hrun) (hA.1 _ _ _ _ _ hI' ?_ h)
       refine .tup _ _ rfl fun i hi=>?_
       match i,hi with
       | 0,_=>exact V4 hzc
       | 1,_=>exact S4 _ _
     · rw [g4] at h
       have hst:=a5h (P:=P) v5 w
       have hes:es.modify j (fun e=>{ e with key:=a.eval k' })=es:=by
        apply Array.toList_inj.1
        rw [a4m es j e _ g2]
        have:({ e with key:=a.eval k' }:MapEntry)=e:=by rw [← g3]
        rw [this]
        apply List.ext_getElem?
        intro i
        rw [List.getElem?_set]
        have hj:j < es.size:=(Array.getElem?_eq_some_iff.1 g2).1
        by_cases hi:j=i
        · subst hi;simp [hj];exact ((Array.getElem?_eq_some_iff.1 g2).2).symm
        · simp [hi]
       have hrun:(Instr.mapEntry t (a.eval x') (a.eval k')).run P w=.ok (.tuple #[e.val,.int .i64 e.born]) w:=by
        rw [v1]
        unfold Instr.mapEntry
        simp [run_underlying hu,MapKept.run_getObj_map v3,hck,g1,g2,g3,hst,MapKept.run_setObj_map _ v3,goInt,hes,b67 v3]
       refine k6 (v:=.tuple #[e.val,.int .i64 e.born]) (by simp only [execOp];exact P7 hrun) (hA.1 _ _ _ _ _ hI ?_ h)
       refine .tup _ _ rfl fun i hi=>?_
       match i,hi with
       | 0,_=>exact g5
       | 1,_=>exact S4 _ _
   · exact h.elim
 · exact h.elim
theorem b4c {d:Nat} {x b y:Opd} {K':PV→St→Prop} {kx:RV→St→Prop} (hI:Inv F γ st a w) (hc:U9 P o (.mest x b y)=true) (h:l2 st d (.mest x b y) K') (hA:a1y F a o.dst K' kx K Q):o.wp P a w K Q:=by
 obtain ⟨dst,op,type,pos,after,guard⟩:=o
 cases op<;>simp [U9] at hc
 rename_i t x' b' y'
 obtain ⟨⟨h1,h2⟩,h3⟩:=hc
 simp only [l2] at h
 split at h
 · rename_i id n e1 e2
   split at h
   · rename_i s clk m hm
     obtain ⟨ho,key,q,hq,hn,h⟩:=h
     have hx:=j5 hI h1
     rw [e1] at hx
     have hb:=j5 hI h2
     rw [e2] at hb
     have hy:=j5 hI h3
     have hy1:=a7h hI hy ho
     obtain ⟨blk,es,g1,g2,g3,g4⟩:=hI.mem.map id s clk m hm
     have hex:∃ e∈es.toList,K3 e.key=some key:=Classical.byContradiction fun hno=>by
      have:=g4.out key fun e he hh=>hno ⟨e,he,hh⟩
      rw [this] at hq;cases hq
     obtain ⟨e,he,hek⟩:=hex
     obtain ⟨p,k1,k2,k3⟩:=g4.val e he key hek
     rw [hq] at k1
     have hqe:q.2=e.born:=by have:=Option.some.inj k1;rw [this]
     obtain ⟨j,hj,hje⟩:=List.getElem_of_mem he
     have hj':j < es.size:=by simpa using hj
     have hej:es[j]?=some e:=by rw [Array.getElem?_eq_getElem hj'];simpa using hje
     have hfi:es.findIdx? (fun e=>(e.born:Int) == n)=some j:=by
      cases hf:es.findIdx? (fun e=>(e.born:Int) == n) with
      | none=>
       rw [Array.findIdx?_eq_none_iff] at hf
       have:=hf e (by simpa using he)
       simp [← hqe,hn] at this
      | some i=>
       obtain ⟨hi,hp,_⟩:=Array.findIdx?_eq_some_iff_getElem.1 hf
       have hp':(es[i].born:Int)=n:=by simpa using hp
       have hbi:es[i].born=e.born:=by omega
       congr 1
       have hpw:=List.pairwise_iff_getElem.1 g4.born
       rcases Nat.lt_trichotomy i j with hlt | heq | hgt
       · have:=hpw i j (by rw [Array.length_toList];exact hi) hj hlt
         rw [hje,Array.getElem_toList] at this
         exact absurd hbi this
       · exact heq
       · have:=hpw j i hj (by rw [Array.length_toList];exact hi) hgt
         rw [hje,Array.getElem_toList] at this
         exact absurd hbi.symm this
     have hrun:(Instr.entryStore t (a.eval x') (a.eval b') (a.eval y')).run P w=.ok () { w with heap:=w.heap.setIfInBounds blk (.map (es.modify j fun e=>{ e with val:=a.eval y' }) clk) }:=by
      rw [hx.ownI,g1,hb.int]
      unfold Instr.entryStore
      simp [MapKept.run_getObj_map g2,asInt,asIntOf,hfi,MapKept.run_setObj_map _ g2]
     have hI':=a3y hI (s':=s) (clk':=clk) (es':=es.modify j fun e=>{ e with val:=a.eval y' }) (m':=a1m m key (ev st y) q.2) hm g1 g2 (fun L' w' hk=>by
      rw [a4m es j e _ hej,hqe]
      exact (MapOK.set g4 (by simpa using hej) hek hy hy1).keep hk)
     exact a25 (by simp [execOp,hrun]) (hA.1 _ _ _ _ _ hI' .skip h)
   · exact h.elim
 · exact h.elim
end
end Go.PW
