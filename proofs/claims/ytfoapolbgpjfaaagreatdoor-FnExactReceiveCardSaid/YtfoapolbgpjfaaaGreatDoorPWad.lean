/- Deep objects: rows of rows under names told by a formula; a call that reads them as data. -/
import Derived.Test.YtfoapolbgpjfaaaGreatDoorPWac
set_option linter.unusedSectionVars false
set_option linter.unusedSimpArgs false
set_option linter.unusedVariables false
set_option maxRecDepth 100000
namespace Go.PW
variable [GF]
open Go.RowKit
inductive Res (M:Nat→MObj):PV→RV→Prop
 | val (r:RV):Res M (.val r) r
 | emp (sz:Nat):Res M (.emp sz) (.list sz [])
 | row (id E sz:Nat) (xs:List RV) (h:M id=.row E sz xs):Res M (.own id) (.list sz xs)
 | prow (id E sz n:Nat) (c:Nat→Nat→PV) (xs:List RV) (h:M id=.prow E sz n c) (hn:xs.length=n) (hx:∀ x∈xs,x.cells.length=sz)
  (hc:∀ j k,j < n→k < sz→Res M (c j k) ((xs.getD j .nilptr).cells.getD k .nilptr)):Res M (.own id) (.list sz xs)
 | agg (cs:List PV) (rs:List RV) (hl:cs.length=rs.length) (h:∀ i,i < cs.length→Res M (cs.getD i .undef) (rs.getD i .nilptr)):Res M (.agg cs) (.agg rs)
theorem c0d {F:Ctx} {γ:Nat→Value} {M:Nat→MObj} {w:World} {L':Nat→Prop} (hM:MemInv F γ M w) (hk:Keeps (F8 F.L γ M) w L' w)
 (hn:∀ id b,(M id).live=true→Value.blk (γ id)=some b→¬ L' b) {p:PV} {r:RV} (h:Res M p r) :
 ∀ {L1:Nat→Prop} {v:Value},Keeps L1 w L' w→RepP γ L1 w p v→RepR L' w r v:=by
 induction h with
 | val r=>intro L1 v hk1 hp;cases hp with | val _ _ h=>exact h.mono hk1
 | emp sz=>intro L1 v hk1 hp;cases hp;exact .list0 _ _ _
 | row id E sz xs h=>
  intro L1 v hk1 hp
  cases hp with
  | own _ _ hv=>
   rw [hv]
   exact b50 (st:=⟨fun _=>.undef,M⟩) hM h hk (fun b hb=>hn id b (by rw [h];rfl) hb)
 | prow id E sz n c xs h hxn hx hc ih=>
  intro L1 v hk1 hp
  cases hp with
  | own _ _ hv=>
   rw [hv]
   obtain ⟨vs,h1,h2,h3⟩:=hM.prow id E sz n c h
   rcases h1.2 with ⟨hv,h0⟩ | ⟨g,cap,cur,hv,hg,hh,hc',hmax,hcl,htk⟩
   · have:xs=[]:=List.eq_nil_of_length_eq_zero (by omega)
     subst this
     rw [hv];exact .list0 _ _ _
   · rw [hv]
     by_cases hx0:xs=[]
     · subst hx0
       have:n=0:=by simpa using hxn.symm
       subst this
       exact .list0 _ _ _
     · have hvl:=h1.1
       subst hxn
       refine .list sz xs g 0 cap (fun j=>vs.getD j undef) hx0 h2 hc' (hn id g (by rw [h];rfl) (by rw [hv];rfl)) (fun j hj=>?_) hx (fun i k hi hk'=>ih i k hi hk' hk (h3 i k hi hk').1)
       rw [Nat.zero_add]
       have hj':j < vs.length:=by omega
       have e:vs[j]?=cur[j]?:=by
        rw [← htk,List.getElem?_take,if_pos (by omega)];simp
       simp only [World.cell?,hh]
       rw [List.getD_eq_getElem?_getD,List.getElem?_eq_getElem hj'] at *
       rw [← e];rfl
 | agg cs rs hl h ih=>
  intro L1 v hk1 hp
  cases hp with
  | agg _ vs hs hh=>exact .agg rs vs (by omega) (fun i hi=>ih i (by omega) hk1 (hh i (by omega)))
theorem b72 {L:Nat→Prop} {w:World}:∀ (rs:List RV) (vs:List Value),vs.length=rs.length→(∀ j,j < rs.length→RepR L w (rs.getD j .nilptr) (vs.getD j undef))→ArgsRep L w (rs.map .val) vs []
 | [],[],_,_=>.nil
 | r :: rs,v :: vs,hl,h=>by
  have:=b72 rs vs (by simpa using hl) (fun j hj=>by simpa using h (j+1) (by simpa using hj))
  exact .cons _ _ _ _ [] [] (.val r v (by simpa using h 0 (by simp))) this
 | [],_ :: _,h,_=>by simp at h
 | _ :: _,[],h,_=>by simp at h
def inR (base n x:Nat):Bool:=decide (base≤x) && decide (x < base+n)
theorem b3d {P:Program} {f:Nat} {rs:List RV} {ps:List PV} {M:Nat→MObj} {p:PV} {rows:List Row} (h:f9 P f (rs.map .val) (.ret p rows) []) (hl:ps.length=rs.length)
 (hres:∀ j,j < ps.length→Res M (ps.getD j .undef) (rs.getD j .nilptr)) (hol:p.ownLt rows.length=true) (hf:p.flat=true) (hfr:a5c rows) (base:Nat) (hbase:∀ i,inR base rows.length i=true→M i=.dead)
 (hkl:∀ i,(M i).kill (inR base rows.length)=M i)
 (pin:Nat→Bool) (hpin:∀ i,pin i=true→inR base rows.length i=false) :
 S0 P f ps M pin (p.shift base) (S5 M base rows):=by
 intro L w vs γ hL hOwn hgl hgb hvl hargs hmem
 have hLive:∀ b,F8 (hand L w γ M).L γ M b→L b:=fun b hb=>by
  rcases hb with h | ⟨i,h1,h2⟩
  · exact h
  · exact hOwn b ⟨i,h1,h2⟩
 let L0:Nat→Prop:=fun b=>L b∧¬ b93 γ M b
 have hk0:Keeps L w L0 w:=fun b o v h1 h2=>⟨fun h=>h1 h.1,h2⟩
 have hk1:Keeps (F8 (hand L w γ M).L γ M) w L0 w:=fun b o v h1 h2=>⟨fun h=>h1 (.inl h.1),h2⟩
 refine (h L0 w vs [] (fun b hb=>hL b hb.1) (hgl.keep hk0) (fun g hg=>⟨fun hh=>(hgb g hg).1 hh.1,(hgb g hg).2⟩) (b72 rs vs (by omega) fun j hj=>?_) List.nodup_nil).mono fun e w' hh=>?_
 · exact c0d hmem hk1 (fun id b h1 h2 h3=>h3.2 ⟨id,h1,h2⟩) (hres j (by omega)) hk0 (hargs j (by omega))
 obtain ⟨ho,v,γ2,he,hrep,hm2,_⟩:=hh
 have hbel:=ho.below
 let n:=rows.length
 let γ':Nat→Value:=fun x=>if inR base n x=true then γ2 (x - base) else γ x
 have hg1:∀ i,i < n→γ' (base+i)=γ2 i:=fun i hi=>by
  have:inR base n (base+i)=true:=by simp [inR];omega
  simp only [γ',this,if_true]
  rw [Nat.add_sub_cancel_left]
 have hg2:∀ x,inR base n x=false→γ' x=γ x:=fun x hx=>by simp only [γ',hx];simp
 have hset:∀ (rows:List Row) (base:Nat) (x:Nat),S5 M base rows x=if inR base rows.length x=true then (match rows[x - base]? with | some r=>.row r.E r.sz r.xs | none=>.dead) else M x:=by
  intro rows
  induction rows with
  | nil=>intro base x;simp [S5,inR];omega
  | cons r rows ih=>
   intro base x
   simp only [S5,upd]
   by_cases hx:x=base
   · subst hx;simp [inR]
   · rw [if_neg hx,ih]
     by_cases hb:base+1≤x∧x < base+1+rows.length
     · have e1:inR (base+1) rows.length x=true:=by simp [inR];omega
       have e2:inR base (r :: rows).length x=true:=by simp [inR];omega
       rw [if_pos e1,if_pos e2]
       have:x - base=(x - (base+1))+1:=by omega
       rw [this];simp
     · have e1:¬ inR (base+1) rows.length x=true:=by simp [inR];omega
       have e2:¬ inR base (r :: rows).length x=true:=by simp [inR];omega
       rw [if_neg e1,if_neg e2]
 have hM'1:∀ x,inR base n x=true→S5 M base rows x=K2 rows (x - base):=fun x hx=>by
  rw [hset,if_pos hx];rfl
 have hM'2:∀ x,inR base n x=false→S5 M base rows x=M x:=fun x hx=>by
  rw [hset,if_neg (by show ¬ inR base n x=true;rw [hx];simp)]
 have hnew:∀ i b,(K2 rows i).live=true→Value.blk (γ2 i)=some b→w.heap.size≤b:=fun i b h1 h2=>by
  have hobj:=hm2.obj i
  cases hr:K2 rows i with
  | dead=>rw [hr] at h1;cases h1
  | row E sz xs=>
   rw [hr] at hobj
   obtain ⟨us,k1,_⟩:=hobj
   rcases k1.ok h2 with h | ⟨_,h,_⟩ | h
   · exact h
   · cases h
   · cases h
  | box cs=>unfold K2 at hr;split at hr<;>cases hr
  | prow E sz n c=>unfold K2 at hr;split at hr<;>cases hr
  | map s clk m=>unfold K2 at hr;split at hr<;>cases hr
 have hold:∀ i b,(M i).live=true→Value.blk (γ i)=some b→b < w.heap.size:=fun i b h1 h2=>(R5 (hmem.obj i) h1 h2).1
 have hkeep:Keeps (F8 (hand L w γ M).L γ M) w (F8 L γ' (S5 M base rows)) w':=fun b o v hb hc=>by
  have hlt:=World.block_lt_of_cell? w _ hc
  refine ⟨fun hh=>?_,(hbel.cell hlt).trans hc⟩
  rcases hh with hh | ⟨i,h1,h2⟩
  · exact hb (.inl hh)
  · cases hi:inR base n i with
    | true=>
     rw [hM'1 i hi] at h1
     have:γ' i=γ2 (i - base):=by simp only [γ',hi,if_true]
     rw [this] at h2
     have:=hnew _ _ h1 h2
     have hlt':b < w.heap.size:=hlt
     omega
    | false=>
     rw [hM'2 i hi] at h1;rw [hg2 i hi] at h2
     exact hb (.inr ⟨i,h1,h2⟩)
 refine ⟨⟨ho.os,ho.tape,ho.output,ho.size,fun k hk _=>ho.block k hk (by simp)⟩,v,γ',he,fun i hi=>hg2 i (hpin i hi),hrep.shiftFlat hg1 hol hf,MemInv.of_obj (fun id=>?_) (fun id id' b h1 h2 h3 h4=>?_)⟩
 · cases hi:inR base n id with
   | true=>
    rw [hM'1 id hi]
    have e:γ' id=γ2 (id - base):=by simp only [γ',hi,if_true]
    rw [e]
    have hobj:=hm2.obj (id - base)
    cases hr:K2 rows (id - base) with
    | dead=>trivial
    | row E sz xs=>
     rw [hr] at hobj
     obtain ⟨us,k1,k2,k3,k4⟩:=hobj
     have hmemr:∃ r∈rows,r.xs=xs:=by
      unfold K2 at hr
      split at hr
      · rename_i r hr';cases hr;exact ⟨r,List.mem_of_getElem? hr',rfl⟩
      · cases hr
     obtain ⟨r,hr1,hr2⟩:=hmemr
     refine ⟨us,k1.mono (fun b _ hb=>?_) (fun _ _=>rfl),k2,⟨k3.1,fun i k hi hk'=>(k3.2 i k hi hk').flat (b1r ?_ ?_)⟩,k4⟩
     · rcases hb with h | ⟨_,h,_⟩ | h
       · exact .inl h
       · cases h
       · cases h
     · subst hr2
       exact hfr r hr1 _ (W0 hi)
     · rw [k3.1 _ (W0 hi)];exact hk'
    | box cs=>unfold K2 at hr;split at hr<;>cases hr
    | prow E sz n c=>unfold K2 at hr;split at hr<;>cases hr
    | map s clk m=>unfold K2 at hr;split at hr<;>cases hr
   | false=>
    rw [hM'2 id hi,hg2 id hi]
    cases hl:(M id).live with
    | false=>
     have:M id=.dead:=by cases hm:M id<;>rw [hm] at hl<;>first | rfl | cases hl
     rw [this];trivial
    | true=>
     have hobj:=hmem.obj id
     have:=ObjOK.kept (γ':=γ') (L':=F8 L γ' (S5 M base rows)) (w':=w') (inR base n) (fun i hi=>hg2 i hi) hkeep (fun b hb=>hbel.block b (hold id b hl hb)) hobj
     rw [hkl id] at this
     exact this
 · cases hi:inR base n id with
   | true=>
    rw [hM'1 id hi] at h1
    have e:γ' id=γ2 (id - base):=by simp only [γ',hi,if_true]
    rw [e] at h3
    cases hi':inR base n id' with
    | true=>
     rw [hM'1 id' hi'] at h2
     have e':γ' id'=γ2 (id' - base):=by simp only [γ',hi',if_true]
     rw [e'] at h4
     have:=hm2.inj _ _ b h1 h2 h3 h4
     simp [inR] at hi hi'
     omega
    | false=>
     rw [hM'2 id' hi'] at h2;rw [hg2 id' hi'] at h4
     have:=hnew _ _ h1 h3
     have:=hold _ _ h2 h4
     omega
   | false=>
    rw [hM'2 id hi] at h1;rw [hg2 id hi] at h3
    cases hi':inR base n id' with
    | true=>
     rw [hM'1 id' hi'] at h2
     have e':γ' id'=γ2 (id' - base):=by simp only [γ',hi',if_true]
     rw [e'] at h4
     have:=hnew _ _ h2 h4
     have:=hold _ _ h1 h3
     omega
    | false=>
     rw [hM'2 id' hi'] at h2;rw [hg2 id' hi'] at h4
     exact hmem.inj id id' b h1 h2 h3 h4
mutual
theorem b26 {ι:Nat→Nat} {base n:Nat} (h:∀ i,i < n→ι (base+i)=base+i):∀ {p:PV},p.ownLt n=true→(p.shift base).ren ι=p.shift base
 | .own i,hp=>by simp only [PV.ownLt,decide_eq_true_eq] at hp;simp only [PV.shift,PV.ren];rw [h i hp]
 | .agg cs,hp=>by simp only [PV.shift,PV.ren];rw [a32 h (by simpa [PV.ownLt] using hp)]
 | .tup cs,hp=>by simp only [PV.shift,PV.ren];rw [a32 h (by simpa [PV.ownLt] using hp)]
 | .fn f cs,hp=>by simp only [PV.shift,PV.ren];rw [a32 h (by simpa [PV.ownLt] using hp)]
 | .undef,_=>rfl
 | .skip,_=>rfl
 | .val r,_=>rfl
 | .emp s,_=>rfl
 | .at cs,_=>rfl
 | .ptr _ _,_=>rfl
 | .elt _ _ _ _,_=>rfl
theorem a32 {ι:Nat→Nat} {base n:Nat} (h:∀ i,i < n→ι (base+i)=base+i):∀ {ps:List PV},PV.ownLtL n ps=true→PV.renL ι (PV.shiftL base ps)=PV.shiftL base ps
 | [],_=>rfl
 | p :: ps,hp=>by
  simp only [PV.ownLtL,Bool.and_eq_true] at hp
  simp only [PV.shiftL,PV.renL];rw [b26 h hp.1,a32 h hp.2]
end
def DN (k j:Nat):Nat:=1000001+4*(16*j+k)
def isD (x:Nat):Bool:=decide (1000000≤x) && x % 4 == 1
def dk (x:Nat):Nat:=((x - 1000001) / 4) % 16
def dj (x:Nat):Nat:=((x - 1000001) / 4) / 16
def b6v (i:Nat):Nat:=1000002+4*i
def isJ (x:Nat):Bool:=decide (1000000≤x) && x % 4 == 2
theorem a7m {k j:Nat}:isD (DN k j)=true:=by unfold isD DN;simp only [Bool.and_eq_true,decide_eq_true_eq,beq_iff_eq];omega
theorem DN_dk {k j:Nat} (hk:k < 16):dk (DN k j)=k:=by simp [dk,DN];omega
theorem DN_dj {k j:Nat} (hk:k < 16):dj (DN k j)=j:=by simp [dj,DN];omega
theorem DN_of {x:Nat} (h:isD x=true):x=DN (dk x) (dj x):=by simp [isD] at h;simp [DN,dk,dj];omega
theorem b74 {k j n:Nat} (h:n < 1000000):(DN k j=n)=False:=eq_false (by unfold DN;omega)
theorem b2i {k j n:Nat} (h:n < 1000000):(n=DN k j)=False:=eq_false (by unfold DN;omega)
theorem b2j {k j k' j':Nat} (hk:k < 16) (hk':k' < 16):(DN k j=DN k' j')=(k=k'∧j=j'):=propext ⟨fun h=>by unfold DN at h;omega,fun h=>by rw [h.1,h.2]⟩
theorem DN_isJ {k j:Nat}:isJ (DN k j)=false:=by
 cases h:isJ (DN k j) with
 | false=>rfl
 | true=>unfold isJ DN at h;simp only [Bool.and_eq_true,decide_eq_true_eq,beq_iff_eq] at h;omega
theorem c43 {n:Nat} (h:n < 1000000):isJ n=false:=by simp [isJ];omega
theorem a67 {n:Nat} (h:n < 1000000):isD n=false:=by simp [isD];omega
theorem c44 {x:Nat} (h:isD x=true):isJ x=false:=by simp [isD] at h;simp [isJ];omega
def ioT (T:Nat→Bool) (i:Nat):Nat:=if T i then i else b6v i
def koT (T:Nat→Bool) (x:Nat):Option Nat:=if T x then some x else if isJ x then (if T ((x - 1000002) / 4) then none else some ((x - 1000002) / 4)) else none
theorem koT_io (T:Nat→Bool) (hT:∀ x,T x=true→isJ x=false) (i:Nat):koT T (ioT T i)=some i:=by
 unfold koT ioT
 by_cases h:T i=true
 · rw [if_pos h,if_pos h]
 · rw [if_neg h]
   have h1:isJ (b6v i)=true:=by unfold isJ b6v;simp only [Bool.and_eq_true,decide_eq_true_eq,beq_iff_eq];omega
   have h2:¬ T (b6v i)=true:=fun hh=>by rw [hT _ hh] at h1;cases h1
   have h3:(b6v i - 1000002) / 4=i:=by simp [b6v]
   rw [if_neg h2,if_pos h1,h3,if_neg h]
theorem ioT_ko (T:Nat→Bool) (x i:Nat) (h:koT T x=some i):x=ioT T i:=by
 unfold koT at h
 unfold ioT
 by_cases hx:T x=true
 · rw [if_pos hx] at h
   obtain rfl:=Option.some.inj h
   rw [if_pos hx]
 · rw [if_neg hx] at h
   by_cases hj:isJ x=true
   · rw [if_pos hj] at h
     by_cases ht:T ((x - 1000002) / 4)=true
     · rw [if_pos ht] at h;cases h
     · rw [if_neg ht] at h
       obtain rfl:=Option.some.inj h
       rw [if_neg ht]
       simp [isJ] at hj
       simp [b6v];omega
   · rw [if_neg hj] at h;cases h
def PV.onT (T:Nat→Bool) (p:PV):Prop:=∀ ι:Nat→Nat,(∀ i,T i=true→ι i=i)→p.ren ι=p
def MObj.onT (T:Nat→Bool) (m:MObj):Prop:=(∀ ι:Nat→Nat,(∀ i,T i=true→ι i=i)→m.ren ι=m)∧∀ d:Nat→Bool,(∀ i,T i=true→d i=false)→m.kill d=m
theorem a17 {T E sz xs}:(MObj.row E sz xs).onT T:=⟨fun _ _=>rfl,fun _ _=>rfl⟩
theorem a2l {T}:(MObj.dead).onT T:=⟨fun _ _=>rfl,fun _ _=>rfl⟩
def jT (T:Nat→Bool) (x:Nat):Bool:=isJ x && !T ((x - 1000002) / 4)
def a6e (T N:Nat→Bool) (x:Nat):Bool:=N x || jT T x
theorem c01 {T:Nat→Bool} {n:Nat} (h:n < 1000000):jT T n=false:=by unfold jT;rw [c43 h];rfl
theorem c02 {T:Nat→Bool} {k j:Nat}:jT T (DN k j)=false:=by unfold jT;rw [DN_isJ];rfl
theorem b5c {P:Program} {st:St} {Ke:Kx (PV→St→Prop)} {kx:Kx (RV→St→Prop)} {d f:Nat} {ps:List PV} (T N:Nat→Bool) (M M':Nat→MObj) {out:PV}
 (hT:∀ x,T x=true→isJ x=false∧(x < 900∨1000≤x)) (hN:∀ x,N x=true→T x=true) (hps:∀ p∈ps,p.onT T) (hM:∀ i,(M i).live=true→T i=true∧st.mem i=M i∧(M i).onT T)
 (hM':∀ i,(M' i).live=true→T i=true∧(M' i).onT T∧∀ cs,M' i≠.box cs) (hout:out.onT T) (hkind:∀ i,(M i).live=true→(M' i).live=true→(M' i).kind=(M i).kind)
 (h:S0 P f ps M (fun i=>T i && !N i) out M')
 (hK:Ke.k out ⟨fun x=>(st.env x).kill (a6e T N),fun x=>if T x then M' x else if jT T x then .dead else (st.mem x).kill (a6e T N)⟩):KC P st d f ps (Ke:=Ke) (kx:=kx):=by
 unfold KC
 refine .inr ?_
 have hJ:∀ x,T x=true→isJ x=false:=fun x h=>(hT x h).1
 have hι:∀ i,T i=true→ioT T i=i:=fun i hi=>by unfold ioT;rw [if_pos hi]
 have hdead:∀ i,T i=false→M' i=.dead:=fun i hi=>by
  cases hl:(M' i).live with
  | true=>rw [(hM' i hl).1] at hi;cases hi
  | false=>cases hm:M' i<;>rw [hm] at hl<;>first | rfl | cases hl
 have hren:∀ i,T i=true→(M' i).ren (ioT T)=M' i:=fun i hi=>by
  cases hl:(M' i).live with
  | true=>exact (hM' i hl).2.1.1 _ hι
  | false=>cases hm:M' i<;>rw [hm] at hl<;>first | rfl | cases hl
 have hkk:a0n (koT T) (fun i=>T i && !N i)=a6e T N:=by
  funext x
  unfold a0n koT a6e jT
  by_cases hx:T x=true
  · rw [if_pos hx]
    simp only [hx,hJ x hx];simp
  · have hn:N x=false:=by cases e:N x with | true=>exact absurd (hN x e) hx | false=>rfl
    rw [if_neg hx,hn]
    by_cases hj:isJ x=true
    · rw [if_pos hj,hj]
      by_cases ht:T ((x - 1000002) / 4)=true
      · rw [if_pos ht,ht];rfl
      · rw [if_neg ht];simp [ht]
    · rw [if_neg hj];simp [hj]
 refine ⟨ps,M,M',fun i=>T i && !N i,out,ioT T,koT T,false,?_,koT_io T hJ,ioT_ko T,fun i hi=>?_,fun i h1 h2=>?_,fun i cs hi=>?_,hkind,h,?_⟩
 · conv=>lhs;rw [← List.map_id ps]
   exact List.map_congr_left fun p hp=>(hps p hp _ hι).symm
 · obtain ⟨k1,k2,k3⟩:=hM i hi
   rw [hι i k1,k2,k3.1 _ hι]
 · unfold ioT at h1 h2
   by_cases ht:T i=true
   · simp only [ht,if_true] at h1 h2
     have:=(hT i ht).2;omega
   · simp only [ht] at h1 h2;simp [b6v] at h2;omega
 · exact absurd hi ((hM' i (by rw [hi];rfl)).2.2 cs)
 · rw [hkk,hout _ hι]
   have e:a0e st (koT T) (fun i=>T i && !N i) (ioT T) M'=fun x=>if T x then M' x else if jT T x then .dead else (st.mem x).kill (a6e T N):=by
    funext x
    unfold a0e
    rw [hkk]
    by_cases hx:T x=true
    · have:koT T x=some x:=by unfold koT;rw [if_pos hx]
      rw [this,if_pos hx]
      exact hren x hx
    · rw [if_neg hx]
      by_cases hj:jT T x=true
      · have hj':=hj
        simp only [jT,Bool.and_eq_true,Bool.not_eq_true'] at hj'
        have:koT T x=some ((x - 1000002) / 4):=by unfold koT;rw [if_neg hx,if_pos hj'.1,if_neg (by rw [hj'.2];simp)]
        rw [this,if_pos hj]
        show (M' ((x - 1000002) / 4)).ren _=.dead
        rw [hdead _ hj'.2];rfl
      · have:koT T x=none:=by
         unfold koT
         rw [if_neg hx]
         by_cases hjj:isJ x=true
         · rw [if_pos hjj]
           have:T ((x - 1000002) / 4)=true:=by simp [jT,hjj] at hj;exact hj
           rw [if_pos this]
         · rw [if_neg hjj]
        rw [this,if_neg hj]
   rw [e]
   exact hK
theorem callD {P:Program} {st:St} {Ke:Kx (PV→St→Prop)} {kx:Kx (RV→St→Prop)} {d f:Nat} {ps:List PV} {rs:List RV} {p:PV} {rows:List Row} (T:Nat→Bool)
 (h:f9 P f (rs.map .val) (.ret p rows) []) (hl:ps.length=rs.length) (hT:∀ x,T x=true→isD x=true∧(st.mem x).onT T) (hTb:∀ x cs,T x=true→st.mem x≠.box cs)
 (hres:∀ j,j < ps.length→Res (fun i=>if T i then st.mem i else .dead) (ps.getD j .undef) (rs.getD j .nilptr)) (hps:∀ p∈ps,p.onT T) (hol:p.ownLt rows.length=true) (hf:p.flat=true) (hfr:a5c rows) (hd:d < 900) (hn:rows.length≤1000)
 (hK:Ke.k (p.shift (d5 d)) ⟨fun x=>(st.env x).kill (a6e (fun x=>T x || inR (d5 d) rows.length x) (inR (d5 d) rows.length)),fun x=>if T x then st.mem x else if inR (d5 d) rows.length x then K2 rows (x - d5 d) else if jT (fun x=>T x || inR (d5 d) rows.length x) x then .dead else (st.mem x).kill (a6e (fun x=>T x || inR (d5 d) rows.length x) (inR (d5 d) rows.length))⟩):KC P st d f ps (Ke:=Ke) (kx:=kx):=by
 have hbase:∀ x,inR (d5 d) rows.length x=true→1000≤x∧x < 1000000:=fun x hx=>by
  simp only [inR,Bool.and_eq_true,decide_eq_true_eq] at hx
  unfold d5 at hx
  omega
 have hTD:∀ x,T x=true→1000000≤x:=fun x hx=>by
  have:=(hT x hx).1;simp [isD] at this;omega
 have hdisj:∀ x,inR (d5 d) rows.length x=true→T x=false:=fun x hx=>by
  cases e:T x with
  | true=>have:=hTD x e;have:=hbase x hx;omega
  | false=>rfl
 let M:Nat→MObj:=fun i=>if T i then st.mem i else .dead
 have hset:∀ (rows:List Row) (base:Nat) (x:Nat),S5 M base rows x=if inR base rows.length x=true then K2 rows (x - base) else M x:=by
  intro rows
  induction rows with
  | nil=>intro base x;simp [S5,inR];omega
  | cons r rows ih=>
   intro base x
   simp only [S5,upd]
   by_cases hx:x=base
   · subst hx;simp [inR,K2]
   · rw [if_neg hx,ih]
     by_cases hb:base+1≤x∧x < base+1+rows.length
     · have e1:inR (base+1) rows.length x=true:=by simp [inR];omega
       have e2:inR base (r :: rows).length x=true:=by simp [inR];omega
       rw [if_pos e1,if_pos e2]
       have:x - base=(x - (base+1))+1:=by omega
       rw [this];simp [K2]
     · have e1:¬ inR (base+1) rows.length x=true:=by simp [inR];omega
       have e2:¬ inR base (r :: rows).length x=true:=by simp [inR];omega
       rw [if_neg e1,if_neg e2]
 have hMk:∀ i,(M i).kill (inR (d5 d) rows.length)=M i:=fun i=>by
  simp only [M]
  by_cases hi:T i=true
  · rw [if_pos hi]
    refine (hT i hi).2.2 _ fun x hx=>?_
    cases e:inR (d5 d) rows.length x with
    | true=>rw [hdisj x e] at hx;cases hx
    | false=>rfl
  · rw [if_neg hi];rfl
 have hc:=b3d h hl hres hol hf hfr (d5 d) (fun i hi=>by simp only [hdisj i hi];simp) hMk (fun i=>(T i || inR (d5 d) rows.length i) && !inR (d5 d) rows.length i) (fun i hi=>by simp at hi;exact hi.2)
 have hrowk:∀ i,(∃ E sz xs,K2 rows i=.row E sz xs)∨K2 rows i=.dead:=fun i=>by
  unfold K2;split
  · exact .inl ⟨_,_,_,rfl⟩
  · exact .inr rfl
 have hmem:∀ x,S5 M (d5 d) rows x=if T x then st.mem x else if inR (d5 d) rows.length x then K2 rows (x - d5 d) else .dead:=fun x=>by
  rw [hset]
  by_cases hx:T x=true
  · have:inR (d5 d) rows.length x=false:=by
     cases e:inR (d5 d) rows.length x with
     | true=>rw [hdisj x e] at hx;cases hx
     | false=>rfl
    rw [this,if_pos hx];simp only [M,hx];simp
  · rw [if_neg hx];simp only [M,hx];simp
 refine b5c (fun x=>T x || inR (d5 d) rows.length x) (inR (d5 d) rows.length) M _ (fun x hx=>?_) (fun x hx=>by simp [hx]) (fun p hp=>fun ι hι=>hps p hp ι fun i hi=>hι i (by simp [hi])) (fun i hi=>?_) (fun i hi=>?_) ?_ (fun i h1 h2=>?_) hc ?_
 · simp only [Bool.or_eq_true] at hx
   rcases hx with hx | hx
   · exact ⟨c44 (hT x hx).1,.inr (by have:=hTD x hx;omega)⟩
   · have:=hbase x hx
     exact ⟨c43 this.2,.inr this.1⟩
 · simp only [M] at hi ⊢
   by_cases ht:T i=true
   · rw [if_pos ht]
     exact ⟨by simp [ht],rfl,fun ι hι=>(hT i ht).2.1 ι fun j hj=>hι j (by simp [hj]),fun e he=>(hT i ht).2.2 e fun j hj=>he j (by simp [hj])⟩
   · rw [if_neg ht] at hi;cases hi
 · rw [hmem] at hi ⊢
   by_cases ht:T i=true
   · rw [if_pos ht]
     exact ⟨by simp [ht],⟨fun ι hι=>(hT i ht).2.1 ι fun j hj=>hι j (by simp [hj]),fun e he=>(hT i ht).2.2 e fun j hj=>he j (by simp [hj])⟩,fun cs=>hTb i cs ht⟩
   · rw [if_neg ht] at hi ⊢
     by_cases hr:inR (d5 d) rows.length i=true
     · rw [if_pos hr]
       refine ⟨by simp [hr],?_⟩
       rcases hrowk (i - d5 d) with ⟨E,sz,xs,e⟩ | e
       · rw [e];exact ⟨a17,fun cs h=>by cases h⟩
       · rw [e];exact ⟨a2l,fun cs h=>by cases h⟩
     · rw [if_neg hr] at hi;cases hi
 · intro ι hι
   have:∀ i,i < rows.length→ι (d5 d+i)=d5 d+i:=fun i hi=>hι _ (by simp [inR];omega)
   exact b26 this hol
 · rw [hmem] at h2 ⊢
   simp only [M] at h1 ⊢
   by_cases ht:T i=true
   · rw [if_pos ht,if_pos ht]
   · rw [if_neg ht] at h1;cases h1
 · have e:(fun x=>if (T x || inR (d5 d) rows.length x)=true then S5 M (d5 d) rows x else if jT (fun x=>T x || inR (d5 d) rows.length x) x=true then MObj.dead else (st.mem x).kill (a6e (fun x=>T x || inR (d5 d) rows.length x) (inR (d5 d) rows.length)))
    = fun x=>if T x=true then st.mem x else if inR (d5 d) rows.length x=true then K2 rows (x - d5 d) else if jT (fun x=>T x || inR (d5 d) rows.length x) x=true then MObj.dead else (st.mem x).kill (a6e (fun x=>T x || inR (d5 d) rows.length x) (inR (d5 d) rows.length)):=by
    funext x
    rw [hmem]
    by_cases hx:T x=true
    · simp [hx]
    · by_cases hr:inR (d5 d) rows.length x=true
      · simp [hx,hr]
      · simp [hx,hr]
   rw [e]
   exact hK
end Go.PW
