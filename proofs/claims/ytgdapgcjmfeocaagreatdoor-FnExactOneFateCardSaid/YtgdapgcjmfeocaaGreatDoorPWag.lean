/- Deep objects read as data by a call; functions whose result is a new row, or nil taken for one. -/
import Derived.Test.YtgdapgcjmfeocaaGreatDoorPWaf
set_option linter.unusedSectionVars false
set_option linter.unusedSimpArgs false
set_option linter.unusedVariables false
set_option maxRecDepth 100000
namespace Go.PW
variable [GF]
open Go.RowKit
def dK (T:Nat→Nat→Bool) (b n:Nat):Nat→Bool:=c33 (fun x=>TD T x || inR b n x) (inR b n)
def dM (T:Nat→Nat→Bool) (b:Nat) (rows:List Row) (m:Nat→MObj) (x:Nat):MObj:=
 if TD T x then m x else if inR b rows.length x then L8 rows (x - b) else if jT (fun x=>TD T x || inR b rows.length x) x then .dead else (m x).kill (dK T b rows.length)
theorem dK_lo {T:Nat→Nat→Bool} {b n x:Nat} (h:x < 1000000):dK T b n x=inR b n x:=by unfold dK c33;rw [c2s h];simp
theorem dK_DN {T:Nat→Nat→Bool} {b n k j:Nat} (h:b+n≤1000000):dK T b n (DN k j)=false:=by
 unfold dK c33
 rw [c2t]
 have:inR b n (DN k j)=false:=by
  cases e:inR b n (DN k j) with
  | false=>rfl
  | true=>simp only [inR,Bool.and_eq_true,decide_eq_true_eq] at e;unfold DN at e;omega
 rw [this];rfl
theorem dM_lo {T:Nat→Nat→Bool} {b:Nat} {rows:List Row} {m:Nat→MObj} {x:Nat} (h:x < 1000000):dM T b rows m x=if inR b rows.length x then L8 rows (x - b) else (m x).kill (dK T b rows.length):=by
 unfold dM;rw [b1a h,c2s h];rfl
theorem dM_DN {T:Nat→Nat→Bool} {b:Nat} {rows:List Row} {m:Nat→MObj} {k j:Nat} (hk:k < 16) (h:b+rows.length≤1000000):dM T b rows m (DN k j)=if T k j then m (DN k j) else (m (DN k j)).kill (dK T b rows.length):=by
 unfold dM
 have:inR b rows.length (DN k j)=false:=by
  cases e:inR b rows.length (DN k j) with
  | false=>rfl
  | true=>simp only [inR,Bool.and_eq_true,decide_eq_true_eq] at e;unfold DN at e;omega
 rw [b1b hk,this,c2t];rfl
def RetA (res:List Rs) (mk:Nat→PV) (E sz:Nat) (xs:List RV):PExit→St→Prop
 | .normal,st=>∃ st',Le st st'∧∃ id,a0e res st'=some (mk id)∧st'.mem id=.row E sz xs
 | .ret,st=>∃ st',Le st st'∧∃ id,a0e res st'=some (mk id)∧st'.mem id=.row E sz xs
 | _,_=>False
@[simp] theorem RetA_ret {res mk E sz xs} {st:St}:RetA res mk E sz xs .ret st=∃ st',Le st st'∧∃ id,a0e res st'=some (mk id)∧st'.mem id=.row E sz xs:=by rfl
@[simp] theorem RetA_normal {res mk E sz xs} {st:St}:RetA res mk E sz xs .normal st=∃ st',Le st st'∧∃ id,a0e res st'=some (mk id)∧st'.mem id=.row E sz xs:=by rfl
theorem ok_val {P:Program} {f:Nat} {as:List AV} {E sz:Nat} {xs:List RV} (h:d8 P f as (.ret (.own 0) [⟨E,sz,xs⟩]) []):d8 P f as (.ret (.val (.list sz xs)) []) []:=by
 intro L w vs ms hL hgl hgb hargs hnd
 refine (h L w vs ms hL hgl hgb hargs hnd).mono fun e w' hh=>?_
 obtain ⟨ho,v,γ,he,hrep,hmem,hbx⟩:=hh
 have hv:v=γ 0:=by cases hrep with | own _ _ h=>exact h
 have hms:ms=[]:=List.eq_nil_of_length_eq_zero (by have:=hbx.1;simpa using this.symm)
 have hLive:∀ b,l7 L γ (L8 []) b→L b:=fun b hb=>by
  rcases hb with h | ⟨i,h1,_⟩
  · exact h
  · cases h1
 refine ⟨ho,v,γ,he,?_,⟨fun i cs h=>by (cases h),fun i E sz xs h=>by (cases h),fun i E sz n c h=>by (cases h),fun i s clk m h=>by (cases h),fun i j b h=>by (cases h)⟩,by rw [hms];rfl,fun i b cs h1 h2=>by (rw [hms] at h1;cases h1)⟩
 rw [hv]
 refine .val _ _ (b68 (st:=⟨fun _=>.undef,L8 [⟨E,sz,xs⟩]⟩) (id:=0) (E:=E) hmem rfl (fun b o u h1 h2=>⟨fun h=>h1 (.inl (hLive b h)),h2⟩) (fun b hb h3=>?_))
 have h4:=(S1 (hmem.obj 0) (show (L8 [⟨E,sz,xs⟩] 0).live=true from rfl) hb).2
 have h5:=hL b (hLive b h3)
 rcases h4 with h4 | h4
 · have:w.heap.size≤b:=h4
   omega
 · rcases h4 with h4 | h4
   · cases h4
   · cases h4
def swp (a b x:Nat):Nat:=if x=a then b else if x=b then a else x
theorem a8t (a b x:Nat):swp a b (swp a b x)=x:=by unfold swp;split<;>split<;>(try split)<;>omega
theorem a44 {a b x:Nat} (h1:x≠a) (h2:x≠b):swp a b x=x:=by unfold swp;rw [if_neg h1,if_neg h2]
theorem Le.swap {st:St} (a b E sz:Nat) (xs:List RV) (ha:okId a=true) (hb9:b < 900∨1000≤b) (hm:st.mem a=.row E sz xs) (hd:st.mem b=.dead) :
 Le st ⟨fun x=>(st.env x).ren (swp a b),fun x=>(st.mem (swp a b x)).ren (swp a b)⟩:=fun F γ act w hI=>by
 have ha9:a < 900∨1000≤a:=by unfold okId at ha;simp at ha;omega
 have hγ:∀ i,(fun x=>γ (swp a b x)) (swp a b i)=γ i:=fun i=>by show γ (swp a b (swp a b i))=γ i;rw [a8t]
 have hrl:∀ m:MObj,(m.ren (swp a b)).live=m.live:=fun m=>by cases m<;>rfl
 have hL:l7 F.L (fun x=>γ (swp a b x)) (fun x=>(st.mem (swp a b x)).ren (swp a b))=l7 F.L γ st.mem:=by
  funext x
  apply propext
  constructor
  · rintro (h | ⟨i,h1,h2⟩)
    · exact .inl h
    · exact .inr ⟨swp a b i,by rw [← hrl];exact h1,h2⟩
  · rintro (h | ⟨i,h1,h2⟩)
    · exact .inl h
    · exact .inr ⟨swp a b i,by rw [hrl,a8t];exact h1,by show Value.blk (γ (swp a b (swp a b i)))=some x;rw [a8t];exact h2⟩
 have hrok:∀ id x,(st.mem (swp a b id)).live=true→F.rok (swp a b id) x→F.rok id x:=fun id x hl h=>by
  by_cases h1:id=a
  · subst h1
    have:swp id b id=b:=by unfold swp;rw [if_pos rfl]
    rw [this,hd] at hl;cases hl
  by_cases h2:id=b
  · subst h2
    have e:swp a id id=a:=by unfold swp;rw [if_neg h1,if_pos rfl]
    rw [e] at h
    rcases h with h | ⟨h,_⟩ | h
    · exact .inl h
    · omega
    · have:=hI.fr.hpo _ _ h
      rw [ha] at this;cases this
  · rwa [a44 h1 h2] at h
 have hbx:∀ id,(∀ E sz xs,st.mem (swp a b id)≠.row E sz xs)→(st.mem (swp a b id)).live=true→swp a b id=id:=fun id h hl=>by
  by_cases h1:id=a
  · subst h1
    have:swp id b id=b:=by unfold swp;rw [if_pos rfl]
    rw [this,hd] at hl;cases hl
  by_cases h2:id=b
  · subst h2
    have e:swp a id id=a:=by unfold swp;rw [if_neg h1,if_pos rfl]
    rw [e,hm] at h
    exact absurd rfl (h _ _ _)
  · exact a44 h1 h2
 refine ⟨fun x=>γ (swp a b x),hI.sz,hI.df,fun x=>?_,MemInv.of_obj (fun id=>?_) (fun id id' x h1 h2 h3 h4=>?_),hI.fr,?_,fun k x cs hk hmm=>?_,fun v E' sz' ys hv hmm=>?_,fun i v hv hl=>?_⟩
 · show RepP _ (l7 F.L (fun x=>γ (swp a b x)) (fun x=>(st.mem (swp a b x)).ren (swp a b))) w _ _
   rw [hL]
   exact RepP.renTo (γ':=fun x=>γ (swp a b x)) (ι:=swp a b) hγ (hI.env x)
 · show ObjOK F id (l7 F.L (fun x=>γ (swp a b x)) (fun x=>(st.mem (swp a b x)).ren (swp a b))) _ w (γ (swp a b id)) ((st.mem (swp a b id)).ren (swp a b))
   rw [hL]
   have ho:=hI.mem.obj (swp a b id)
   cases hmi:st.mem (swp a b id) with
   | dead=>trivial
   | box cs=>
    have he:=hbx id (fun _ _ _ h=>by rw [hmi] at h;cases h) (by rw [hmi];rfl)
    rw [hmi] at ho
    obtain ⟨b',arr,T,k1,k2,k3,k4,k5⟩:=ho
    refine ⟨b',arr,T,k1,k2,by rw [PV.renL_length];exact k3,by rw [he] at k4;exact k4,fun j hj=>?_⟩
    rw [PV.renL_length] at hj
    rw [PV.renL_getD _ _ _ hj]
    exact ⟨RepP.renTo (γ':=fun x=>γ (swp a b x)) (ι:=swp a b) hγ (k5 j hj).1,(k5 j hj).2⟩
   | row E' sz' ys=>
    rw [hmi] at ho
    obtain ⟨us,k1,k2,k3,k4⟩:=ho
    exact ⟨us,k1.mono (fun x _ hx=>hrok id x (by rw [hmi];rfl) hx) (fun _ _=>rfl),k2,k3,k4⟩
   | prow E' sz' n c=>
    rw [hmi] at ho
    obtain ⟨us,k1,k2,k3⟩:=ho
    exact ⟨us,k1.mono (fun x _ hx=>hrok id x (by rw [hmi];rfl) hx) (fun _ _=>rfl),k2,fun j k hj hk=>⟨RepP.renTo (γ':=fun x=>γ (swp a b x)) (ι:=swp a b) hγ (k3 j k hj hk).1,(k3 j k hj hk).2⟩⟩
   | map s clk m=>
    have he:=hbx id (fun _ _ _ h=>by rw [hmi] at h;cases h) (by rw [hmi];rfl)
    rw [hmi] at ho
    obtain ⟨b',es,k1,k2,k3,k4⟩:=ho
    refine ⟨b',es,k1,k2,by rw [he] at k3;exact k3,⟨k4.key,k4.one,fun e he k hk=>?_,fun k hk=>?_,k4.lt,k4.born⟩⟩
    · obtain ⟨p,h1,h2,h3⟩:=k4.val e he k hk
      exact ⟨p.ren (swp a b),by rw [h1];rfl,RepP.renTo (γ':=fun x=>γ (swp a b x)) (ι:=swp a b) hγ h2,h3⟩
    · rw [k4.out k hk];rfl
 · have h1':(st.mem (swp a b id)).live=true:=by rw [← hrl];exact h1
   have h2':(st.mem (swp a b id')).live=true:=by rw [← hrl];exact h2
   have:=hI.mem.inj _ _ x h1' h2' h3 h4
   have:=congrArg (swp a b) this
   rwa [a8t,a8t] at this
 · show Globs (l7 F.L (fun x=>γ (swp a b x)) (fun x=>(st.mem (swp a b x)).ren (swp a b))) w
   rw [hL];exact hI.gl
 · show γ (swp a b (900+k))=_
   have hmm:(st.mem (swp a b (900+k))).ren (swp a b)=.box cs:=hmm
   cases hmi:st.mem (swp a b (900+k)) with
   | box cs'=>
    have he:=hbx (900+k) (fun _ _ _ h=>by rw [hmi] at h;cases h) (by rw [hmi];rfl)
    rw [he] at hmi ⊢
    exact hI.pin k x cs' hk hmi
   | dead=>rw [hmi] at hmm;cases hmm
   | row _ _ _=>rw [hmi] at hmm;cases hmm
   | prow _ _ _ _=>rw [hmi] at hmm;cases hmm
   | map _ _ _=>rw [hmi] at hmm;cases hmm
 · show γ (swp a b 900)=v
   have hmm:(st.mem (swp a b 900)).ren (swp a b)=.row E' sz' ys:=hmm
   rw [a44 (by omega) (by omega)] at hmm ⊢
   cases hmi:st.mem 900 with
   | row E2 sz2 ys2=>exact hI.pinr v _ _ _ hv hmi
   | dead=>rw [hmi] at hmm;cases hmm
   | box _=>rw [hmi] at hmm;cases hmm
   | prow _ _ _ _=>rw [hmi] at hmm;cases hmm
   | map _ _ _=>rw [hmi] at hmm;cases hmm
 · show γ (swp a b i)=v
   have h9:=hI.fr.hpn i v hv
   have hl:((st.mem (swp a b i)).ren (swp a b)).live=true:=hl
   rw [a44 (by omega) (by omega)] at hl ⊢
   exact hI.pinn i v hv (by rw [← hrl];exact hl)
end Go.PW
