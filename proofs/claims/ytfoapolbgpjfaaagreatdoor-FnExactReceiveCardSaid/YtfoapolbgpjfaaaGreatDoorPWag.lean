/- Deep objects read as data by a call; functions whose result is a new row, or nil taken for one. -/
import Derived.Test.YtfoapolbgpjfaaaGreatDoorPWaf
set_option linter.unusedSectionVars false
set_option linter.unusedSimpArgs false
set_option linter.unusedVariables false
set_option maxRecDepth 100000
namespace Go.PW
variable [GF]
open Go.RowKit
def dK (T:Nat→Nat→Bool) (b n:Nat):Nat→Bool:=a6e (fun x=>TD T x || inR b n x) (inR b n)
def dM (T:Nat→Nat→Bool) (b:Nat) (rows:List Row) (m:Nat→MObj) (x:Nat):MObj:=
 if TD T x then m x else if inR b rows.length x then K2 rows (x - b) else if jT (fun x=>TD T x || inR b rows.length x) x then .dead else (m x).kill (dK T b rows.length)
theorem dK_lo {T:Nat→Nat→Bool} {b n x:Nat} (h:x < 1000000):dK T b n x=inR b n x:=by unfold dK a6e;rw [c01 h];simp
theorem dK_DN {T:Nat→Nat→Bool} {b n k j:Nat} (h:b+n≤1000000):dK T b n (DN k j)=false:=by
 unfold dK a6e
 rw [c02]
 have:inR b n (DN k j)=false:=by
  cases e:inR b n (DN k j) with
  | false=>rfl
  | true=>simp only [inR,Bool.and_eq_true,decide_eq_true_eq] at e;unfold DN at e;omega
 rw [this];rfl
theorem dM_lo {T:Nat→Nat→Bool} {b:Nat} {rows:List Row} {m:Nat→MObj} {x:Nat} (h:x < 1000000):dM T b rows m x=if inR b rows.length x then K2 rows (x - b) else (m x).kill (dK T b rows.length):=by
 unfold dM;rw [a9w h,c01 h];rfl
theorem dM_DN {T:Nat→Nat→Bool} {b:Nat} {rows:List Row} {m:Nat→MObj} {k j:Nat} (hk:k < 16) (h:b+rows.length≤1000000):dM T b rows m (DN k j)=if T k j then m (DN k j) else (m (DN k j)).kill (dK T b rows.length):=by
 unfold dM
 have:inR b rows.length (DN k j)=false:=by
  cases e:inR b rows.length (DN k j) with
  | false=>rfl
  | true=>simp only [inR,Bool.and_eq_true,decide_eq_true_eq] at e;unfold DN at e;omega
 rw [a4q hk,this,c02];rfl
theorem c5r {P:Program} {st:St} {Ke:Kx (PV→St→Prop)} {kx:Kx (RV→St→Prop)} {d f:Nat} {ps:List PV} {rs:List RV} {p:PV} {rows:List Row} (T:Nat→Nat→Bool) (G:Nat→Nat→MObj)
 (h:f9 P f (rs.map .val) (.ret p rows) []) (hl:ps.length=rs.length) (hm:∀ k j,k < 16→T k j=true→st.mem (DN k j)=G k j) (hG:∀ k j,k < 16→(G k j).onT (TD T)∧∀ cs,G k j≠.box cs)
 (hres:∀ M:Nat→MObj,(∀ k j,k < 16→T k j=true→M (DN k j)=G k j)→∀ j,j < ps.length→Res M (ps.getD j .undef) (rs.getD j .nilptr)) (hps:∀ p∈ps,p.onT (TD T)) (hol:p.ownLt rows.length=true) (hf:p.flat=true) (hfr:a5c rows) (hd:d < 900) (hn:rows.length≤1000)
 (hK:Ke.k (p.shift (d5 d)) ⟨fun x=>(st.env x).kill (dK T (d5 d) rows.length),dM T (d5 d) rows st.mem⟩):KC P st d f ps (Ke:=Ke) (kx:=kx):=by
 have key:∀ x,TD T x=true→isD x=true∧∃ k j,k < 16∧st.mem x=G k j:=fun x hx=>by
  have hD:=TD_D hx
  obtain ⟨k,j,hk,rfl⟩:=b5j hD
  rw [a4q hk] at hx
  exact ⟨hD,k,j,hk,hm k j hk hx⟩
 refine callD (TD T) h hl (fun x hx=>?_) (fun x cs hx=>?_) (hres _ fun k j hk ht=>?_) hps hol hf hfr hd hn hK
 · obtain ⟨h1,k,j,hk,e⟩:=key x hx
   exact ⟨h1,by rw [e];exact (hG k j hk).1⟩
 · obtain ⟨h1,k,j,hk,e⟩:=key x hx
   rw [e];exact (hG k j hk).2 cs
 · simp only [a4q hk,ht,if_true]
   exact hm k j hk ht
theorem ok_of_mem {P:Program} {f:Nat} {r r':RV} {out:PV} {M':Nat→MObj} (h:S0 P f [.val r] (fun _=>.dead) (fun _=>false) out M') (hres:Res M' out r'):f9 P f [.val r] (.ret (.val r') []) []:=by
 intro L w vs ms hL hgl hgb hargs hnd
 have hv:∃ v,vs=[v]∧ms=[]∧RepR L w r v:=by
  cases hargs with
  | cons _ _ v vs' ms1 ms2 h1 h2=>
   cases h2
   cases h1 with
   | val _ _ h1=>exact ⟨v,rfl,rfl,h1⟩
 obtain ⟨v0,rfl,rfl,hv0⟩:=hv
 have hd:∀ b,¬ b93 (fun _=>undef) (fun _=>MObj.dead) b:=fun b ⟨i,h1,_⟩=>by cases h1
 refine (h L w [v0] (fun _=>undef) hL (fun b hb=>absurd hb (hd b)) hgl hgb rfl (fun j hj=>?_) ⟨fun i cs h=>by (cases h),fun i E sz xs h=>by (cases h),fun i E sz n c h=>by (cases h),fun i s clk m h=>by (cases h),fun i j b h=>by (cases h)⟩).mono fun e w' hh=>?_
 · have:j=0:=by simp at hj;exact hj
   subst this
   exact .val _ _ hv0
 · obtain ⟨ho,v,γ',he,_,hrep,hmem⟩:=hh
   refine ⟨⟨ho.os,ho.tape,ho.output,ho.size,fun k hk _=>ho.block k hk (hd k)⟩,v,γ',he,?_,⟨fun i cs h=>by (cases h),fun i E sz xs h=>by (cases h),fun i E sz n c h=>by (cases h),fun i s clk m h=>by (cases h),fun i j b h=>by (cases h)⟩,rfl,fun i b cs h=>by (cases h)⟩
   have hLive:∀ b,F8 L γ' (K2 []) b→L b:=fun b hb=>by
    rcases hb with h | ⟨i,h1,_⟩
    · exact h
    · cases h1
   refine .val _ _ (c0d hmem (fun b o u h1 h2=>⟨fun h=>h1 (.inl (hLive b h)),h2⟩) (fun id b h1 h2 h3=>?_) hres (fun b o u h1 h2=>⟨fun h=>h1 (.inl (hLive b h)),h2⟩) hrep)
   have h4:=(R5 (hmem.obj id) h1 h2).2
   have h5:=hL b (hLive b h3)
   rcases h4 with h4 | h4
   · have:w.heap.size≤b:=h4
     omega
   · rcases h4 with h4 | h4
     · cases h4
     · simp [hand] at h4;cases h4.1
def c6a (res:List Rs) (mk:Nat→PV) (E sz:Nat) (xs:List RV):PExit→St→Prop
 | .normal,st=>∃ st',Le st st'∧∃ id,P2 res st'=some (mk id)∧st'.mem id=.row E sz xs
 | .ret,st=>∃ st',Le st st'∧∃ id,P2 res st'=some (mk id)∧st'.mem id=.row E sz xs
 | _,_=>False
@[simp] theorem RetA_ret {res mk E sz xs} {st:St}:c6a res mk E sz xs .ret st=∃ st',Le st st'∧∃ id,P2 res st'=some (mk id)∧st'.mem id=.row E sz xs:=by rfl
@[simp] theorem RetA_normal {res mk E sz xs} {st:St}:c6a res mk E sz xs .normal st=∃ st',Le st st'∧∃ id,P2 res st'=some (mk id)∧st'.mem id=.row E sz xs:=by rfl
theorem a8d {P:Program} {f:Nat} {c:PC} {res:List Rs} {as:List AV} {mk:Nat→PV} {E sz:Nat} {xs:List RV} (hm:P.follows .mixedOrders=true) (hc:K5 P f c as.length res=true) (hb:a7 as=[]) (hmk:∀ ι:Nat→Nat,(mk 0).ren ι=mk (ι 0))
 (h:U6 P c (b9 as) (c6a res mk E sz xs)):f9 P f as (.ret (mk 0) [⟨E,sz,xs⟩]) []:=by
 refine a6a hm hc (S3 (fun e s hh=>?_) h)
 have key:(∃ s',Le s s'∧∃ id,P2 res s'=some (mk id)∧s'.mem id=.row E sz xs)→∃ st',Le s st'∧b2h res (a7 as).length (.ret (mk 0) [⟨E,sz,xs⟩]) [] .ret st':=fun ⟨s',hle,id,h1,h2⟩=>
  ⟨s',hle,(by rw [hb]),⟨⟨fun _=>id,by rw [hmk];exact h1,fun i j hi hj _=>by simp at hi hj;omega,fun i r hr=>by
   have:i=0:=by
    have:=(List.getElem?_eq_some_iff.1 hr).1
    simp at this;exact this
   subst this
   simp at hr;subst hr;exact h2⟩,trivial⟩⟩
 cases e with
 | normal=>exact key hh
 | ret=>exact key hh
 | exit id=>exact hh.elim
 | pan r=>exact hh.elim
theorem b54 {E sz:Nat} {xs:List RV} {st:St} {a b:Nat} {c:RV} (id:Nat) (h1:st.env a=.own id) (h2:st.env b=.val c) (h3:st.mem id=.row E sz xs):∃ st',Le st st'∧∃ id,(st'.env a=.own id∧st'.env b=.val c)∧st'.mem id=.row E sz xs:=
 ⟨st,Le.forget rfl (fun x=>.refl _),id,⟨h1,h2⟩,h3⟩
theorem V3 {E sz:Nat} {st:St} {a b:Nat} {c:RV} (z d:Nat) (hsz:0 < sz) (h9:V9 d) (hab:b≠a) (h1:st.env a=.emp z) (h2:st.env b=.val c):∃ st',Le st st'∧∃ id,(st'.env a=.own id∧st'.env b=.val c)∧st'.mem id=.row E sz []:=by
 refine ⟨⟨upd a (.own d) fun x=>(st.env x).kill (· == d),upd d (.row E sz []) fun i=>(st.mem i).kill (· == d)⟩,Le.adopt d E sz h9 hsz (by simp [upd]) (fun x=>?_) (fun i hi=>.inl (by simp [upd,hi])),d,⟨by simp [upd],by simp [upd,hab,h2,PV.kill]⟩,by simp [upd]⟩
 by_cases hx:x=a
 · subst hx;rw [h1];simp [upd];exact .emp z
 · simp [upd,hx];exact .kill _
end Go.PW
