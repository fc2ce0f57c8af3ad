/- Ea: merged out of KLb, KIa, KIb, KIc, KId. -/
import Derived.Test.YtfoapolbgpjfaaaGreatDoorAc
import Derived.Test.YtfoapolbgpjfaaaGreatDoorShelf
import Derived.Test.YtfoapolbgpjfaaaGreatDoorCa
import Derived.Test.YtfoapolbgpjfaaaGreatDoorBa
set_option linter.unusedSectionVars false
set_option linter.unusedSimpArgs false
set_option linter.unusedVariables false
set_option maxRecDepth 100000
section
namespace Go.KP
theorem b40 (s:Tx) (c:UInt8):Lib.indexByte s c=if c∈s then (Y5 s c:Int) else -1:=by
 induction s with
 | nil=>simp [Lib.indexByte]
 | cons b l ih=>
  unfold Lib.indexByte
  by_cases h:b=c
  · subst h
    simp [Y5,List.findIdx_cons]
  · have h':(b == c)=false:=by simpa using h
    have h2:Y5 (b :: l) c=Y5 l c+1:=by simp [Y5,List.findIdx_cons,h']
    rw [h',ih,h2]
    by_cases hm:c∈l
    · have hm':c∈b :: l:=List.mem_cons_of_mem _ hm
      rw [if_pos hm,if_pos hm']
      have:(((Y5 l c:Nat):Int) == -1)=false:=by rw [beq_eq_false_iff_ne];omega
      rw [this];simp
    · have hm':¬ c∈b :: l:=by simp [hm];exact fun e=>h e.symm
      rw [if_neg hm,if_neg hm']
      simp
theorem a4d (n:Nat):Lib.decDigits n=Z3 n:=by
 induction n using Nat.strongRecOn with
 | ind n ih=>
  rw [Lib.decDigits]
  by_cases h:n < 10
  · rw [dif_pos h,Y1 h]
  · rw [dif_neg h,a1l h,ih _ (by omega)]
theorem b92 (n:Int):Lib.itoa n=a1w n:=by
 unfold Lib.itoa a1w
 split
 · rw [a4d];congr 2;omega
 · rw [a4d]
end Go.KP
namespace Go.Proofs
open Go.PW Go.KP Go.RowKit
class GH extends GF where
 m:Int
 hm:(0,0,Value.int .i64 m)∈gs
 T10:TypeId
 z10:Nat×Nat
 h10:(3,Obj.cells (Lib.pow10Tab.map fun z=>Value.int .u64 z).toArray T10 z10)∈bs
 ts:TypeId
 ps:Value
 hs:(4,0,Value.iface ts ps)∈gs
 tr:TypeId
 pr:Value
 hr:(5,0,Value.iface tr pr)∈gs
variable [GH]
theorem a3i (t:Tx):(bs t).data.toList=t:=by simp [bs]
theorem b5z {B:Nat} (w:World) (n:Nat):Below B w (w.drewN n):=⟨rfl,rfl,rfl,Nat.le_refl _,fun _ _=>rfl⟩
theorem b7u {B:Nat} (w:World) (os:Array Obj) (h:B≤w.heap.size):Below B w (Go.Sort.grow w os):=
 ⟨rfl,rfl,rfl,by simp [Go.Sort.grow],fun k hk=>by simp [Go.Sort.grow,Array.getElem?_append,Nat.lt_of_lt_of_le hk h]⟩
theorem a4i (t:Tx) (c:UInt8):n7 Tryz.prog 231 [.val (tx t),.val (rvb c)] (.ret (.val (num (if c∈t then (Y5 t c:Int) else -1))) []) []:=by
 refine a52 (rs:=[tx t,rvb c]) (vals:=[.string (bs t),.int .u8 c.toNat]) (v:=.int .i64 (if c∈t then (Y5 t c:Int) else -1)) rfl rfl fun L w hgl hgb=>?_
 refine (Tryz.strings_IndexByte (bs t) c.toNat w).mono fun e w' ⟨he,hw⟩=>?_
 rw [a3i,Lib.byte_back,b40] at he
 exact ⟨he,a56 hw⟩
theorem a8a (t p:Tx):n7 Tryz.prog 228 [.val (tx t),.val (tx p)] (.ret (.val (.bool (p.isPrefixOf t))) []) []:=by
 refine a52 (rs:=[tx t,tx p]) (vals:=[.string (bs t),.string (bs p)]) (v:=.bool (p.isPrefixOf t)) rfl rfl fun L w hgl hgb=>?_
 refine (Tryz.strings_HasPrefix (bs t) (bs p) w).mono fun e w' ⟨he,hw⟩=>?_
 rw [a3i,a3i] at he
 exact ⟨he,a56 hw⟩
theorem c28 (n:Int) (h0:-9223372036854775808≤n) (h1:n≤9223372036854775807):n7 Tryz.prog 183 [.val (num n)] (.ret (.val (tx (a1w n))) []) []:=by
 refine a52 (rs:=[num n]) (vals:=[.int .i64 n]) (v:=.string (bs (a1w n))) rfl rfl fun L w hgl hgb=>?_
 have htab:Lib.TabIs Tryz.prog w "internal/strconv.uint64pow10" .u64 Lib.pow10Tab:=by
  unfold Lib.TabIs World.var?
  have e:Tryz.prog.globalNamed "internal/strconv.uint64pow10" = some 3:=by kernel_rfl
  rw [e]
  simp only [Option.bind_some]
  rw [(hgb _ GH.h10).2]
 refine (Tryz.strconv_Itoa n h0 h1 w htab).mono fun e w' ⟨he,k,os,hw⟩=>?_
 rw [b92] at he
 exact ⟨he,hw ▸ (b5z w k).trans (b7u _ _ (Nat.le_refl _))⟩
end Go.Proofs
end
section
namespace Go.Proofs
open Go.PW Go.KP
attribute [local simp] RV.cells RV.one PV.cells PV.solid PV.one J2 a6 N0 N1 RV.ofCells elems PV.killL
section
variable [GF]
theorem a0i (a lo hi:Int):n7 Tryz.prog 106 [.val (num a),.val (num lo),.val (num hi)] (.ret (.val (.bool (decide (lo≤a∧a≤hi)))) []) []:=by
 refine J0 mixed ok106 rfl (fun _=>rfl) ?_
 unfold ir106
 rw [b7]
 by_cases h:lo≤a
 · simp [d3,x8,M5,a7,c8,num,h]
 · simp [d3,x8,M5,a7,c8,num,h]
theorem i_isNow (n:Int):n7 Tryz.prog 123 [.val (num n)] (.ret (.val (.bool (decide (0≤n∧n≤1000000)))) []) []:=by
 refine J0 mixed ok123 rfl (fun _=>rfl) ?_
 unfold ir123
 rw [b7]
 simp [d3,x8,M5,a7,c8,num]
 refine n0 rfl rfl (.inl rfl) (a0i n 0 1000000) ?_
 simp
theorem c2i (b:Bool) (n:Int):n7 Tryz.prog 125 [.val (.bool b),.val (num n)] (.ret (.val (num (if b then 0 else n))) []) []:=by
 refine J0 mixed ok125 rfl (fun _=>rfl) ?_
 unfold ir125
 rw [b7]
 cases b<;>simp [d3,x8,M5,a7,c8,num]
theorem i_long (t:Tx):n7 Tryz.prog 84 [.val (tx t)] (.ret (.val (num (if t.length≤65536 then 0 else 2))) []) []:=by
 refine J0 mixed ok84 rfl (fun _=>rfl) ?_
 unfold ir84
 rw [b7]
 have e:decide ((t.length:Int)≤65536)=decide (t.length≤65536):=by
  by_cases h:t.length≤65536
  · rw [decide_eq_true h,decide_eq_true (by omega)]
  · rw [decide_eq_false h,decide_eq_false (by omega)]
 simp [d3,x8,M5,a7,c8,tx,a8,e]
 refine n0 rfl rfl (.inl rfl) (c2i (decide (t.length≤65536)) 2) ?_
 simp [num]
theorem b95 (c:UInt8):n7 Tryz.prog 260 [.val (rvb c)] (.ret (.val (.bool (Q8 c))) []) []:=by
 refine J0 mixed ok260 rfl (fun _=>rfl) ?_
 unfold ir260
 rw [b7]
 have e1:((48:Int)≤c.toNat)↔48≤c.toNat:=by omega
 have e2:((c.toNat:Int)≤57)↔c.toNat≤57:=by omega
 by_cases h:48≤c.toNat
 · simp [d3,x8,M5,a7,c8,rvb,Q8,h,e1,e2]
 · simp [d3,x8,M5,a7,c8,rvb,Q8,h,e1,e2]
structure SS (st:St) (t:Tx) (i m:Nat) (c:UInt8):Prop where
 e0:st.env 0=.val (tx t)
 e3:st.env 3=.val (num i)
 e4:st.env 4=.val (rvb c)
 e7:st.env 7=.val (num m)
 e8:st.env 8=.val (num i)
end
section
variable [GH]
theorem b96 (n:Int) (h0:-9223372036854775808≤n) (h1:n≤9223372036854775807):n7 Tryz.prog 120 [.val (num n)] (.ret (.val (tx (a1w n))) []) []:=by
 refine J0 mixed ok120 rfl (fun _=>rfl) ?_
 unfold ir120
 rw [b7]
 simp [d3,x8,M5,a7,c8,num]
 refine n0 rfl rfl (.inl rfl) (c28 n h0 h1) ?_
 simp
end
end Go.Proofs
end
section
namespace Go.Proofs
open Go.PW Go.KP
variable [GF]
structure HS (st:St) (t:Tx) (i:Nat) (c:UInt8):Prop where
 e0:st.env 0=.val (tx t)
 e3:st.env 3=.val (num i)
 e4:st.env 4=.val (rvb c)
 e6:st.env 6=.val (num t.length)
 e7:st.env 7=.val (num i)
section
variable {Ks:Kx (St→Prop)} {kx:Kx (RV→St→Prop)} {st:St} {t:Tx} {i:Nat} {c:UInt8} {b:Bool}
end
end Go.Proofs
end
section
namespace Go.Proofs
open Go.PW Go.KP
attribute [local simp] RV.cells RV.one PV.cells PV.solid PV.one J2 a6 N0 N1 RV.ofCells elems PV.killL
variable [GH]
structure UT (st:St) (u:LUrl) (pre:Tx):Prop where
 e1:st.env 1=.ptr 1 0
 e3:st.env 3=.val (tx pre)
 m1:st.mem 1=.box (a8t u)
abbrev txt (t:Tx):Kx (PExit→St→Prop):=⟨a45 [.t 2] (.val (tx t))⟩
end Go.Proofs
end
section
namespace Go.KP
def a2n (t:Tx):Int×Bool:=Lib.NumEnd.casesOn (motive:=fun _=>Int×Bool) (Lib.atoiAll t) (fun v=>(v,decide (V2 t≤18) && decide (a1w v=t))) (0,false) (Lib.atoiSat t,false)
theorem b6k:∀ (u:Tx) (acc:Nat),u.all Q8=true→acc*10 ^ u.length+T5 u < 1000000000000000000→Lib.parseUint10 acc u=.ok (acc*10 ^ u.length+T5 u):=by
 have hlv:∀ (u:Tx) (a:Nat),u.foldl (fun n c=>n*10+(c.toNat - 48)) a=a*10 ^ u.length+T5 u:=by
  intro u
  induction u with
  | nil=>intro a;simp [T5]
  | cons c r ih=>
   intro a
   simp only [List.foldl_cons,T5,List.length_cons]
   rw [ih,ih (0*10+(c.toNat - 48)),Nat.pow_succ]
   have:(a*10+(c.toNat - 48))*10 ^ r.length=a*(10 ^ r.length*10)+(c.toNat - 48)*10 ^ r.length:=by
    rw [Nat.add_mul];congr 1;rw [Nat.mul_assoc,Nat.mul_comm 10]
   rw [this];simp [Nat.add_assoc]
 intro u
 induction u with
 | nil=>intro acc _ _;simp [Lib.parseUint10,T5]
 | cons c r ih=>
  intro acc ha hlt
  simp only [List.all_cons,Bool.and_eq_true] at ha
  have hc:=ha.1
  simp only [Q8,decide_eq_true_eq] at hc
  have e:acc*10 ^ (c :: r).length+T5 (c :: r)=(acc*10+(c.toNat - 48))*10 ^ r.length+T5 r:=by
   rw [← hlv (c :: r) acc,List.foldl_cons,hlv r]
  rw [e] at hlt ⊢
  have hp:1≤10 ^ r.length:=Nat.one_le_pow _ _ (by decide)
  have hb:acc*10+(c.toNat - 48) < 1000000000000000000:=by
   have:=Nat.le_mul_of_pos_right (acc*10+(c.toNat - 48)) hp
   omega
  rw [Lib.parseUint10.eq_2,if_pos hc,if_neg (by omega),if_neg (by omega)]
  exact ih _ ha.2 hlt
theorem b8z (t:Tx):(if (a2n t).2 then some (a2n t).1 else none)=S6 t:=by
 cases hl:S6 t with
 | some n=>
  obtain ⟨h1,h2,u,h3,h4,h5,h6⟩:=b24 hl
  have hv:T5 u < 1000000000000000000:=by
   have:=b21 u h4
   have h7:T5 u < 10 ^ 18:=Nat.lt_of_lt_of_le this (Nat.pow_le_pow_right (by omega) h5)
   have h8:(10:Nat) ^ 18=1000000000000000000:=by decide
   omega
  have hpm:Lib.parseMag u=.ok (T5 u):=by
   unfold Lib.parseMag
   rw [if_neg h3,b6k u 0 h4 (by simpa using hv)]
   simp
  have key:Lib.atoiAll t=.ok n:=by
   unfold Lib.atoiAll
   rcases h6 with ⟨rfl,hn⟩ | ⟨rfl,hn⟩
   · have e45:(45:UInt8).toNat=45:=rfl
     simp only [e45,or_true,if_true,hpm,not_true,false_and,if_false,true_and]
     rw [if_neg (by omega),hn]
   · cases hu:t with
     | nil=>exact absurd hu h3
     | cons c r=>
      have hd:Q8 c=true:=by rw [hu,List.all_cons,Bool.and_eq_true] at h4;exact h4.1
      simp only [Q8,decide_eq_true_eq] at hd
      have e1:¬ c.toNat=43:=by omega
      have e2:¬ c.toNat=45:=by omega
      rw [hu] at hpm hn hv
      simp only [e1,e2,or_self,if_false,not_false_eq_true,true_and,false_and]
      rw [hpm]
      dsimp only
      rw [if_neg (by omega),hn]
  unfold a2n
  rw [key]
  simp only [h1,decide_true,Bool.and_true]
  rw [decide_eq_true h2];rfl
 | none=>
  rcases hv:Lib.atoiAll t with v | _ | _<;>unfold a2n<;>rw [hv]
  · dsimp only
    by_cases h:(decide (V2 t≤18) && decide (a1w v=t))=true
    · simp only [Bool.and_eq_true,decide_eq_true_eq] at h
      have:=b25 v (by rw [h.2];exact h.1)
      rw [h.2,hl] at this
      cases this
    · rw [if_neg h]
  · rfl
  · rfl
theorem b1c {t:Tx} {v:Int} (h:Lib.atoiAll t=.ok v):-9223372036854775808≤v∧v≤9223372036854775807:=by
 unfold Lib.atoiAll at h
 split at h
 · cases h
 · dsimp only at h
   split at h
   · cases h
   · cases h
   · split at h
     · cases h
     · split at h
       · cases h
       · rename_i u _ h1 h2
         injection h with h
         split at h
         · rename_i h3
           have:¬ 9223372036854775808 < u:=fun h4=>h2 ⟨h3,h4⟩
           omega
         · rename_i h3
           have:¬ 9223372036854775808≤u:=fun h4=>h1 ⟨h3,h4⟩
           omega
theorem b8y {t:Tx} (h:(a2n t).2=true):S6 t=some (a2n t).1:=by
 have:=b8z t
 rw [h] at this
 exact this.symm
theorem b12 {t:Tx} (h:(a2n t).2=false):S6 t=none:=by
 have:=b8z t
 rw [h] at this
 exact this.symm
end Go.KP
namespace Go.PW
open Go.RowKit
variable [GF]
theorem c0j {P:Program} {f:Nat} {rs:List RV} {vals:List Value} {p:PV} (ha:svs rs=some vals)
 (h:∀ L w,Globs L w→b1e L w→Calls P f vals.toArray w fun e w'=>(∃ v,e=.returned v∧∀ γ L,RepP γ L w' p v)∧Below w.heap.size w w'):n7 P f (rs.map .val) (.ret p []) []:=by
 intro L w vs ms hL hgl hgb hargs hnd
 obtain ⟨rfl,rfl⟩:=a8p ha hargs
 refine (h L w hgl hgb).mono fun e w' ⟨⟨v,he,hp⟩,hb⟩=>?_
 exact ⟨Outside.of_below hb,v,fun _=>undef,he,hp _ _,a3x,rfl,fun i b cells h1 h2=>by simp at h1⟩
end Go.PW
namespace Go.Proofs
open Go.PW Go.KP Go.RowKit
variable [GH]
def Y2 (t:Tx):PV:=Lib.NumEnd.casesOn (motive:=fun _=>PV) (Lib.atoiAll t) (fun v=>.tup [.val (num v),.val .nilif]) (.tup [.val (num 0),.val (.ifc 259 .opq)]) (.tup [.val (num (Lib.atoiSat t)),.val (.ifc 259 .opq)])
theorem b50 (w:World) (t:ByteArray):Below w.heap.size w (Lib.bytesWorld w 5 t):=Lib.bytesWorld_below _ _ _
theorem b2l {γ:Nat→Value} {L:Nat→Prop} {w:World} {p q:PV} {v u:Value} (h1:RepP γ L w p v) (h2:RepP γ L w q u):RepP γ L w (.tup [p,q]) (.tuple #[v,u]):=
 .tup _ _ rfl fun i hi=>by
  match i,hi with
  | 0,_=>exact h1
  | 1,_=>exact h2
theorem c_Atoi (t:Tx) (ht:t.length < 4294967281):n7 Tryz.prog 277 [.val (tx t)] (.ret (Y2 t) []) []:=by
 refine c0j (rs:=[tx t]) (vals:=[.string (bs t)]) rfl fun L w hgl hgb=>?_
 have hsz:(bs t).size=t.length:=a8 t
 rcases h:Lib.atoiAll t with v | _ | _
 · refine (Tryz.strconv_Atoi_ok (bs t) (by rw [hsz];omega) v (by rw [a3i];exact h) w).mono fun e w' ⟨he,hw⟩=>?_
   refine ⟨⟨_,he,fun γ L=>?_⟩,?_⟩
   · unfold Y2
     rw [h]
     exact b2l (.val _ _ (.int _ _)) (.val _ _ .nilif)
   · rcases hw with hw | ⟨s,hw⟩
     · exact a56 hw
     · rw [hw];exact b50 _ _
 · refine (Calls.mono (Any.strconv_Atoi_syntax Tryz.laysC172 (bs t) (by rw [hsz];omega) (by rw [a3i];exact h) _ w (hgl _ GH.hs).2 (.inr ⟨_,_,rfl⟩)) fun e w' ⟨N,he,_,_,hw⟩=>?_)
   refine ⟨⟨_,he,fun γ L=>?_⟩,hw⟩
   unfold Y2
   rw [h]
   exact b2l (.val _ _ (.int _ _)) (.val _ _ (.ifc _ _ _ (.opq _ rfl)))
 · refine (Tryz.strconv_Atoi_range (bs t) (by rw [hsz];omega) (by rw [a3i];exact h) _ w (hgl _ GH.hr).2 (.inr ⟨_,_,rfl⟩)).mono fun e w' ⟨N,he,_,_,hw⟩=>?_
   refine ⟨⟨_,he,fun γ L=>?_⟩,hw⟩
   unfold Y2
   rw [h]
   rw [a3i]
   exact b2l (.val _ _ (.int _ _)) (.val _ _ (.ifc _ _ _ (.opq _ rfl)))
def a6q (t:Tx):PV:=.tup [.val (num (a2n t).1),.val (.bool (a2n t).2)]
theorem a6h (t:Tx) (ht:t.length < 4294967281) (st:St) (h0:st.env 0=.val (tx t)) (h6:st.env 6=.val (num (V2 t)))
 (h45:(∃ v,Lib.atoiAll t=.ok v∧st.env 4=.val (num v)∧st.env 5=.val .nilif)∨(∃ n,(a2n t)=(n,false)∧st.env 4=.val (num n)∧st.env 5=.val (.ifc 259 .opq))) :
 EC Tryz.prog ir249_from4 st (K:=⟨a45 [.t 2,.t 3] (a6q t)⟩):=by
 unfold ir249_from4 a6q
 rcases h45 with ⟨v,hv,h4,h5⟩ | ⟨n,hn,h4,h5⟩
 · have hr:=b1c hv
   have e:a2n t=(v,decide (V2 t≤18) && decide (a1w v=t)):=by unfold a2n;rw [hv]
   rw [e]
   by_cases hd:V2 t≤18
   · have hd':(V2 t:Int)≤18:=by omega
     simp [h0,h4,h5,h6,tx,num,hd']
     refine n0 rfl rfl (.inl rfl) (c28 v hr.1 hr.2) ?_
     simp [h0,h4,h5,h6,tx,num,Q3,hd]
   · have hd':¬ (V2 t:Int)≤18:=by omega
     simp [h0,h4,h5,h6,tx,num,hd',hd]
 · rw [hn]
   simp [h0,h4,h5,h6,tx,num]
theorem c2j (t:Tx) (ht:t.length < 4294967281):n7 Tryz.prog 249 [.val (tx t)] (.ret (a6q t) []) []:=by
 refine J0 mixed ok249 rfl (fun _=>rfl) ?_
 unfold ir249
 rw [b7]
 have e3:(⟨#[]⟩:ByteArray)=bs []:=rfl
 have hA:=c_Atoi t ht
 simp [d3,x8,M5,a7,c8,tx]
 have hmid:∀ (a b:RV),Y2 t=.tup [.val a,.val b]→((∃ v,Lib.atoiAll t=.ok v∧a=num v∧b=.nilif)∨(∃ n,(a2n t)=(n,false)∧a=num n∧b=.ifc 259 .opq)):=by
  intro a b h
  rcases hv:Lib.atoiAll t with v | _ | _
  · have e:Y2 t=.tup [.val (num v),.val .nilif]:=by unfold Y2;rw [hv]
    rw [e] at h
    simp only [PV.tup.injEq,List.cons.injEq,PV.val.injEq] at h
    exact .inl ⟨v,rfl,h.1.symm,h.2.1.symm⟩
  · have e:Y2 t=.tup [.val (num 0),.val (.ifc 259 .opq)]:=by unfold Y2;rw [hv]
    have e2:a2n t=(0,false):=by unfold a2n;rw [hv]
    rw [e] at h
    simp only [PV.tup.injEq,List.cons.injEq,PV.val.injEq] at h
    exact .inr ⟨0,e2,h.1.symm,h.2.1.symm⟩
  · have e:Y2 t=.tup [.val (num (Lib.atoiSat t)),.val (.ifc 259 .opq)]:=by unfold Y2;rw [hv]
    have e2:a2n t=(Lib.atoiSat t,false):=by unfold a2n;rw [hv]
    rw [e] at h
    simp only [PV.tup.injEq,List.cons.injEq,PV.val.injEq] at h
    exact .inr ⟨Lib.atoiSat t,e2,h.1.symm,h.2.1.symm⟩
 obtain ⟨a,b,hab⟩:∃ a b,Y2 t=.tup [.val a,.val b]:=by
  unfold Y2
  rcases Lib.atoiAll t with v | _ | _<;>exact ⟨_,_,rfl⟩
 have hm:=hmid a b hab
 rw [hab] at hA
 refine T0 rfl rfl (.inl rfl) hA ?_
 cases t with
 | nil=>
  simp [tx,a8,e3,Q3]
  refine a6h [] ht _ ?_ ?_ ?_
  · simp [tx]
  · simp [num,V2]
  · rcases hm with ⟨v,h1,rfl,rfl⟩ | ⟨n,h1,rfl,rfl⟩
    · exact .inl ⟨v,h1,by simp,by simp⟩
    · exact .inr ⟨n,h1,by simp,by simp⟩
 | cons c r=>
  have hr:r.length < 4294967280:=by simp at ht;omega
  have e0:(0:Int) < ((r.length:Int)+1):=by omega
  have fin:∀ st':St,st'.env 0=.val (tx (c :: r))→st'.env 6=.val (num (V2 (c :: r)))→st'.env 4=.val a→st'.env 5=.val b→EC Tryz.prog ir249_from4 st' (K:=⟨a45 [.t 2,.t 3] (a6q (c :: r))⟩):=fun st' q0 q6 q4 q5=>by
   refine a6h (c :: r) ht st' q0 q6 ?_
   rcases hm with ⟨v,h1,rfl,rfl⟩ | ⟨n,h1,rfl,rfl⟩
   · exact .inl ⟨v,h1,q4,q5⟩
   · exact .inr ⟨n,h1,q4,q5⟩
  by_cases hc:c=45
  · have e1:((c.toNat:Int)=45):=by rw [hc];rfl
    have hw:IntKind.i64.wrap ((r.length:Int)+1 - 1)=(r.length:Int):=by rw [wrap_i64 (by omega) (by omega)];omega
    simp [tx,a8,e3,Q3,M8,e0,e1,hw]
    refine fin _ ?_ ?_ ?_ ?_
    · simp [tx]
    · simp [num,V2,hc];exact wrap_i64 (by omega) (by omega)
    · simp
    · simp
  · have e1:¬ ((c.toNat:Int)=45):=fun h=>hc (UInt8.toNat_inj.1 (by simp;omega))
    simp [tx,a8,e3,Q3,M8,e0,e1]
    refine fin _ ?_ ?_ ?_ ?_
    · simp [tx]
    · simp [num,V2,hc]
    · simp
    · simp
end Go.Proofs
end
