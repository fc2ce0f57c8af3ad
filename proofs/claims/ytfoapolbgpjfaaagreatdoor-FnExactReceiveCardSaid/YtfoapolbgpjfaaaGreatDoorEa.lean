/- Ea: merged out of KLb, KIa, KIb, KIc, KId, KIm, KJa. -/
import Derived.Test.YtfoapolbgpjfaaaGreatDoorAc
import Derived.Test.YtfoapolbgpjfaaaGreatDoorShelf
import Derived.Test.YtfoapolbgpjfaaaGreatDoorCa
import Derived.Test.YtfoapolbgpjfaaaGreatDoorBa
set_option linter.unusedSectionVars false
set_option linter.unusedSimpArgs false
set_option linter.unusedVariables false
set_option maxRecDepth 100000
section
namespace Go.KP
theorem b6z (s:Tx) (c:UInt8):Lib.indexByte s c=if c∈s then (a0g s c:Int) else -1:=by
 induction s with
 | nil=>simp [Lib.indexByte]
 | cons b l ih=>
  unfold Lib.indexByte
  by_cases h:b=c
  · subst h
    simp [a0g,List.findIdx_cons]
  · have h':(b == c)=false:=by simpa using h
    have h2:a0g (b :: l) c=a0g l c+1:=by simp [a0g,List.findIdx_cons,h']
    rw [h',ih,h2]
    by_cases hm:c∈l
    · have hm':c∈b :: l:=List.mem_cons_of_mem _ hm
      rw [if_pos hm,if_pos hm']
      have:(((a0g l c:Nat):Int) == -1)=false:=by rw [beq_eq_false_iff_ne];omega
      rw [this];simp
    · have hm':¬ c∈b :: l:=by simp [hm];exact fun e=>h e.symm
      rw [if_neg hm,if_neg hm']
      simp
theorem a5g (n:Nat):Lib.decDigits n=a0p n:=by
 induction n using Nat.strongRecOn with
 | ind n ih=>
  rw [Lib.decDigits]
  by_cases h:n < 10
  · rw [dif_pos h,Z9 h]
  · rw [dif_neg h,a18 h,ih _ (by omega)]
theorem c2p (n:Int):Lib.itoa n=a2p n:=by
 unfold Lib.itoa a2p
 split
 · rw [a5g];congr 2;omega
 · rw [a5g]
end Go.KP
namespace Go.Proofs
open Go.PW Go.KP Go.RowKit
class GH extends GF where
 m:Int
 hm:(0,0,Value.int .i64 m)∈gs
 T10:TypeId
 z10:Nat×Nat
 h10:(3,Obj.cells (Lib.pow10Tab.map fun z=>Value.int .u64 z).toArray T10 z10)∈bs
 ts:TypeId
 ps:Value
 hs:(4,0,Value.iface ts ps)∈gs
 tr:TypeId
 pr:Value
 hr:(5,0,Value.iface tr pr)∈gs
variable [GH]
theorem a4j (t:Tx):(bs t).data.toList=t:=by simp [bs]
theorem b7z {B:Nat} (w:World) (n:Nat):Below B w (w.drewN n):=⟨rfl,rfl,rfl,Nat.le_refl _,fun _ _=>rfl⟩
theorem b91 {B:Nat} (w:World) (os:Array Obj) (h:B≤w.heap.size):Below B w (Go.Sort.grow w os):=
 ⟨rfl,rfl,rfl,by simp [Go.Sort.grow],fun k hk=>by simp [Go.Sort.grow,Array.getElem?_append,Nat.lt_of_lt_of_le hk h]⟩
theorem a5n (t:Tx) (c:UInt8):f9 Tryz.prog 231 [.val (tx t),.val (rvb c)] (.ret (.val (num (if c∈t then (a0g t c:Int) else -1))) []) []:=by
 refine a7h (rs:=[tx t,rvb c]) (vals:=[.string (bs t),.int .u8 c.toNat]) (v:=.int .i64 (if c∈t then (a0g t c:Int) else -1)) rfl rfl fun L w hgl hgb=>?_
 refine (Tryz.strings_IndexByte (bs t) c.toNat w).mono fun e w' ⟨he,hw⟩=>?_
 rw [a4j,Lib.byte_back,b6z] at he
 exact ⟨he,a7l hw⟩
theorem a9t (t p:Tx):f9 Tryz.prog 228 [.val (tx t),.val (tx p)] (.ret (.val (.bool (p.isPrefixOf t))) []) []:=by
 refine a7h (rs:=[tx t,tx p]) (vals:=[.string (bs t),.string (bs p)]) (v:=.bool (p.isPrefixOf t)) rfl rfl fun L w hgl hgb=>?_
 refine (Tryz.strings_HasPrefix (bs t) (bs p) w).mono fun e w' ⟨he,hw⟩=>?_
 rw [a4j,a4j] at he
 exact ⟨he,a7l hw⟩
theorem c5y (n:Int) (h0:-9223372036854775808≤n) (h1:n≤9223372036854775807):f9 Tryz.prog 183 [.val (num n)] (.ret (.val (tx (a2p n))) []) []:=by
 refine a7h (rs:=[num n]) (vals:=[.int .i64 n]) (v:=.string (bs (a2p n))) rfl rfl fun L w hgl hgb=>?_
 have htab:Lib.TabIs Tryz.prog w "internal/strconv.uint64pow10" .u64 Lib.pow10Tab:=by
  unfold Lib.TabIs World.var?
  have e:Tryz.prog.globalNamed "internal/strconv.uint64pow10" = some 3:=by kernel_rfl
  rw [e]
  simp only [Option.bind_some]
  rw [(hgb _ GH.h10).2]
 refine (Tryz.strconv_Itoa n h0 h1 w htab).mono fun e w' ⟨he,k,os,hw⟩=>?_
 rw [c2p] at he
 exact ⟨he,hw ▸ (b7z w k).trans (b91 _ _ (Nat.le_refl _))⟩
end Go.Proofs
end
section
namespace Go.Proofs
open Go.PW Go.KP
attribute [local simp] RV.cells RV.one PV.cells PV.solid PV.one F7 a6 N5 N7 RV.ofCells elems PV.killL
section
variable [GF]
theorem Y1 (a lo hi:Int):f9 Tryz.prog 106 [.val (num a),.val (num lo),.val (num hi)] (.ret (.val (.bool (decide (lo≤a∧a≤hi)))) []) []:=by
 refine F4 mixed ok106 rfl (fun _=>rfl) ?_
 unfold ir106
 rw [a8]
 by_cases h:lo≤a
 · simp [b9,p6,K4,a7,b8,num,h]
 · simp [b9,p6,K4,a7,b8,num,h]
theorem i_isNow (n:Int):f9 Tryz.prog 123 [.val (num n)] (.ret (.val (.bool (decide (0≤n∧n≤1000000)))) []) []:=by
 refine F4 mixed ok123 rfl (fun _=>rfl) ?_
 unfold ir123
 rw [a8]
 simp [b9,p6,K4,a7,b8,num]
 refine d4 rfl rfl (.inl rfl) (Y1 n 0 1000000) ?_
 simp
theorem c47 (b:Bool) (n:Int):f9 Tryz.prog 125 [.val (.bool b),.val (num n)] (.ret (.val (num (if b then 0 else n))) []) []:=by
 refine F4 mixed ok125 rfl (fun _=>rfl) ?_
 unfold ir125
 rw [a8]
 cases b<;>simp [b9,p6,K4,a7,b8,num]
theorem i_long (t:Tx):f9 Tryz.prog 84 [.val (tx t)] (.ret (.val (num (if t.length≤65536 then 0 else 2))) []) []:=by
 refine F4 mixed ok84 rfl (fun _=>rfl) ?_
 unfold ir84
 rw [a8]
 have e:decide ((t.length:Int)≤65536)=decide (t.length≤65536):=by
  by_cases h:t.length≤65536
  · rw [decide_eq_true h,decide_eq_true (by omega)]
  · rw [decide_eq_false h,decide_eq_false (by omega)]
 simp [b9,p6,K4,a7,b8,tx,b7,e]
 refine d4 rfl rfl (.inl rfl) (c47 (decide (t.length≤65536)) 2) ?_
 simp [num]
theorem c2t (c:UInt8):f9 Tryz.prog 260 [.val (rvb c)] (.ret (.val (.bool (S1 c))) []) []:=by
 refine F4 mixed ok260 rfl (fun _=>rfl) ?_
 unfold ir260
 rw [a8]
 have e1:((48:Int)≤c.toNat)↔48≤c.toNat:=by omega
 have e2:((c.toNat:Int)≤57)↔c.toNat≤57:=by omega
 by_cases h:48≤c.toNat
 · simp [b9,p6,K4,a7,b8,rvb,S1,h,e1,e2]
 · simp [b9,p6,K4,a7,b8,rvb,S1,h,e1,e2]
structure SS (st:St) (t:Tx) (i m:Nat) (c:UInt8):Prop where
 e0:st.env 0=.val (tx t)
 e3:st.env 3=.val (num i)
 e4:st.env 4=.val (rvb c)
 e7:st.env 7=.val (num m)
 e8:st.env 8=.val (num i)
end
section
variable [GH]
theorem c2u (n:Int) (h0:-9223372036854775808≤n) (h1:n≤9223372036854775807):f9 Tryz.prog 120 [.val (num n)] (.ret (.val (tx (a2p n))) []) []:=by
 refine F4 mixed ok120 rfl (fun _=>rfl) ?_
 unfold ir120
 rw [a8]
 simp [b9,p6,K4,a7,b8,num]
 refine d4 rfl rfl (.inl rfl) (c5y n h0 h1) ?_
 simp
end
end Go.Proofs
end
section
namespace Go.Proofs
open Go.PW Go.KP
variable [GF]
structure HS (st:St) (t:Tx) (i:Nat) (c:UInt8):Prop where
 e0:st.env 0=.val (tx t)
 e3:st.env 3=.val (num i)
 e4:st.env 4=.val (rvb c)
 e6:st.env 6=.val (num t.length)
 e7:st.env 7=.val (num i)
section
variable {Ks:Kx (St→Prop)} {kx:Kx (RV→St→Prop)} {st:St} {t:Tx} {i:Nat} {c:UInt8} {b:Bool}
end
end Go.Proofs
end
section
namespace Go.Proofs
open Go.PW Go.KP
attribute [local simp] RV.cells RV.one PV.cells PV.solid PV.one F7 a6 N5 N7 RV.ofCells elems PV.killL
variable [GH]
structure UT (st:St) (u:LUrl) (pre:Tx):Prop where
 e1:st.env 1=.ptr 1 0
 e3:st.env 3=.val (tx pre)
 m1:st.mem 1=.box (b0b u)
abbrev txt (t:Tx):Kx (PExit→St→Prop):=⟨a4s [.t 2] (.val (tx t))⟩
end Go.Proofs
end
section
namespace Go.KP
def a3m (t:Tx):Int×Bool:=Lib.NumEnd.casesOn (motive:=fun _=>Int×Bool) (Lib.atoiAll t) (fun v=>(v,decide (W5 t≤18) && decide (a2p v=t))) (0,false) (Lib.atoiSat t,false)
theorem b8s:∀ (u:Tx) (acc:Nat),u.all S1=true→acc*10 ^ u.length+U8 u < 1000000000000000000→Lib.parseUint10 acc u=.ok (acc*10 ^ u.length+U8 u):=by
 have hlv:∀ (u:Tx) (a:Nat),u.foldl (fun n c=>n*10+(c.toNat - 48)) a=a*10 ^ u.length+U8 u:=by
  intro u
  induction u with
  | nil=>intro a;simp [U8]
  | cons c r ih=>
   intro a
   simp only [List.foldl_cons,U8,List.length_cons]
   rw [ih,ih (0*10+(c.toNat - 48)),Nat.pow_succ]
   have:(a*10+(c.toNat - 48))*10 ^ r.length=a*(10 ^ r.length*10)+(c.toNat - 48)*10 ^ r.length:=by
    rw [Nat.add_mul];congr 1;rw [Nat.mul_assoc,Nat.mul_comm 10]
   rw [this];simp [Nat.add_assoc]
 intro u
 induction u with
 | nil=>intro acc _ _;simp [Lib.parseUint10,U8]
 | cons c r ih=>
  intro acc ha hlt
  simp only [List.all_cons,Bool.and_eq_true] at ha
  have hc:=ha.1
  simp only [S1,decide_eq_true_eq] at hc
  have e:acc*10 ^ (c :: r).length+U8 (c :: r)=(acc*10+(c.toNat - 48))*10 ^ r.length+U8 r:=by
   rw [← hlv (c :: r) acc,List.foldl_cons,hlv r]
  rw [e] at hlt ⊢
  have hp:1≤10 ^ r.length:=Nat.one_le_pow _ _ (by decide)
  have hb:acc*10+(c.toNat - 48) < 1000000000000000000:=by
   have:=Nat.le_mul_of_pos_right (acc*10+(c.toNat - 48)) hp
   omega
  rw [Lib.parseUint10.eq_2,if_pos hc,if_neg (by omega),if_neg (by omega)]
  exact ih _ ha.2 hlt
theorem c05 (t:Tx):(if (a3m t).2 then some (a3m t).1 else none)=U1 t:=by
 cases hl:U1 t with
 | some n=>
  obtain ⟨h1,h2,u,h3,h4,h5,h6⟩:=b4v hl
  have hv:U8 u < 1000000000000000000:=by
   have:=b4s u h4
   have h7:U8 u < 10 ^ 18:=Nat.lt_of_lt_of_le this (Nat.pow_le_pow_right (by omega) h5)
   have h8:(10:Nat) ^ 18=1000000000000000000:=by decide
   omega
  have hpm:Lib.parseMag u=.ok (U8 u):=by
   unfold Lib.parseMag
   rw [if_neg h3,b8s u 0 h4 (by simpa using hv)]
   simp
  have key:Lib.atoiAll t=.ok n:=by
   unfold Lib.atoiAll
   rcases h6 with ⟨rfl,hn⟩ | ⟨rfl,hn⟩
   · have e45:(45:UInt8).toNat=45:=rfl
     simp only [e45,or_true,if_true,hpm,not_true,false_and,if_false,true_and]
     rw [if_neg (by omega),hn]
   · cases hu:t with
     | nil=>exact absurd hu h3
     | cons c r=>
      have hd:S1 c=true:=by rw [hu,List.all_cons,Bool.and_eq_true] at h4;exact h4.1
      simp only [S1,decide_eq_true_eq] at hd
      have e1:¬ c.toNat=43:=by omega
      have e2:¬ c.toNat=45:=by omega
      rw [hu] at hpm hn hv
      simp only [e1,e2,or_self,if_false,not_false_eq_true,true_and,false_and]
      rw [hpm]
      dsimp only
      rw [if_neg (by omega),hn]
  unfold a3m
  rw [key]
  simp only [h1,decide_true,Bool.and_true]
  rw [decide_eq_true h2];rfl
 | none=>
  rcases hv:Lib.atoiAll t with v | _ | _<;>unfold a3m<;>rw [hv]
  · dsimp only
    by_cases h:(decide (W5 t≤18) && decide (a2p v=t))=true
    · simp only [Bool.and_eq_true,decide_eq_true_eq] at h
      have:=b4w v (by rw [h.2];exact h.1)
      rw [h.2,hl] at this
      cases this
    · rw [if_neg h]
  · rfl
  · rfl
theorem b21 {t:Tx} {v:Int} (h:Lib.atoiAll t=.ok v):-9223372036854775808≤v∧v≤9223372036854775807:=by
 unfold Lib.atoiAll at h
 split at h
 · cases h
 · dsimp only at h
   split at h
   · cases h
   · cases h
   · split at h
     · cases h
     · split at h
       · cases h
       · rename_i u _ h1 h2
         injection h with h
         split at h
         · rename_i h3
           have:¬ 9223372036854775808 < u:=fun h4=>h2 ⟨h3,h4⟩
           omega
         · rename_i h3
           have:¬ 9223372036854775808≤u:=fun h4=>h1 ⟨h3,h4⟩
           omega
theorem c04 {t:Tx} (h:(a3m t).2=true):U1 t=some (a3m t).1:=by
 have:=c05 t
 rw [h] at this
 exact this.symm
theorem b3q {t:Tx} (h:(a3m t).2=false):U1 t=none:=by
 have:=c05 t
 rw [h] at this
 exact this.symm
end Go.KP
namespace Go.PW
open Go.RowKit
variable [GF]
theorem c29 {P:Program} {f:Nat} {rs:List RV} {vals:List Value} {p:PV} (ha:svs rs=some vals)
 (h:∀ L w,Globs L w→b23 L w→Calls P f vals.toArray w fun e w'=>(∃ v,e=.returned v∧∀ γ L,RepP γ L w' p v)∧Below w.heap.size w w'):f9 P f (rs.map .val) (.ret p []) []:=by
 intro L w vs ms hL hgl hgb hargs hnd
 obtain ⟨rfl,rfl⟩:=a98 ha hargs
 refine (h L w hgl hgb).mono fun e w' ⟨⟨v,he,hp⟩,hb⟩=>?_
 exact ⟨Outside.of_below hb,v,fun _=>undef,he,hp _ _,a41,rfl,fun i b cells h1 h2=>by simp at h1⟩
end Go.PW
namespace Go.Proofs
open Go.PW Go.KP Go.RowKit
variable [GH]
def a0a (t:Tx):PV:=Lib.NumEnd.casesOn (motive:=fun _=>PV) (Lib.atoiAll t) (fun v=>.tup [.val (num v),.val .nilif]) (.tup [.val (num 0),.val (.ifc 259 .opq)]) (.tup [.val (num (Lib.atoiSat t)),.val (.ifc 259 .opq)])
theorem b70 (w:World) (t:ByteArray):Below w.heap.size w (Lib.bytesWorld w 5 t):=Lib.bytesWorld_below _ _ _
theorem b4c {γ:Nat→Value} {L:Nat→Prop} {w:World} {p q:PV} {v u:Value} (h1:RepP γ L w p v) (h2:RepP γ L w q u):RepP γ L w (.tup [p,q]) (.tuple #[v,u]):=
 .tup _ _ rfl fun i hi=>by
  match i,hi with
  | 0,_=>exact h1
  | 1,_=>exact h2
theorem c_Atoi (t:Tx) (ht:t.length < 4294967281):f9 Tryz.prog 277 [.val (tx t)] (.ret (a0a t) []) []:=by
 refine c29 (rs:=[tx t]) (vals:=[.string (bs t)]) rfl fun L w hgl hgb=>?_
 have hsz:(bs t).size=t.length:=b7 t
 rcases h:Lib.atoiAll t with v | _ | _
 · refine (Tryz.strconv_Atoi_ok (bs t) (by rw [hsz];omega) v (by rw [a4j];exact h) w).mono fun e w' ⟨he,hw⟩=>?_
   refine ⟨⟨_,he,fun γ L=>?_⟩,?_⟩
   · unfold a0a
     rw [h]
     exact b4c (.val _ _ (.int _ _)) (.val _ _ .nilif)
   · rcases hw with hw | ⟨s,hw⟩
     · exact a7l hw
     · rw [hw];exact b70 _ _
 · refine (Calls.mono (Any.strconv_Atoi_syntax Tryz.laysC172 (bs t) (by rw [hsz];omega) (by rw [a4j];exact h) _ w (hgl _ GH.hs).2 (.inr ⟨_,_,rfl⟩)) fun e w' ⟨N,he,_,_,hw⟩=>?_)
   refine ⟨⟨_,he,fun γ L=>?_⟩,hw⟩
   unfold a0a
   rw [h]
   exact b4c (.val _ _ (.int _ _)) (.val _ _ (.ifc _ _ _ (.opq _ rfl)))
 · refine (Tryz.strconv_Atoi_range (bs t) (by rw [hsz];omega) (by rw [a4j];exact h) _ w (hgl _ GH.hr).2 (.inr ⟨_,_,rfl⟩)).mono fun e w' ⟨N,he,_,_,hw⟩=>?_
   refine ⟨⟨_,he,fun γ L=>?_⟩,hw⟩
   unfold a0a
   rw [h]
   rw [a4j]
   exact b4c (.val _ _ (.int _ _)) (.val _ _ (.ifc _ _ _ (.opq _ rfl)))
def a78 (t:Tx):PV:=.tup [.val (num (a3m t).1),.val (.bool (a3m t).2)]
theorem a7u (t:Tx) (ht:t.length < 4294967281) (st:St) (h0:st.env 0=.val (tx t)) (h6:st.env 6=.val (num (W5 t)))
 (h45:(∃ v,Lib.atoiAll t=.ok v∧st.env 4=.val (num v)∧st.env 5=.val .nilif)∨(∃ n,(a3m t)=(n,false)∧st.env 4=.val (num n)∧st.env 5=.val (.ifc 259 .opq))) :
 EC Tryz.prog ir249_from4 st (K:=⟨a4s [.t 2,.t 3] (a78 t)⟩):=by
 unfold ir249_from4 a78
 rcases h45 with ⟨v,hv,h4,h5⟩ | ⟨n,hn,h4,h5⟩
 · have hr:=b21 hv
   have e:a3m t=(v,decide (W5 t≤18) && decide (a2p v=t)):=by unfold a3m;rw [hv]
   rw [e]
   by_cases hd:W5 t≤18
   · have hd':(W5 t:Int)≤18:=by omega
     simp [h0,h4,h5,h6,tx,num,hd']
     refine d4 rfl rfl (.inl rfl) (c5y v hr.1 hr.2) ?_
     simp [h0,h4,h5,h6,tx,num,Q8,hd]
   · have hd':¬ (W5 t:Int)≤18:=by omega
     simp [h0,h4,h5,h6,tx,num,hd',hd]
 · rw [hn]
   simp [h0,h4,h5,h6,tx,num]
theorem c48 (t:Tx) (ht:t.length < 4294967281):f9 Tryz.prog 249 [.val (tx t)] (.ret (a78 t) []) []:=by
 refine F4 mixed ok249 rfl (fun _=>rfl) ?_
 unfold ir249
 rw [a8]
 have e3:(⟨#[]⟩:ByteArray)=bs []:=rfl
 have hA:=c_Atoi t ht
 simp [b9,p6,K4,a7,b8,tx]
 have hmid:∀ (a b:RV),a0a t=.tup [.val a,.val b]→((∃ v,Lib.atoiAll t=.ok v∧a=num v∧b=.nilif)∨(∃ n,(a3m t)=(n,false)∧a=num n∧b=.ifc 259 .opq)):=by
  intro a b h
  rcases hv:Lib.atoiAll t with v | _ | _
  · have e:a0a t=.tup [.val (num v),.val .nilif]:=by unfold a0a;rw [hv]
    rw [e] at h
    simp only [PV.tup.injEq,List.cons.injEq,PV.val.injEq] at h
    exact .inl ⟨v,rfl,h.1.symm,h.2.1.symm⟩
  · have e:a0a t=.tup [.val (num 0),.val (.ifc 259 .opq)]:=by unfold a0a;rw [hv]
    have e2:a3m t=(0,false):=by unfold a3m;rw [hv]
    rw [e] at h
    simp only [PV.tup.injEq,List.cons.injEq,PV.val.injEq] at h
    exact .inr ⟨0,e2,h.1.symm,h.2.1.symm⟩
  · have e:a0a t=.tup [.val (num (Lib.atoiSat t)),.val (.ifc 259 .opq)]:=by unfold a0a;rw [hv]
    have e2:a3m t=(Lib.atoiSat t,false):=by unfold a3m;rw [hv]
    rw [e] at h
    simp only [PV.tup.injEq,List.cons.injEq,PV.val.injEq] at h
    exact .inr ⟨Lib.atoiSat t,e2,h.1.symm,h.2.1.symm⟩
 obtain ⟨a,b,hab⟩:∃ a b,a0a t=.tup [.val a,.val b]:=by
  unfold a0a
  rcases Lib.atoiAll t with v | _ | _<;>exact ⟨_,_,rfl⟩
 have hm:=hmid a b hab
 rw [hab] at hA
 refine T0 rfl rfl (.inl rfl) hA ?_
 cases t with
 | nil=>
  simp [tx,b7,e3,Q8]
  refine a7u [] ht _ ?_ ?_ ?_
  · simp [tx]
  · simp [num,W5]
  · rcases hm with ⟨v,h1,rfl,rfl⟩ | ⟨n,h1,rfl,rfl⟩
    · exact .inl ⟨v,h1,by simp,by simp⟩
    · exact .inr ⟨n,h1,by simp,by simp⟩
 | cons c r=>
  have hr:r.length < 4294967280:=by simp at ht;omega
  have e0:(0:Int) < ((r.length:Int)+1):=by omega
  have fin:∀ st':St,st'.env 0=.val (tx (c :: r))→st'.env 6=.val (num (W5 (c :: r)))→st'.env 4=.val a→st'.env 5=.val b→EC Tryz.prog ir249_from4 st' (K:=⟨a4s [.t 2,.t 3] (a78 (c :: r))⟩):=fun st' q0 q6 q4 q5=>by
   refine a7u (c :: r) ht st' q0 q6 ?_
   rcases hm with ⟨v,h1,rfl,rfl⟩ | ⟨n,h1,rfl,rfl⟩
   · exact .inl ⟨v,h1,q4,q5⟩
   · exact .inr ⟨n,h1,q4,q5⟩
  by_cases hc:c=45
  · have e1:((c.toNat:Int)=45):=by rw [hc];rfl
    have hw:IntKind.i64.wrap ((r.length:Int)+1 - 1)=(r.length:Int):=by rw [wrap_i64 (by omega) (by omega)];omega
    simp [tx,b7,e3,Q8,O0,e0,e1,hw]
    refine fin _ ?_ ?_ ?_ ?_
    · simp [tx]
    · simp [num,W5,hc];exact wrap_i64 (by omega) (by omega)
    · simp
    · simp
  · have e1:¬ ((c.toNat:Int)=45):=fun h=>hc (UInt8.toNat_inj.1 (by simp;omega))
    simp [tx,b7,e3,Q8,O0,e0,e1]
    refine fin _ ?_ ?_ ?_ ?_
    · simp [tx]
    · simp [num,W5,hc]
    · simp
    · simp
end Go.Proofs
end
section
namespace Go.Proofs
open Go.PW Go.KP
attribute [local simp] RV.cells RV.one PV.cells PV.solid PV.one F7 a6 N5 N7 RV.ofCells elems PV.killL
variable [GF]
theorem a9p (l:List Tx) (v:Tx) (hl:l.length < 1099511627776):f9 Tryz.prog 119 [.val (.list 1 (l.map tx)),.val (tx v)] (.ret (.val (num (a2o l fun x=>decide (x=v)))) []) []:=by
 refine F4 mixed ok119 rfl (fun _=>rfl) ?_
 unfold ir119
 rw [a8]
 simp [b9,p6,K4,a7,b8,num]
 refine P0 (X:=Nat) (fun i=>⟨Q0 [(0,.val (.list 1 (l.map tx))),(1,.val (tx v)),(7,.val (num l.length)),(8,.val (num i))],P6 []⟩) (fun i=>i≤l.length∧∀ k (hk:k < i) (hk':k < l.length),l[k]≠v) (fun i=>l.length - i) 0 (Le.mk _ _ ?_ ?_) ?_ ?_
 · simp [upd,num]
 · simp
 · simp
 · rintro i ⟨hi,hne⟩
   simp [num]
   refine P4 (fun h1=>?_) (fun h1=>?_)
   · have e1:(l.map tx)[i]?.getD .nilptr=tx l[i]:=by simp [List.getElem?_eq_getElem h1]
     by_cases hv:v=l[i]
     · have hh:a2o l (fun x=>decide (x=v))=i:=a2n h1 (by simp [← hv]) (fun k hk=>by simp [hne k hk (by omega)])
       simp [num,h1,e1,tx,Q8,(eq_true hv:(v=l[i])=True)]
       rw [hh]
     · simp [num,h1,e1,tx,Q8,hv]
       refine LoopNext.mk (i+1) ⟨by omega,fun k hk hk'=>?_⟩ (by omega) (Le.mk _ _ ?_ ?_)
       · by_cases e:k=i
         · subst e;exact fun h=>hv h.symm
         · exact hne k (by omega) hk'
       · simp [num,tx];exact wrap_i64 (by omega) (by omega)
       · simp
   · have e:i=l.length:=by omega
     subst e
     have hh:a2o l (fun x=>decide (x=v))=-1:=a3s (fun k hk=>by simp [hne k hk hk])
     simp [num,hh]
theorem a48 (l:List Tx) (v:Tx) (hl:l.length < 1099511627776):f9 Tryz.prog 140 [.val (.list 1 (l.map tx)),.val (tx v)] (.ret (.val (.bool (decide (v∈l)))) []) []:=by
 refine F4 mixed ok140 rfl (fun _=>rfl) ?_
 unfold ir140
 rw [a8]
 simp [b9,p6,K4,a7,b8,num]
 refine d4 rfl rfl (.inl rfl) (a9p l v hl) ?_
 have hg:=c0t l (fun x=>decide (x=v))
 rw [Bool.eq_iff_iff] at hg
 simp only [decide_eq_true_eq,List.any_eq_true,exists_eq_right] at hg
 simp [num,hg]
end Go.Proofs
end
section
namespace Go.Proofs
open Go.PW Go.KP
attribute [local simp] RV.cells RV.one PV.cells PV.solid PV.one F7 a6 N5 N7 RV.ofCells elems PV.killL
variable [GF]
theorem b66 (l:List Int) (v:Int) (hl:l.length < 1099511627776):f9 Tryz.prog 128 [.val (.list 1 (l.map num)),.val (num v)] (.ret (.val (num (a2o l fun x=>decide (x=v)))) []) []:=by
 refine F4 mixed ok128 rfl (fun _=>rfl) ?_
 unfold ir128
 rw [a8]
 simp [b9,p6,K4,a7,b8,num]
 refine P0 (X:=Nat) (fun i=>⟨Q0 [(0,.val (.list 1 (l.map num))),(1,.val (num v)),(7,.val (num l.length)),(8,.val (num i))],P6 []⟩) (fun i=>i≤l.length∧∀ k (hk:k < i) (hk':k < l.length),l[k]≠v) (fun i=>l.length - i) 0 (Le.mk _ _ ?_ ?_) ?_ ?_
 · simp [upd,num]
 · simp
 · simp
 · rintro i ⟨hi,hne⟩
   simp [num]
   refine P4 (fun h1=>?_) (fun h1=>?_)
   · have e1:(l.map num)[i]?.getD .nilptr=num l[i]:=by simp [List.getElem?_eq_getElem h1]
     by_cases hv:v=l[i]
     · have hh:a2o l (fun x=>decide (x=v))=i:=a2n h1 (by simp [← hv]) (fun k hk=>by simp [hne k hk (by omega)])
       simp [num,h1,e1,tx,(eq_true hv:(v=l[i])=True)]
       rw [hh]
     · simp [num,h1,e1,tx,hv]
       refine LoopNext.mk (i+1) ⟨by omega,fun k hk hk'=>?_⟩ (by omega) (Le.mk _ _ ?_ ?_)
       · by_cases e:k=i
         · subst e;exact fun h=>hv h.symm
         · exact hne k (by omega) hk'
       · simp [num,tx];exact wrap_i64 (by omega) (by omega)
       · simp
   · have e:i=l.length:=by omega
     subst e
     have hh:a2o l (fun x=>decide (x=v))=-1:=a3s (fun k hk=>by simp [hne k hk hk])
     simp [num,hh]
end Go.Proofs
end
