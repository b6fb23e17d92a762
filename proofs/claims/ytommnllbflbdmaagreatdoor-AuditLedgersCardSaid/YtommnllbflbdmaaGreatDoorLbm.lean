/- Lemmas. -/
import Derived.ChangeKeysEq
import Derived.Test.YtommnllbflbdmaaGreatDoorLbd
set_option linter.all false
set_option maxHeartbeats 4000000
namespace Go.Proofs.YtommnllbflbdmaaGreatDoor
open Go.V
attribute [local irreducible] G GO GP GPW GPK Ev Ef EfR Ent CB GB V.Enters
def kV(items:Int)(m:MvM):Prop:=(0≤m.item∧m.item<items)∧(1≤m.n∧m.n≤1099511627776)∧0≤m.frm∧0≤m.to
instance (items:Int)(m:MvM):Decidable (kV items m):=by unfold kV;infer_instance
theorem ql{L:LH}(items:Int)(m:MvV):Tri ah 52 #[ab items,.agg (aM m).toArray] L (fun v L'=>v=.bool (dB (kV items m.m))∧L' = L):=by
 obtain⟨⟨frm,to,item,n,parts⟩,pad,pcap⟩:=m;have hno:∀{p:Prop},¬p→(kV items ⟨frm,to,item,n,parts⟩→p)→dB (kV items ⟨frm,to,item,n,parts⟩)=false:=fun h q=>aF (fun r=>h (q r));refine Tri.body (args:=[ab items,.agg (aM ⟨⟨frm,to,item,n,parts⟩,pad,pcap⟩).toArray]) 34 en52 Tryz.func52 rfl rfl rfl (by simp) ?_;simp only[aM];by_cases h1:0≤item
 case neg =>
  repeat first|refine aa ?_|intro
  exact KX.d7 ai ag ⟨by rw[hno h1 (fun h=>h.1.1)];rfl,rfl⟩
 by_cases h2:item<items
 case neg =>
  repeat first|refine aa ?_|intro
  exact KX.d7 ai ag ⟨by rw[hno h2 (fun h=>h.1.2)];rfl,rfl⟩
 by_cases h3:1≤n
 case neg =>
  repeat first|refine aa ?_|intro
  exact KX.d7 ai ag ⟨by rw[hno h3 (fun h=>h.2.1.1)];rfl,rfl⟩
 by_cases h4:n≤1099511627776
 case neg =>
  repeat first|refine aa ?_|intro
  exact KX.d7 ai ag ⟨by rw[hno h4 (fun h=>h.2.1.2)];rfl,rfl⟩
 by_cases h5:0≤frm
 case neg =>
  repeat first|refine aa ?_|intro
  exact KX.d7 ai ag ⟨by rw[hno h5 (fun h=>h.2.2.1)];rfl,rfl⟩
 repeat first|refine aa ?_|intro
 refine KX.d7 ai ag ⟨?_,rfl⟩;by_cases h6:0≤to
 ·rw[aU (show to ≥ 0 from h6),aU (show kV items ⟨frm,to,item,n,parts⟩ from⟨⟨h1,h2⟩,⟨h3,h4⟩,h5,h6⟩)];rfl
 ·rw[aF (show ¬to ≥ 0 from h6),hno h6 (fun h=>h.2.2.2)];rfl
def chgT(s:Int):Int×Int:=if s<0 then(0,10) else if 1099511627776<s then(0,4) else(s,0)
theorem pw{L:LH}(n b:Int)(h1 : -9223372036854775808≤n+b)(h2:n+b≤9223372036854775807):Tri ah 53 #[ab n,ab b] L (fun v L'=>v=.tuple #[ab (chgT (n+b)).1,ab (chgT (n+b)).2]∧L' = L):=by
 unfold chgT;refine Tri.body (args:=[ab n,ab b]) 16 en53 Tryz.func53 rfl rfl rfl (by simp) ?_;by_cases c1:n+b<0
 ·repeat first|refine aa ?_|intro
  exact KX.d7 ai ag ⟨by rw[if_pos c1];rfl,rfl⟩
 by_cases c2:1099511627776<n+b
 ·repeat first|refine aa ?_|intro
  exact KX.d7 ai ag ⟨by rw[if_neg c1,if_pos c2];rfl,rfl⟩
 repeat first|refine aa ?_|intro
 exact KX.d7 ai ag ⟨by rw[if_neg c1,if_neg c2];rfl,rfl⟩
def byT(m:MvM):Int:=(if m.frm=0 then m.n else 0) - (if m.to=0 then m.n else 0)
def kd(items:Int)(t:List Int)(m:MvM):Int×List Int :=
 if ¬kV items m then(1,t) else if(chgT (t[m.item.toNat]! + byT m)).2=0 then(0,t.set m.item.toNat (chgT (t[m.item.toNat]! + byT m)).1) else((chgT (t[m.item.toNat]! + byT m)).2,t)
def totF(items:Int):List MvM→List Int→Int×List Int
 | [],t=>(0,t)
 | m::ms,t=>if(kd items t m).1=0 then totF items ms (kd items t m).2 else((kd items t m).1,t)
def fE(ss:List StV):List MvM:=ss.flatMap (fun s=>s.moves.map MvV.m)
def resT(items:Int)(ss:List StV):Int×List Int :=
 if ¬(0≤items∧items≤64) then(1,[]) else if(totF items (fE ss) (List.replicate items.toNat 0)).1=0 then totF items (fE ss) (List.replicate items.toNat 0) else((totF items (fE ss) (List.replicate items.toNat 0)).1,[])
structure TotI (items:Int) (t:List Int):Prop where
 len:t.length=items.toNat
 bd:∀i,i<t.length→0≤t[i]!∧t[i]!≤1099511627776
theorem tn{s:Int}(h:(chgT s).2=0):(chgT s).1=s∧0≤s∧s≤1099511627776:=by
 unfold chgT at h ⊢;by_cases h1:s<0
 ·rw[if_pos h1] at h;exact absurd (show(10:Int)=0 from h) ae
 ·rw[if_neg h1] at h ⊢;by_cases h2:1099511627776<s
  ·rw[if_pos h2] at h;exact absurd (show(4:Int)=0 from h) ae
  ·rw[if_neg h2];exact⟨rfl,ac,ac⟩
theorem TotI.set{items:Int}{t:List Int}(h:TotI items t){k:Nat}{s:Int}(hs:(chgT s).2=0):TotI items (t.set k (chgT s).1):=by
 obtain⟨e,b1,b2⟩:=tn hs;refine⟨by rw[bg];exact h.len,fun i hi=>?_⟩;rw[bg] at hi;rw[e,getElem!_of (by rw[bg];exact hi),fC];split
 ·exact⟨b1,b2⟩
 ·have:=h.bd i hi
  rw[getElem!_of hi] at this;exact this
theorem tot0(items:Int):TotI items (List.replicate items.toNat 0):=⟨List.length_replicate,fun i hi=>by
 rw[getElem!_of hi,List.getElem_replicate];decide⟩
theorem tG{ss:List StV}{i:Nat}(h:i<ss.length){L:LH}:Ent (allP bA ss::L) (isl aM 5 ss[i]!.mad ss[i]!.moves::stP ss[i]!::allP bA ss::L):=(Ent.d9 (f:=bA) (aI h)).trans Ent.andE
theorem Cj{items:Int}{m:MvM}{ms:List MvM}{t:List Int}:totF items (m::ms) t=if(kd items t m).1=0 then totF items ms (kd items t m).2 else((kd items t m).1,t):=rfl
theorem rZ(s:StV)(ss:List StV):fE (s::ss)=s.moves.map MvV.m++fE ss:=bY
theorem wd{s:StV}{ss:List StV}{j:Nat}(h:j<s.moves.length):(s.moves.drop j).map MvV.m++fE ss=s.moves[j]!.m::((s.moves.drop (j+1)).map MvV.m++fE ss):=by
 rw[fG h];rfl
theorem ur{L:LH}(items:Int)(ad:OA)(n c:Nat)(ss:List StV)[hr:Rds L ad StV aJ 7 ss](hn:n=ss.length)(hl:ss.length≤1000000)(hm:∀s∈ss,s.moves.length≤1000000) :
  Tri ah 17 #[ab items,.slice ad n c] (allP bA ss::L) (fun v L'=>∃ad' cap',v=.tuple #[.slice ad' (resT items ss).2.length cap',ab (resT items ss).1]∧L' = osl (encZ .i64) 1 tInt ad' cap' (resT items ss).2::allP bA ss::L):=by
 subst hn;refine Tri.body (args:=[ab items,.slice ad ss.length c]) 74 en17 Tryz.func17 rfl rfl rfl (by simp) ?_;by_cases c1:0≤items
 case neg =>
  have e:resT items ss=(1,[]):=if_pos (fun q=>c1 q.1);rw[e];repeat first|refine aa ?_|intro
  exact KX.d7 ai (Ent.d8 (encZ .i64) 1 tInt) ⟨none,0,rfl,rfl⟩
 by_cases c2:items≤64
 case neg =>
  have e:resT items ss=(1,[]):=if_pos (fun q=>c2 q.2);rw[e];repeat first|refine aa ?_|intro
  exact KX.d7 ai (Ent.d8 (encZ .i64) 1 tInt) ⟨none,0,rfl,rfl⟩
 have e:resT items ss=if(totF items (fE ss) (List.replicate items.toNat 0)).1=0 then totF items (fE ss) (List.replicate items.toNat 0) else((totF items (fE ss) (List.replicate items.toNat 0)).1,[]):=if_neg (fun q=>q ⟨c1,c2⟩);rw[e];have ht0:=tot0 items;generalize htt:List.replicate items.toNat (0:Int)=t0 at *;repeat first|refine aa ?_|intro
 refine GO.ef (Ef.makeSlice (encZ .i64) 0 rfl rfl rfl ac ac ac) ae ?_;rintro _ _⟨bt,rfl,rfl⟩;rw[htt];have hl0:=ht0.len;rw[←hl0];repeat first|refine aa ?_|intro
 refine G.loop (α:=Nat×List Int) (fun g=>g.1≤ss.length∧TotI items g.2∧g.2.length=t0.length∧totF items (fE ss) t0=totF items (fE (ss.drop g.1)) g.2) (fun g=>[(0,ab items),(6,.slice (some ⟨bt,0,none⟩) t0.length t0.length),(22,.slice ad ss.length c),(23,ab ss.length),(24,ab (g.1:Int))]) (fun g=>osl (encZ .i64) 1 tInt (some ⟨bt,0,none⟩) t0.length g.2::allP bA ss::L) (fun g=>ss.length - g.1) (0,t0) ⟨ao _,ht0,rfl,rfl⟩ aj (Ent.refl _) ?_;rintro⟨i,t⟩ ⟨hi,hti,htl,het⟩;dsimp only at hi hti htl het ⊢;by_cases hlt:i<ss.length
 case neg =>
  have e0:ss.drop i=[]:=bP ac;rw[e0] at het;have e1:totF items (fE ss) t0=(0,t):=het;rw[e1,if_pos rfl];repeat first|refine aa ?_|intro
  exact KX.d7 ai (Ent.refl _) ⟨some ⟨bt,0,none⟩,t0.length,by rw[htl];rfl,rfl⟩
 have hii:(i:Int).toNat=i:=aA i;have hlt' : (i:Int).toNat<ss.length:=ac;have hml:=hm _ (aI hlt);rw[fG hlt,rZ] at het;repeat first|refine aa ?_|intro
 refine G.ent (Ent.at (A:=allP bA ss) (tG hlt)) ?_;rw[hii];generalize ss[i]! = s at *;refine G.loop (α:=Nat×List Int) (fun g=>g.1≤s.moves.length∧TotI items g.2∧g.2.length=t0.length∧totF items (fE ss) t0=totF items ((s.moves.drop g.1).map MvV.m++fE (ss.drop (i+1))) g.2) (fun g=>[(0,ab items),(6,.slice (some ⟨bt,0,none⟩) t0.length t0.length),(22,.slice ad ss.length c),(23,ab ss.length),(24,ab (i:Int)),(29,.slice s.mad s.moves.length s.mcap),(30,ab s.moves.length),(31,ab (g.1:Int))]) (fun g=>isl aM 5 s.mad s.moves::osl (encZ .i64) 1 tInt (some ⟨bt,0,none⟩) t0.length g.2::allP bA ss::L) (fun g=>s.moves.length - g.1) (0,t) ⟨ao _,hti,htl,het⟩ aj ag ?_;clear hti htl het;rintro⟨j,t⟩ ⟨hj,hti,htl,het⟩;dsimp only at hj hti htl het ⊢;by_cases hlj:j<s.moves.length
 case neg =>
  have e0:s.moves.drop j=[]:=bP ac;rw[e0] at het;repeat first|refine aa ?_|intro
  refine⟨(i+1,t),⟨by dsimp only;omega,hti,htl,het⟩,by dsimp only;omega,?_,by exact ag⟩;dsimp only;rw[aP i];exact aj
 have hjj:(j:Int).toNat=j:=aA j;have hlj' : (j:Int).toNat<s.moves.length:=ac;rw[wd hlj,Cj] at het;repeat first|refine aa ?_|intro
 rw[hjj];rename_i b10;generalize s.moves[j]! = m at *;refine GO.ef (Ef.d7 (ql items m) rfl) ae ?_;rintro _ _⟨rfl,rfl⟩;by_cases hmo:kV items m.m
 case neg =>
  have es:kd items t m.m=(1,t):=if_pos hmo;rw[es,if_neg (show ¬(1:Int)=0 by decide)] at het;rw[aF hmo,het,if_neg (show ¬(1:Int)=0 by decide)];repeat first|refine aa ?_|intro
  exact KX.d7 ai (Ent.trans ag (Ent.d8 (encZ .i64) 1 tInt)) ⟨none,0,rfl,rfl⟩
 have es:kd items t m.m=if(chgT (t[m.m.item.toNat]! + byT m.m)).2=0 then(0,t.set m.m.item.toNat (chgT (t[m.m.item.toNat]! + byT m.m)).1) else((chgT (t[m.m.item.toNat]! + byT m.m)).2,t):=if_neg (fun q=>q hmo);obtain⟨⟨k1,k2⟩,⟨k3,k4⟩,k5,k6⟩:=hmo;have hti2:=hti.len;have hin:m.m.item.toNat<t.length:=ac;obtain⟨w1,w2⟩:=hti.bd _ hin;rw[aU ⟨⟨k1,k2⟩,⟨k3,k4⟩,k5,k6⟩];obtain⟨⟨frm,to,item,mn,parts⟩,pad,pcap⟩:=m;dsimp only at k1 k2 k3 k4 k5 k6 hin w1 w2 es het ⊢;simp only[aM];repeat first|((fail_if_success (with_reducible refine G.e7 13 ?_));(with_reducible apply G.seq))|refine bB ?_|intro
 refine G.d9 (α:=Unit) (fun _=>True) (fun _=>[(0,ab items),(6,.slice (some ⟨bt,0,none⟩) t0.length t0.length),(22,.slice ad ss.length c),(23,ab ss.length),(24,ab (i:Int)),(29,.slice s.mad s.moves.length s.mcap),(30,ab s.moves.length),(31,ab (j:Int)),(10,au b10),(11,ab (if frm=0 then mn else 0))]) (fun _=>obj b10 tMv [ab frm,ab to,ab item,ab mn,.slice pad parts.length pcap]::isl aM 5 s.mad s.moves::osl (encZ .i64) 1 tInt (some ⟨bt,0,none⟩) t0.length t::allP bA ss::L) ?_ ?_
 ·by_cases c3:frm=0
  ·repeat first|refine aa ?_|intro
   refine⟨(),trivial,?_,by exact ag⟩;rw[if_pos c3,show 0+mn=mn by omega];exact aj
  ·repeat first|refine aa ?_|intro
   refine⟨(),trivial,?_,by exact ag⟩;rw[if_neg c3];exact aj
 rintro _ _;refine G.d9 (α:=Unit) (fun _=>True) (fun _=>[(0,ab items),(6,.slice (some ⟨bt,0,none⟩) t0.length t0.length),(22,.slice ad ss.length c),(23,ab ss.length),(24,ab (i:Int)),(29,.slice s.mad s.moves.length s.mcap),(30,ab s.moves.length),(31,ab (j:Int)),(10,au b10),(11,ab (byT ⟨frm,to,item,mn,parts⟩))]) (fun _=>obj b10 tMv [ab frm,ab to,ab item,ab mn,.slice pad parts.length pcap]::isl aM 5 s.mad s.moves::osl (encZ .i64) 1 tInt (some ⟨bt,0,none⟩) t0.length t::allP bA ss::L) ?_ ?_
 ·have hb : -1099511627776≤(if frm=0 then mn else 0)∧(if frm=0 then mn else 0)≤1099511627776:=by split<;>omega
  have he:byT ⟨frm,to,item,mn,parts⟩=(if frm=0 then mn else 0) - (if to=0 then mn else 0):=rfl;generalize (if frm=0 then mn else 0)=x at *;by_cases c3:to=0
  ·rw[if_pos c3] at he;repeat first|refine aa ?_|intro
   refine⟨(),trivial,?_,by exact ag⟩;rw[he];exact aj
  ·rw[if_neg c3] at he;repeat first|refine aa ?_|intro
   refine⟨(),trivial,?_,by exact ag⟩;rw[he,show x - 0=x by omega];exact aj
 rintro _ _
 have hb : -1099511627776≤byT ⟨frm,to,item,mn,parts⟩∧byT ⟨frm,to,item,mn,parts⟩≤1099511627776:=by
  unfold byT;dsimp only;split<;>split<;>omega
 generalize byT ⟨frm,to,item,mn,parts⟩=x at *;repeat first|refine aa ?_|intro
 refine GO.ef (Ef.d7 (pw t[item.toNat]! x ac ac) rfl) ae ?_;rintro _ _⟨rfl,rfl⟩;by_cases hc:(chgT (t[item.toNat]! + x)).2=0
 case neg =>
  rw[if_neg hc] at es;rw[es,if_neg (show ¬(chgT (t[item.toNat]! + x)).2=0 from hc)] at het;rw[het,if_neg (show ¬(chgT (t[item.toNat]! + x)).2=0 from hc)];generalize (chgT (t[item.toNat]! + x)).2=ec at *;repeat first|refine aa ?_|intro
  exact KX.d7 ai (Ent.trans ag (Ent.d8 (encZ .i64) 1 tInt)) ⟨none,0,rfl,rfl⟩
 rw[if_pos hc] at es;rw[es,if_pos rfl] at het;have hti':=TotI.set hti (k:=item.toNat) hc;have htl' : (t.set item.toNat (chgT (t[item.toNat]! + x)).1).length=t0.length:=by rw[bg];exact htl
 rw[hc];generalize (chgT (t[item.toNat]! + x)).1=y at *;repeat first|refine aa ?_|intro
 refine⟨(j+1,t.set item.toNat y),⟨by dsimp only;omega,hti',htl',het⟩,by dsimp only;omega,?_,by exact ag⟩;dsimp only;rw[aP j];exact aj
end Go.Proofs.YtommnllbflbdmaaGreatDoor
namespace Go.V
theorem mB{P:Program}{E:TypeId}(h:P.underlying E=some (.int .i64)):∀w,(isAgg E).run P w=.ok false w:=fun w=>by simp[isAgg,run_underlying h]
theorem vw{P:Program}{K E:Nat}[h:TyArr P K 2 E 1][he:TyInt P E .i64](a b:Int×Int)(w:World):(Op.equal K (kvP a) (kvP b)).run P w=.ok (decide (a=b)) w:=by
 have hE:=he.under;have hi:=h.size;cases hx:P.info? E with
 | none=>rw[hx] at hi;cases hi
 | some i =>
  have hc:P.cellsOf E=1:=by
   rw[hx] at hi;simp[Program.cellsOf,hx] at hi ⊢;exact hi
  obtain⟨a1,a2⟩:=a;obtain⟨b1,b2⟩:=b;have hq:=run_equalIn_array (P:=P) (w:=w) 9999 #[ab a1,ab a2] #[ab b1,ab b2] h.under hx;have e0:∀(c d:Int) (w:World),(part E #[Value.int .i64 c,Value.int .i64 d] 0).run P w=.ok (ab c) w:=fun c d w=>iq (mB hE) rfl;have e1:∀(c d:Int) (w:World),(part E #[Value.int .i64 c,Value.int .i64 d] 1).run P w=.ok (ab d) w:=fun c d w=>iq (mB hE) rfl;show(Op.equalIn (9999+1) K (.agg #[ab a1,ab a2]) (.agg #[ab b1,ab b2])).run P w=_;rw[hq,hc];have q:=fun c d=>run_equalIn_int (P:=P) w 9998 E .i64 .i64 c d hE;rw[show List.range 2=[0,1] from rfl];simp only[Op.eqItems,Sem.run_bind,Nat.zero_mul,Nat.one_mul,e0,e1,Result.andThen_ok,q];by_cases h1:a1=b1
  ·by_cases h2:a2=b2
   ·simp[h1,h2,e1,q]
   ·simp[h1,h2,e1,q]
  ·simp[h1]
theorem keyA{P:Program}{K E:Nat}[h:TyArr P K 2 E 1][he:TyInt P E .i64]:KeyT P K kvP where
 inj a b h:=by
  simp[kvP] at h;exact Prod.ext h.1 h.2
 check e k w:=by
  have hE:=he.under;have e0:∀(c d:Int) (w:World),(part E #[Value.int .i64 c,Value.int .i64 d] 0).run P w=.ok (ab c) w:=fun c d w=>iq (mB hE) rfl;have e1:∀(c d:Int) (w:World),(part E #[Value.int .i64 c,Value.int .i64 d] 1).run P w=.ok (ab d) w:=fun c d w=>iq (mB hE) rfl;have e2:∀(m:Nat) (c:Int) (w:World),(Instr.checkKey e (m+1) E (ab c)).run P w=.ok () w:=fun m c w=>by simp[Instr.checkKey,run_underlying hE]
  have main:∀m,(Instr.checkKey e (m+1+1) K (.agg #[ab k.1,ab k.2])).run P w=.ok () w:=by
   intro m;rw[Instr.checkKey];simp only[Sem.run_bind,run_underlying h.under,Result.andThen_ok];simp[Std.Legacy.Range.forIn_eq_forIn_range',Std.Legacy.Range.size,List.range'_succ,h.sizeOf_run,e0,e1,e2]
  exact main 9998
 bits k:=by
  have:∀n,Instr.sameBits (n+1) (kvP k) (kvP k)=true:=fun n=>by simp[Instr.sameBits,kvP]
  exact this 9999
 find k es ks w he':=by
  have hq:∀a b:Int×Int,(Op.equal K (kvP a) (kvP b)).run P w=.ok (decide (a=b)) w:=fun a b=>vw a b w;have h2:=kQ (P:=P) (K:=K) (w:=w) hq k es ks 0 he';simp only[Instr.findKey,Sem.run_bind,run_underlying h.under,Result.andThen_ok];cases es with
  | nil =>
   cases ks with
   | nil=>simp[Instr.findNow]
   | cons _ _=>simp at he'
  | cons x es =>
   cases ks with
   | nil=>simp at he'
   | cons q ks =>
    have hn:Instr.findNow (.array 2 E) (kvP k) (x::es) 0=none:=by simp[Instr.findNow,Instr.sameNow]
    rw[hn];simp only[de] at h2;exact h2
end Go.V
namespace Go.Proofs.YtommnllbflbdmaaGreatDoor
open Go.V
attribute [local irreducible] G GO GP GPW GPK Ev Ef EfR Ent CB GB V.Enters
instance keyA2:KeyT ah 116 kvP:=keyA
def gFn(m:List ((Int×Int)×Int))(a i:Int):Int:=(glk m (a,i)).getD 0
def updH(f:Int→Int→Int)(a i n:Int):Int→Int→Int:=fun x y=>if x=a∧y=i then n else f x y
theorem ED(m:List ((Int×Int)×Int))(a i n:Int):gFn (gins m (a,i) n)=updH (gFn m) a i n:=by
 funext x y;unfold gFn updH;rw[jY];by_cases h:x=a∧y=i
 ·rw[if_pos h,if_pos (by rw[h.1,h.2])];rfl
 ·rw[if_neg h,if_neg (fun e=>h (by simpa using e))]
def chgH(f:Int→Int→Int)(a i b:Int):Int×(Int→Int→Int) :=
 if a=0 then(0,f) else if(chgT (f a i+b)).2=0 then(0,updH f a i (chgT (f a i+b)).1) else((chgT (f a i+b)).2,f)
def kl(items:Int)(f:Int→Int→Int)(m:MvM):Int×(Int→Int→Int) :=
 if ¬kV items m then(1,f) else if(chgH f m.frm m.item (-m.n)).1=0 then chgH (chgH f m.frm m.item (-m.n)).2 m.to m.item m.n else((chgH f m.frm m.item (-m.n)).1,f)
def hldF(items:Int):List MvM→(Int→Int→Int)→Int×(Int→Int→Int)
 | [],f=>(0,f)
 | m::ms,f=>if(kl items f m).1=0 then hldF items ms (kl items f m).2 else((kl items f m).1,f)
def resH(items:Int)(ss:List StV):Int×(Int→Int→Int) :=
 if ¬(0≤items∧items≤64) then(1,fun _ _=>0) else hldF items (fE ss) (fun _ _=>0)
structure HldI (f:Int→Int→Int):Prop where
 bd:∀a i,0≤f a i∧f a i≤1099511627776
 zero:∀i,f 0 i=0
theorem HldI.upd{f:Int→Int→Int}(h:HldI f){a i n:Int}(ha:a≠0)(h1:0≤n)(h2:n≤1099511627776):HldI (updH f a i n):=by
 refine⟨fun x y=>?_,fun y=>?_⟩
 ·unfold updH;split
  ·exact⟨h1,h2⟩
  ·exact h.bd x y
 ·unfold updH;rw[if_neg (fun e=>ha e.1.symm)];exact h.zero y
theorem HldI.chg{f:Int→Int→Int}(h:HldI f){a i b:Int}:HldI (chgH f a i b).2:=by
 unfold chgH;by_cases ha:a=0
 ·rw[if_pos ha];exact h
 ·rw[if_neg ha];by_cases hc:(chgT (f a i+b)).2=0
  ·rw[if_pos hc];obtain⟨e,b1,b2⟩:=tn hc;exact h.upd ha (by rw[e];exact b1) (by rw[e];exact b2)
  ·rw[if_neg hc];exact h
theorem hld0:HldI (fun _ _=>0):=⟨fun _ _=>by decide,fun _=>rfl⟩
theorem Dk{items:Int}{m:MvM}{ms:List MvM}{f:Int→Int→Int}:hldF items (m::ms) f=if(kl items f m).1=0 then hldF items ms (kl items f m).2 else((kl items f m).1,f):=rfl
theorem qy{L:LH}(bc bm:Nat)(m:List ((Int×Int)×Int))(a i b:Int)(hm:HldI (gFn m))(hb : -1099511627776≤b∧b≤1099511627776) :
  Tri ah 55 #[ab a,ab i,ab b,au bc] (obj bc 115 [.map (some bm)]::gmap kvP encN bm m::L) (fun v L'=>∃m',v=ab (chgH (gFn m) a i b).1∧(gFn m' = (chgH (gFn m) a i b).2∧m'.length≤m.length+1)∧L' = obj bc 115 [.map (some bm)]::gmap kvP encN bm m'::L):=by
 refine Tri.body (args:=[ab a,ab i,ab b,au bc]) 30 en55 Tryz.func55 rfl rfl rfl (by simp) ?_;obtain⟨w1,w2⟩:=hm.bd a i;by_cases ha:a=0
 ·have e:chgH (gFn m) a i b=(0,gFn m):=if_pos ha;rw[e];repeat first|refine aa ?_|intro
  exact KX.d7 ai (Ent.refl _) ⟨m,rfl,⟨rfl,ac⟩,rfl⟩
 have e:chgH (gFn m) a i b=if(chgT (gFn m a i+b)).2=0 then(0,updH (gFn m) a i (chgT (gFn m a i+b)).1) else((chgT (gFn m a i+b)).2,gFn m):=if_neg ha;rw[e];repeat first|refine aa ?_|intro
 refine GO.ev (Ev.m5 rfl rfl) ae ?_;refine GO.ev (Ev.e8 rfl rfl) ae ?_
 have hg:((glk m (a,i)).map encN).getD (ab 0)=ab (gFn m a i):=by
  unfold gFn;cases glk m (a,i)<;>rfl
 unfold glk at hg;rw[hg];repeat first|refine aa ?_|intro
 refine GO.ef (Ef.d7 (pw (gFn m a i) b ac ac) rfl) ae ?_;rintro _ _⟨rfl,rfl⟩;by_cases hc:(chgT (gFn m a i+b)).2=0
 case neg =>
  rw[if_neg hc];generalize (chgT (gFn m a i+b)).2=ec at *;generalize (chgT (gFn m a i+b)).1=en at *;repeat first|refine aa ?_|intro
  exact KX.d7 ai (Ent.refl _) ⟨m,rfl,⟨rfl,ac⟩,rfl⟩
 rw[if_pos hc,hc];obtain⟨e1,e2,e3⟩:=tn hc;generalize (chgT (gFn m a i+b)).1=y at *;repeat first|refine aa ?_|intro
 refine GO.ev (Ev.m5 rfl rfl) ae ?_;repeat first|refine aa ?_|intro
 refine GO.efu (Ef.f8 (enc:=encN) (e:=y) rfl rfl rfl rfl) ?_;rintro _ _⟨rfl,rfl⟩;repeat first|refine aa ?_|intro
 refine KX.d7 ai ?_ ⟨gins m (a,i) y,rfl,⟨ED m a i y,EB m (a,i) y⟩,rfl⟩;exact ag
