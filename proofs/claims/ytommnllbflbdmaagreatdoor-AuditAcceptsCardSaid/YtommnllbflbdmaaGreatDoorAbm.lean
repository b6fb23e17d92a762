/- Lemmas. -/
import Derived.ChangeKeysEq
import Derived.Test.YtommnllbflbdmaaGreatDoorAbd
set_option linter.all false
set_option maxHeartbeats 4000000
namespace Go.Proofs.YtommnllbflbdmaaGreatDoor
open Go.V
attribute [local irreducible] G GO GP GPW GPK Ev Ef EfR Ent CB GB V.Enters
def lq(items:Int)(m:MvM):Prop:=(0≤m.item∧m.item<items)∧(1≤m.n∧m.n≤1099511627776)∧0≤m.frm∧0≤m.to
instance (items:Int)(m:MvM):Decidable (lq items m):=by unfold lq;infer_instance
def rB{L:LH}(items:Int)(m:MvV):Tri ai 52 #[ac items,aN (aM m)] L (fun v L'=>v=.bool (dB (lq items m.m))∧L' = L):=by
 obtain⟨⟨frm,to,item,n,parts⟩,pad,pcap⟩:=m;have a0:∀{p:Prop},¬p→(lq items ⟨frm,to,item,n,parts⟩→p)→dB (lq items ⟨frm,to,item,n,parts⟩)=false:=fun h q=>aG (fun r=>h (q r));refine Tri.bd (args:=[ac items,aN (aM ⟨⟨frm,to,item,n,parts⟩,pad,pcap⟩)]) ?_;simp only[aM];by_cases h1:0≤item
 case neg =>
  refine Jq ?_;intros;exact KX.d7 al ae ⟨by rw[a0 h1 (fun h=>h.1.1)];rfl,rfl⟩
 by_cases h2:item<items
 case neg =>
  refine Jq ?_;intros;exact KX.d7 al ae ⟨by rw[a0 h2 (fun h=>h.1.2)];rfl,rfl⟩
 by_cases h3:1≤n
 case neg =>
  refine Jq ?_;intros;exact KX.d7 al ae ⟨by rw[a0 h3 (fun h=>h.2.1.1)];rfl,rfl⟩
 by_cases h4:n≤1099511627776
 case neg =>
  refine Jq ?_;intros;exact KX.d7 al ae ⟨by rw[a0 h4 (fun h=>h.2.1.2)];rfl,rfl⟩
 by_cases h5:0≤frm
 case neg =>
  refine Jq ?_;intros;exact KX.d7 al ae ⟨by rw[a0 h5 (fun h=>h.2.2.1)];rfl,rfl⟩
 refine Jq ?_;intros;refine KX.d7 al ae ⟨?_,rfl⟩;by_cases h6:0≤to
 ·rw[aS (show to ≥ 0 from h6),aS (show lq items ⟨frm,to,item,n,parts⟩ from⟨⟨h1,h2⟩,⟨h3,h4⟩,h5,h6⟩)];rfl
 ·rw[aG (show ¬to ≥ 0 from h6),a0 h6 (fun h=>h.2.2.2)];rfl
def chgT(s:Int):Int×Int:=if s<0 then(0,10) else if 1099511627776<s then(0,4) else(s,0)
def qH{L:LH}(n b:Int)(h1 : -9223372036854775808≤n+b)(h2:n+b≤9223372036854775807):Tri ai 53 #[ac n,ac b] L (fun v L'=>v=.tuple #[ac (chgT (n+b)).1,ac (chgT (n+b)).2]∧L' = L):=by
 unfold chgT;refine Tri.bd ?_;by_cases c1:n+b<0
 ·refine Jq ?_;intros;exact KX.d7 al ae ⟨by rw[if_pos c1];rfl,rfl⟩
 by_cases c2:1099511627776<n+b
 ·refine Jq ?_;intros;exact KX.d7 al ae ⟨by rw[if_neg c1,if_pos c2];rfl,rfl⟩
 refine Jq ?_;intros;exact KX.d7 al ae ⟨by rw[if_neg c1,if_neg c2];rfl,rfl⟩
def byT(m:MvM):Int:=(if m.frm=0 then m.n else 0) - (if m.to=0 then m.n else 0)
def jB(items:Int)(t:List Int)(m:MvM):Int×List Int :=
 if ¬lq items m then(1,t) else if(chgT (t[m.item.toNat]! + byT m)).2=0 then(0,t.set m.item.toNat (chgT (t[m.item.toNat]! + byT m)).1) else((chgT (t[m.item.toNat]! + byT m)).2,t)
def totF(items:Int):List MvM→List Int→Int×List Int
 | [],t=>(0,t)
 | m::ms,t=>if(jB items t m).1=0 then totF items ms (jB items t m).2 else((jB items t m).1,t)
def fD(ss:List StV):List MvM:=ss.flatMap (fun s=>s.moves.map MvV.m)
def resT(items:Int)(ss:List StV):Int×List Int :=
 if ¬(0≤items∧items≤64) then(1,[]) else if(totF items (fD ss) (List.replicate items.toNat 0)).1=0 then totF items (fD ss) (List.replicate items.toNat 0) else((totF items (fD ss) (List.replicate items.toNat 0)).1,[])
structure TotI (items:Int) (t:List Int):Prop where
 len:t.length=items.toNat
 bd:∀i,i<t.length→0≤t[i]!∧t[i]!≤1099511627776
def uH{s:Int}(h:(chgT s).2=0):(chgT s).1=s∧0≤s∧s≤1099511627776:=by
 unfold chgT at h ⊢;by_cases h1:s<0
 ·rw[if_pos h1] at h;exact absurd (show(10:Int)=0 from h) ag
 ·rw[if_neg h1] at h ⊢;by_cases h2:1099511627776<s
  ·rw[if_pos h2] at h;exact absurd (show(4:Int)=0 from h) ag
  ·rw[if_neg h2];exact⟨rfl,ab,ab⟩
def TotI.set{items:Int}{t:List Int}(h:TotI items t){k:Nat}{s:Int}(hs:(chgT s).2=0):TotI items (t.set k (chgT s).1):=by
 obtain⟨e,b1,b2⟩:=uH hs;refine⟨by rw[cu];exact h.len,fun i hi=>?_⟩;rw[cu] at hi;rw[e,getElem!_of (by rw[cu];exact hi),fJ];split
 ·exact⟨b1,b2⟩
 ·have:=h.bd i hi
  rw[getElem!_of hi] at this;exact this
def tot0(items:Int):TotI items (List.replicate items.toNat 0):=⟨List.length_replicate,fun i hi=>by
 rw[getElem!_of hi,List.getElem_replicate];decide⟩
def pR{ss:List StV}{i:Nat}(h:i<ss.length){L:LH}:Ent (allP cC ss::L) (isl aM 5 ss[i]!.mad ss[i]!.moves::stP ss[i]!::allP cC ss::L):=(Ent.e7 (f:=cC) (aI h)).trans Ent.andE
def uR{items:Int}{m:MvM}{ms:List MvM}{t:List Int}:totF items (m::ms) t=if(jB items t m).1=0 then totF items ms (jB items t m).2 else((jB items t m).1,t):=rfl
def oS(s:StV)(ss:List StV):fD (s::ss)=s.moves.map MvV.m++fD ss:=bB
def xL{s:StV}{ss:List StV}{j:Nat}(h:j<s.moves.length):(s.moves.drop j).map MvV.m++fD ss=s.moves[j]!.m::((s.moves.drop (j+1)).map MvV.m++fD ss):=by
 rw[eZ h];rfl
def pB{L:LH}(items:Int)(ad:OA)(n c:Nat)(ss:List StV)[hr:Rds L ad StV aT 7 ss](hn:n=ss.length)(hl:ss.length≤1000000)(hm:∀s∈ss,s.moves.length≤1000000) :
  Tri ai 17 #[ac items,ah ad n c] (allP cC ss::L) (fun v L'=>∃a9 a3,v=.tuple #[ah a9 (resT items ss).2.length a3,ac (resT items ss).1]∧L' = osl (encZ .i64) 1 tInt a9 a3 (resT items ss).2::allP cC ss::L):=by
 subst hn;refine Tri.bd ?_;by_cases c1:0≤items
 case neg =>
  have e:resT items ss=(1,[]):=if_pos (fun q=>c1 q.1);rw[e];refine Jq ?_;intros;exact KX.d7 al (Ent.d8 (encZ .i64) 1 tInt) ⟨none,0,rfl,rfl⟩
 by_cases c2:items≤64
 case neg =>
  have e:resT items ss=(1,[]):=if_pos (fun q=>c2 q.2);rw[e];refine Jq ?_;intros;exact KX.d7 al (Ent.d8 (encZ .i64) 1 tInt) ⟨none,0,rfl,rfl⟩
 have e:resT items ss=if(totF items (fD ss) (List.replicate items.toNat 0)).1=0 then totF items (fD ss) (List.replicate items.toNat 0) else((totF items (fD ss) (List.replicate items.toNat 0)).1,[]):=if_neg (fun q=>q ⟨c1,c2⟩);rw[e];have b0:=tot0 items;generalize htt:List.replicate items.toNat (0:Int)=t0 at *;refine Jq ?_;intros;refine GO.ef (Ef.makeSlice (encZ .i64) 0 rfl rfl rfl ab ab ab) ag ?_;rintro _ _⟨bt,rfl,rfl⟩;rw[htt];have b5:=b0.len;rw[←b5];refine Jq ?_;intros;refine G.loop (α:=Nat×List Int) (fun g=>g.1≤ss.length∧TotI items g.2∧g.2.length=t0.length∧totF items (fD ss) t0=totF items (fD (ss.drop g.1)) g.2) (fun g=>[(0,ac items),(6,ah (some ⟨bt,0,none⟩) t0.length t0.length),(22,ah ad ss.length c),(23,ac ss.length),(24,ac (g.1:Int))]) (fun g=>osl (encZ .i64) 1 tInt (some ⟨bt,0,none⟩) t0.length g.2::allP cC ss::L) (fun g=>ss.length - g.1) (0,t0) ⟨aw _,b0,rfl,rfl⟩ av (Ent.refl _) ?_;rintro⟨i,t⟩ ⟨hi,a1,a2,a0⟩;dsimp only at hi a1 a2 a0 ⊢;by_cases a6:i<ss.length
 case neg =>
  have e0:ss.drop i=[]:=bC ab;rw[e0] at a0;have e1:totF items (fD ss) t0=(0,t):=a0;rw[e1,if_pos rfl];refine Jq ?_;intros;exact KX.d7 al (Ent.refl _) ⟨some ⟨bt,0,none⟩,t0.length,by rw[a2];rfl,rfl⟩
 have b8:(i:Int).toNat=i:=aC i;have b3 : (i:Int).toNat<ss.length:=ab;have b9:=hm _ (aI a6);rw[eZ a6,oS] at a0;refine Jq ?_;intros;refine G.ent (Ent.at (A:=allP cC ss) (pR a6)) ?_;rw[b8];generalize ss[i]! = s at *;refine G.loop (α:=Nat×List Int) (fun g=>g.1≤s.moves.length∧TotI items g.2∧g.2.length=t0.length∧totF items (fD ss) t0=totF items ((s.moves.drop g.1).map MvV.m++fD (ss.drop (i+1))) g.2) (fun g=>[(0,ac items),(6,ah (some ⟨bt,0,none⟩) t0.length t0.length),(22,ah ad ss.length c),(23,ac ss.length),(24,ac (i:Int)),(29,ah s.mad s.moves.length s.mcap),(30,ac s.moves.length),(31,ac (g.1:Int))]) (fun g=>isl aM 5 s.mad s.moves::osl (encZ .i64) 1 tInt (some ⟨bt,0,none⟩) t0.length g.2::allP cC ss::L) (fun g=>s.moves.length - g.1) (0,t) ⟨aw _,a1,a2,a0⟩ av ae ?_;clear a1 a2 a0;rintro⟨j,t⟩ ⟨hj,a1,a2,a0⟩;dsimp only at hj a1 a2 a0 ⊢;by_cases b4:j<s.moves.length
 case neg =>
  have e0:s.moves.drop j=[]:=bC ab;rw[e0] at a0;refine Jq ?_;intros;refine⟨(i+1,t),⟨by dsimp only;omega,a1,a2,a0⟩,by dsimp only;omega,?_,by exact ae⟩;dsimp only;rw[aV i];exact av
 have b7:(j:Int).toNat=j:=aC j;have b6 : (j:Int).toNat<s.moves.length:=ab;rw[xL b4,uR] at a0;refine Jq ?_;intros;rw[b7];rename_i a5;generalize s.moves[j]! = m at *;refine GO.cr (rB items m) ?_;by_cases a4:lq items m.m
 case neg =>
  have es:jB items t m.m=(1,t):=if_pos a4;rw[es,if_neg (show ¬(1:Int)=0 by decide)] at a0;rw[aG a4,a0,if_neg (show ¬(1:Int)=0 by decide)];refine Jq ?_;intros;exact KX.d7 al (Ent.trans ae (Ent.d8 (encZ .i64) 1 tInt)) ⟨none,0,rfl,rfl⟩
 have es:jB items t m.m=if(chgT (t[m.m.item.toNat]! + byT m.m)).2=0 then(0,t.set m.m.item.toNat (chgT (t[m.m.item.toNat]! + byT m.m)).1) else((chgT (t[m.m.item.toNat]! + byT m.m)).2,t):=if_neg (fun q=>q a4);obtain⟨⟨k1,k2⟩,⟨k3,k4⟩,k5,k6⟩:=a4;have b2:=a1.len;have b1:m.m.item.toNat<t.length:=ab;obtain⟨w1,w2⟩:=a1.bd _ b1;rw[aS ⟨⟨k1,k2⟩,⟨k3,k4⟩,k5,k6⟩];obtain⟨⟨frm,to,item,mn,parts⟩,pad,pcap⟩:=m;dsimp only at k1 k2 k3 k4 k5 k6 b1 w1 w2 es a0 ⊢;simp only[aM];repeat first|((fail_if_success (with_reducible refine G.d9 13 ?_));(with_reducible apply G.seq))|refine bW ?_|intro
 refine G.d8 (α:=Unit) (fun _=>True) (fun _=>[(0,ac items),(6,ah (some ⟨bt,0,none⟩) t0.length t0.length),(22,ah ad ss.length c),(23,ac ss.length),(24,ac (i:Int)),(29,ah s.mad s.moves.length s.mcap),(30,ac s.moves.length),(31,ac (j:Int)),(10,ax a5),(11,ac (if frm=0 then mn else 0))]) (fun _=>obj a5 tMv [ac frm,ac to,ac item,ac mn,ah pad parts.length pcap]::isl aM 5 s.mad s.moves::osl (encZ .i64) 1 tInt (some ⟨bt,0,none⟩) t0.length t::allP cC ss::L) ?_ ?_
 ·by_cases c3:frm=0
  ·refine Jq ?_;intros;refine⟨(),trivial,?_,by exact ae⟩;rw[if_pos c3,show 0+mn=mn by omega];exact av
  ·refine Jq ?_;intros;refine⟨(),trivial,?_,by exact ae⟩;rw[if_neg c3];exact av
 rintro _ _;refine G.d8 (α:=Unit) (fun _=>True) (fun _=>[(0,ac items),(6,ah (some ⟨bt,0,none⟩) t0.length t0.length),(22,ah ad ss.length c),(23,ac ss.length),(24,ac (i:Int)),(29,ah s.mad s.moves.length s.mcap),(30,ac s.moves.length),(31,ac (j:Int)),(10,ax a5),(11,ac (byT ⟨frm,to,item,mn,parts⟩))]) (fun _=>obj a5 tMv [ac frm,ac to,ac item,ac mn,ah pad parts.length pcap]::isl aM 5 s.mad s.moves::osl (encZ .i64) 1 tInt (some ⟨bt,0,none⟩) t0.length t::allP cC ss::L) ?_ ?_
 ·have hb : -1099511627776≤(if frm=0 then mn else 0)∧(if frm=0 then mn else 0)≤1099511627776:=by split<;>omega
  have he:byT ⟨frm,to,item,mn,parts⟩=(if frm=0 then mn else 0) - (if to=0 then mn else 0):=rfl;generalize (if frm=0 then mn else 0)=x at *;by_cases c3:to=0
  ·rw[if_pos c3] at he;refine Jq ?_;intros;refine⟨(),trivial,?_,by exact ae⟩;rw[he];exact av
  ·rw[if_neg c3] at he;refine Jq ?_;intros;refine⟨(),trivial,?_,by exact ae⟩;rw[he,show x - 0=x by omega];exact av
 rintro _ _
 have hb : -1099511627776≤byT ⟨frm,to,item,mn,parts⟩∧byT ⟨frm,to,item,mn,parts⟩≤1099511627776:=by
  unfold byT;dsimp only;split<;>split<;>omega
 generalize byT ⟨frm,to,item,mn,parts⟩=x at *;refine Jq ?_;intros;refine GO.cr (qH t[item.toNat]! x ab ab) ?_;by_cases hc:(chgT (t[item.toNat]! + x)).2=0
 case neg =>
  rw[if_neg hc] at es;rw[es,if_neg (show ¬(chgT (t[item.toNat]! + x)).2=0 from hc)] at a0;rw[a0,if_neg (show ¬(chgT (t[item.toNat]! + x)).2=0 from hc)];generalize (chgT (t[item.toNat]! + x)).2=ec at *;refine Jq ?_;intros;exact KX.d7 al (Ent.trans ae (Ent.d8 (encZ .i64) 1 tInt)) ⟨none,0,rfl,rfl⟩
 rw[if_pos hc] at es;rw[es,if_pos rfl] at a0;have a7:=TotI.set a1 (k:=item.toNat) hc;have a8 : (t.set item.toNat (chgT (t[item.toNat]! + x)).1).length=t0.length:=by rw[cu];exact a2
 rw[hc];generalize (chgT (t[item.toNat]! + x)).1=y at *;refine Jq ?_;intros;refine⟨(j+1,t.set item.toNat y),⟨by dsimp only;omega,a7,a8,a0⟩,by dsimp only;omega,?_,by exact ae⟩;dsimp only;rw[aV j];exact av
end Go.Proofs.YtommnllbflbdmaaGreatDoor
namespace Go.V
def nt{P:Program}{E:TypeId}(h:P.underlying E=some (.int .i64)):∀w,(isAgg E).run P w=.ok false w:=fun w=>by simp[isAgg,run_underlying h]
def wR{P:Program}{K E:Nat}[h:TyArr P K 2 E 1][he:TyInt P E .i64](a b:Int×Int)(w:World):(Op.equal K (kvP a) (kvP b)).run P w=.ok (decide (a=b)) w:=by
 have hE:=he.under;have hi:=h.size;cases hx:P.info? E with
 | none=>rw[hx] at hi;cases hi
 | some i =>
  have hc:P.cellsOf E=1:=by
   rw[hx] at hi;simp[Program.cellsOf,hx] at hi ⊢;exact hi
  obtain⟨a1,a2⟩:=a;obtain⟨b1,b2⟩:=b;have hq:=run_equalIn_array (P:=P) (w:=w) 9999 #[ac a1,ac a2] #[ac b1,ac b2] h.under hx;have e0:∀(c d:Int) (w:World),(part E #[Value.int .i64 c,Value.int .i64 d] 0).run P w=.ok (ac c) w:=fun c d w=>iV (nt hE) rfl;have e1:∀(c d:Int) (w:World),(part E #[Value.int .i64 c,Value.int .i64 d] 1).run P w=.ok (ac d) w:=fun c d w=>iV (nt hE) rfl;show(Op.equalIn (9999+1) K (.agg #[ac a1,ac a2]) (.agg #[ac b1,ac b2])).run P w=_;rw[hq,hc];have q:=fun c d=>run_equalIn_int (P:=P) w 9998 E .i64 .i64 c d hE;rw[show List.range 2=[0,1] from rfl];simp only[Op.eqItems,Sem.run_bind,Nat.zero_mul,Nat.one_mul,e0,e1,Result.andThen_ok,q];by_cases h1:a1=b1
  ·by_cases h2:a2=b2
   ·simp[h1,h2,e1,q]
   ·simp[h1,h2,e1,q]
  ·simp[h1]
theorem keyA{P:Program}{K E:Nat}[h:TyArr P K 2 E 1][he:TyInt P E .i64]:KeyT P K kvP where
 inj a b h:=by
  simp[kvP] at h;exact Prod.ext h.1 h.2
 check e k w:=by
  have hE:=he.under;have e0:∀(c d:Int) (w:World),(part E #[Value.int .i64 c,Value.int .i64 d] 0).run P w=.ok (ac c) w:=fun c d w=>iV (nt hE) rfl;have e1:∀(c d:Int) (w:World),(part E #[Value.int .i64 c,Value.int .i64 d] 1).run P w=.ok (ac d) w:=fun c d w=>iV (nt hE) rfl;have e2:∀(m:Nat) (c:Int) (w:World),(Instr.checkKey e (m+1) E (ac c)).run P w=.ok () w:=fun m c w=>by simp[Instr.checkKey,run_underlying hE]
  have a0:∀m,(Instr.checkKey e (m+1+1) K (.agg #[ac k.1,ac k.2])).run P w=.ok () w:=by
   intro m;rw[Instr.checkKey];simp only[Sem.run_bind,run_underlying h.under,Result.andThen_ok];simp[Std.Legacy.Range.forIn_eq_forIn_range',Std.Legacy.Range.size,List.range'_succ,h.sizeOf_run,e0,e1,e2]
  exact a0 9998
 bits k:=by
  have:∀n,Instr.sameBits (n+1) (kvP k) (kvP k)=true:=fun n=>by simp[Instr.sameBits,kvP]
  exact this 9999
 find k es ks w he':=by
  have hq:∀a b:Int×Int,(Op.equal K (kvP a) (kvP b)).run P w=.ok (decide (a=b)) w:=fun a b=>wR a b w;have h2:=lK (P:=P) (K:=K) (w:=w) hq k es ks 0 he';simp only[Instr.findKey,Sem.run_bind,run_underlying h.under,Result.andThen_ok];cases es with
  | nil =>
   cases ks with
   | nil=>simp[Instr.findNow]
   | cons _ _=>simp at he'
  | cons x es =>
   cases ks with
   | nil=>simp at he'
   | cons q ks =>
    have hn:Instr.findNow (.array 2 E) (kvP k) (x::es) 0=none:=by simp[Instr.findNow,Instr.sameNow]
    rw[hn];simp only[dq] at h2;exact h2
end Go.V
namespace Go.Proofs.YtommnllbflbdmaaGreatDoor
open Go.V
attribute [local irreducible] G GO GP GPW GPK Ev Ef EfR Ent CB GB V.Enters
instance keyA2:KeyT ai 116 kvP:=keyA
def gFn(m:List ((Int×Int)×Int))(a i:Int):Int:=(glk m (a,i)).getD 0
def updH(f:Int→Int→Int)(a i n:Int):Int→Int→Int:=fun x y=>if x=a∧y=i then n else f x y
def Hl(m:List ((Int×Int)×Int))(a i n:Int):gFn (gins m (a,i) n)=updH (gFn m) a i n:=by
 funext x y;unfold gFn updH;rw[ke];by_cases h:x=a∧y=i
 ·rw[if_pos h,if_pos (by rw[h.1,h.2])];rfl
 ·rw[if_neg h,if_neg (fun e=>h (by simpa using e))]
def chgH(f:Int→Int→Int)(a i b:Int):Int×(Int→Int→Int) :=
 if a=0 then(0,f) else if(chgT (f a i+b)).2=0 then(0,updH f a i (chgT (f a i+b)).1) else((chgT (f a i+b)).2,f)
def jW(items:Int)(f:Int→Int→Int)(m:MvM):Int×(Int→Int→Int) :=
 if ¬lq items m then(1,f) else if(chgH f m.frm m.item (-m.n)).1=0 then chgH (chgH f m.frm m.item (-m.n)).2 m.to m.item m.n else((chgH f m.frm m.item (-m.n)).1,f)
def hldF(items:Int):List MvM→(Int→Int→Int)→Int×(Int→Int→Int)
 | [],f=>(0,f)
 | m::ms,f=>if(jW items f m).1=0 then hldF items ms (jW items f m).2 else((jW items f m).1,f)
def resH(items:Int)(ss:List StV):Int×(Int→Int→Int) :=
 if ¬(0≤items∧items≤64) then(1,fun _ _=>0) else hldF items (fD ss) (fun _ _=>0)
structure HldI (f:Int→Int→Int):Prop where
 bd:∀a i,0≤f a i∧f a i≤1099511627776
 zero:∀i,f 0 i=0
def HldI.upd{f:Int→Int→Int}(h:HldI f){a i n:Int}(ha:a≠0)(h1:0≤n)(h2:n≤1099511627776):HldI (updH f a i n):=by
 refine⟨fun x y=>?_,fun y=>?_⟩
 ·unfold updH;split
  ·exact⟨h1,h2⟩
  ·exact h.bd x y
 ·unfold updH;rw[if_neg (fun e=>ha e.1.symm)];exact h.zero y
def HldI.chg{f:Int→Int→Int}(h:HldI f){a i b:Int}:HldI (chgH f a i b).2:=by
 unfold chgH;by_cases ha:a=0
 ·rw[if_pos ha];exact h
 ·rw[if_neg ha];by_cases hc:(chgT (f a i+b)).2=0
  ·rw[if_pos hc];obtain⟨e,b1,b2⟩:=uH hc;exact h.upd ha (by rw[e];exact b1) (by rw[e];exact b2)
  ·rw[if_neg hc];exact h
def hld0:HldI (fun _ _=>0):=⟨fun _ _=>by decide,fun _=>rfl⟩
def vq{items:Int}{m:MvM}{ms:List MvM}{f:Int→Int→Int}:hldF items (m::ms) f=if(jW items f m).1=0 then hldF items ms (jW items f m).2 else((jW items f m).1,f):=rfl
def rN{L:LH}(bc bm:Nat)(m:List ((Int×Int)×Int))(a i b:Int)(hm:HldI (gFn m))(hb : -1099511627776≤b∧b≤1099511627776) :
  Tri ai 55 #[ac a,ac i,ac b,ax bc] (obj bc 115 [.map (some bm)]::gmap kvP encN bm m::L) (fun v L'=>∃m',v=ac (chgH (gFn m) a i b).1∧(gFn m' = (chgH (gFn m) a i b).2∧m'.length≤m.length+1)∧L' = obj bc 115 [.map (some bm)]::gmap kvP encN bm m'::L):=by
 refine Tri.bd ?_;obtain⟨w1,w2⟩:=hm.bd a i;by_cases ha:a=0
 ·have e:chgH (gFn m) a i b=(0,gFn m):=if_pos ha;rw[e];refine Jq ?_;intros;exact KX.d7 al (Ent.refl _) ⟨m,rfl,⟨rfl,ab⟩,rfl⟩
 have e:chgH (gFn m) a i b=if(chgT (gFn m a i+b)).2=0 then(0,updH (gFn m) a i (chgT (gFn m a i+b)).1) else((chgT (gFn m a i+b)).2,gFn m):=if_neg ha;rw[e];refine Jq ?_;intros;refine GO.ev (Ev.m8 rfl rfl) ag ?_;refine GO.ev (Ev.e8 rfl rfl) ag ?_
 have hg:((glk m (a,i)).map encN).getD (ac 0)=ac (gFn m a i):=by
  unfold gFn;cases glk m (a,i)<;>rfl
 unfold glk at hg;rw[hg];refine Jq ?_;intros;refine GO.cr (qH (gFn m a i) b ab ab) ?_;by_cases hc:(chgT (gFn m a i+b)).2=0
 case neg =>
  rw[if_neg hc];generalize (chgT (gFn m a i+b)).2=ec at *;generalize (chgT (gFn m a i+b)).1=en at *;refine Jq ?_;intros;exact KX.d7 al (Ent.refl _) ⟨m,rfl,⟨rfl,ab⟩,rfl⟩
 rw[if_pos hc,hc];obtain⟨e1,e2,e3⟩:=uH hc;generalize (chgT (gFn m a i+b)).1=y at *;refine Jq ?_;intros;refine GO.ev (Ev.m8 rfl rfl) ag ?_;refine Jq ?_;intros;refine GO.efu (Ef.e7 (enc:=encN) (e:=y) rfl rfl rfl rfl) ?_;rintro _ _⟨rfl,rfl⟩;refine Jq ?_;intros;refine KX.d7 al ?_ ⟨gins m (a,i) y,rfl,⟨Hl m a i y,Hh m (a,i) y⟩,rfl⟩;exact ae
