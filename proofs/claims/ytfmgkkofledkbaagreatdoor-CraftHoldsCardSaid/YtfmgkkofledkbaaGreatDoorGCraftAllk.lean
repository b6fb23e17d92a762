/- Lemmas and contracts of functions, in the order: A1, A2, A3, Y9. -/
import Derived.Test.YtfmgkkofledkbaaGreatDoorGCraftAllg
import Derived.Test.YtfmgkkofledkbaaGreatDoorGCraftAlle
import Derived.Test.YtfmgkkofledkbaaGreatDoorGCraftAllj
import Derived.Test.YtfmgkkofledkbaaGreatDoorGCraftAlli
set_option linter.all false
set_option maxHeartbeats 4000000
namespace Go.Proofs.YtfmgkkofledkbaaGreatDoor
open Go.V
structure AbsB where
 bal:Int→Int→Int
 tot:Int→Int
def AbsB.mv (A:AbsB) (m:MvM):AbsB:=⟨fun a i=>A.bal a i - (if m.frm≠0∧a=m.frm∧i=m.item then m.n else 0)+(if m.to≠0∧a=m.to∧i=m.item then m.n else 0),fun i=>A.tot i+(if i=m.item then (if m.frm=0 then m.n else 0) - (if m.to=0 then m.n else 0) else 0)⟩
def AbsB.mvs (A:AbsB) (ms:List MvM):AbsB:=ms.foldl AbsB.mv A
def AbsB.can (A:AbsB) (m:MvM):Prop:=(m.frm=0∨m.n≤A.bal m.frm m.item)∧(A.mv m).tot m.item≤1099511627776
instance (A:AbsB) (m:MvM):Decidable (A.can m):=by unfold AbsB.can;infer_instance
def AbsB.cans:AbsB→List MvM→Prop
 | _,[]=>True
 | A,m::ms=>A.can m∧(A.mv m).cans ms
instance decCans:∀ (A:AbsB) (ms:List MvM),Decidable (A.cans ms)
 | _,[]=>isTrue trivial
 | A,m::ms=>by unfold AbsB.cans;have:=decCans (A.mv m) ms;infer_instance
structure WAbs (W:Wk) (A:AbsB) (k:Nat):Prop where
 bal:∀ a i,lsum (W.stk a i)=A.bal a i
 tot:∀ i,W.tot i=A.tot i
 len:∀ a i,(W.stk a i).length≤k
theorem qI {W:Wk} {A:AbsB} (h:∀ i,W.tot i=A.tot i) (m:MvM):bY W m=(A.mv m).tot m.item:=by
 unfold bY AbsB.mv
 dsimp only
 rw [h,if_pos rfl]
 omega
theorem wa {mix:Int→Bool} {W:Wk} {m:MvM} {A:AbsB} {k nf:Nat} (hO:W.Ok nf) (h:WAbs W A k) (hn:1≤m.n) (hc:m.frm=0∨m.n≤A.bal m.frm m.item) :
  ∀ a i,lsum (bG mix W m a i)=A.bal a i - (if m.frm≠0∧a=m.frm∧i=m.item then m.n else 0)∧(bG mix W m a i).length≤k:=by
 intro a i
 unfold bG
 by_cases hf:m.frm=0
 ·rw [if_pos hf,if_neg (fun x=>x.1 hf)]
  exact ⟨by rw [h.bal];omega,h.len a i⟩
 ·rw [if_neg hf]
  unfold upd2
  by_cases ha:a=m.frm∧i=m.item
  ·rw [if_pos ha,if_pos ⟨hf,ha⟩]
   obtain ⟨rfl,rfl⟩:=ha
   have hb:m.n≤A.bal m.frm m.item:=hc.resolve_left hf
   obtain ⟨o1,o2⟩:=hO.stk m.frm m.item
   refine ⟨?_,Nat.le_trans (hZ _ _ _).2 (h.len _ _)⟩
   rw [sH o2 ab (by rw [h.bal];exact hb),h.bal]
  ·rw [if_neg ha,if_neg (fun x=>ha x.2)]
   exact ⟨by rw [h.bal];omega,h.len a i⟩
theorem pB {sh:Int} {nf:Nat} {mix:Int→Bool} {s:StM} {W:Wk} {m:MvM} {A:AbsB} {k:Nat} (hO:W.Ok nf) (h:WAbs W A k) (hk:k<4096) (hn:1≤m.n) (hc:A.can m) :
  (bh sh nf mix s W m).1=0∧WAbs (bh sh nf mix s W m).2 (A.mv m) (k+1):=by
 have hts:=wa (mix:=mix) hO h hn hc.1
 have h1:¬(m.frm≠0∧lsum (W.stk m.frm m.item)<m.n):=by
  rintro ⟨q1,q2⟩
  have:=hc.1.resolve_left q1
  rw [h.bal] at q2
  omega
 have hnt:=qI h.tot m
 have h2:¬bY W m>1099511627776:=by
  rw [hnt]
  have:=hc.2
  omega
 have htot:∀ i,upd W.tot m.item (bY W m) i=(A.mv m).tot i:=by
  intro i
  unfold upd
  split
  ·rename_i q;rw [hnt,q]
  ·rename_i q
   rw [h.tot]
   unfold AbsB.mv
   dsimp only
   rw [if_neg q]
   omega
 unfold bh
 rw [if_neg h1,if_neg h2]
 by_cases h3:m.to=0
 ·rw [if_pos h3]
  refine ⟨rfl,?_,htot,fun a i=>Nat.le_succ_of_le (hts a i).2⟩
  intro a i
  show lsum (bG mix W m a i)=_
  rw [(hts a i).1]
  show _=A.bal a i - _+(if m.to≠0∧a=m.to∧i=m.item then m.n else 0)
  rw [if_neg (c:=m.to≠0∧a=m.to∧i=m.item) (fun x=>x.1 h3)]
  omega
 ·rw [if_neg h3,if_neg (by have:=(hts m.to m.item).2;omega)]
  refine ⟨rfl,?_,htot,?_⟩
  ·intro a i
   show lsum (upd2 (bG mix W m) m.to m.item _ a i)=A.bal a i - _+_
   unfold upd2
   by_cases ha:a=m.to∧i=m.item
   ·rw [if_pos ha,mz,(hts m.to m.item).1,if_pos (c:=m.to≠0∧a=m.to∧i=m.item) ⟨h3,ha⟩]
    obtain ⟨rfl,rfl⟩:=ha
    rfl
   ·rw [if_neg ha,(hts a i).1,if_neg (c:=m.to≠0∧a=m.to∧i=m.item) (fun x=>ha x.2)]
    omega
  ·intro a i
   show (upd2 (bG mix W m) m.to m.item _ a i).length≤_
   unfold upd2
   split
   ·exact Nat.le_trans (nF _ _) (by have:=(hts m.to m.item).2;omega)
   ·exact Nat.le_succ_of_le (hts a i).2
theorem sF {sh:Int} {nf:Nat} {mix:Int→Bool} {s:StM} (hsh:0≤sh):∀ (ms:List MvM) {W:Wk} {A:AbsB} {k:Nat},W.Ok nf→WAbs W A k→k+ms.length≤4096→(∀ m∈ms,1≤m.n∧m.n≤1099511627776)→A.cans ms →
  (bL sh nf mix s W ms).1=0∧WAbs (bL sh nf mix s W ms).2 (A.mvs ms) (k+ms.length)
 | [],_,_,_,_,h,_,_,_=>⟨rfl,h⟩
 | m::ms,W,A,k,hO,h,hk,hn,hc=>by
  simp only [List.length_cons] at hk
  have hn1:=hn m List.mem_cons_self
  obtain ⟨e,h1⟩:=pB (sh:=sh) (mix:=mix) (s:=s) hO h ab hn1.1 hc.1
  obtain ⟨hO1,_⟩:=iv hO dF hn1 hsh e
  obtain ⟨e2,h2⟩:=sF (mix:=mix) (s:=s) hsh ms hO1 h1 ab (fun x hx=>hn x (List.mem_cons_of_mem _ hx)) hc.2
  have e3:bL sh nf mix s W (m::ms)=bL sh nf mix s (bh sh nf mix s W m).2 ms:=by
   show (if (bh sh nf mix s W m).1=0 then _ else _)=_
   rw [if_pos e]
  rw [e3]
  refine ⟨e2,?_⟩
  rw [List.length_cons,show k+(ms.length+1)=k+1+ms.length by omega]
  exact h2
structure AbsR (S:LedM) (A:AbsB):Prop where
 bal:∀ a i,lsum (S.stk a i)=A.bal a i
 tot:∀ i,S.tot i=A.tot i
 len:∀ a i,(S.stk a i).length≤S.flows.length
theorem DI (sh:Int) (c:CatM):AbsR (led0 sh c) ⟨fun _ _=>0,fun _=>0⟩:=⟨fun _ _=>rfl,fun _=>rfl,fun _ _=>Nat.le_refl _⟩
theorem pu {S:LedM} {A:AbsB} {s:StM} (hS:S.Ok) (h:AbsR S A) (hl:S.steps.length<65536) (hf:S.flows.length+s.moves.length≤4096) (hp:eC S.cat S.now s) (hc:A.cans s.moves) :
  (tryM S s).1=0∧aI S s=ei S s∧AbsR (aI S s) (A.mvs s.moves)∧(aI S s).now=s.tick∧(aI S s).flows.length=S.flows.length+s.moves.length:=by
 have e:tryM S s=bL S.shard S.flows.length (bP S.cat) (s.at (aC S)) (wk0 S) s.moves:=by
  unfold tryM
  rw [if_neg ab,if_neg (fun q=>q hp)]
 have hn:∀ m∈s.moves,1≤m.n∧m.n≤1099511627776:=fun m hm=>by
  have h4:=hp.2.2.2.1 m hm
  unfold dv at h4
  rw [cu] at h4
  exact (of_decide_eq_true h4).2.1
 obtain ⟨e1,h1⟩:=sF (mix:=bP S.cat) (s:=s.at (aC S)) hS.shard.1 s.moves (W:=wk0 S) (A:=A) (k:=S.flows.length) (km hS) ⟨h.bal,h.tot,h.len⟩ hf hn hc
 rw [← e] at e1 h1
 have e2:aI S s=ei S s:=by unfold aI;rw [if_pos e1]
 have hfl:(aI S s).flows.length=S.flows.length+s.moves.length:=by
  rw [e2]
  have:=(iC hS dF e1).2.2.2
  simp only [ei,List.length_append,this]
 refine ⟨e1,e2,⟨?_,?_,?_⟩,?_,hfl⟩
 ·rw [e2];exact h1.bal
 ·rw [e2];exact h1.tot
 ·intro a i
  rw [hfl,e2]
  exact h1.len a i
 ·rw [e2]
  simp [LedM.now,ei,StM.at]
theorem sw (S:LedM) (s:StM):(aI S s).cat=S.cat:=by unfold aI;split<;>rfl
theorem oU {S:LedM} {s:StM}:(aI S s).steps.length≤S.steps.length+1:=by
 unfold aI
 split
 ·simp [ei]
 ·omega
end Go.Proofs.YtfmgkkofledkbaaGreatDoor
namespace Go.Proofs.YtfmgkkofledkbaaGreatDoor
open Go.V
theorem hJ {k:Nat} {fp tp:Int→Bool} {m:MvM} (h1:0≤m.item∧m.item<k) (h2:1≤m.n∧m.n≤1099511627776) (h3:accP m.frm) (h4:accP m.to) (h5:m.frm≠m.to) (h6:fp m.frm=true) (h7:tp m.to=true) (h8:m.parts=[]):dv k fp tp m=true:=by
 unfold dv
 rw [aw ⟨h1,h2,h3,h4,h5,h6,h7,by rw [h8];rfl⟩]
theorem kz {n:Int} (h:n≠0):eY 2 n=true:=by unfold eY;rw [if_neg ac,if_neg ac];exact aw h
theorem kTo2 {n:Int} (h:n≠0):kTo 2 n=true:=by unfold kTo;rw [if_neg ac,if_neg ac];exact aw h
theorem CG:eY 0 0=true:=by unfold eY;rw [if_pos rfl];exact aw rfl
theorem kTo0 {n:Int} (h:n≠0):kTo 0 n=true:=by unfold kTo;rw [if_neg ac,if_neg ac];exact aw h
theorem rG {c:CatM} {now kind actor tick:Int} {ms:List MvM} (hk:kind≠4) (ha:accP actor) (ht:0≤tick∧tick≤1099511627776) (hn:now≤tick) (hl:1≤ms.length∧ms.length≤64) (hf:∀ m∈ms,dv c.items.length (eY kind) (kTo kind) m=true):eC c now (cw kind actor tick (-1) 0 ms):=by
 refine ⟨ha,⟨ht.1,ht.2,hn⟩,hl,hf,?_⟩
 unfold eU
 rw [if_neg (show ¬(cw kind actor tick (-1) 0 ms).kind=4 from hk)]
 exact ⟨rfl,rfl⟩
structure AtL (S:LedM) (c:CatM) (A:AbsB) (t:Int) (n m:Nat):Prop where
 ok:S.Ok
 cat:S.cat=c
 abs:AbsR S A
 now:S.now=t
 steps:S.steps.length≤n
 flows:S.flows.length≤m
theorem AtL.post {S:LedM} {c:CatM} {A:AbsB} {t:Int} {n m:Nat} (h:AtL S c A t n m) {kind actor tick:Int} {ms:List MvM} (hk:kind≠4) (ha:accP actor) (ht:0≤tick∧tick≤1099511627776) (hn:t≤tick) (hl:1≤ms.length∧ms.length≤64) (hf:∀ x∈ms,dv c.items.length (eY kind) (kTo kind) x=true) (hc:A.cans ms) (h1:n<65536) (h2:m+ms.length≤4096) :
  (tryM S (cw kind actor tick (-1) 0 ms)).1=0∧AtL (aI S (cw kind actor tick (-1) 0 ms)) c (A.mvs ms) tick (n+1) (m+ms.length):=by
 have hp:eC S.cat S.now (cw kind actor tick (-1) 0 ms):=rG hk ha ht (by rw [h.now];exact hn) hl (by rw [h.cat];exact hf)
 have h3:=h.steps
 have h4:=h.flows
 obtain ⟨e1,e2,e3,e4,e5⟩:=pu (s:=cw kind actor tick (-1) 0 ms) h.ok h.abs ab (show S.flows.length+ms.length≤4096 by omega) hp hc
 refine ⟨e1,fj h.ok dF,by rw [sw,h.cat],e3,e4,?_,?_⟩
 ·have:=oU (S:=S) (s:=cw kind actor tick (-1) 0 ms)
  omega
 ·rw [e5]
  show S.flows.length+ms.length≤_
  omega
theorem AtL.led0 {sh:Int} {c:CatM} (h:0≤sh∧sh<12):AtL (led0 sh c) c ⟨fun _ _=>0,fun _=>0⟩ 0 0 0:=⟨jk h,rfl,DI sh c,rfl,Nat.zero_le _,Nat.zero_le _⟩
def AbsB.gb (acc hold:Int) (A:AbsB) (i:Int):AbsB:=if A.bal hold i=0 then A else A.mv ⟨hold,acc,i,A.bal hold i,[]⟩
def AbsB.gbs (acc hold:Int) (A:AbsB) (k:Nat):AbsB:=(List.range k).foldl (fun A (i:Nat)=>A.gb acc hold (i:Int)) A
theorem AbsB.a6 (acc hold:Int) (A:AbsB) (k:Nat):A.gbs acc hold (k+1)=(A.gbs acc hold k).gb acc hold (k:Int):=by
 unfold AbsB.gbs
 rw [List.range_succ,List.foldl_append]
 rfl
theorem AtL.gb {S:LedM} {c:CatM} {A:AbsB} {t:Int} {n m:Nat} (h:AtL S c A t n m) {acc tick hold i:Int} (ha:accP acc∧acc≠0) (hh:accP hold∧hold≠0) (hne:hold≠acc) (ht:0≤tick∧tick≤1099511627776) (hn:t≤tick) (hi:0≤i∧i<c.items.length) (hb:0≤A.bal hold i∧A.bal hold i≤1099511627776) (hto:A.tot i≤1099511627776) (h1:n<65536) (h2:m+1≤4096) :
  ∃ t',(t' = t∨t' = tick)∧AtL (gbS acc tick hold S i) c (A.gb acc hold i) t' (n+1) (m+1):=by
 have hs:lsum (S.stk hold i)=A.bal hold i:=h.abs.bal hold i
 unfold gbS AbsB.gb
 rw [hs]
 by_cases h0:A.bal hold i=0
 ·rw [if_pos h0,if_pos h0]
  exact ⟨t,.inl rfl,⟨h.ok,h.cat,h.abs,h.now,by have:=h.steps;omega,by have:=h.flows;omega⟩⟩
 ·rw [if_neg h0,if_neg h0]
  have hp:=h.post (kind:=2) (actor:=acc) (tick:=tick) (ms:=[⟨hold,acc,i,A.bal hold i,[]⟩]) ac ha.1 ht hn (by simp) (by
   intro x hx
   rw [List.mem_singleton.1 hx]
   exact hJ hi ⟨show (1:Int)≤A.bal hold i by omega,hb.2⟩ hh.1 ha.1 hne (kz hh.2) (kTo2 ha.2) rfl) ⟨⟨.inr (Int.le_refl _),by
   show A.tot i+(if i=i then (if hold=0 then A.bal hold i else 0) - (if acc=0 then A.bal hold i else 0) else 0)≤_
   rw [if_pos rfl,if_neg hh.2,if_neg ha.2]
   omega⟩,trivial⟩ h1 h2
  exact ⟨tick,.inr rfl,hp.2⟩
end Go.Proofs.YtfmgkkofledkbaaGreatDoor
namespace Go.Proofs.YtfmgkkofledkbaaGreatDoor
open Go.V
def sd:List Int:=[115,101,101,100]
def exMs:List MvM:=[⟨0,1,1,6,[]⟩,⟨0,1,2,3,[]⟩]
noncomputable def exL1:LedM:=aI (led0 0 cat16) (cw 0 0 0 (-1) 0 exMs)
def A0:AbsB:=⟨fun _ _=>0,fun _=>0⟩
def A1m:AbsB:=A0.mvs exMs
def exT1:List MvM:=[⟨1,536870912,1,4,[]⟩,⟨1,536870912,2,2,[]⟩]
def exT2:List MvM:=[⟨1,536870913,1,2,[]⟩,⟨1,536870913,2,1,[]⟩]
def A2m:AbsB:=A1m.mvs exT1
def A3m:AbsB:=A2m.mvs exT2
noncomputable def exL2:LedM:=aI exL1 (cw 2 1 10 (-1) 0 exT1)
noncomputable def exL3:LedM:=aI exL2 (cw 2 1 10 (-1) 0 exT2)
def exJ0:JobM:=⟨0,1,536870912,1,2,10,15,false,0,0⟩
def exJ1:JobM:=⟨1,1,536870913,1,1,15,20,false,0,0⟩
theorem exAt1:AtL exL1 cat16 A1m 0 1 2:=by
 refine (AtL.post (AtL.led0 ac) (kind:=0) (actor:=0) (tick:=0) (ms:=exMs) ac ⟨by decide,by decide⟩ ac ac ac ?_ ac ac ac).2
 intro x hx
 simp only [exMs,List.mem_cons,List.not_mem_nil,or_false] at hx
 rcases hx with rfl|rfl
 ·exact hJ ac ac ⟨by decide,by decide⟩ ⟨by decide,by decide⟩ ac CG (kTo0 ac) rfl
 ·exact hJ ac ac ⟨by decide,by decide⟩ ⟨by decide,by decide⟩ ac CG (kTo0 ac) rfl
theorem exAt2:(tryM exL1 (cw 2 1 10 (-1) 0 exT1)).1=0∧AtL exL2 cat16 A2m 10 2 4:=by
 refine AtL.post exAt1 (kind:=2) (actor:=1) (tick:=10) (ms:=exT1) ac ⟨by decide,by decide⟩ ac ac ac ?_ ac ac ac
 intro x hx
 simp only [exT1,List.mem_cons,List.not_mem_nil,or_false] at hx
 rcases hx with rfl|rfl
 ·exact hJ ac ac ⟨by decide,by decide⟩ ⟨by decide,by decide⟩ ac (kz ac) (kTo2 ac) rfl
 ·exact hJ ac ac ⟨by decide,by decide⟩ ⟨by decide,by decide⟩ ac (kz ac) (kTo2 ac) rfl
theorem exAt3:(tryM exL2 (cw 2 1 10 (-1) 0 exT2)).1=0∧AtL exL3 cat16 A3m 10 3 6:=by
 refine AtL.post exAt2.2 (kind:=2) (actor:=1) (tick:=10) (ms:=exT2) ac ⟨by decide,by decide⟩ ac ac ac ?_ ac ac ac
 intro x hx
 simp only [exT2,List.mem_cons,List.not_mem_nil,or_false] at hx
 rcases hx with rfl|rfl
 ·exact hJ ac ac ⟨by decide,by decide⟩ ⟨by decide,by decide⟩ ac (kz ac) (kTo2 ac) rfl
 ·exact hJ ac ac ⟨by decide,by decide⟩ ⟨by decide,by decide⟩ ac (kz ac) (kTo2 ac) rfl
theorem CN (c:CatM) (h:c=cat16):dG c.rules 1 false:=by subst h;exact ⟨by decide,by decide,rfl⟩
theorem exIn {Y:YardM} {S:LedM} {now:Int} (h:S.now=now) {acc tick times:Int} (h1:aM acc) (h2:Y.tick≤tick∧now≤tick∧tick≤1099511627776) (h3:cn times):aM acc∧aV Y.tick S.now tick∧cn times:=⟨h1,by rw [h];exact h2,h3⟩
theorem DV:bC exL1 (bO sd) 1 2 1 2 10=((0,0),exL2,⟨sd,[exJ0],10,0⟩):=by
 rw [iD (exIn exAt1.now ac ac ac) (CN _ exAt1.cat) (r:=cat16.rules[1]!) (by rw [exAt1.cat];rfl)]
 rw [if_neg ac,if_neg ?_]
 ·rfl
 ·rintro ⟨_,h⟩
  exact h exAt2.1
theorem DU:bC exL2 ⟨sd,[exJ0],10,0⟩ 1 2 1 1 10=((1,0),exL3,⟨sd,[exJ0,exJ1],10,0⟩):=by
 rw [iD (exIn exAt2.2.now ac ac ac) (CN _ exAt2.2.cat) (r:=cat16.rules[1]!) (by rw [exAt2.2.cat];rfl)]
 rw [if_neg ac,if_neg ?_]
 ·rfl
 ·rintro ⟨_,h⟩
  exact h exAt3.1
theorem exGb:∀ k,k≤5→∃ t',(t' = 10∨t' = 19)∧AtL (gbM 1 19 536870913 exL3 k) cat16 (A3m.gbs 1 536870913 k) t' (3+k) (6+k)
 | 0,_=>⟨10,.inl rfl,exAt3.2⟩
 | k+1,hk=>by
  obtain ⟨t',ht,h⟩:=exGb k ab
  have hb:(0≤(A3m.gbs 1 536870913 k).bal 536870913 k∧(A3m.gbs 1 536870913 k).bal 536870913 k≤1099511627776)∧(A3m.gbs 1 536870913 k).tot k≤1099511627776:=by
   match k,hk with
   | 0,_=>decide
   | 1,_=>decide
   | 2,_=>decide
   | 3,_=>decide
   | 4,_=>decide
  obtain ⟨t2,ht2,h2⟩:=h.gb (acc:=1) (tick:=19) (hold:=536870913) (i:=(k:Int)) ⟨⟨by decide,by decide⟩,by decide⟩ ⟨⟨by decide,by decide⟩,by decide⟩ ac ac ab (by
   refine ⟨ab,?_⟩
   show (k:Int)<5
   omega) hb.1 hb.2 ab ab
  rw [jo,AbsB.a6]
  exact ⟨t2,ab,h2⟩
noncomputable def exL4:LedM:=gbM 1 19 536870913 exL3 5
def Gg:JobM:=⟨1,1,536870913,1,1,15,20,true,0,0⟩
theorem DW:ba exL3 ⟨sd,[exJ0,exJ1],10,0⟩ 1 1 19=(0,exL4,⟨sd,[exJ0,Gg],19,0⟩):=by
 unfold ba
 rw [if_neg,if_neg,if_neg,if_neg]
 ·rw [exAt3.2.cat]
  rfl
 ·decide
 ·decide
 ·decide
 ·rintro h
  exact h ⟨by decide,by rw [exAt3.2.now];exact ⟨by decide,by decide,by decide⟩⟩
theorem exBal:lsum (exL4.stk 1 1)=2∧lsum (exL4.stk 1 2)=1∧lsum (exL4.stk 536870912 1)=4:=by
 obtain ⟨t',_,h⟩:=exGb 5 ac
 refine ⟨?_,?_,?_⟩
 ·show lsum ((gbM 1 19 536870913 exL3 5).stk 1 1)=2
  rw [h.abs.bal]
  decide
 ·show lsum ((gbM 1 19 536870913 exL3 5).stk 1 2)=1
  rw [h.abs.bal]
  decide
 ·show lsum ((gbM 1 19 536870913 exL3 5).stk 536870912 1)=4
  rw [h.abs.bal]
  decide
theorem vA:exL4.Ok:=by
 obtain ⟨t',_,h⟩:=exGb 5 ac
 exact h.ok
end Go.Proofs.YtfmgkkofledkbaaGreatDoor
namespace Go.Proofs.YtfmgkkofledkbaaGreatDoor
open Go.V
attribute [local irreducible] G GO GP GPW GPK Ev Ef EfR Ent CB GB V.Enters exL1 exL2 exL3 exL4
section
theorem Fq:(bO sd).Ok:=⟨⟨by unfold dy;decide,by decide⟩,by decide,by decide,by decide,fun k hk=>absurd hk (Nat.not_lt_zero k),fun k hk=>absurd hk (Nat.not_lt_zero k)⟩
theorem Fp:YardM.Ok ⟨sd,[exJ0],10,0⟩:=by
 refine ⟨⟨by unfold dy;decide,by decide⟩,by decide,by decide,by decide,?_,?_⟩
 ·intro k hk
  obtain rfl:k=0:=by simp at hk;omega
  exact ⟨rfl,rfl⟩
 ·intro k hk
  obtain rfl:k=0:=by simp at hk;omega
  refine ⟨⟨by decide,by decide⟩,⟨by decide,by decide⟩,⟨by decide,by decide,by decide⟩,⟨by decide,by decide⟩⟩
theorem oy:YardM.Ok ⟨sd,[exJ0,exJ1],10,0⟩:=by
 refine ⟨⟨by unfold dy;decide,by decide⟩,by decide,by decide,by decide,?_,?_⟩
 ·intro k hk
  obtain rfl|rfl:k=0∨k=1:=by simp at hk;omega
  ·exact ⟨rfl,rfl⟩
  ·exact ⟨rfl,rfl⟩
 ·intro k hk
  obtain rfl|rfl:k=0∨k=1:=by simp at hk;omega
  ·refine ⟨⟨by decide,by decide⟩,⟨by decide,by decide⟩,⟨by decide,by decide,by decide⟩,⟨by decide,by decide⟩⟩
  ·refine ⟨⟨by decide,by decide⟩,⟨by decide,by decide⟩,⟨by decide,by decide,by decide⟩,⟨by decide,by decide⟩⟩
theorem vb:∀ (ms:List MvV) {L:List HP},(∀ m∈ms,m.m.parts=[])→Ent L (allP mvP ms::L)
 | [],_,_=>Ent.c7 mvP
 | m::ms,L,h=>by
  have h1:mvP m=isl av 3 m.pad []:=by
   show isl av 3 m.pad m.m.parts=_
   rw [h m List.mem_cons_self]
  have h2:Ent (mvP m::allP mvP ms::L) (allP mvP (m::ms)::L):=Ent.c9 (f:=mvP) kd
  rw [h1] at h2
  exact (vb ms (fun x hx=>h x (List.mem_cons_of_mem _ hx))).trans ((Ent.c8 av 3 m.pad).trans h2)
def exV (b:Nat):StV:=⟨0,0,0,0,-1,0,[⟨⟨0,1,1,6,[]⟩,none,0⟩,⟨⟨0,1,2,3,[]⟩,none,0⟩],some ⟨b,0,none⟩,2⟩
theorem Gf (b:Nat):(exV b).m=cw 0 0 0 (-1) 0 exMs:=rfl
theorem Fr:aI (led0 0 cat16) (cw 0 0 0 (-1) 0 exMs)=exL1:=by unfold exL1;rfl
attribute [local irreducible] aI tryM cL bC ba
theorem eI {L:List HP}:Tri Tryz.prog 22 #[] (aP::L) (fun v L'=>v=.bool true∧L' = L):=by
 refine Tri.body (args:=[]) 126 en22 Tryz.func22 rfl rfl rfl (by simp) ?_
 repeat first|refine aa ?_|intro _
 refine GO.ef (Ef.a6 (fh) rfl) ac ?_
 rintro _ _ ⟨c1,rfl,⟨hc1,hB1⟩,rfl⟩
 repeat first|refine aa ?_|intro _
 refine GO.ef (Ef.a6 (sI 0 c1 ac hB1 (hc1▸cat16_good)) rfl) ac ?_
 rintro _ _ ⟨lb,rfl,rfl⟩
 rw [hc1]
 repeat first|refine aa ?_|intro _
 rename_i b27
 refine GO.ef (Ef.j8 sd rfl rfl) ac ?_
 rintro _ _ ⟨rfl,rfl⟩
 repeat first|refine aa ?_|intro _
 refine GO.ef (Ef.a6 (nj lb (some ⟨b27,0,none⟩) 4 4 sd rfl ac ac) rfl) ac ?_
 rintro _ _ ⟨yb,rfl,rfl⟩
 repeat first|refine aa ?_|intro _
 rename_i b40
 refine GO.ent (L':=LedR lb (led0 0 cat16)::stM (exV b40)::stP (exV b40)::bz yb lb (bO sd)::L) ?_ ?_
 ·refine Ent.trans (B:=obj b40 tMv [.int .i64 0,.int .i64 1,.int .i64 1,.int .i64 6,.slice none 0 0,.int .i64 0,.int .i64 1,.int .i64 2,.int .i64 3,.slice none 0 0]::LedR lb (led0 0 cat16)::bz yb lb (bO sd)::L) ae ?_
  refine (Ent.c6 (enc:=aJ) (sz:=5) (n:=2) (xs:=(exV b40).moves) rfl rfl (by intro y hy;simp [exV] at hy;rcases hy with rfl|rfl<;>rfl) ac).trans (Ent.trans (B:=stM (exV b40)::LedR lb (led0 0 cat16)::bz yb lb (bO sd)::L) Ent.freezeSl ?_)
  refine Ent.trans (B:=stP (exV b40)::stM (exV b40)::LedR lb (led0 0 cat16)::bz yb lb (bO sd)::L) (vb (exV b40).moves (by intro y hy;simp [exV] at hy;rcases hy with rfl|rfl<;>rfl)) ?_
  exact ae
 have hpost:=jJ (L:=bz yb lb (bO sd)::L) lb (led0 0 cat16) (jk ac) mQ (exV b40) ⟨.inl rfl,by simp [exV],by simp [exV],by simp [exV,I64],by intro y hy;simp [exV] at hy;rcases hy with rfl|rfl<;>exact Nat.zero_le _⟩ dF
 rw [show aK (exV b40)=[.int .i64 0,.int .i64 0,.int .i64 0,.int .i64 0,.int .i64 (-1),.int .i64 0,.slice (some ⟨b40,0,none⟩) 2 2] from rfl] at hpost
 refine GO.ef (Ef.a6 (hpost) rfl) ac ?_
 rintro _ _ ⟨rfl,rfl⟩
 rw [Gf,Fr]
 have hcg:∀ {S:LedM},S.cat=cat16→CatGood S.cat∧S.cat.Ok∧S.cat.items.length≤64:=fun h=>by rw [h];exact ⟨cat16_good,mQ,by decide⟩
 refine GO.ent (L':=bz yb lb (bO sd)::LedR lb exL1::L) ae ?_
 repeat first|refine aa ?_|intro _
 refine GO.ef (Ef.a6 (ka yb lb (bO sd) Fq exL1 exAt1.ok (hcg exAt1.cat).1 (hcg exAt1.cat).2.1 1 2 1 2 10) rfl) ac ?_
 rintro _ _ ⟨rfl,rfl⟩
 rw [DV]
 dsimp only
 repeat first|refine aa ?_|intro _
 refine GO.ef (Ef.a6 (ka yb lb _ Fp exL2 exAt2.2.ok (hcg exAt2.2.cat).1 (hcg exAt2.2.cat).2.1 1 2 1 1 10) rfl) ac ?_
 rintro _ _ ⟨rfl,rfl⟩
 rw [DU]
 dsimp only
 repeat first|refine aa ?_|intro _
 have hj0:([exJ0,exJ1]:List JobM)[0]! = exJ0:=rfl
 have hj1:([exJ0,exJ1]:List JobM)[1]! = exJ1:=rfl
 refine GO.ef (Ef.a6 (iw yb lb _ oy 0 ac) rfl) ac ?_
 rintro _ _ ⟨rfl,rfl⟩
 dsimp only
 rw [hj0]
 repeat first|refine aa ?_|intro _
 rename_i b9
 refine GO.ent (L':=bz yb lb ⟨sd,[exJ0,exJ1],10,0⟩::LedR lb exL3::obj b9 tJob (aq exJ0)::L) ae ?_
 refine GO.ef (Ef.a6 (iw yb lb _ oy 1 ac) rfl) ac ?_
 rintro _ _ ⟨rfl,rfl⟩
 dsimp only
 rw [hj1]
 repeat first|refine aa ?_|intro _
 rename_i b11
 refine GO.ent (L':=LedR lb exL3::bz yb lb ⟨sd,[exJ0,exJ1],10,0⟩::obj b9 tJob (aq exJ0)::obj b11 tJob (aq exJ1)::L) ae ?_
 refine GO.c7 (f:=ledA lb exL3) ?_
 intro x
 simp only [ledA,List.cons_append,List.nil_append]
 refine GO.d7 ?_
 intro hL
 refine GO.c9 (fe (ad:=x.sad) (xs:=x.steps)) ?_
 rintro ⟨hc1,_⟩
 refine GO.c9 (fe (ad:=x.fad) (xs:=x.flows)) ?_
 rintro ⟨hc2,_⟩
 have hcp:=AS (L:=bz yb lb ⟨sd,[exJ0,exJ1],10,0⟩::obj b9 tJob (aq exJ0)::obj b11 tJob (aq exJ1)::L) lb exL3 x hc1 hc2
 simp only [ledL] at hcp
 refine GO.ef (Ef.a6 (hcp) rfl) ac ?_
 rintro _ _ ⟨b2,m1,m2,m3,m4,rfl,rfl⟩
 obtain ⟨x2,hx2⟩:∃ x2:LedX,x2={ x with ms:=m1,mt:=m2,mi:=m3,mr:=m4,scap:=x.steps.length,fcap:=x.flows.length }:=⟨_,rfl⟩
 rw [← hx2]
 refine GO.ent (L':=bz yb lb ⟨sd,[exJ0,exJ1],10,0⟩::obj b2 tLed (bT exL3.shard x2)::gmap kvP Stk.v m1 x.stk::gmap kvI encN m2 x.tot::gmap kvI Stk.v m3 x.imp::gmap kvI Stk.v m4 x.ret::obj lb tLed (bT exL3.shard x)::gmap kvP Stk.v x.ms x.stk::gmap kvI encN x.mt x.tot::osl aK 7 cy x.sad x.scap x.steps::osl bH 11 cz x.fad x.fcap x.flows::gmap kvI Stk.v x.mi x.imp::gmap kvI Stk.v x.mr x.ret::catP x.cat::allP (fun p:(Int×Int)×Stk=>stkP p.2) x.stk::allP fx x.steps::allP flP x.flows::allP (fun p:Int×Stk=>stkP p.2) x.imp::allP (fun p:Int×Stk=>stkP p.2) x.ret::obj b9 tJob (aq exJ0)::obj b11 tJob (aq exJ1)::L) ae ?_
 repeat first|refine aa ?_|intro _
 refine GO.ef (Ef.a6 (yY yb lb b2 _ oy) rfl) ac ?_
 rintro _ _ ⟨yc,rfl,rfl⟩
 repeat first|refine aa ?_|intro _
 refine GO.c7 (f:=ew yc b2 ⟨sd,[exJ0,exJ1],10,0⟩) ?_
 intro xy
 simp only [ew,co,List.cons_append,List.nil_append]
 refine GO.d7 ?_
 intro hFy
 have hs1:=hL.steps
 have hs2:=exAt3.2.ok.steps
 have hnow:(x2.steps.getLast?.map (·.tick)).getD 0=10:=by
  rw [hx2]
  show (x.steps.getLast?.map (·.tick)).getD 0=10
  rw [uY hL,exAt3.2.now]
 have hnl:x2.steps.length≤100000:=by
  rw [hx2]
  show x.steps.length≤100000
  have:=congrArg List.length hs1
  rw [List.length_map] at this
  omega
 have hsad:x.sad=x2.sad:=by rw [hx2]
 have hstp:x.steps=x2.steps:=by rw [hx2]
 rw [hsad,hstp]
 have hnw:=sG (L:=obj yc bu (ax b2 ⟨sd,[exJ0,exJ1],10,0⟩ xy)::isl (encZ .u8) 1 xy.sad sd::osl aq 10 tJob xy.jad xy.jcap [exJ0,exJ1]::gmap kvI SlI.v xy.om xy.m::bigO idsP xy.m::bz yb lb ⟨sd,[exJ0,exJ1],10,0⟩::obj b2 tLed (bT exL3.shard x2)::gmap kvP Stk.v m1 x.stk::gmap kvI encN m2 x.tot::gmap kvI Stk.v m3 x.imp::gmap kvI Stk.v m4 x.ret::obj lb tLed (bT exL3.shard x)::gmap kvP Stk.v x.ms x.stk::gmap kvI encN x.mt x.tot::osl aK 7 cy x2.sad x.scap x2.steps::osl bH 11 cz x.fad x.fcap x.flows::gmap kvI Stk.v x.mi x.imp::gmap kvI Stk.v x.mr x.ret::catP x.cat::allP (fun p:(Int×Int)×Stk=>stkP p.2) x.stk::allP fx x2.steps::allP flP x.flows::allP (fun p:Int×Stk=>stkP p.2) x.imp::allP (fun p:Int×Stk=>stkP p.2) x.ret::obj b9 tJob (aq exJ0)::obj b11 tJob (aq exJ1)::L) (b:=b2) (sh:=exL3.shard) (x:=x2) hnl
 rw [hnow] at hnw
 refine GO.ef (Ef.a6 (rq (yb:=yc) (lb:=b2) (Y:=⟨sd,[exJ0,exJ1],10,0⟩) (x:=xy) ac 10 20 1 hnw 1 ac ac ac rfl rfl ac) rfl) ac ?_
 rintro _ _ ⟨rfl,rfl⟩
 rw [← hsad,← hstp]
 repeat first|refine aa ?_|intro _
 have hlc:=fP (b:=lb) (S:=exL3) (L:=bz yb lb ⟨sd,[exJ0,exJ1],10,0⟩::obj b9 tJob (aq exJ0)::obj b11 tJob (aq exJ1)::L) x hL
 simp only [ledL] at hlc
 refine GO.ent (L':=bz yb lb ⟨sd,[exJ0,exJ1],10,0⟩::LedR lb exL3::obj b9 tJob (aq exJ0)::obj b11 tJob (aq exJ1)::L) ?_ ?_
 ·refine Ent.trans (B:=obj lb tLed (bT exL3.shard x)::gmap kvP Stk.v x.ms x.stk::gmap kvI encN x.mt x.tot::osl aK 7 cy x.sad x.scap x.steps::osl bH 11 cz x.fad x.fcap x.flows::gmap kvI Stk.v x.mi x.imp::gmap kvI Stk.v x.mr x.ret::catP x.cat::allP (fun p:(Int×Int)×Stk=>stkP p.2) x.stk::allP fx x.steps::allP flP x.flows::allP (fun p:Int×Stk=>stkP p.2) x.imp::allP (fun p:Int×Stk=>stkP p.2) x.ret::bz yb lb ⟨sd,[exJ0,exJ1],10,0⟩::obj b9 tJob (aq exJ0)::obj b11 tJob (aq exJ1)::L) ae (hlc.trans ae)
 refine GO.ef (Ef.a6 (gy yb lb _ oy exL3 exAt3.2.ok (hcg exAt3.2.cat).2.1 (hcg exAt3.2.cat).2.2 1 1 19) rfl) ac ?_
 rintro _ _ ⟨rfl,rfl⟩
 rw [DW]
 dsimp only
 refine GO.ent (L':=LedR lb exL4::obj b9 tJob (aq exJ0)::obj b11 tJob (aq exJ1)::L) ae ?_
 simp only [aq,exJ0,exJ1]
 repeat first|refine aa ?_|intro _
 refine GO.ef (Ef.a6 (jQ lb exL4 vA 1 1) rfl) ac ?_
 rintro _ _ ⟨rfl,rfl⟩
 rw [exBal.1]
 repeat first|refine aa ?_|intro _
 refine GO.ef (Ef.a6 (jQ lb exL4 vA 1 2) rfl) ac ?_
 rintro _ _ ⟨rfl,rfl⟩
 rw [exBal.2.1]
 repeat first|refine aa ?_|intro _
 refine GO.ef (Ef.a6 (jQ lb exL4 vA 536870912 1) rfl) ac ?_
 rintro _ _ ⟨rfl,rfl⟩
 rw [exBal.2.2]
 repeat first|refine aa ?_|intro _
 refine KX.a6 ai ae ⟨?_,rfl⟩
 rw [aw (by rfl)]
 rfl
end
end Go.Proofs.YtfmgkkofledkbaaGreatDoor
