/- Lemmas and contracts of functions. -/
import Derived.Test.YtfmgkkofledkbaaGreatDoorGCraftTwos
import Derived.Test.YtfmgkkofledkbaaGreatDoorGCraftTwok
import Derived.Test.YtfmgkkofledkbaaGreatDoorGCraftTwocb
set_option linter.all false
set_option maxHeartbeats 4000000
namespace Go.Proofs.YtfmgkkofledkbaaGreatDoor
open Go.V
def absF (S:LedM):AbsB:=⟨fun a i=>lsum (S.stk a i),S.tot⟩
structure LotsI (S:LedM):Prop where
 ok:S.Ok
 len:∀ a i,(S.stk a i).length≤S.flows.length
 steps:S.steps.length≤S.flows.length
theorem LotsI.abs {S:LedM} (h:LotsI S):AbsR S (absF S):=⟨fun _ _=>rfl,fun _=>rfl,h.len⟩
theorem CM {sh:Int} {nf:Nat} {mix:Int→Bool} {s:StM} {W:Wk} {m:MvM} {A:AbsB} {k:Nat} (h:WAbs W A k) (he:(ba sh nf mix s W m).1=0):A.can m:=by
 unfold ba at he
 by_cases h1:m.frm≠0∧lsum (W.stk m.frm m.item)<m.n
 ·rw [if_pos h1] at he;exact absurd (show (10:Int)=0 from he) ab
 rw [if_neg h1] at he
 by_cases h2:bU W m>1099511627776
 ·rw [if_pos h2] at he;exact absurd (show (4:Int)=0 from he) ab
 have hnt:=qi h.tot m
 refine ⟨?_,by rw [← hnt];omega⟩
 by_cases h0:m.frm=0
 ·exact .inl h0
 ·right
  rw [← h.bal]
  exact Classical.byContradiction (fun q=>h1 ⟨h0,ab⟩)
theorem rS {sh:Int} {nf:Nat} {mix:Int→Bool} {s:StM} (hsh:0≤sh):∀ (ms:List MvM) {W:Wk} {A:AbsB} {k:Nat},W.Ok nf→WAbs W A k→k+ms.length≤4096→(∀ m∈ms,1≤m.n∧m.n≤1099511627776)→(bK sh nf mix s W ms).1=0→A.cans ms
 | [],_,_,_,_,_,_,_,_=>trivial
 | m::ms,W,A,k,hO,h,hk,hn,he=>by
  simp only [List.length_cons] at hk
  have hn1:=hn m List.mem_cons_self
  have e:bK sh nf mix s W (m::ms)=if (ba sh nf mix s W m).1=0 then bK sh nf mix s (ba sh nf mix s W m).2 ms else ((ba sh nf mix s W m).1,W):=rfl
  rw [e] at he
  by_cases h1:(ba sh nf mix s W m).1=0
  ·rw [if_pos h1] at he
   have hc:=CM h h1
   obtain ⟨_,h2⟩:=oW (sh:=sh) (mix:=mix) (s:=s) hO h ab hn1.1 hc
   obtain ⟨hO1,_⟩:=ic hO dz hn1 hsh h1
   exact ⟨hc,rS hsh ms hO1 h2 ab (fun x hx=>hn x (List.mem_cons_of_mem _ hx)) he⟩
  ·rw [if_neg h1] at he
   exact absurd he h1
structure PostE (S:LedM) (s:StM) (S' : LedM):Prop where
 bal:∀ a i,lsum (S'.stk a i)=((absF S).mvs s.moves).bal a i
 tot:∀ i,S'.tot i=((absF S).mvs s.moves).tot i
 lots:LotsI S'
 flows:S'.flows.length=S.flows.length+s.moves.length
 now:S'.now=s.tick
 cat:S'.cat=S.cat
theorem xW {S:LedM} {s:StM} (h:LotsI S) (hf:S.flows.length+s.moves.length≤4096) (hp:ew S.cat S.now s) (hc:(absF S).cans s.moves):(tryM S s).1=0∧PostE S s (aG S s):=by
 have hst:=h.steps
 obtain ⟨e1,e2,e3,e4,e5⟩:=oR h.ok h.abs ab hf hp hc
 have h1:=hp.2.2.1.1
 have h2:=ot (S:=S) (s:=s)
 exact ⟨e1,e3.bal,e3.tot,⟨eY h.ok dz,e3.len,ab⟩,e5,e4,rK _ _⟩
theorem lL {S:LedM} {s:StM} (h:LotsI S) (hf:S.flows.length+64≤4096):((tryM S s).1≠0∧aG S s=S)∨((tryM S s).1=0∧PostE S s (aG S s)):=by
 by_cases he:(tryM S s).1=0
 case neg =>
  left
  refine ⟨he,?_⟩
  unfold aG
  rw [if_neg he]
 right
 obtain ⟨h1,h2,h3,h4⟩:=gI h.ok dz he
 have hf:S.flows.length+s.moves.length≤4096:=by have:=h2.2.2.1.2;omega
 have hn:∀ m∈s.moves,1≤m.n∧m.n≤1099511627776:=fun m hm=>by
  have h4:=h2.2.2.2.1 m hm
  unfold dq at h4
  rw [cp] at h4
  exact (of_decide_eq_true h4).2.1
 have e:tryM S s=bK S.shard S.flows.length (bN S.cat) (s.at (aB S)) (wk0 S) s.moves:=by
  unfold tryM
  rw [if_neg ab,if_neg (fun q=>q h2)]
 rw [e] at he
 have hc:=rS h.ok.shard.1 s.moves (W:=wk0 S) (A:=absF S) (k:=S.flows.length) (jT h.ok) ⟨h.abs.bal,h.abs.tot,h.abs.len⟩ hf hn he
 exact xW h hf h2 hc
theorem qL {S:LedM} (h:S.Ok) (a i:Int):0≤lsum (S.stk a i):=by
 have h1:=eW (h.stk a i).2 (S.stk a i).length (Nat.le_refl _)
 rw [eZ] at h1
 exact h1.1
theorem mW {a:Int} (i:Int):∀ (ms:List MvM) (A:AbsB),(∀ m∈ms,m.frm≠a∧m.to≠a)→(A.mvs ms).bal a i=A.bal a i
 | [],_,_=>rfl
 | m::ms,A,h=>by
  obtain ⟨h1,h2⟩:=h m List.mem_cons_self
  have ih:=mW i ms (A.mv m) (fun x hx=>h x (List.mem_cons_of_mem _ hx))
  show ((A.mv m).mvs ms).bal a i=_
  rw [ih]
  show A.bal a i - (if m.frm≠0∧a=m.frm∧i=m.item then m.n else 0)+(if m.to≠0∧a=m.to∧i=m.item then m.n else 0)=_
  rw [if_neg (fun q=>h1 q.2.1.symm),if_neg (fun q=>h2 q.2.1.symm)]
  omega
theorem BG {a:Int} (i:Int):∀ (ms:List MvM) (A:AbsB),(∀ m∈ms,0≤m.n∧m.to≠a)→(A.mvs ms).bal a i≤A.bal a i
 | [],_,_=>Int.le_refl _
 | m::ms,A,h=>by
  obtain ⟨h1,h2⟩:=h m List.mem_cons_self
  have ih:=BG i ms (A.mv m) (fun x hx=>h x (List.mem_cons_of_mem _ hx))
  show ((A.mv m).mvs ms).bal a i≤_
  have e:(A.mv m).bal a i=A.bal a i - (if m.frm≠0∧a=m.frm∧i=m.item then m.n else 0)+(if m.to≠0∧a=m.to∧i=m.item then m.n else 0):=rfl
  rw [if_neg (c:=m.to≠0∧a=m.to∧i=m.item) (fun q=>h2 q.2.1.symm)] at e
  split at e<;>omega
def eo (l:List (Int×Int)) (times i:Int):Int:=l.foldl (fun s a=>s+(if i=a.1 then a.2*times else 0)) 0
theorem nj (f:Int×Int→Int):∀ (l:List (Int×Int)) (s:Int),l.foldl (fun s a=>s+f a) s=s+l.foldl (fun s a=>s+f a) 0
 | [],s=>by simp
 | a::l,s=>by
  simp only [List.foldl_cons]
  rw [nj f l (s+f a),nj f l (0+f a)]
  omega
theorem ly (a:Int×Int) (l:List (Int×Int)) (times i:Int):eo (a::l) times i=(if i=a.1 then a.2*times else 0)+eo l times i:=by
 unfold eo
 simp only [List.foldl_cons]
 rw [nj (fun a=>if i=a.1 then a.2*times else 0)]
 omega
theorem oV {frm to times:Int} (hf:frm≠0) (ht:to≠0) (hne:frm≠to) (a i:Int):∀ (l:List (Int×Int)) (A:AbsB),(A.mvs (l.map (mkMv times frm to))).bal a i=A.bal a i+(if a=to then eo l times i else 0) - (if a=frm then eo l times i else 0)
 | [],A=>by
  show A.bal a i=A.bal a i+(if a=to then 0 else 0) - (if a=frm then 0 else 0)
  simp
 | x::l,A=>by
  have ih:=oV (times:=times) hf ht hne a i l (A.mv (mkMv times frm to x))
  show ((A.mv (mkMv times frm to x)).mvs (l.map (mkMv times frm to))).bal a i=_
  rw [ih,ly]
  have e:(A.mv (mkMv times frm to x)).bal a i=A.bal a i - (if frm≠0∧a=frm∧i=x.1 then x.2*times else 0)+(if to≠0∧a=to∧i=x.1 then x.2*times else 0):=rfl
  rw [e]
  obtain ⟨y,hy⟩:∃ y,x.2*times=y:=⟨_,rfl⟩
  rw [hy]
  by_cases h1:a=to
  ·have h2:a≠frm:=fun q=>hne (q.symm.trans h1)
   rw [if_pos h1,if_pos h1,if_neg h2,if_neg h2,if_neg (fun q=>h2 q.2.1)]
   by_cases h3:i=x.1
   ·rw [if_pos ⟨ht,h1,h3⟩,if_pos h3];omega
   ·rw [if_neg (fun q=>h3 q.2.2),if_neg h3];omega
  ·rw [if_neg h1,if_neg h1,if_neg (c:=to≠0∧a=to∧i=x.1) (fun q=>h1 q.2.1)]
   by_cases h2:a=frm
   ·rw [if_pos h2,if_pos h2]
    by_cases h3:i=x.1
    ·rw [if_pos ⟨hf,h2,h3⟩,if_pos h3];omega
    ·rw [if_neg (fun q=>h3 q.2.2),if_neg h3];omega
   ·rw [if_neg h2,if_neg h2,if_neg (fun q=>h2 q.2.1)];omega
theorem Fc {acc hold:Int} (hh:hold≠0) (ha:acc≠0) (hne:hold≠acc) (A:AbsB) (j a i:Int):(A.gb acc hold j).bal a i=if i=j then (if a=hold then 0 else if a=acc then A.bal a i+A.bal hold i else A.bal a i) else A.bal a i:=by
 unfold AbsB.gb
 by_cases h0:A.bal hold j=0
 ·rw [if_pos h0]
  by_cases hi:i=j
  ·subst hi
   rw [if_pos rfl]
   by_cases h1:a=hold
   ·rw [if_pos h1,h1,h0]
   ·rw [if_neg h1]
    by_cases h2:a=acc
    ·rw [if_pos h2,h0];omega
    ·rw [if_neg h2]
  ·rw [if_neg hi]
 ·rw [if_neg h0]
  have e:(A.mv ⟨hold,acc,j,A.bal hold j,[]⟩).bal a i=A.bal a i - (if hold≠0∧a=hold∧i=j then A.bal hold j else 0)+(if acc≠0∧a=acc∧i=j then A.bal hold j else 0):=rfl
  rw [e]
  by_cases hi:i=j
  ·subst hi
   rw [if_pos rfl]
   by_cases h1:a=hold
   ·rw [if_pos h1,if_pos ⟨hh,h1,rfl⟩,if_neg (fun q=>hne (h1.symm.trans q.2.1)),h1];omega
   ·rw [if_neg h1,if_neg (fun q=>h1 q.2.1)]
    by_cases h2:a=acc
    ·rw [if_pos h2,if_pos ⟨ha,h2,rfl⟩];omega
    ·rw [if_neg h2,if_neg (fun q=>h2 q.2.1)];omega
  ·rw [if_neg hi,if_neg (fun q=>hi q.2.2),if_neg (fun q=>hi q.2.2)];omega
theorem Fb {acc hold:Int} (hh:hold≠0) (ha:acc≠0) (A:AbsB) (j i:Int):(A.gb acc hold j).tot i=A.tot i:=by
 unfold AbsB.gb
 split
 ·rfl
 ·show A.tot i+(if i=j then (if hold=0 then A.bal hold j else 0) - (if acc=0 then A.bal hold j else 0) else 0)=_
  rw [if_neg hh,if_neg ha]
  split<;>omega
theorem nM {acc hold:Int} (hh:hold≠0) (ha:acc≠0) (hne:hold≠acc) (A:AbsB) (a i:Int):∀ k:Nat,(A.gbs acc hold k).bal a i=(if 0≤i∧i<k then (if a=hold then 0 else if a=acc then A.bal a i+A.bal hold i else A.bal a i) else A.bal a i)∧(A.gbs acc hold k).tot i=A.tot i
 | 0=>by
  rw [if_neg ab]
  exact ⟨rfl,rfl⟩
 | k+1=>by
  obtain ⟨h1,h2⟩:=nM hh ha hne A a i k
  have h3:=(nM hh ha hne A hold i k).1
  rw [AbsB.a6,Fb hh ha,Fc hh ha hne,h1,h2,h3]
  refine ⟨?_,rfl⟩
  by_cases hi:i=(k:Int)
  ·have hn:¬(0≤i∧i<(k:Int)):=ab
   have hp:0≤i∧i<((k+1:Nat):Int):=ab
   rw [if_pos hi,if_neg hn,if_neg hn,if_pos hp]
  ·rw [if_neg hi]
   by_cases hk:0≤i∧i<(k:Int)
   ·have hp:0≤i∧i<((k+1:Nat):Int):=ab
    rw [if_pos hk,if_pos hp]
   ·have hp:¬(0≤i∧i<((k+1:Nat):Int)):=ab
    rw [if_neg hk,if_neg hp]
structure BackE (S:LedM) (acc hold tick:Int) (S' : LedM):Prop where
 bal:∀ a i,lsum (S'.stk a i)=if 0≤i∧i<S.cat.items.length then (if a=hold then 0 else if a=acc then lsum (S.stk a i)+lsum (S.stk hold i) else lsum (S.stk a i)) else lsum (S.stk a i)
 lots:LotsI S'
 flows:S'.flows.length≤S.flows.length+S.cat.items.length
 now:S'.now=S.now∨S'.now=tick
 cat:S'.cat=S.cat
theorem ri {S:LedM} (h:LotsI S) {acc hold tick:Int} (ha:aL acc) (hh:536870912≤hold∧hold≤536871000) (ht:0≤tick∧tick≤1099511627776) (hn:S.now≤tick) (hf:S.flows.length+S.cat.items.length≤4096) (hb:∀ i:Int,0≤i→i<S.cat.items.length→lsum (S.stk hold i)≤1099511627776):BackE S acc hold tick (gbM acc tick hold S S.cat.items.length):=by
 have ha1:accP acc∧acc≠0:=by unfold aL at ha;unfold accP;omega
 have hh1:accP hold∧hold≠0:=by unfold accP;omega
 have hne:hold≠acc:=by unfold aL at ha;omega
 have main:∀ k,k≤S.cat.items.length→(gbM acc tick hold S k).now≤tick∧((gbM acc tick hold S k).now=S.now∨(gbM acc tick hold S k).now=tick)∧LotsI (gbM acc tick hold S k)∧(gbM acc tick hold S k).cat=S.cat∧(gbM acc tick hold S k).flows.length≤S.flows.length+k∧AbsR (gbM acc tick hold S k) ((absF S).gbs acc hold k):=by
  intro k
  induction k with
  | zero=>intro _;exact ⟨hn,.inl rfl,h,rfl,Nat.le_refl _,h.abs⟩
  | succ k ih =>
   intro hk
   obtain ⟨i1,i2,i3,i4,i5,i6⟩:=ih ab
   rw [ig]
   generalize hG:gbM acc tick hold S k=G at *
   have hB:=nM hh1.2 ha1.2 hne (absF S) hold (k:Int) k
   rw [if_neg ab] at hB
   have hst:=h.steps
   have hst3:=i3.steps
   have hbn:=qL h.ok hold (k:Int)
   have hbk:=hb (k:Int) ab ab
   have htk:=(h.ok.tot (k:Int)).2
   have hAt:AtL G S.cat ((absF S).gbs acc hold k) G.now G.steps.length G.flows.length:=⟨i3.ok,i4,i6,rfl,Nat.le_refl _,Nat.le_refl _⟩
   have hs:lsum (G.stk hold (k:Int))=lsum (S.stk hold (k:Int)):=by rw [i6.bal,hB.1];rfl
   unfold gbS
   rw [AbsB.a6]
   by_cases h0:lsum (G.stk hold (k:Int))=0
   ·rw [if_pos h0]
    have e:((absF S).gbs acc hold k).gb acc hold (k:Int)=(absF S).gbs acc hold k:=by
     unfold AbsB.gb
     rw [if_pos (by rw [← i6.bal];exact h0)]
    rw [e]
    exact ⟨i1,i2,i3,i4,ab,i6⟩
   ·rw [if_neg h0]
    have e:((absF S).gbs acc hold k).gb acc hold (k:Int)=((absF S).gbs acc hold k).mv ⟨hold,acc,k,lsum (G.stk hold (k:Int)),[]⟩:=by
     unfold AbsB.gb
     rw [if_neg (by rw [← i6.bal];exact h0),← i6.bal]
    have hp:ew G.cat G.now (gbT acc tick hold (k:Int) (lsum (G.stk hold (k:Int)))):=by
     refine qX ac ha1.1 ht i1 (by simp) ?_
     intro x hx
     rw [List.mem_singleton.1 hx,i4]
     exact gM (by dsimp only;omega) ⟨show (1:Int)≤lsum (G.stk hold (k:Int)) by omega,show lsum (G.stk hold (k:Int))≤_ by omega⟩ hh1.1 ha1.1 hne (ke hh1.2) (kTo2 ha1.2) rfl
    have hc:(absF G).cans (gbT acc tick hold (k:Int) (lsum (G.stk hold (k:Int)))).moves:=by
     refine ⟨⟨.inr (Int.le_refl _),?_⟩,trivial⟩
     show G.tot (k:Int)+(if (k:Int)=(k:Int) then (if hold=0 then lsum (G.stk hold (k:Int)) else 0) - (if acc=0 then lsum (G.stk hold (k:Int)) else 0) else 0)≤_
     rw [if_pos rfl,if_neg hh1.2,if_neg ha1.2]
     have:=(i3.ok.tot (k:Int)).2
     omega
    obtain ⟨_,p⟩:=xW (s:=gbT acc tick hold (k:Int) (lsum (G.stk hold (k:Int)))) i3 (show G.flows.length+1≤4096 by omega) hp hc
    have hp2:=oR (s:=gbT acc tick hold (k:Int) (lsum (G.stk hold (k:Int)))) i3.ok i6 ab (show G.flows.length+1≤4096 by omega) hp (by
     refine ⟨⟨.inr (by show lsum (G.stk hold (k:Int))≤_;rw [← i6.bal];exact Int.le_refl _),?_⟩,trivial⟩
     show ((absF S).gbs acc hold k).tot (k:Int)+(if (k:Int)=(k:Int) then (if hold=0 then lsum (G.stk hold (k:Int)) else 0) - (if acc=0 then lsum (G.stk hold (k:Int)) else 0) else 0)≤_
     rw [if_pos rfl,if_neg hh1.2,if_neg ha1.2,hB.2]
     show S.tot (k:Int)+(0 - 0)≤_
     omega)
    rw [e]
    refine ⟨by rw [p.now];exact Int.le_refl _,.inr p.now,p.lots,p.cat.trans i4,?_,hp2.2.2.1⟩
    rw [p.flows]
    show G.flows.length+1≤_
    omega
 obtain ⟨i1,i2,i3,i4,i5,i6⟩:=main S.cat.items.length (Nat.le_refl _)
 refine ⟨fun a i=>?_,i3,i5,i2,i4⟩
 rw [i6.bal,(nM hh1.2 ha1.2 hne (absF S) a i _).1]
 rfl
end Go.Proofs.YtfmgkkofledkbaaGreatDoor
namespace Go.Proofs.YtfmgkkofledkbaaGreatDoor
open Go.V
attribute [local irreducible] tryM cF cQ cR db eo
structure RulesB (c:CatM):Prop where
 sum:∀ r∈c.rules,∀ t i:Int,0≤t→t≤1000→0≤eo r.take t i∧eo r.take t i≤1099511627776
 few:∀ r∈c.rules,r.take.length+r.give.length≤3∧r.take.length+r.back.length≤3
 items:c.items.length=5
 am:c.Ok
 ch:∀ r∈c.rules,1≤r.chance∧r.chance≤r.of_
def nL (rs:List RuM) (j:JobM) (i:Int):Int:=if j.done=true then 0 else eo rs[j.rule.toNat]!.take j.times i
structure HoldI (S:LedM) (js:List JobM):Prop where
 lots:LotsI S
 hold:∀ k,k<js.length→∀ i:Int,0≤i→i<S.cat.items.length→lsum (S.stk (536870912+(k:Int)) i)=nL S.cat.rules js[k]! i
 free:∀ a,536870912+(js.length:Int)≤a→∀ i:Int,0≤i→i<S.cat.items.length→lsum (S.stk a i)=0
theorem HoldI.post {S:LedM} {js:List JobM} (h:HoldI S js) {s:StM} (hf:S.flows.length+64≤4096) (hm:∀ m∈s.moves,m.frm<536870912∧m.to<536870912):HoldI (aG S s) js∧(aG S s).flows.length≤S.flows.length+64:=by
 rcases lL (s:=s) h.lots hf with ⟨_,e⟩|⟨he,p⟩
 ·rw [e]
  exact ⟨h,Nat.le_add_right _ _⟩
 ·have hl:=(gI h.lots.ok dz he).2.1.2.2.1.2
  have ho:∀ a i,536870912≤a→lsum ((aG S s).stk a i)=lsum (S.stk a i):=fun a i ha=>by
   rw [p.bal,mW i s.moves (absF S) (fun m hm'=>by have:=hm m hm';omega)]
   rfl
  refine ⟨⟨p.lots,fun k hk i h0 h1=>?_,fun a ha i h0 h1=>?_⟩,by rw [p.flows];omega⟩
  ·rw [ho _ i ab,p.cat]
   rw [p.cat] at h1
   exact h.hold k hk i h0 h1
  ·rw [ho _ i ab]
   rw [p.cat] at h1
   exact h.free a ha i h0 h1
structure PartE (S:LedM) (j:JobM) (tick:Int) (d:Nat) (S' : LedM):Prop where
 lots:LotsI S'
 cat:S'.cat=S.cat
 flows:S'.flows.length≤S.flows.length+d
 now:S'.now≤tick
 other:∀ a,a≠0→a≠j.hold→a≠j.acc→∀ i,lsum (S'.stk a i)=lsum (S.stk a i)
 hold:∀ i,lsum (S'.stk j.hold i)≤lsum (S.stk j.hold i)
theorem ul {S:LedM} (h:LotsI S) {j:JobM} (hne:j.hold≠0∧j.hold≠j.acc) {times:Int} (ht:0≤times) {take give:List (Int×Int)} (hl:take.length+give.length≤3) (hA:AmB take∧AmB give) {rule tick:Int} (hn:S.now≤tick) (hf:S.flows.length+64≤4096):PartE S j tick 3 (dl S j times take give rule tick).2:=by
 have e:(dl S j times take give rule tick).2=aG S (fX j.acc j.hold take give times rule tick):=rfl
 rw [e]
 have hm:∀ m∈(fX j.acc j.hold take give times rule tick).moves,0≤m.n∧((m.frm=j.hold∧m.to=0)∨(m.frm=0∧m.to=j.acc)):=by
  intro m hm
  rcases List.mem_append.1 hm with hm|hm
  ·obtain ⟨x,hx,rfl⟩:=List.mem_map.1 hm
   exact ⟨Int.mul_nonneg (hA.1 x hx).1 ht,.inl ⟨rfl,rfl⟩⟩
  ·obtain ⟨x,hx,rfl⟩:=List.mem_map.1 hm
   exact ⟨Int.mul_nonneg (hA.2 x hx).1 ht,.inr ⟨rfl,rfl⟩⟩
 have hml:(fX j.acc j.hold take give times rule tick).moves.length≤3:=by
  show (take.map _++give.map _).length≤3
  rw [List.length_append,List.length_map,List.length_map]
  exact hl
 rcases lL (s:=fX j.acc j.hold take give times rule tick) h hf with ⟨_,e⟩|⟨_,p⟩
 ·rw [e]
  exact ⟨h,rfl,Nat.le_add_right _ _,hn,fun _ _ _ _ _=>rfl,fun _=>Int.le_refl _⟩
 ·refine ⟨p.lots,p.cat,by rw [p.flows];omega,by rw [p.now];exact Int.le_refl _,fun a h0 h1 h2 i=>?_,fun i=>?_⟩
  ·rw [p.bal,mW i _ (absF S) (fun m hm'=>by
    rcases (hm m hm').2 with ⟨q1,q2⟩|⟨q1,q2⟩
    ·exact ⟨fun q=>h1 (q.symm.trans q1),fun q=>h0 (q.symm.trans q2)⟩
    ·exact ⟨fun q=>h0 (q.symm.trans q1),fun q=>h2 (q.symm.trans q2)⟩)]
   rfl
  ·rw [p.bal]
   exact BG i _ (absF S) (fun m hm'=>⟨(hm m hm').1,by
    rcases (hm m hm').2 with ⟨q1,q2⟩|⟨q1,q2⟩
    ·exact fun q=>hne.1 (q.symm.trans q2)
    ·exact fun q=>hne.2 (q.symm.trans q2)⟩)
theorem EB {S:LedM} (h:LotsI S) (hB:RulesB S.cat) {j:JobM} (ha:aL j.acc) (hh:536870912≤j.hold∧j.hold≤536871000) (hj:cu j.times) (hr:dF S.cat.rules j.rule false) (seed:List Int) {tick:Int} (ht:0≤tick∧tick≤1099511627776) (hn:S.now≤tick) (hf:S.flows.length+100≤4096) (hb:∀ i:Int,0≤i→i<S.cat.items.length→lsum (S.stk j.hold i)≤1099511627776) :
  PartE S j tick 11 (endJ S seed j tick).1∧∀ i:Int,0≤i→i<S.cat.items.length→lsum ((endJ S seed j tick).1.stk j.hold i)=0:=by
 have hne:j.hold≠0∧j.hold≠j.acc:=by unfold aL at ha;omega
 have hm:=ap (show j.rule.toNat<S.cat.rules.length by have:=hr.1;have:=hr.2.1;omega)
 obtain ⟨r,hr'⟩:∃ r,S.cat.rules[j.rule.toNat]! = r:=⟨_,rfl⟩
 rw [hr'] at hm
 have hfew:=hB.few r hm
 have hs:=oK (seed:=seed) (id:=j.id) (times:=j.times) (hB.ch r hm) (by have:=hj.1;omega)
 have e:(endJ S seed j tick).1=gbM j.acc tick j.hold (dl (dl S j (cQ seed j.id j.times r.chance r.of_) r.take r.give j.rule tick).2 j (j.times - cQ seed j.id j.times r.chance r.of_) r.take r.back (-2 - j.rule) tick).2 S.cat.items.length:=by
  unfold endJ
  dsimp only
  rw [hr']
 rw [e]
 obtain ⟨won,hw⟩:∃ w,cQ seed j.id j.times r.chance r.of_=w:=⟨_,rfl⟩
 rw [hw] at hs ⊢
 have p1:=ul (j:=j) h hne hs.1 hfew.1 ⟨hB.am.take r hm,hB.am.give r hm⟩ (rule:=j.rule) hn ab
 generalize (dl S j won r.take r.give j.rule tick).2=S1 at *
 have hf1:=p1.flows
 have p2:=ul (j:=j) (S:=S1) p1.lots hne (show 0≤j.times - won by omega) hfew.2 ⟨hB.am.take r hm,hB.am.back r hm⟩ (rule:=-2 - j.rule) p1.now ab
 generalize (dl S1 j (j.times - won) r.take r.back (-2 - j.rule) tick).2=S2 at *
 have hf2:=p2.flows
 have hc2:S2.cat=S.cat:=p2.cat.trans p1.cat
 have hit:=hB.items
 have g:=ri (S:=S2) p2.lots ha hh ht p2.now (by rw [hc2];omega) (fun i h0 h1=>by
  have h2:=p1.hold i
  have h3:=p2.hold i
  have h4:=hb i h0 (by rw [hc2] at h1;exact h1)
  omega)
 rw [hc2] at g
 generalize gbM j.acc tick j.hold S2 S.cat.items.length=S3 at *
 have hbal:=g.bal
 rw [hc2] at hbal
 have hg:=g.flows
 rw [hc2] at hg
 refine ⟨⟨g.lots,g.cat.trans hc2,ab,?_,fun a h0 h1 h2 i=>?_,fun i=>?_⟩,fun i h0 h1=>?_⟩
 ·rcases g.now with q|q
  ·rw [q];exact p2.now
  ·rw [q];exact Int.le_refl _
 ·rw [hbal,if_neg h1,if_neg h2,p2.other a h0 h1 h2,p1.other a h0 h1 h2]
  split<;>rfl
 ·rw [hbal,if_pos rfl]
  have h2:=p1.hold i
  have h3:=p2.hold i
  have h4:=qL h.ok j.hold i
  split<;>omega
 ·rw [hbal,if_pos ⟨h0,h1⟩,if_pos rfl]
theorem HoldI.end {S:LedM} {Y:YardM} (h:HoldI S Y.jobs) (hB:RulesB S.cat) (hY:Y.Ok) (hR:RulesJ S Y.jobs) {tick:Int} (ht:0≤tick∧tick≤1099511627776) (hn:S.now≤tick) (hf:S.flows.length+100≤4096) {k:Nat} (hk:k<Y.jobs.length) :
  HoldI (endM tick (S,Y) k).1 (endM tick (S,Y) k).2.jobs∧(endM tick (S,Y) k).1.flows.length≤S.flows.length+11∧(endM tick (S,Y) k).1.now≤tick:=by
 obtain ⟨n1,n2,n3,n4⟩:=hY.num k hk
 obtain ⟨i1,i2⟩:=hY.id k hk
 have hlen:=hY.len
 have hhk:=h.hold k hk
 obtain ⟨e1,e2⟩:=jz S Y.seed Y.jobs[k]! tick
 have hm:=ap (show Y.jobs[k]!.rule.toNat<S.cat.rules.length by have:=(hR k hk).1;have:=(hR k hk).2.1;omega)
 have hE:=EB (j:=Y.jobs[k]!) h.lots hB n1 (by rw [i2];omega) n2 (hR k hk) Y.seed ht hn hf (fun i h0 h1=>by
  have:=hhk i h0 h1
  rw [i2,this]
  unfold nL
  split
  ·omega
  ·exact (hB.sum _ hm _ i (by have:=n2.1;omega) n2.2).2)
 show HoldI (endJ S Y.seed Y.jobs[k]! tick).1 (Y.jobs.set k (endJ S Y.seed Y.jobs[k]! tick).2)∧(endJ S Y.seed Y.jobs[k]! tick).1.flows.length≤_∧(endJ S Y.seed Y.jobs[k]! tick).1.now≤tick
 generalize endJ S Y.seed Y.jobs[k]! tick=q at *
 obtain ⟨p,hz⟩:=hE
 rw [i2] at hz
 have ho:∀ a:Int,536870912≤a→a≠536870912+(k:Int)→∀ i,lsum (q.1.stk a i)=lsum (S.stk a i):=fun a ha hne i=>p.other a ab (by rw [i2];exact hne) (by unfold aL at n1;omega) i
 refine ⟨⟨p.lots,fun k' hk' i h0 h1=>?_,fun a ha i h0 h1=>?_⟩,p.flows,p.now⟩
 ·rw [List.length_set] at hk'
  rw [p.cat] at h1 ⊢
  rw [df hk']
  by_cases e:k' = k
  ·rw [if_pos e,e]
   unfold nL
   rw [if_pos e2]
   exact hz i h0 h1
  ·rw [if_neg e,ho _ ab ab]
   exact h.hold k' hk' i h0 h1
 ·rw [List.length_set] at ha
  rw [p.cat] at h1
  rw [ho _ ab ab]
  exact h.free a ha i h0 h1
theorem Cf {α:Type} [Inhabited α] {l:List α} {g:Nat} (h:g<l.length):l.drop g=l[g]!::l.drop (g+1):=by
 rw [List.drop_eq_getElem_cons h,getElem!_of h]
theorem HoldI.adv {n:Nat} {S:LedM} {Y:YardM} (hI:RunI n S Y) (hn:n≤17) (h:HoldI S Y.jobs) (hB:RulesB S.cat) (hf:S.flows.length≤200*n) (tick:Int):HoldI (advM S Y tick).2.1 (advM S Y tick).2.2.jobs∧(advM S Y tick).2.1.flows.length≤200*(n+1):=by
 by_cases ht:aU Y.tick S.now tick
 case neg =>
  rw [em ht]
  exact ⟨h,by show S.flows.length≤_;omega⟩
 obtain ⟨ids,hids⟩:=fb Y.jobs tick
 rw [ge ht hids]
 have hil:=hids.len
 have hjl:=hI.len
 have hb:=fQ hI.yok ht
 have main:∀ g,g≤ids.length→HoldI (advS S Y tick ids g).1 (advS S Y tick ids g).2.jobs∧(advS S Y tick ids g).1.flows.length≤S.flows.length+11*g∧(advS S Y tick ids g).1.now≤tick:=by
  intro g
  induction g with
  | zero =>
   intro _
   rw [kL]
   exact ⟨h,Nat.le_refl _,ht.2.1⟩
  | succ g ih =>
   intro hg
   obtain ⟨j1,j2,j3⟩:=ih ab
   have hA:=jb hI.sok hI.yok hI.rul hb hids g
   rw [Cf (show g<ids.length by omega)] at hA
   obtain ⟨_,hk,_⟩:=hA.due.head
   rw [kM ab]
   generalize advS S Y tick ids g=q at *
   obtain ⟨S',Y'⟩:=q
   obtain ⟨r1,r2,r3⟩:=HoldI.end (S:=S') (Y:=Y') j1 (by rw [show S'.cat=S.cat from hA.cat];exact hB) hA.yok (hA.rul.cat hA.cat) hb j3 (by dsimp only at j2;omega) hk
   exact ⟨r1,by dsimp only at j2;omega,r3⟩
 obtain ⟨j1,j2,j3⟩:=main ids.length (Nat.le_refl _)
 exact ⟨j1,by show (advS S Y tick ids ids.length).1.flows.length≤_;omega⟩
theorem HoldI.start {n:Nat} {S:LedM} {Y:YardM} (hI:RunI n S Y) (hn:n≤17) (h:HoldI S Y.jobs) (hf:S.flows.length≤200*n) (acc level rule times tick:Int):HoldI (bA S Y acc level rule times tick).2.1 (bA S Y acc level rule times tick).2.2.jobs∧(bA S Y acc level rule times tick).2.1.flows.length≤200*(n+1):=by
 rcases eA S Y acc level rule times tick with ⟨e,_⟩|⟨h1,h2,h3,h4,h5,e⟩
 ·rw [e]
  exact ⟨h,by show S.flows.length≤_;omega⟩
 rw [e]
 dsimp only
 obtain ⟨r,hr⟩:∃ r,S.cat.rules[rule.toNat]! = r:=⟨_,rfl⟩
 rw [hr] at h5 ⊢
 have hE:∃ S',(if r.take.length=0 then S else aG S (ez acc r.take times tick (536870912+Y.jobs.length)))=S'∧LotsI S'∧S'.cat=S.cat∧S'.flows.length≤S.flows.length+64∧∀ a i,lsum (S'.stk a i)=lsum (S.stk a i)+(if a=536870912+(Y.jobs.length:Int) then eo r.take times i else 0) - (if a=acc then eo r.take times i else 0):=by
  refine ⟨_,rfl,?_⟩
  by_cases h0:r.take.length=0
  ·rw [if_pos h0,List.length_eq_zero_iff.1 h0]
   refine ⟨h.lots,rfl,Nat.le_add_right _ _,fun a i=>?_⟩
   have:eo [] times i=0:=by unfold eo;rfl
   rw [this]
   split<;>split<;>omega
  ·rw [if_neg h0]
   have hok:=h5.resolve_left h0
   rcases lL (s:=ez acc r.take times tick (536870912+Y.jobs.length)) h.lots ab with ⟨q,_⟩|⟨_,p⟩
   ·exact absurd hok q
   ·refine ⟨p.lots,p.cat,?_,fun a i=>?_⟩
    ·rw [p.flows]
     have:=(gI h.lots.ok dz hok).2.1.2.2.1.2
     omega
    ·rw [p.bal]
     exact oV (frm:=acc) (to:=536870912+(Y.jobs.length:Int)) (by unfold aL at h1;omega) ab (by unfold aL at h1;omega) a i r.take (absF S)
 obtain ⟨S',e',q1,q2,q3,q4⟩:=hE
 rw [e']
 unfold aL at h1
 refine ⟨⟨q1,fun k hk i h0 h6=>?_,fun a ha i h0 h6=>?_⟩,ab⟩
 ·rw [List.length_append,List.length_singleton] at hk
  rw [q2] at h6 ⊢
  rw [q4,eT hk]
  by_cases e2:k=Y.jobs.length
  ·rw [if_pos e2,if_pos ab,if_neg ab,h.free _ ab i h0 h6]
   unfold nL
   dsimp only
   rw [if_neg (by simp),hr]
   omega
  ·rw [if_neg e2,if_neg ab,if_neg ab,h.hold k ab i h0 h6]
   omega
 ·rw [List.length_append,List.length_singleton] at ha
  rw [q2] at h6
  rw [q4,if_neg ab,if_neg ab,h.free a ab i h0 h6]
  omega
theorem HoldI.cancel {n:Nat} {S:LedM} {Y:YardM} (hI:RunI n S Y) (hn:n≤17) (h:HoldI S Y.jobs) (hB:RulesB S.cat) (hf:S.flows.length≤200*n) (acc job tick:Int):HoldI (aY S Y acc job tick).2.1 (aY S Y acc job tick).2.2.jobs∧(aY S Y acc job tick).2.1.flows.length≤200*(n+1):=by
 have hsame:HoldI S Y.jobs∧S.flows.length≤200*(n+1):=⟨h,ab⟩
 unfold aY
 split
 ·exact hsame
 ·rename_i h1
  have h1':=Classical.not_not.1 h1
  split
  ·exact hsame
  ·rename_i h2
   have h2':=Classical.not_not.1 h2
   split
   ·exact hsame
   ·split
    ·exact hsame
    ·have hk:job.toNat<Y.jobs.length:=ab
     have hb:=fQ hI.yok h1'.2
     obtain ⟨i1,i2⟩:=hI.yok.id _ hk
     obtain ⟨n1,n2,_⟩:=hI.yok.num _ hk
     have hm:=ap (show Y.jobs[job.toNat]!.rule.toNat<S.cat.rules.length by have:=(hI.rul _ hk).1;have:=(hI.rul _ hk).2.1;omega)
     have hlen:=hI.yok.len
     have g:=ri (acc:=acc) (hold:=Y.jobs[job.toNat]!.hold) (tick:=tick) h.lots h1'.1 (by rw [i2];omega) hb h1'.2.2.1 (by rw [hB.items];omega) (fun i h0 h5=>by
      rw [i2,h.hold _ hk i h0 h5]
      unfold nL
      split
      ·omega
      ·exact (hB.sum _ hm _ i (by have:=n2.1;omega) n2.2).2)
     rw [i2] at g ⊢
     dsimp only
     generalize gbM acc tick (536870912+(job.toNat:Int)) S S.cat.items.length=S' at *
     have hgf:=g.flows
     rw [hB.items] at hgf
     have hpl:=h1'.1
     unfold aL at hpl
     refine ⟨⟨g.lots,fun k hk2 i h0 h5=>?_,fun a ha i h0 h5=>?_⟩,ab⟩
     ·have hk3:k<Y.jobs.length:=by
       have hk4:k<(Y.jobs.set job.toNat (finJ Y.jobs[job.toNat]!)).length:=hk2
       rw [List.length_set] at hk4
       exact hk4
      show _=nL S'.cat.rules (Y.jobs.set job.toNat (finJ Y.jobs[job.toNat]!))[k]! i
      rw [g.cat] at h5 ⊢
      rw [df hk3,g.bal,if_pos ⟨h0,h5⟩]
      by_cases e:k=job.toNat
      ·rw [if_pos e,if_pos ab]
       rfl
      ·rw [if_neg e,if_neg ab,if_neg ab]
       exact h.hold k hk3 i h0 h5
     ·have ha' : 536870912+(Y.jobs.length:Int)≤a:=by
       have ha4:536870912+((Y.jobs.set job.toNat (finJ Y.jobs[job.toNat]!)).length:Int)≤a:=ha
       rw [List.length_set] at ha4
       exact ha4
      rw [g.cat] at h5
      rw [g.bal,if_pos ⟨h0,h5⟩,if_neg ab,if_neg ab]
      exact h.free a ha' i h0 h5
theorem pG {acc times tick:Int} (h:aL acc) (l:List (Int×Int)):∀ m∈(cI acc l times tick).moves,m.frm<536870912∧m.to<536870912:=by
 intro m hm
 obtain ⟨x,_,rfl⟩:=List.mem_map.1 hm
 unfold aL at h
 exact ⟨show (0:Int)<_ by omega,show acc<_ by omega⟩
theorem HoldI.spawn {n:Nat} {S:LedM} {Y:YardM} (hn:n≤17) (h:HoldI S Y.jobs) (hf:S.flows.length≤200*n) (acc rule times tick:Int):HoldI (bH S Y acc rule times tick).2.1 (bH S Y acc rule times tick).2.2.jobs∧(bH S Y acc rule times tick).2.1.flows.length≤200*(n+1):=by
 have hsame:HoldI S Y.jobs∧S.flows.length≤200*(n+1):=⟨h,ab⟩
 unfold bH
 split
 ·exact hsame
 ·rename_i h1
  have h1':=Classical.not_not.1 h1
  split
  ·exact hsame
  ·dsimp only
   obtain ⟨p1,p2⟩:=h.post (s:=cI acc S.cat.rules[rule.toNat]!.give times tick) ab (pG h1'.1 _)
   refine ⟨?_,ab⟩
   split
   ·exact p1
   ·exact p1
theorem HoldI.loot {n:Nat} {S:LedM} {Y:YardM} (hn:n≤17) (h:HoldI S Y.jobs) (hf:S.flows.length≤200*n) (acc table tick:Int):HoldI (bT S Y acc table tick).2.1 (bT S Y acc table tick).2.2.jobs∧(bT S Y acc table tick).2.1.flows.length≤200*(n+1):=by
 have hsame:HoldI S Y.jobs∧S.flows.length≤200*(n+1):=⟨h,ab⟩
 by_cases h1:aL acc∧aU Y.tick S.now tick
 case neg =>
  rw [fa h1]
  exact hsame
 by_cases h2:0≤table∧table<S.cat.tables.length
 case neg =>
  rw [eC h1.1 h1.2 h2]
  exact hsame
 obtain ⟨p,hp⟩:∃ p,p=db (cR Y.seed Y.loots) (S.cat.tables[table.toNat]!.rows.map (·.weight)) 0:=⟨_,rfl⟩
 rw [fD h1.1 h1.2 h2 rfl rfl hp]
 clear hp
 generalize S.cat.tables[table.toNat]!.rows[p.1.toNat]!.give=gv
 by_cases h3:p.2.1=0
 case neg =>
  rw [if_pos h3]
  exact hsame
 rw [if_neg (fun q=>q h3)]
 by_cases h4:gv.length=0
 case pos =>
  rw [if_pos h4]
  exact hsame
 rw [if_neg h4]
 by_cases h5:(tryM S (cI acc gv 1 tick)).1=0
 case neg =>
  rw [if_pos h5]
  exact hsame
 rw [if_neg (fun q=>q h5)]
 obtain ⟨p1,p2⟩:=h.post (s:=cI acc gv 1 tick) ab (pG h1.1 _)
 exact ⟨p1,by show (aG S (cI acc gv 1 tick)).flows.length≤_;omega⟩
attribute [local irreducible] bT advM bA aY bH
theorem HoldI.step {n:Nat} {S:LedM} {Y:YardM} (hI:RunI n S Y) (hn:n≤17) (h:HoldI S Y.jobs) (hB:RulesB S.cat) (hf:S.flows.length≤200*n) {o:OpM} (ho:OpOk o):HoldI (doM S Y o).2.1 (doM S Y o).2.2.jobs∧(doM S Y o).2.1.flows.length≤200*(n+1):=by
 unfold doM
 split
 ·exact HoldI.start hI hn h hf _ _ _ _ _
 ·split
  ·exact HoldI.cancel hI hn h hB hf _ _ _
  ·split
   ·exact HoldI.adv hI hn h hB hf _
   ·split
    ·exact HoldI.spawn hn h hf _ _ _ _
    ·split
     ·exact HoldI.loot hn h hf _ _ _
     ·have hoa:=ho.acc
      obtain ⟨p1,p2⟩:=h.post (s:=fq o) ab (by
       intro m hm
       rw [List.mem_singleton.1 hm]
       exact ⟨show o.acc<_ by omega,show (5:Int)<_ by omega⟩)
      exact ⟨p1,by show (aG S (fq o)).flows.length≤_;omega⟩
attribute [local irreducible] doM
theorem rH {S:LedM} {Y:YardM} (h:RunI 0 S Y) (hh:HoldI S Y.jobs) (hf:S.flows.length=0) (hB:RulesB S.cat) {ops:List OpM} (hl:ops.length≤18) (ho:∀ o∈ops,OpOk o):∀ n,n≤ops.length→HoldI (runS S Y ops n).1 (runS S Y ops n).2.jobs∧(runS S Y ops n).1.flows.length≤200*n
 | 0,_=>⟨hh,by show S.flows.length≤_;omega⟩
 | n+1,hn=>by
  have hI:=ib h ab ho n ab
  have hcat:=jW h ab ho n ab
  obtain ⟨i1,i2⟩:=rH h hh hf hB hl ho n ab
  rw [fO ab]
  generalize runS S Y ops n=q at *
  exact HoldI.step hI ab i1 (by rw [hcat];exact hB) i2 (ho _ (ap ab))
end Go.Proofs.YtfmgkkofledkbaaGreatDoor
namespace Go.Proofs.YtfmgkkofledkbaaGreatDoor
open Go.V
theorem vo:RulesB cat16:=by
 refine ⟨?_,fun r hr=>?_,rfl,mn,fun r hr=>?_⟩
 ·intro r hr t i h0 h1
  simp only [cat16,List.mem_cons,List.not_mem_nil,or_false] at hr
  rcases hr with rfl|rfl|rfl|rfl|rfl<;>simp only [eo,List.foldl_cons,List.foldl_nil]<;>(repeat' split)<;>omega
 ·have h:(cat16.rules.all fun r=>decide (r.take.length+r.give.length≤3∧r.take.length+r.back.length≤3))=true:=by decide
  exact of_decide_eq_true (List.all_eq_true.1 h r hr)
 ·have h:(cat16.rules.all fun r=>decide (1≤r.chance∧r.chance≤r.of_))=true:=by decide
  exact of_decide_eq_true (List.all_eq_true.1 h r hr)
theorem Fl (n:Int):HoldI (led0 3 cat16) (ce (bY n)).jobs:=⟨⟨iW ac,fun _ _=>Nat.le_refl _,Nat.le_refl _⟩,fun k hk=>absurd hk (Nat.not_lt_zero k),fun _ _ _ _ _=>rfl⟩
end Go.Proofs.YtfmgkkofledkbaaGreatDoor
namespace Go.Proofs.YtfmgkkofledkbaaGreatDoor
open Go.V
attribute [local irreducible] tryM cF gbS cQ cR db
structure JobStep (S:LedM) (Y:YardM) (o:OpM) (js:List JobM):Prop where
 out:js=Y.jobs∨(∃ j,js=Y.jobs++[j]∧j.done=false∧j.won=0∧j.lost=0∧j.beg=begM Y.jobs (aJ Y.jobs o.acc) o.tick∧j.fin=j.beg+S.cat.rules[j.rule.toNat]!.time∧dF S.cat.rules j.rule false)∨(∃ k,k<Y.jobs.length∧Y.jobs[k]!.done=false∧js=Y.jobs.set k (finJ Y.jobs[k]!))∨(∃ ids,IsDue Y.jobs o.tick ids∧js=(ids.foldl (endM o.tick) (S,{ Y with tick:=o.tick })).2.jobs)
theorem Al (S:LedM) (Y:YardM) (acc table tick:Int):(bT S Y acc table tick).2.2.jobs=Y.jobs:=by
 by_cases h1:aL acc∧aU Y.tick S.now tick
 case neg=>rw [fa h1]
 by_cases h2:0≤table∧table<S.cat.tables.length
 case neg=>rw [eC h1.1 h1.2 h2]
 obtain ⟨p,hp⟩:∃ p,p=db (cR Y.seed Y.loots) (S.cat.tables[table.toNat]!.rows.map (·.weight)) 0:=⟨_,rfl⟩
 rw [fD h1.1 h1.2 h2 rfl rfl hp]
 clear hp
 generalize S.cat.tables[table.toNat]!.rows[p.1.toNat]!.give=gv
 by_cases h3:p.2.1=0
 case neg=>rw [if_pos h3]
 rw [if_neg (fun q=>q h3)]
 by_cases h4:gv.length=0
 case pos=>rw [if_pos h4]
 rw [if_neg h4]
 by_cases h5:(tryM S (cI acc gv 1 tick)).1=0
 case neg=>rw [if_pos h5]
 rw [if_neg (fun q=>q h5)]
theorem vb (S:LedM) (Y:YardM) (o:OpM):JobStep S Y o (doM S Y o).2.2.jobs:=by
 constructor
 by_cases k0:o.kind=0
 ·unfold doM
  rw [if_pos k0]
  rcases eA S Y o.acc o.b o.a o.c o.tick with ⟨e,_⟩|⟨_,_,_,hr,_,e⟩
  ·rw [e]
   exact .inl rfl
  ·rw [e]
   exact .inr (.inl ⟨_,rfl,rfl,rfl,rfl,rfl,rfl,hr⟩)
 by_cases k1:o.kind=1
 ·unfold doM
  rw [if_neg k0,if_pos k1]
  unfold aY
  split
  ·exact .inl rfl
  ·split
   ·exact .inl rfl
   ·rename_i h2
    have h2':=Classical.not_not.1 h2
    split
    ·exact .inl rfl
    ·split
     ·exact .inl rfl
     ·exact .inr (.inr (.inl ⟨o.a.toNat,ab,h2'.2.2,rfl⟩))
 by_cases k2:o.kind=2
 ·unfold doM
  rw [if_neg k0,if_neg k1,if_pos k2]
  by_cases ht:aU Y.tick S.now o.tick
  ·obtain ⟨ids,hids⟩:=fb Y.jobs o.tick
   refine .inr (.inr (.inr ⟨ids,hids,?_⟩))
   rw [ge ht hids,mu]
  ·rw [em ht]
   exact .inl rfl
 by_cases k3:o.kind=3
 ·unfold doM
  rw [if_neg k0,if_neg k1,if_neg k2,if_pos k3]
  unfold bH
  split
  ·exact .inl rfl
  ·split
   ·exact .inl rfl
   ·dsimp only
    split
    ·exact .inl rfl
    ·exact .inl rfl
 by_cases k4:o.kind=4
 ·unfold doM
  rw [if_neg k0,if_neg k1,if_neg k2,if_neg k3,if_pos k4]
  exact .inl (Al ..)
 ·unfold doM
  rw [if_neg k0,if_neg k1,if_neg k2,if_neg k3,if_neg k4]
  exact .inl rfl
def wonJ (rs:List RuM) (seed:List Int) (j:JobM):Int:=cQ seed j.id j.times rs[j.rule.toNat]!.chance rs[j.rule.toNat]!.of_
def RollJ (rs:List RuM) (seed:List Int) (j:JobM):Prop:=(j.done=false→j.won=0∧j.lost=0)∧(j.won=0∨j.won=wonJ rs seed j)∧(j.lost=0∨j.lost=j.times - wonJ rs seed j)
def RollI (rs:List RuM) (seed:List Int) (js:List JobM):Prop:=∀ k,k<js.length→RollJ rs seed js[k]!
theorem RollI.set {rs:List RuM} {seed:List Int} {js:List JobM} (h:RollI rs seed js) {k:Nat} {j:JobM} (hj:k<js.length→RollJ rs seed j):RollI rs seed (js.set k j):=by
 intro i hi
 rw [List.length_set] at hi
 rw [df hi]
 by_cases e:i=k
 ·rw [if_pos e]
  exact hj (e▸hi)
 ·rw [if_neg e]
  exact h i hi
theorem RollJ.fin {rs:List RuM} {seed:List Int} {j:JobM} (h:RollJ rs seed j) (hd:j.done=false):RollJ rs seed (finJ j):=by
 obtain ⟨h1,h2⟩:=h.1 hd
 exact ⟨fun q=>(by cases q),.inl h1,.inl h2⟩
theorem rM (S:LedM) (j:JobM) (times:Int) (take give:List (Int×Int)) (rule tick:Int):(dl S j times take give rule tick).1=0∨(dl S j times take give rule tick).1=times:=by
 unfold dl
 dsimp only
 split
 ·exact .inr rfl
 ·exact .inl rfl
theorem RollJ.end {S:LedM} {seed:List Int} {j:JobM} {tick:Int}:RollJ S.cat.rules seed (endJ S seed j tick).2:=by
 refine ⟨fun q=>(by cases q),?_,?_⟩
 ·exact rM ..
 ·exact rM ..
theorem RollI.a6 {rs:List RuM} {seed:List Int} {tick:Int}:∀ (ids:List Nat) (p:LedM×YardM),p.1.Ok→p.1.cat.rules=rs→p.2.seed=seed→RollI rs seed p.2.jobs→RollI rs seed (ids.foldl (endM tick) p).2.jobs
 | [],_,_,_,_,h=>h
 | k::ids,p,h1,h2,h3,h=>by
  obtain ⟨h4,h5⟩:=yj h1 p.2.seed p.2.jobs[k]! tick
  refine RollI.a6 ids (endM tick p k) h4 ?_ h3 ?_
  ·show (endJ p.1 p.2.seed p.2.jobs[k]! tick).1.cat.rules=rs
   rw [h5]
   exact h2
  ·refine RollI.set h (fun _=>?_)
   rw [← h2,h3]
   exact RollJ.end
theorem RollI.step {n:Nat} {S:LedM} {Y:YardM} (hI:RunI n S Y) (h:RollI S.cat.rules Y.seed Y.jobs) (o:OpM):RollI S.cat.rules Y.seed (doM S Y o).2.2.jobs:=by
 rcases (vb S Y o).out with e|⟨j,e,hd,hw,hl,_⟩|⟨k,hk,hd,e⟩|⟨ids,hids,e⟩
 ·rw [e]
  exact h
 ·rw [e]
  intro k hk
  rw [List.length_append,List.length_singleton] at hk
  rw [eT hk]
  by_cases e2:k=Y.jobs.length
  ·rw [if_pos e2]
   exact ⟨fun _=>⟨hw,hl⟩,.inl hw,.inl hl⟩
  ·rw [if_neg e2]
   exact h k ab
 ·rw [e]
  exact h.set (fun _=>(h k hk).fin hd)
 ·rw [e]
  exact RollI.a6 ids (S,{ Y with tick:=o.tick }) hI.sok rfl rfl h
def FinI (n:Nat) (js:List JobM):Prop:=∀ k,k<js.length→js[k]!.fin≤90+10*(n:Int)
theorem yp {js:List JobM} {B:Int} (ids:List Int) (t:Int) (h1:t≤B) (h2:∀ k∈ids,js[k.toNat]!.fin≤B):begM js ids t≤B:=by
 induction ids generalizing t with
 | nil=>exact h1
 | cons i ids ih =>
  have e:begM js (i::ids) t=begM js ids (max t js[i.toNat]!.fin):=rfl
  rw [e]
  have:=h2 i List.mem_cons_self
  exact ih _ ab (fun k hk=>h2 k (List.mem_cons_of_mem _ hk))
theorem FinI.set {n:Nat} {js:List JobM} (h:FinI n js) {k:Nat} {j:JobM} (hj:k<js.length→j.fin=js[k]!.fin):FinI n (js.set k j):=by
 intro i hi
 rw [List.length_set] at hi
 rw [df hi]
 by_cases e:i=k
 ·rw [if_pos e,hj (e▸hi)]
  exact h k (e▸hi)
 ·rw [if_neg e]
  exact h i hi
theorem FinI.a6 {n:Nat} {tick:Int}:∀ (ids:List Nat) (p:LedM×YardM),FinI n p.2.jobs→FinI n (ids.foldl (endM tick) p).2.jobs
 | [],_,h=>h
 | k::ids,p,h=>FinI.a6 ids (endM tick p k) (h.set (fun _=>(jz _ _ _ _).1.fin))
theorem FinI.mono {n:Nat} {js:List JobM} (h:FinI n js):FinI (n+1) js:=fun k hk=>by have:=h k hk;omega
theorem FinI.step {n:Nat} {S:LedM} {Y:YardM} (h:FinI n Y.jobs) (ht:∀ r∈S.cat.rules,r.time≤10) {o:OpM} (ho:OpOk o):FinI (n+1) (doM S Y o).2.2.jobs:=by
 rcases (vb S Y o).out with e|⟨j,e,_,_,_,hb,hf,hr⟩|⟨k,hk,hd,e⟩|⟨ids,hids,e⟩
 ·rw [e]
  exact h.mono
 ·rw [e]
  intro k hk
  rw [List.length_append,List.length_singleton] at hk
  rw [eT hk]
  by_cases e2:k=Y.jobs.length
  ·rw [if_pos e2,hf,hb]
   have h1:=ht _ (ap (show j.rule.toNat<S.cat.rules.length by have:=hr.1;have:=hr.2.1;omega))
   have h2:=yp (js:=Y.jobs) (B:=90+10*(n:Int)) (aJ Y.jobs o.acc) o.tick (by have:=ho.tick;omega) (fun q hq=>by have:=ft hq;exact h _ ab)
   omega
  ·rw [if_neg e2]
   have:=h k ab
   omega
 ·rw [e]
  exact (h.set (j:=finJ Y.jobs[k]!) (fun _=>rfl)).mono
 ·rw [e]
  exact (FinI.a6 ids (S,{ Y with tick:=o.tick }) h).mono
end Go.Proofs.YtfmgkkofledkbaaGreatDoor
namespace Go.Proofs.YtfmgkkofledkbaaGreatDoor
open Go.V
attribute [local irreducible] tryM gbM dl cQ cR db endJ
def NowB (B:Int→Prop) (S:LedM) (Y:YardM):Prop:=B S.now∧B Y.tick
theorem gL {B:Int→Prop} {S:LedM} {s:StM} (h:B S.now) (hs:B s.tick):B (aG S s).now:=by
 unfold aG
 split
 ·have e:(dX S s).now=s.tick:=by
   unfold LedM.now dX
   simp [StM.at]
  rw [e]
  exact hs
 ·exact h
section
attribute [local irreducible] LedM.now aG
theorem Db {B:Int→Prop} {acc tick hold:Int} {S:LedM} {i:Int} (h:B S.now) (ht:B tick):B (gbS acc tick hold S i).now:=by
 unfold gbS
 split
 ·exact h
 ·exact gL h ht
theorem ph {B:Int→Prop} {acc tick hold:Int} {S:LedM} (h:B S.now) (ht:B tick):∀ k,B (gbM acc tick hold S k).now
 | 0=>by
  unfold gbM
  exact h
 | k+1=>by
  have ih:=ph (acc:=acc) (hold:=hold) h ht k
  have e:gbM acc tick hold S (k+1)=gbS acc tick hold (gbM acc tick hold S k) (k:Int):=by
   unfold gbM
   rw [List.range_succ,List.foldl_append]
   rfl
  rw [e]
  exact Db ih ht
theorem qf {B:Int→Prop} {S:LedM} {j:JobM} {times:Int} {take give:List (Int×Int)} {rule tick:Int} (h:B S.now) (ht:B tick):B (dl S j times take give rule tick).2.now:=by
 unfold dl
 exact gL h ht
theorem Cb {B:Int→Prop} {S:LedM} {seed:List Int} {j:JobM} {tick:Int} (h:B S.now) (ht:B tick):B (endJ S seed j tick).1.now:=by
 unfold endJ
 exact ph (qf (qf h ht) ht) ht _
theorem qw {B:Int→Prop} {tick:Int} (ht:B tick):∀ (ids:List Nat) (p:LedM×YardM),NowB B p.1 p.2→NowB B (ids.foldl (endM tick) p).1 (ids.foldl (endM tick) p).2
 | [],_,h=>h
 | k::ids,p,h=>qw ht ids (endM tick p k) ⟨Cb h.1 ht,h.2⟩
theorem NowB.adv {B:Int→Prop} {S:LedM} {Y:YardM} (h:NowB B S Y) {tick:Int} (ht:B tick):NowB B (advM S Y tick).2.1 (advM S Y tick).2.2:=by
 by_cases h1:aU Y.tick S.now tick
 ·obtain ⟨ids,hids⟩:=fb Y.jobs tick
  rw [ge h1 hids,mu]
  exact qw ht ids (S,{ Y with tick:=tick }) ⟨h.1,ht⟩
 ·rw [em h1]
  exact h
theorem NowB.start {B:Int→Prop} {S:LedM} {Y:YardM} (h:NowB B S Y) (acc level rule times:Int) {tick:Int} (ht:B tick):NowB B (bA S Y acc level rule times tick).2.1 (bA S Y acc level rule times tick).2.2:=by
 rcases eA S Y acc level rule times tick with ⟨e,_⟩|⟨_,_,_,_,_,e⟩
 ·rw [e]
  exact h
 ·rw [e]
  refine ⟨?_,ht⟩
  dsimp only
  split
  ·exact h.1
  ·exact gL h.1 ht
theorem NowB.cancel {B:Int→Prop} {S:LedM} {Y:YardM} (h:NowB B S Y) (acc job:Int) {tick:Int} (ht:B tick):NowB B (aY S Y acc job tick).2.1 (aY S Y acc job tick).2.2:=by
 unfold aY
 split
 ·exact h
 ·split
  ·exact h
  ·split
   ·exact h
   ·split
    ·exact h
    ·exact ⟨ph h.1 ht _,ht⟩
theorem NowB.spawn {B:Int→Prop} {S:LedM} {Y:YardM} (h:NowB B S Y) (acc rule times:Int) {tick:Int} (ht:B tick):NowB B (bH S Y acc rule times tick).2.1 (bH S Y acc rule times tick).2.2:=by
 unfold bH
 split
 ·exact h
 ·split
  ·exact h
  ·refine ⟨gL h.1 ht,?_⟩
   dsimp only
   split
   ·exact ht
   ·exact h.2
theorem NowB.loot {B:Int→Prop} {S:LedM} {Y:YardM} (h:NowB B S Y) (acc table:Int) {tick:Int} (ht:B tick):NowB B (bT S Y acc table tick).2.1 (bT S Y acc table tick).2.2:=by
 by_cases h1:aL acc∧aU Y.tick S.now tick
 case neg =>
  rw [fa h1]
  exact h
 by_cases h2:0≤table∧table<S.cat.tables.length
 case neg =>
  rw [eC h1.1 h1.2 h2]
  exact h
 obtain ⟨p,hp⟩:∃ p,p=db (cR Y.seed Y.loots) (S.cat.tables[table.toNat]!.rows.map (·.weight)) 0:=⟨_,rfl⟩
 rw [fD h1.1 h1.2 h2 rfl rfl hp]
 clear hp
 generalize S.cat.tables[table.toNat]!.rows[p.1.toNat]!.give=gv
 by_cases h3:p.2.1=0
 case neg =>
  rw [if_pos h3]
  exact h
 rw [if_neg (fun q=>q h3)]
 by_cases h4:gv.length=0
 case pos =>
  rw [if_pos h4]
  exact ⟨h.1,ht⟩
 rw [if_neg h4]
 by_cases h5:(tryM S (cI acc gv 1 tick)).1=0
 case neg =>
  rw [if_pos h5]
  exact h
 rw [if_neg (fun q=>q h5)]
 exact ⟨gL h.1 ht,ht⟩
attribute [local irreducible] bT advM bA aY bH
theorem NowB.step {B:Int→Prop} {S:LedM} {Y:YardM} (h:NowB B S Y) {o:OpM} (ht:B o.tick):NowB B (doM S Y o).2.1 (doM S Y o).2.2:=by
 unfold doM
 split
 ·exact h.start _ _ _ _ ht
 ·split
  ·exact h.cancel _ _ ht
  ·split
   ·exact h.adv ht
   ·split
    ·exact h.spawn _ _ _ ht
    ·split
     ·exact h.loot _ _ ht
     ·exact ⟨gL h.1 ht,h.2⟩
end
structure RunR (n:Nat) (S:LedM) (Y:YardM) (sd:List Int):Prop where
 seed:Y.seed=sd
 roll:RollI S.cat.rules sd Y.jobs
 fin:FinI n Y.jobs
 now:NowB (fun t=>0≤t∧t≤90) S Y
attribute [local irreducible] doM
theorem RollJ.all {rs:List RuM} {sd:List Int} {j:JobM} (h:RollJ rs sd j) (ht:1≤j.times) (e:j.won+j.lost=j.times):j.won=wonJ rs sd j:=by
 rcases h.2.1 with h1|h1<;>rcases h.2.2 with h2|h2<;>omega
end Go.Proofs.YtfmgkkofledkbaaGreatDoor
namespace Go.Proofs.YtfmgkkofledkbaaGreatDoor
open Go.V
attribute [local irreducible] tryM cF cQ cR db
theorem ou {sh:Int} {nf:Nat} {mix:Int→Bool} {s:StM} (hsh:0≤sh):∀ (ms:List MvM) {W:Wk} {A:AbsB} {k:Nat},W.Ok nf→WAbs W A k→k+ms.length≤4096→(∀ m∈ms,(1≤m.n∧m.n≤1099511627776)∧m.frm≠0∧m.to≠0)→(bK sh nf mix s W ms).1=0∨(bK sh nf mix s W ms).1=10
 | [],_,_,_,_,_,_,_=>.inl rfl
 | m::ms,W,A,k,hO,h,hk,hn=>by
  simp only [List.length_cons] at hk
  obtain ⟨n1,n2,n3⟩:=hn m List.mem_cons_self
  have e:bK sh nf mix s W (m::ms)=if (ba sh nf mix s W m).1=0 then bK sh nf mix s (ba sh nf mix s W m).2 ms else ((ba sh nf mix s W m).1,W):=rfl
  rw [e]
  by_cases hc:m.n≤A.bal m.frm m.item
  ·have hcan:A.can m:=by
    refine ⟨.inr hc,?_⟩
    show A.tot m.item+(if m.item=m.item then (if m.frm=0 then m.n else 0) - (if m.to=0 then m.n else 0) else 0)≤_
    rw [if_pos rfl,if_neg n2,if_neg n3,← h.tot]
    have:=(hO.tot m.item).2
    omega
   obtain ⟨e1,h1⟩:=oW (sh:=sh) (mix:=mix) (s:=s) hO h ab n1.1 hcan
   obtain ⟨hO1,_⟩:=ic hO dz n1 hsh e1
   rw [if_pos e1]
   exact ou hsh ms hO1 h1 ab (fun x hx=>hn x (List.mem_cons_of_mem _ hx))
  ·have e2:ba sh nf mix s W m=(10,W):=by
    unfold ba
    rw [if_pos ⟨n2,by rw [h.bal];omega⟩]
   right
   rw [e2]
   rfl
theorem AU {S:LedM} (h:LotsI S) {s:StM} (hp:ew S.cat S.now s) (hf:S.flows.length+s.moves.length≤4096) (hm:∀ m∈s.moves,m.frm≠0∧m.to≠0):(tryM S s).1=0∨(tryM S s).1=10:=by
 have hst:=h.steps
 have hl:=hp.2.2.1.1
 have e:tryM S s=bK S.shard S.flows.length (bN S.cat) (s.at (aB S)) (wk0 S) s.moves:=by
  unfold tryM
  rw [if_neg ab,if_neg (fun q=>q hp)]
 rw [e]
 refine ou h.ok.shard.1 s.moves (W:=wk0 S) (A:=absF S) (k:=S.flows.length) (jT h.ok) ⟨h.abs.bal,h.abs.tot,h.abs.len⟩ hf (fun m hmm=>⟨?_,hm m hmm⟩)
 have h4:=hp.2.2.2.1 m hmm
 unfold dq at h4
 rw [cp] at h4
 exact (of_decide_eq_true h4).2.1
structure RuleC (r:RuM):Prop where
 lev:r.level≤9
 ne:r.take.length≠0
 tm:1≤r.time∧r.time≤10
 sp:r.spawn=false
 am:∀ a∈r.take,(0≤a.1∧a.1<5)∧1≤a.2∧a.2≤100
 few:r.take.length≤3
theorem xQ {k:Int} (h1:1≤k) (h2:k≤4):RuleC cat16.rules[k.toNat]!:=by
 have h:k=1∨k=2∨k=3∨k=4:=ab
 rcases h with rfl|rfl|rfl|rfl
 ·exact ⟨by decide,by decide,by decide,rfl,by decide,by decide⟩
 ·exact ⟨by decide,by decide,by decide,rfl,by decide,by decide⟩
 ·exact ⟨by decide,by decide,by decide,rfl,by decide,by decide⟩
 ·exact ⟨by decide,by decide,by decide,rfl,by decide,by decide⟩
theorem ry {t i:Int} (hi:¬(0≤i∧i<5)):∀ (l:List (Int×Int)),(∀ a∈l,(0≤a.1∧a.1<5)∧1≤a.2∧a.2≤100)→eo l t i=0
 | [],_=>rfl
 | a::l,h=>by
  rw [ly,ry hi l (fun x hx=>h x (List.mem_cons_of_mem _ hx)),if_neg (fun e:i=a.1=>hi (by rw [e];exact (h a List.mem_cons_self).1))]
  rfl
section
attribute [local irreducible] doM
theorem tH {S:LedM} {Y:YardM} (h:RunI 0 S Y) (hf:FinI 0 Y.jobs) (hw:NowB (fun t=>0≤t∧t≤90) S Y) (hc:∀ r∈S.cat.rules,r.time≤10) {ops:List OpM} (hl:ops.length≤50) (ho:∀ o∈ops,OpOk o):∀ n,n≤ops.length→FinI n (runS S Y ops n).2.jobs∧NowB (fun t=>0≤t∧t≤90) (runS S Y ops n).1 (runS S Y ops n).2
 | 0,_=>⟨hf,hw⟩
 | n+1,hn=>by
  have hcat:=jW h hl ho n ab
  obtain ⟨i1,i2⟩:=tH h hf hw hc hl ho n ab
  rw [fO ab]
  generalize runS S Y ops n=q at *
  have hoo:=ho _ (ap (show n<ops.length by omega))
  exact ⟨i1.step (by rw [hcat];exact hc) hoo,i2.step hoo.tick⟩
end
attribute [local irreducible] eo aG
theorem sT {S:LedM} {Y:YardM} (hI:RunI 18 S Y) (hH:HoldI S Y.jobs) (hf:S.flows.length≤3600) (hfin:FinI 18 Y.jobs) (hnow:NowB (fun t=>0≤t∧t≤90) S Y) (hcat:S.cat=cat16) {k n acc:Int} (hk:1≤k∧k≤4) (hn:1≤n∧n≤3) (ha:1≤acc∧acc≤3) :
  bA S Y acc 9 k n (S.now+200)=((0,10),S,Y)∨∃ S1 Y1 fin,bA S Y acc 9 k n (S.now+200)=(((Y.jobs.length:Int),0),S1,Y1)∧Y.jobs.length<Y1.jobs.length∧Y1.jobs[Y.jobs.length]!.fin=fin∧(S.now+200<fin∧fin≤100000)∧aY S1 Y1 acc Y.jobs.length fin=(14,S1,Y1)∧aY S1 Y1 (acc+1) Y.jobs.length (S.now+200)=(15,S1,Y1)∧∃ S2 Y2,aY S1 Y1 acc Y.jobs.length (fin - 1)=(0,S2,Y2)∧(∀ a i,lsum (S2.stk a i)=lsum (S.stk a i))∧S2.flows.length≤5000∧aY S2 Y2 acc Y.jobs.length (fin - 1)=(7,S2,Y2):=by
 obtain ⟨⟨w1,w2⟩,w3,w4⟩:=hnow
 have hlen:=hI.len
 obtain ⟨tick,htick⟩:∃ t,S.now+200=t:=⟨_,rfl⟩
 rw [htick]
 have hp1:aL acc∧aU Y.tick S.now tick∧cu n:=⟨by unfold aL;omega,by unfold aU;omega,by unfold cu;omega⟩
 have hC:=xQ hk.1 hk.2
 have hr2:dF S.cat.rules k false:=by
  rw [hcat]
  exact ⟨ab,by show k<((5:Nat):Int);omega,hC.sp⟩
 obtain ⟨r,hr⟩:∃ r,cat16.rules[k.toNat]! = r:=⟨_,rfl⟩
 rw [hr] at hC
 rw [im hp1 hr2 (r:=r) (by rw [hcat];exact hr),if_neg (by have:=hC.lev;omega)]
 have hposs:ew S.cat S.now (ez acc r.take n tick (536870912+Y.jobs.length)):=by
  refine qX ac (by unfold accP;omega) ab ab ?_ ?_
  ·rw [List.length_map]
   have:=hC.ne
   have:=hC.few
   omega
  ·intro m hm
   obtain ⟨x,hx,rfl⟩:=List.mem_map.1 hm
   have hxa:=hC.am x hx
   have hil:S.cat.items.length=5:=by rw [hcat];rfl
   have hn3:n=1∨n=2∨n=3:=ab
   refine gM ?_ ?_ (show accP acc by unfold accP;omega) (show accP (536870912+(Y.jobs.length:Int)) by unfold accP;omega) (show acc≠536870912+(Y.jobs.length:Int) by omega) (ke (show acc≠0 by omega)) (kTo2 (show 536870912+(Y.jobs.length:Int)≠0 by omega)) rfl
   ·show 0≤x.1∧x.1<(S.cat.items.length:Int)
    omega
   ·show 1≤x.2*n∧x.2*n≤1099511627776
    rcases hn3 with rfl|rfl|rfl<;>omega
 have hml:(ez acc r.take n tick (536870912+Y.jobs.length)).moves.length≤3:=by
  show (r.take.map _).length≤3
  rw [List.length_map]
  exact hC.few
 rcases AU hH.lots hposs ab (fun m hm=>by
  obtain ⟨x,hx,rfl⟩:=List.mem_map.1 hm
  exact ⟨show acc≠0 by omega,show 536870912+(Y.jobs.length:Int)≠0 by omega⟩) with he|he
 case inr =>
  left
  rw [if_pos ⟨hC.ne,by rw [he];omega⟩,he]
 right
 rw [if_neg (fun q=>q.2 he),if_neg hC.ne]
 rcases lL (s:=ez acc r.take n tick (536870912+Y.jobs.length)) hH.lots ab with ⟨q,_⟩|⟨_,p⟩
 ·exact absurd he q
 have hbal:∀ a i,lsum ((aG S (ez acc r.take n tick (536870912+Y.jobs.length))).stk a i)=lsum (S.stk a i)+(if a=536870912+(Y.jobs.length:Int) then eo r.take n i else 0) - (if a=acc then eo r.take n i else 0):=fun a i=>by
  rw [p.bal]
  exact oV (frm:=acc) (to:=536870912+(Y.jobs.length:Int)) ab ab ab a i r.take (absF S)
 have hpn:(aG S (ez acc r.take n tick (536870912+Y.jobs.length))).now=tick:=p.now
 have hpl:=p.lots
 have hpf:=p.flows
 have hpc:(aG S (ez acc r.take n tick (536870912+Y.jobs.length))).cat=cat16:=p.cat.trans hcat
 obtain ⟨S1,hS1⟩:∃ S1,aG S (ez acc r.take n tick (536870912+Y.jobs.length))=S1:=⟨_,rfl⟩
 rw [hS1] at hbal hpn hpl hpf hpc ⊢
 obtain ⟨bg,hbg⟩:∃ bg,begM Y.jobs (aJ Y.jobs acc) tick=bg:=⟨_,rfl⟩
 have hb1:=(rp (js:=Y.jobs) (aJ Y.jobs acc) tick).1
 have hb2:=yp (js:=Y.jobs) (B:=1000) (aJ Y.jobs acc) tick ab (fun q hq=>by
  have h1:=ft hq
  have h2:=hfin q.toNat ab
  omega)
 rw [hbg] at hb1 hb2 ⊢
 have htm:=hC.tm
 obtain ⟨fin,hfi⟩:∃ f,bg+r.time=f:=⟨_,rfl⟩
 rw [hfi]
 have hjl:(Y.jobs++[⟨Y.jobs.length,acc,536870912+Y.jobs.length,k,n,bg,fin,false,0,0⟩]:List JobM).length=Y.jobs.length+1:=by simp
 have hjg:(Y.jobs++[⟨Y.jobs.length,acc,536870912+Y.jobs.length,k,n,bg,fin,false,0,0⟩]:List JobM)[Y.jobs.length]! = ⟨Y.jobs.length,acc,536870912+Y.jobs.length,k,n,bg,fin,false,0,0⟩:=by
  rw [eT ab,if_pos rfl]
 obtain ⟨js,hjs⟩:∃ js,(Y.jobs++[⟨Y.jobs.length,acc,536870912+Y.jobs.length,k,n,bg,fin,false,0,0⟩]:List JobM)=js:=⟨_,rfl⟩
 rw [hjs] at hjl hjg ⊢
 have hnn:((Y.jobs.length:Int)).toNat=Y.jobs.length:=Int.toNat_natCast _
 refine ⟨S1,{ Y with jobs:=js,tick:=tick },fin,rfl,by show Y.jobs.length<js.length;omega,by show js[Y.jobs.length]!.fin=fin;rw [hjg],ab,?_,?_,?_⟩
 ·unfold aY
  rw [if_neg (fun q=>q ⟨by unfold aL;omega,by unfold aU;dsimp only;omega⟩)]
  dsimp only
  rw [hnn,hjg]
  rw [if_neg (fun q=>q ⟨ab,ab,rfl⟩),if_neg (fun q=>q rfl),if_pos (Int.le_refl _)]
 ·unfold aY
  rw [if_neg (fun q=>q ⟨by unfold aL;omega,by unfold aU;dsimp only;omega⟩)]
  dsimp only
  rw [hnn,hjg]
  rw [if_neg (fun q=>q ⟨ab,ab,rfl⟩),if_pos (show ¬acc=acc+1 by omega)]
 have hil:S1.cat.items.length=5:=by rw [hpc];rfl
 have g:=ri (S:=S1) (acc:=acc) (hold:=536870912+(Y.jobs.length:Int)) (tick:=fin - 1) hpl (by unfold aL;omega) ab ab ab ab (fun i h0 h1=>by
  rw [hbal,if_pos rfl,if_neg ab,hH.free _ (Int.le_refl _) i h0 (by rw [hcat];rw [hpc] at h1;exact h1)]
  have hm:r∈cat16.rules:=by
   rw [← hr]
   exact ap (show k.toNat<5 by omega)
  have hn3:n=1∨n=2∨n=3:=ab
  have hsm:∀ l:List (Int×Int),(∀ a∈l,(0≤a.1∧a.1<5)∧1≤a.2∧a.2≤100)→eo l n i≤300*(l.length:Int):=by
   intro l
   induction l with
   | nil=>intro _;show eo [] n i≤_;unfold eo;exact Int.le_refl 0
   | cons x l ih =>
    intro hx
    have h4:=ih (fun y hy=>hx y (List.mem_cons_of_mem _ hy))
    have h5:=hx x List.mem_cons_self
    rw [ly,List.length_cons]
    split
    ·rcases hn3 with rfl|rfl|rfl<;>omega
    ·omega
  have:=hsm r.take hC.am
  have:=hC.few
  omega)
 have hgb:=g.bal
 rw [hil] at hgb
 obtain ⟨S2,hS2⟩:∃ S2,gbM acc (fin - 1) (536870912+(Y.jobs.length:Int)) S1 5=S2:=⟨_,rfl⟩
 rw [hil,hS2] at g
 rw [hS2] at hgb
 refine ⟨S2,finY { Y with jobs:=js,tick:=fin - 1 } Y.jobs.length,?_,?_,?_,?_⟩
 ·unfold aY
  rw [if_neg (fun q=>q ⟨by unfold aL;omega,by unfold aU;dsimp only;omega⟩)]
  dsimp only
  rw [hnn,hjg]
  rw [if_neg (fun q=>q ⟨ab,ab,rfl⟩),if_neg (fun q=>q rfl),if_neg (show ¬fin≤fin - 1 by omega),hil,hS2]
 ·intro a i
  rw [hgb]
  by_cases h0:0≤i∧i<((5:Nat):Int)
  ·have hfr:=hH.free (536870912+(Y.jobs.length:Int)) (Int.le_refl _) i h0.1 (by rw [hcat];exact h0.2)
   rw [if_pos h0]
   by_cases e1:a=536870912+(Y.jobs.length:Int)
   ·rw [if_pos e1,e1,hfr]
   ·rw [if_neg e1]
    by_cases e2:a=acc
    ·rw [if_pos e2,hbal,hbal,if_neg e1,if_pos e2,if_pos rfl,if_neg ab,hfr]
     omega
    ·rw [if_neg e2,hbal,if_neg e1,if_neg e2]
     omega
  ·rw [if_neg h0,hbal,ry ab r.take hC.am]
   split<;>split<;>omega
 ·have hg2:=g.flows
  rw [hil] at hg2
  omega
 ·unfold aY
  rw [if_neg (fun q=>q ⟨by unfold aL;omega,by
   rcases g.now with q|q
   ·unfold aU finY;dsimp only;omega
   ·unfold aU finY;dsimp only;omega⟩)]
  rw [if_pos (fun q=>by
   have h3:=q.2.2
   rw [hnn] at h3
   have h4:((js.set Y.jobs.length (finJ js[Y.jobs.length]!))[Y.jobs.length]!).done=false:=h3
   rw [df ab,if_pos rfl] at h4
   cases h4)]
end Go.Proofs.YtfmgkkofledkbaaGreatDoor
namespace Go.Proofs.YtfmgkkofledkbaaGreatDoor
open Go.V
attribute [local irreducible] G GO GP GPW GPK Ev Ef EfR Ent CB GB V.Enters
section
theorem now1 (n:Int):NowB (fun t=>0≤t∧t≤90) (led0 3 cat16) (ce (bY n)):=⟨⟨Int.le_refl 0,by decide⟩,⟨Int.le_refl 0,by show (0:Int)≤90;decide⟩⟩
theorem vn:∀ r∈(led0 3 cat16).cat.rules,r.time≤10:=by
 intro r hr
 have h:(cat16.rules.all fun r=>decide (r.time≤10))=true:=by decide
 exact of_decide_eq_true (List.all_eq_true.1 h r hr)
theorem src0:SrcI (led0 3 cat16):=⟨iW ac,fun _ _ h=>absurd rfl h⟩
attribute [local irreducible] runS bY bA aY
theorem nX {L:List HP} (seed:Int) (hs:I64 seed) (ad:Option Addr) (n c:Nat) (xs:List Int) [hrd:Rds L ad Int (encZ .i64) 1 xs] (hn:n=xs.length) (hm:n≤9223372036854775807) (hx:∀ x∈xs,I64 x) (rule:Int) (hr:I64 rule) (times:Int) (ht:I64 times) :
  Tri Tryz.prog 6 #[.int .i64 seed,.slice ad n c,.int .i64 rule,.int .i64 times] (bz::L) (fun v L'=>v=.bool true∧L' = L):=by
 have hr0:=hr
 unfold I64 at hr0
 refine Tri.body (args:=[.int .i64 seed,.slice ad n c,.int .i64 rule,.int .i64 times]) 126 en6 Tryz.func6 rfl rfl rfl (by simp) ?_
 repeat first|refine aa ?_|intro _
 refine GO.ef (Ef.a6 (Cz seed hs ad n c xs hn hx) rfl) ac ?_
 rintro _ _ ⟨yb,lb,ops,rfl,⟨hol,hoo⟩,rfl⟩
 have hI:=ib (run0 seed) (ops:=ops) ab hoo 18 ab
 obtain ⟨hH,hf⟩:=rH (run0 seed) (Fl seed) rfl vo (ops:=ops) ab hoo 18 ab
 have hR:=tH (run0 seed) (fun k hk=>absurd hk (Nat.not_lt_zero k)) (now1 seed) vn (ops:=ops) ab hoo 18 ab
 have hcat:=jW (run0 seed) (ops:=ops) ab hoo 18 ab
 have hsrc:=lD (Y:=ce (bY seed)) ky src0 (ops:=ops) 18 ab
 obtain ⟨q,hq⟩:∃ q,runS (led0 3 cat16) (ce (bY seed)) ops 18=q:=⟨_,rfl⟩
 rw [hq] at hI hH hf hR hcat hsrc ⊢
 obtain ⟨S,Y⟩:=q
 dsimp only at hI hH hf hR hcat hsrc ⊢
 change S.cat=cat16 at hcat
 have hY:=hI.yok
 have hlen:=hI.len
 have hnow:=hR.2.1
 have hil:S.cat.items.length=5:=by rw [hcat];rfl
 repeat first|refine aa ?_|intro _
 (first|refine GO.ef (Ef.call (gW (L:=[]) lb S hsrc ab) rfl (by repeat (first|exact Ent.refl _|apply Ent.take))) ac ?_)
 rintro _ _ ⟨_,⟨ad1,cap1,hs1,rfl,⟨hh1,hl1⟩,rfl⟩,hL⟩
 simp only [List.cons_append,List.nil_append] at hL;subst hL
 repeat first|refine aa ?_|intro _
 refine GO.ef (Ef.a6 (iQ rule 4 hr ac ac) rfl) ac ?_
 rintro _ _ ⟨rfl,rfl⟩
 have k1:=Int.emod_nonneg rule (show (4:Int)≠0 by omega)
 have k2:=Int.emod_lt_of_pos rule (show (0:Int)<4 by omega)
 obtain ⟨k,hk⟩:∃ k,1+rule % 4=k:=⟨_,rfl⟩
 repeat first|refine aa ?_|intro _
 rw [hk]
 repeat first|refine aa ?_|intro _
 refine GO.ef (Ef.a6 (iQ times 3 ht ac ac) rfl) ac ?_
 rintro _ _ ⟨rfl,rfl⟩
 have n1:=Int.emod_nonneg times (show (3:Int)≠0 by omega)
 have n2:=Int.emod_lt_of_pos times (show (0:Int)<3 by omega)
 obtain ⟨m,hmm⟩:∃ m,1+times % 3=m:=⟨_,rfl⟩
 repeat first|refine aa ?_|intro _
 rw [hmm]
 have htd:=oe (b:=4) hr0.1 hr0.2 ac
 obtain ⟨rd,hrdd⟩:∃ d,rule.tdiv 4=d:=⟨_,rfl⟩
 rw [hrdd] at htd
 repeat first|refine aa ?_|intro _
 rw [hrdd]
 refine GO.ef (Ef.a6 (iQ rd 3 htd ac ac) rfl) ac ?_
 rintro _ _ ⟨rfl,rfl⟩
 have a1:=Int.emod_nonneg rd (show (3:Int)≠0 by omega)
 have a2:=Int.emod_lt_of_pos rd (show (0:Int)<3 by omega)
 obtain ⟨acc,hacc⟩:∃ a,1+rd % 3=a:=⟨_,rfl⟩
 repeat first|refine aa ?_|intro _
 rw [hacc]
 repeat first|refine aa ?_|intro _
 (first|refine GO.ef (Ef.call (rR (L:=[]) lb S hI.sok) rfl (by repeat (first|exact Ent.refl _|apply Ent.take))) ac ?_)
 rintro _ _ ⟨_,⟨rfl,rfl⟩,hL⟩
 simp only [List.cons_append,List.nil_append] at hL;subst hL
 repeat first|refine aa ?_|intro _
 have hst:=jJ (L:=[]) yb lb Y hY S hI.sok hI.good hI.cok acc 9 k m (S.now+200)
 have hR19:=hI.start ab acc 9 k m (S.now+200) (by unfold I64;omega)
 have hsr1:=rB (Y:=Y) ky hsrc acc 9 k m (S.now+200)
 refine GO.ent (L':=bF yb lb Y::LedR lb S::osl cP 3 tHd ad1 cap1 hs1::bz::L) ae ?_
 rcases sT hI hH ab hR.1 hR.2 hcat (k:=k) (n:=m) (acc:=acc) ab ab ab with e|⟨S1,Y1,fin,e,hjl,hjf,hfb,c1,c2,S2,Y2,c3,hbal,hf5,c4⟩
 ·rw [e] at hst
  dsimp only at hst
  (first|refine GO.ef (Ef.call (hst) rfl (by repeat (first|exact Ent.refl _|apply Ent.take))) ac ?_)
  rintro _ _ ⟨_,⟨rfl,rfl⟩,hL⟩
  simp only [List.cons_append,List.nil_append] at hL;subst hL
  repeat first|refine aa ?_|intro _
  (first|refine GO.ef (Ef.call (gW (L:=[]) lb S hsrc ab) rfl (by repeat (first|exact Ent.refl _|apply Ent.take))) ac ?_)
  rintro _ _ ⟨_,⟨ad2,cap2,hs2,rfl,⟨hh2,hl2⟩,rfl⟩,hL⟩
  simp only [List.cons_append,List.nil_append] at hL;subst hL
  have e2:hs2=hs1:=hh2.unique hh1 (fun _ _=>rfl)
  repeat first|refine aa ?_|intro _
  refine GO.ef (Ef.a6 (kO ad2 ad1 hs2.length hs1.length cap2 cap1 hs2 hs1 rfl rfl ab) rfl) ac ?_
  rintro _ _ ⟨rfl,rfl⟩
  rw [ay e2]
  repeat first|refine aa ?_|intro _
  refine GO.ent (L':=bz::L) ae ?_
  refine GO.ef (Ef.a6 (kc) rfl) ac ?_
  rintro _ _ ⟨rfl,rfl⟩
  repeat first|refine aa ?_|intro _
  exact KX.a6 ai (Ent.refl _) ⟨rfl,rfl⟩
 rw [e] at hst hR19 hsr1
 dsimp only at hst hR19 hsr1
 have hY1:=hR19.yok
 have hS1:=hR19.sok
 have hcat1:S1.cat=cat16:=by
  have h1:=rn hI ⟨0,acc,k,9,m,S.now+200⟩
  rw [ti rfl rfl] at h1
  dsimp only at h1
  rw [e] at h1
  exact h1.trans hcat
 have hil1:S1.cat.items.length≤64:=by rw [hcat1];decide
 have hR2:=hR19.cancel acc Y.jobs.length (fin - 1)
 have hsr2:=qJ (Y:=Y1) ky hsr1 acc Y.jobs.length (fin - 1)
 rw [c3] at hR2 hsr2
 dsimp only at hR2 hsr2
 have hcat2:S2.cat=cat16:=by
  have h1:=rn hR19 ⟨1,acc,Y.jobs.length,0,0,fin - 1⟩
  rw [th rfl rfl] at h1
  dsimp only at h1
  rw [c3] at h1
  exact h1.trans hcat1
 have hf2:S2.flows.length≤100000:=ab
 have hil2:S2.cat.items.length≤64:=by rw [hcat2];decide
 have hjob:=lT (L:=[]) yb lb Y1 hY1 Y.jobs.length hjl
 simp only [av] at hjob
 rw [hjf] at hjob
 have hc1:=gd (L:=[]) yb lb Y1 hY1 S1 hS1 hR19.cok hil1 acc Y.jobs.length fin
 rw [c1] at hc1
 have hc2:=gd (L:=[]) yb lb Y1 hY1 S1 hS1 hR19.cok hil1 (acc+1) Y.jobs.length (S.now+200)
 rw [c2] at hc2
 have hc3:=gd (L:=[]) yb lb Y1 hY1 S1 hS1 hR19.cok hil1 acc Y.jobs.length (fin - 1)
 rw [c3] at hc3
 have hc4:=gd (L:=[]) yb lb Y2 hR2.yok S2 hR2.sok hR2.cok hil2 acc Y.jobs.length (fin - 1)
 rw [c4] at hc4
 dsimp only at hc1 hc2 hc3 hc4
 (first|refine GO.ef (Ef.call (hst) rfl (by repeat (first|exact Ent.refl _|apply Ent.take))) ac ?_)
 rintro _ _ ⟨_,⟨rfl,rfl⟩,hL⟩
 simp only [List.cons_append,List.nil_append] at hL;subst hL
 repeat first|refine aa ?_|intro _
 (first|refine GO.ef (Ef.call (hjob) rfl (by repeat (first|exact Ent.refl _|apply Ent.take))) ac ?_)
 rintro _ _ ⟨_,⟨rfl,rfl⟩,hL⟩
 simp only [List.cons_append,List.nil_append] at hL;subst hL
 repeat first|refine aa ?_|intro _
 (first|refine GO.ef (Ef.call (hc1) rfl (by repeat (first|exact Ent.refl _|apply Ent.take))) ac ?_)
 rintro _ _ ⟨_,⟨rfl,rfl⟩,hL⟩
 simp only [List.cons_append,List.nil_append] at hL;subst hL
 repeat first|refine aa ?_|intro _
 (first|refine GO.ef (Ef.call (hc2) rfl (by repeat (first|exact Ent.refl _|apply Ent.take))) ac ?_)
 rintro _ _ ⟨_,⟨rfl,rfl⟩,hL⟩
 simp only [List.cons_append,List.nil_append] at hL;subst hL
 repeat first|refine aa ?_|intro _
 (first|refine GO.ef (Ef.call (hc3) rfl (by repeat (first|exact Ent.refl _|apply Ent.take))) ac ?_)
 rintro _ _ ⟨_,⟨rfl,rfl⟩,hL⟩
 simp only [List.cons_append,List.nil_append] at hL;subst hL
 repeat first|refine aa ?_|intro _
 (first|refine GO.ef (Ef.call (gW (L:=[]) lb S2 hsr2 hf2) rfl (by repeat (first|exact Ent.refl _|apply Ent.take))) ac ?_)
 rintro _ _ ⟨_,⟨ad2,cap2,hs2,rfl,⟨hh2,hl2⟩,rfl⟩,hL⟩
 simp only [List.cons_append,List.nil_append] at hL;subst hL
 have e2:hs2=hs1:=hh2.unique hh1 hbal
 repeat first|refine aa ?_|intro _
 refine GO.ef (Ef.a6 (kO ad2 ad1 hs2.length hs1.length cap2 cap1 hs2 hs1 rfl rfl ab) rfl) ac ?_
 rintro _ _ ⟨rfl,rfl⟩
 rw [ay e2]
 repeat first|refine aa ?_|intro _
 (first|refine GO.ef (Ef.call (hc4) rfl (by repeat (first|exact Ent.refl _|apply Ent.take))) ac ?_)
 rintro _ _ ⟨_,⟨rfl,rfl⟩,hL⟩
 simp only [List.cons_append,List.nil_append] at hL;subst hL
 repeat first|refine aa ?_|intro _
 refine GO.ent (L':=bz::L) ae ?_
 refine GO.ef (Ef.a6 (kc) rfl) ac ?_
 rintro _ _ ⟨rfl,rfl⟩
 repeat first|refine aa ?_|intro _
 exact KX.a6 ai (Ent.refl _) ⟨rfl,rfl⟩
end
end Go.Proofs.YtfmgkkofledkbaaGreatDoor
