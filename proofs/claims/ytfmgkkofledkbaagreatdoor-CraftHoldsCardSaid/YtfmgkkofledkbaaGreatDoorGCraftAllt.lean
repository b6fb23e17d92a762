/- The model of package ledger: whether a step performs a rule. -/
import Derived.Test.YtfmgkkofledkbaaGreatDoorGCraftAllo
set_option linter.all false
set_option maxHeartbeats 8000000
namespace Go.Proofs.YtfmgkkofledkbaaGreatDoor
open Go.V
attribute [local irreducible] G GO GP GPW GPK Ev Ef EfR Ent CB GB V.Enters
section
def lA (ms:List MvV) (times:Int) (a:Int×Int) (m:MvV):Prop:=m.m.frm=ms[0]!.m.frm∧1≤m.m.frm∧m.m.to=0∧m.m.item=a.1∧m.m.n=a.2*times
def lC (ms:List MvV) (times:Int) (a:Int×Int) (m:MvV):Prop:=m.m.frm=0∧1≤m.m.to∧m.m.to=ms[ms.length - 1]!.m.to∧m.m.item=a.1∧m.m.n=a.2*times
def ot (tk gv:List (Int×Int)) (ms:List MvV) (times:Int) (k:Nat):Prop:=∀ j,j<k→(j<tk.length→lA ms times tk[j]! ms[j]!)∧(tk.length≤j→lC ms times gv[j - tk.length]! ms[j]!)
theorem ET {c:Nat} {tk gv:List (Int×Int)} {ms:List MvV} {times:Int} (hf:∀ m∈ms,fitR c m.m) (hl:ms.length=tk.length+gv.length) :
  ot tk gv ms times ms.length↔(∀ i:Nat,i<tk.length→lz (ms.map MvV.m) times tk[i]! (ms.map MvV.m)[i]!)∧(∀ i:Nat,i<gv.length→lG ((ms.map MvV.m)[tk.length]!).to times gv[i]! (ms.map MvV.m)[tk.length+i]!):=by
 have hg:∀ i,i<ms.length→(ms.map MvV.m)[i]! = ms[i]!.m:=fun i hi=>qJ ms hi
 constructor
 ·intro h
  refine ⟨fun i hi=>?_,fun i hi=>?_⟩
  ·rw [hg i ab]
   obtain ⟨h1,h2,h3,h4,h5⟩:=(h i ab).1 hi
   refine ⟨?_,h3,h4,h5⟩
   rw [hg 0 ab]
   exact h1
  ·rw [hg (tk.length+i) ab,hg tk.length ab]
   obtain ⟨h1,h2,h3,h4,h5⟩:=(h (tk.length+i) ab).2 ab
   obtain ⟨_,_,g3,_,_⟩:=(h tk.length ab).2 (Nat.le_refl _)
   rw [show tk.length+i - tk.length=i by omega] at h4 h5
   exact ⟨h1,h3.trans g3.symm,h4,h5⟩
 ·rintro ⟨h1,h2⟩ j hj
  refine ⟨fun hi=>?_,fun hi=>?_⟩
  ·obtain ⟨g1,g2,g3,g4⟩:=h1 j hi
   rw [hg j hj] at g1 g2 g3 g4
   rw [hg 0 ab] at g1
   have hm:=hf _ (ap hj)
   obtain ⟨_,_,f3,⟨f4,_⟩,_⟩:=hm
   exact ⟨g1,ab,g2,g3,g4⟩
  ·obtain ⟨g1,g2,g3,g4⟩:=h2 (j - tk.length) ab
   rw [show tk.length+(j - tk.length)=j by omega,hg j hj] at g1 g2 g3 g4
   rw [hg tk.length ab] at g2
   obtain ⟨q1,q2,q3,q4⟩:=h2 (ms.length - 1 - tk.length) ab
   rw [show tk.length+(ms.length - 1 - tk.length)=ms.length - 1 by omega,hg (ms.length - 1) ab,hg tk.length ab] at q2
   have hm:=hf _ (ap hj)
   obtain ⟨_,_,f3,⟨_,f5,_⟩,_⟩:=hm
   exact ⟨g1,ab,g2.trans q2.symm,g3,g4⟩
theorem Du {tk gv:List (Int×Int)} {ms:List MvV} {times:Int} {k:Nat} (h:ot tk gv ms times k) (hk:(k<tk.length→lA ms times tk[k]! ms[k]!)∧(tk.length≤k→lC ms times gv[k - tk.length]! ms[k]!)):ot tk gv ms times (k+1):=fun j hj=>by
 rcases Nat.lt_or_ge j k with h1|h1
 ·exact h j h1
 ·obtain rfl:j=k:=ab
  exact hk
theorem FE {r:Int} (h0:0≤au r):(r<0↔r < -1)∧(r<0→au r = -2 - r)∧(¬r<0→au r=r):=by
 unfold au at *
 refine ⟨?_,fun h=>?_,fun h=>?_⟩
 ·split at h0<;>omega
 ·split at h0
  ·rw [if_pos ab]
  ·omega
 ·rw [if_neg ab]
abbrev wC:List Stp:=[.ev 0,.ev 1,.ev 2,.ev 3,.ev 4,.ev 5,.ev 6,.ev 7,.ev 8,.ev 9,.ev 10,.ev 11,.ev 12,.ev 13,.ev 14,.ev 15,.ev 16,.ev 17,.ev 18,.ev 19,.ev 20,.ev 21,.ev 22,.ev 23,.ev 24,.ev 25,.ev 26,.ev 27,.ev 28,.ev 29,.ev 30,.ev 31,.ev 32,.ev 33,.ev 34]
abbrev wB:List Stp:=[.ev 0,.ev 1,.ev 2,.ev 3,.ev 4,.ev 5,.ev 6,.ev 7,.ev 8,.ev 9,.ev 10,.ev 11,.ev 12,.ev 13,.ev 14,.ev 15,.ev 16,.ev 17,.ev 18,.ev 19,.ev 20,.ev 21,.ev 22,.ev 23,.ev 24,.ev 25,.ev 26,.ev 27,.ev 28,.ev 29,.ev 30,.ev 31,.ev 32,.ev 33,.ev 34,.ev 35,.ev 36,.ev 37,.ev 38,.ev 39,.ev 40]
abbrev wA:List Stp:=[.ev 0,.ev 1,.ev 2,.ev 3,.ev 4,.ev 5,.ev 6,.ev 7,.ev 8,.ev 9,.ev 10,.ev 11,.ev 12,.ev 13,.ev 14,.ev 15,.ev 16,.ev 17,.ev 18,.ev 19,.ev 20,.ev 21,.ev 22,.ev 23,.ev 24,.ev 25,.ev 26,.ev 27,.ev 28,.ev 29,.ev 30,.ev 31,.ev 32,.ev 33,.ev 34,.ev 35,.ev 36,.ev 37,.ev 38]
theorem aQ {φ ψ:Prop} (k:ψ) (h:Hid ψ→φ:=by intro k;(with_reducible apply G.a7);first|refine G.a6 (N:=218) (id:=10) wC mixed ah (Hid.out k)|refine G.a6 (N:=218) (id:=17) wB mixed ah (Hid.out k)|refine G.a6 (N:=218) (id:=20) wA mixed ah (Hid.out k)):φ:=h ⟨k⟩
theorem wv {L R:List HP} {b:Nat} {sh:Int} {x:RLX} [hp:PickObj L b tRL (az sh x) R] (s:StV) [hrm:Rds L s.mad MvV aJ 5 s.moves] (hg:CatGood x.cat.m) (hc:x.cat.m.Ok) (hB:x.cat.B) (hms:1≤s.moves.length∧s.moves.length≤64) (hI:I64 s.rule) (hf:∀ m∈s.moves,fitR x.cat.items.length m.m) :
  Tri Tryz.prog 190 #[.pointer (some ⟨b,0,none⟩),.agg (aK s).toArray] (catP x.cat::L) (fun v L'=>v=.bool (dB (dX x.cat.m.rules s.rule s.times (s.moves.map MvV.m)))∧L' = L):=by
 obtain ⟨hI1,hI2⟩:=hI
 have hrl:=hB.rules
 have hlen:x.cat.m.rules.length=x.cat.rules.length:=by simp [CatV.m]
 refine Tri.body (args:=[.pointer (some ⟨b,0,none⟩),.agg (aK s).toArray]) 218 It Tryz.func190 rfl rfl rfl (by simp) ?_
 repeat first|((fail_if_success (with_reducible refine G.c7 2 ?_));(with_reducible apply G.seq))|refine aL ?_|intro _|refine aQ ?_
 rename_i b3
 refine G.a8 (α:=Unit) (fun _=>True) (fun _=>[(0,.pointer (some ⟨b,0,none⟩)),(3,.pointer (some ⟨b3,0,none⟩)),(5,.int .i64 (if s.rule<0 then -2 - s.rule else s.rule))]) (fun _=>obj b3 cy (aK s)::catP x.cat::L) ?_ ?_
 ·by_cases hf:s.rule<0
  ·repeat first|refine aa ?_|intro _|refine aQ ?_
   refine ⟨(),trivial,?_,by exact ae⟩
   rw [if_pos hf]
   exact aj
  ·repeat first|refine aa ?_|intro _|refine aQ ?_
   refine ⟨(),trivial,?_,by exact ae⟩
   rw [if_neg hf]
   exact aj
 rintro _ _
 by_cases h1:0≤au s.rule
 case neg =>
  have e:¬0≤(if s.rule<0 then -2 - s.rule else s.rule):=by
   unfold au at h1
   split<;>split at h1<;>omega
  obtain ⟨q,hq⟩:∃ q,(if s.rule<0 then -2 - s.rule else s.rule)=q:=⟨_,rfl⟩
  rw [hq] at e
  rw [hq]
  repeat first|refine aa ?_|intro _|refine aQ ?_
  exact KX.a6 ai ae ⟨by rw [an (fun h=>h1 h.1.1)];rfl,rfl⟩
 obtain ⟨x1,x2,x3⟩:=FE h1
 have hix0:(if s.rule<0 then -2 - s.rule else s.rule)=au s.rule:=by
  by_cases q:s.rule<0
  ·rw [if_pos q,x2 q]
  ·rw [if_neg q,x3 q]
 rw [hix0]
 by_cases h2:au s.rule<x.cat.rules.length
 case neg =>
  repeat first|refine aa ?_|intro _|refine aQ ?_
  exact KX.a6 ai ae ⟨by rw [an (fun h=>h2 (by have:=h.1.2;omega))];rfl,rfl⟩
 by_cases h3a:1≤s.times
 case neg =>
  repeat first|refine aa ?_|intro _|refine aQ ?_
  exact KX.a6 ai ae ⟨by rw [an (fun h=>h3a h.2.1.1)];rfl,rfl⟩
 by_cases h3b:s.times≤1048576
 case neg =>
  repeat first|refine aa ?_|intro _|refine aQ ?_
  exact KX.a6 ai ae ⟨by rw [an (fun h=>h3b h.2.1.2)];rfl,rfl⟩
 have hix:(au s.rule).toNat<x.cat.rules.length:=ab
 have hmem:x.cat.rules[(au s.rule).toNat]!∈x.cat.rules:=ap hix
 have hrm' : x.cat.m.rules[(au s.rule).toNat]! = x.cat.rules[(au s.rule).toNat]!.m:=ek RuV.m hix
 have hmm:x.cat.rules[(au s.rule).toNat]!.m∈x.cat.m.rules:=List.mem_map_of_mem hmem
 have hrg:=hg.ru _ hmm
 refine G.ent (Ent.at (A:=catP x.cat) (catOpenR.trans (Ent.a6 (Ent.a6 Ent.drop)))) ?_
 refine G.ent (Ent.at (A:=allP ruP x.cat.rules) ((Ent.a8 (f:=ruP) hmem).trans (ruOpen.trans (Ent.a6 (Ent.a6 (Ent.a6 Ent.drop)))))) ?_
 have hru:=hB.ru _ hmem
 have hct:=hc.take _ hmm
 have hcg:=hc.give _ hmm
 have hcb:=hc.back _ hmm
 have hcr:dX x.cat.m.rules s.rule s.times (s.moves.map MvV.m)↔(x.cat.rules[(au s.rule).toNat]!.spawn=false∧¬(s.rule < -1∧x.cat.rules[(au s.rule).toNat]!.chance ≥ x.cat.rules[(au s.rule).toNat]!.of_)∧s.moves.length=x.cat.rules[(au s.rule).toNat]!.take.l.length+(x.cat.rules[(au s.rule).toNat]!.given s.rule).l.length ∧
   (∀ i:Nat,i<x.cat.rules[(au s.rule).toNat]!.take.l.length→lz (s.moves.map MvV.m) s.times x.cat.rules[(au s.rule).toNat]!.take.l[i]! (s.moves.map MvV.m)[i]!) ∧
   (∀ i:Nat,i<(x.cat.rules[(au s.rule).toNat]!.given s.rule).l.length→lG ((s.moves.map MvV.m)[x.cat.rules[(au s.rule).toNat]!.take.l.length]!).to s.times (x.cat.rules[(au s.rule).toNat]!.given s.rule).l[i]! (s.moves.map MvV.m)[x.cat.rules[(au s.rule).toNat]!.take.l.length+i]!)):=by
  unfold dX
  rw [hrm',vt,List.length_map]
  exact ⟨fun h=>h.2.2,fun h=>⟨⟨h1,ab⟩,⟨h3a,h3b⟩,h⟩⟩
 obtain ⟨hr1,hr2,hr3⟩:=hru
 simp only [AmB,RuV.m] at hct hcg hcb
 have hgl:(x.cat.rules[(au s.rule).toNat]!.given s.rule).l.length≤64:=by unfold RuV.given;split<;>assumption
 have hgb:∀ a∈(x.cat.rules[(au s.rule).toNat]!.given s.rule).l,0≤a.2∧a.2≤1099511627776:=by unfold RuV.given;split<;>assumption
 have hch:x.cat.rules[(au s.rule).toNat]!.chance≤x.cat.rules[(au s.rule).toNat]!.of_:=hrg.num.2.2.2.2
 cases h4:x.cat.rules[(au s.rule).toNat]!.spawn with
 | true =>
  repeat first|refine aa ?_|intro _|refine aQ ?_
  rw [h4]
  repeat first|refine aa ?_|intro _|refine aQ ?_
  exact KX.a6 ai ae ⟨by rw [an (fun h=>by have:=(hcr.1 h).1;rw [h4] at this;cases this)];rfl,rfl⟩
 | false =>
 repeat first|((fail_if_success (with_reducible refine G.c7 8 ?_));(with_reducible apply G.seq))|refine aL ?_|intro _|refine aQ ?_
 rw [h4]
 repeat first|((fail_if_success (with_reducible refine G.c7 8 ?_));(with_reducible apply G.seq))|refine aL ?_|intro _|refine aQ ?_
 refine G.a8 (α:=Unit) (fun _=>True) (fun _=>[(0,.pointer (some ⟨b,0,none⟩)),(3,.pointer (some ⟨b3,0,none⟩)),(5,.int .i64 (au s.rule)),(6,.slice x.cat.rules[(au s.rule).toNat]!.take.ad x.cat.rules[(au s.rule).toNat]!.take.l.length x.cat.rules[(au s.rule).toNat]!.take.cap),(7,.slice (x.cat.rules[(au s.rule).toNat]!.given s.rule).ad (x.cat.rules[(au s.rule).toNat]!.given s.rule).l.length (x.cat.rules[(au s.rule).toNat]!.given s.rule).cap)]) (fun _=>amS (x.cat.rules[(au s.rule).toNat]!.given s.rule)::amS x.cat.rules[(au s.rule).toNat]!.take::isl aA 9 x.cat.rad x.cat.rules::obj b3 cy (aK s)::L) ?_ ?_
 ·by_cases q:s.rule<0
  ·have eg:(x.cat.rules[(au s.rule).toNat]!.given s.rule)=x.cat.rules[(au s.rule).toNat]!.back:=by unfold RuV.given;rw [if_pos (x1.1 q)]
   rw [eg]
   repeat first|refine aa ?_|intro _|refine aQ ?_
   exact ⟨(),trivial,aj,by exact ae⟩
  ·have eg:(x.cat.rules[(au s.rule).toNat]!.given s.rule)=x.cat.rules[(au s.rule).toNat]!.give:=by unfold RuV.given;rw [if_neg (fun w=>q (x1.2 w))]
   rw [eg]
   repeat first|refine aa ?_|intro _|refine aQ ?_
   exact ⟨(),trivial,aj,by exact ae⟩
 rintro _ _
 by_cases h5:s.rule<0∧x.cat.rules[(au s.rule).toNat]!.chance=x.cat.rules[(au s.rule).toNat]!.of_
 ·obtain ⟨h5a,h5b⟩:=h5
  repeat first|refine aa ?_|intro _|refine aQ ?_
  exact KX.a6 ai ae ⟨by rw [an (fun h=>(hcr.1 h).2.1 ⟨x1.1 h5a,ab⟩)];rfl,rfl⟩
 have h5' : ¬(s.rule < -1∧x.cat.rules[(au s.rule).toNat]!.chance ≥ x.cat.rules[(au s.rule).toNat]!.of_):=fun q=>h5 ⟨ab,ab⟩
 by_cases h6:s.moves.length=x.cat.rules[(au s.rule).toNat]!.take.l.length+(x.cat.rules[(au s.rule).toNat]!.given s.rule).l.length
 case neg =>
  by_cases h5a:s.rule<0
  ·have h5b:¬x.cat.rules[(au s.rule).toNat]!.chance=x.cat.rules[(au s.rule).toNat]!.of_:=fun q=>h5 ⟨h5a,q⟩
   repeat first|refine aa ?_|intro _|refine aQ ?_
   exact KX.a6 ai ae ⟨by rw [an (fun h=>h6 (hcr.1 h).2.2.1)];rfl,rfl⟩
  ·repeat first|refine aa ?_|intro _|refine aQ ?_
   exact KX.a6 ai ae ⟨by rw [an (fun h=>h6 (hcr.1 h).2.2.1)];rfl,rfl⟩
 have hiff:dX x.cat.m.rules s.rule s.times (s.moves.map MvV.m)↔ot x.cat.rules[(au s.rule).toNat]!.take.l (x.cat.rules[(au s.rule).toNat]!.given s.rule).l s.moves s.times s.moves.length:=by
  rw [hcr,ET hf h6]
  exact ⟨fun h=>⟨h.2.2.2.1,h.2.2.2.2⟩,fun h=>⟨h4,h5',h6,h.1,h.2⟩⟩
 refine G.a8 (α:=Unit) (fun _=>True) (fun _=>[(0,.pointer (some ⟨b,0,none⟩)),(3,.pointer (some ⟨b3,0,none⟩)),(5,.int .i64 (au s.rule)),(6,.slice x.cat.rules[(au s.rule).toNat]!.take.ad x.cat.rules[(au s.rule).toNat]!.take.l.length x.cat.rules[(au s.rule).toNat]!.take.cap),(7,.slice (x.cat.rules[(au s.rule).toNat]!.given s.rule).ad (x.cat.rules[(au s.rule).toNat]!.given s.rule).l.length (x.cat.rules[(au s.rule).toNat]!.given s.rule).cap)]) (fun _=>amS (x.cat.rules[(au s.rule).toNat]!.given s.rule)::amS x.cat.rules[(au s.rule).toNat]!.take::isl aA 9 x.cat.rad x.cat.rules::obj b3 cy (aK s)::L) ?_ ?_
 ·by_cases h5a:s.rule<0
  ·have h5b:¬x.cat.rules[(au s.rule).toNat]!.chance=x.cat.rules[(au s.rule).toNat]!.of_:=fun q=>h5 ⟨h5a,q⟩
   repeat first|refine aa ?_|intro _|refine aQ ?_
   exact ⟨(),trivial,aj,by exact ae⟩
  ·repeat first|refine aa ?_|intro _|refine aQ ?_
   exact ⟨(),trivial,aj,by exact ae⟩
 rintro _ _
 have hl1:((s.moves.length:Int) - 1).toNat=s.moves.length - 1:=ab
 have hl1' : ((s.moves.length:Int) - 1).toNat<s.moves.length:=ab
 repeat first|refine aa ?_|intro _|refine aQ ?_
 refine G.loop (α:=Nat) (fun k=>k≤s.moves.length∧ot x.cat.rules[(au s.rule).toNat]!.take.l (x.cat.rules[(au s.rule).toNat]!.given s.rule).l s.moves s.times k) (fun k=>[(0,.pointer (some ⟨b,0,none⟩)),(3,.pointer (some ⟨b3,0,none⟩)),(5,.int .i64 (au s.rule)),(6,.slice x.cat.rules[(au s.rule).toNat]!.take.ad x.cat.rules[(au s.rule).toNat]!.take.l.length x.cat.rules[(au s.rule).toNat]!.take.cap),(7,.slice (x.cat.rules[(au s.rule).toNat]!.given s.rule).ad (x.cat.rules[(au s.rule).toNat]!.given s.rule).l.length (x.cat.rules[(au s.rule).toNat]!.given s.rule).cap),(8,.int .i64 (k:Int))]) (fun _=>amS (x.cat.rules[(au s.rule).toNat]!.given s.rule)::amS x.cat.rules[(au s.rule).toNat]!.take::isl aA 9 x.cat.rad x.cat.rules::obj b3 cy (aK s)::L) (fun k=>s.moves.length - k) 0 ⟨Nat.zero_le _,fun j hj=>absurd hj (Nat.not_lt_zero j)⟩ aj (Ent.refl _) ?_
 rintro k ⟨hk,hok⟩
 by_cases hlt:k<s.moves.length
 case neg =>
  obtain rfl:k=s.moves.length:=ab
  repeat first|refine aa ?_|intro _|refine aQ ?_
  exact KX.a6 ai ae ⟨by rw [aw (hiff.2 hok)];rfl,rfl⟩
 have hkk:(k:Int).toNat=k:=Int.toNat_natCast k
 have hlt' : (k:Int).toNat<s.moves.length:=ab
 have hno:¬((k<x.cat.rules[(au s.rule).toNat]!.take.l.length→lA s.moves s.times x.cat.rules[(au s.rule).toNat]!.take.l[k]! s.moves[k]!)∧(x.cat.rules[(au s.rule).toNat]!.take.l.length≤k→lC s.moves s.times (x.cat.rules[(au s.rule).toNat]!.given s.rule).l[k - x.cat.rules[(au s.rule).toNat]!.take.l.length]! s.moves[k]!))→dB (dX x.cat.m.rules s.rule s.times (s.moves.map MvV.m))=false:=fun hn=>an (fun q=>hn (hiff.1 q k hlt))
 have hnext:((k<x.cat.rules[(au s.rule).toNat]!.take.l.length→lA s.moves s.times x.cat.rules[(au s.rule).toNat]!.take.l[k]! s.moves[k]!)∧(x.cat.rules[(au s.rule).toNat]!.take.l.length≤k→lC s.moves s.times (x.cat.rules[(au s.rule).toNat]!.given s.rule).l[k - x.cat.rules[(au s.rule).toNat]!.take.l.length]! s.moves[k]!))→ot x.cat.rules[(au s.rule).toNat]!.take.l (x.cat.rules[(au s.rule).toNat]!.given s.rule).l s.moves s.times (k+1):=fun h=>Du hok h
 repeat first|((fail_if_success (with_reducible refine G.c7 16 ?_));(with_reducible apply G.seq))|refine aL ?_|intro _|refine aQ ?_
 rename_i b9
 rw [hkk]
 by_cases ht:k<x.cat.rules[(au s.rule).toNat]!.take.l.length
 ·have htm:=hct _ (ap ht)
  have hmb:0≤x.cat.rules[(au s.rule).toNat]!.take.l[(k:Int).toNat]!.2*s.times∧x.cat.rules[(au s.rule).toNat]!.take.l[(k:Int).toNat]!.2*s.times≤1099511627776*1048576:=by
   rw [hkk]
   exact ⟨Int.mul_nonneg htm.1 ab,Int.mul_le_mul htm.2 h3b ab ac⟩
  have hno' : ¬lA s.moves s.times x.cat.rules[(au s.rule).toNat]!.take.l[k]! s.moves[k]!→dB (dX x.cat.m.rules s.rule s.times (s.moves.map MvV.m))=false:=fun q=>hno (fun w=>q (w.1 ht))
  have hkt:(k:Int).toNat<x.cat.rules[(au s.rule).toNat]!.take.l.length:=ab
  by_cases c1:s.moves[k]!.m.frm=s.moves[(0:Int).toNat]!.m.frm
  case neg =>
   repeat first|refine aa ?_|intro _|refine aQ ?_
   exact KX.a6 ai ae ⟨by rw [hno' (fun q=>c1 q.1)];rfl,rfl⟩
  by_cases c2:1≤s.moves[k]!.m.frm
  case neg =>
   repeat first|refine aa ?_|intro _|refine aQ ?_
   exact KX.a6 ai ae ⟨by rw [hno' (fun q=>c2 q.2.1)];rfl,rfl⟩
  by_cases c3:s.moves[k]!.m.to=0
  case neg =>
   repeat first|refine aa ?_|intro _|refine aQ ?_
   exact KX.a6 ai ae ⟨by rw [hno' (fun q=>c3 q.2.2.1)];rfl,rfl⟩
  by_cases c4:s.moves[k]!.m.item=x.cat.rules[(au s.rule).toNat]!.take.l[(k:Int).toNat]!.1
  case neg =>
   repeat first|refine aa ?_|intro _|refine aQ ?_
   exact KX.a6 ai ae ⟨by rw [hno' (fun q=>c4 (by rw [hkk];exact q.2.2.2.1))];rfl,rfl⟩
  by_cases c5:s.moves[k]!.m.n=x.cat.rules[(au s.rule).toNat]!.take.l[(k:Int).toNat]!.2*s.times
  case neg =>
   repeat first|refine aa ?_|intro _|refine aQ ?_
   exact KX.a6 ai ae ⟨by rw [hno' (fun q=>c5 (by rw [hkk];exact q.2.2.2.2))];rfl,rfl⟩
  repeat first|refine aa ?_|intro _|refine aQ ?_
  rw [hkk] at c4 c5
  refine ⟨k+1,⟨ab,hnext ⟨fun _=>⟨c1,c2,c3,c4,c5⟩,fun q=>absurd q ab⟩⟩,ab,?_,by exact ae⟩
  rw [show ((k+1:Nat):Int)=(k:Int)+1 by omega]
  exact aj
 ·have hke:((k:Int) - (x.cat.rules[(au s.rule).toNat]!.take.l.length:Int)).toNat=k - x.cat.rules[(au s.rule).toNat]!.take.l.length:=ab
  have hkg:((k:Int) - (x.cat.rules[(au s.rule).toNat]!.take.l.length:Int)).toNat<(x.cat.rules[(au s.rule).toNat]!.given s.rule).l.length:=ab
  have htm:=hgb _ (ap hkg)
  have hmb:0≤(x.cat.rules[(au s.rule).toNat]!.given s.rule).l[((k:Int) - (x.cat.rules[(au s.rule).toNat]!.take.l.length:Int)).toNat]!.2*s.times∧(x.cat.rules[(au s.rule).toNat]!.given s.rule).l[((k:Int) - (x.cat.rules[(au s.rule).toNat]!.take.l.length:Int)).toNat]!.2*s.times≤1099511627776*1048576:=⟨Int.mul_nonneg htm.1 ab,Int.mul_le_mul htm.2 h3b ab ac⟩
  have hno' : ¬lC s.moves s.times (x.cat.rules[(au s.rule).toNat]!.given s.rule).l[k - x.cat.rules[(au s.rule).toNat]!.take.l.length]! s.moves[k]!→dB (dX x.cat.m.rules s.rule s.times (s.moves.map MvV.m))=false:=fun q=>hno (fun w=>q (w.2 ab))
  by_cases c1:s.moves[k]!.m.frm=0
  case neg =>
   repeat first|refine aa ?_|intro _|refine aQ ?_
   exact KX.a6 ai ae ⟨by rw [hno' (fun q=>c1 q.1)];rfl,rfl⟩
  by_cases c2:1≤s.moves[k]!.m.to
  case neg =>
   repeat first|refine aa ?_|intro _|refine aQ ?_
   exact KX.a6 ai ae ⟨by rw [hno' (fun q=>c2 q.2.1)];rfl,rfl⟩
  by_cases c3:s.moves[k]!.m.to=s.moves[((s.moves.length:Int) - 1).toNat]!.m.to
  case neg =>
   repeat first|refine aa ?_|intro _|refine aQ ?_
   exact KX.a6 ai ae ⟨by rw [hno' (fun q=>c3 (by rw [hl1];exact q.2.2.1))];rfl,rfl⟩
  by_cases c4:s.moves[k]!.m.item=(x.cat.rules[(au s.rule).toNat]!.given s.rule).l[((k:Int) - (x.cat.rules[(au s.rule).toNat]!.take.l.length:Int)).toNat]!.1
  case neg =>
   repeat first|refine aa ?_|intro _|refine aQ ?_
   exact KX.a6 ai ae ⟨by rw [hno' (fun q=>c4 (by rw [hke];exact q.2.2.2.1))];rfl,rfl⟩
  by_cases c5:s.moves[k]!.m.n=(x.cat.rules[(au s.rule).toNat]!.given s.rule).l[((k:Int) - (x.cat.rules[(au s.rule).toNat]!.take.l.length:Int)).toNat]!.2*s.times
  case neg =>
   repeat first|refine aa ?_|intro _|refine aQ ?_
   exact KX.a6 ai ae ⟨by rw [hno' (fun q=>c5 (by rw [hke];exact q.2.2.2.2))];rfl,rfl⟩
  repeat first|refine aa ?_|intro _|refine aQ ?_
  rw [hke] at c4 c5
  rw [hl1] at c3
  refine ⟨k+1,⟨ab,hnext ⟨fun q=>absurd q ht,fun _=>⟨c1,c2,c3,c4,c5⟩⟩⟩,ab,?_,by exact ae⟩
  rw [show ((k+1:Nat):Int)=(k:Int)+1 by omega]
  exact aj
end
end Go.Proofs.YtfmgkkofledkbaaGreatDoor
