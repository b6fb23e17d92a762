/- Lemmas. -/
import Derived.Test.YtommnllbflbdmaaGreatDoorIG33
set_option linter.all false
set_option maxHeartbeats 4000000
namespace Go.Proofs.YtommnllbflbdmaaGreatDoor
section
open Go.V
attribute [local irreducible] G GO GP GPW GPK GF GE Ev Ef EfR Ent CB GB V.Enters
def wx(b1 b2:Nat)(frm to item n:Int)(p:Lot){L:LH}:Ent (obj b1 tLot (ao p)::obj b2 tMv [ac frm,ac to,ac item,ac n,.slice (some ⟨b1,0,none⟩) 1 1]::L) (isl aQ 5 (some ⟨b2,0,none⟩) [(⟨⟨frm,to,item,n,[p]⟩,some ⟨b1,0,none⟩,1⟩:MvV)]::allP mvP [(⟨⟨frm,to,item,n,[p]⟩,some ⟨b1,0,none⟩,1⟩:MvV)]::L):=by
 refine(Ent.g7 (enc:=ao) (sz:=3) (xs:=[p]) (n:=1) (by simp) rfl (fun _ _=>rfl) ah).trans (Ent.freezeSl.trans ?_);refine(Ent.g9 (f:=mvP) (x:=(⟨⟨frm,to,item,n,[p]⟩,some ⟨b1,0,none⟩,1⟩:MvV)) iI).trans ?_;exact Ent.swap.trans ((Ent.g7 (enc:=aQ) (sz:=5) (xs:=[(⟨⟨frm,to,item,n,[p]⟩,some ⟨b1,0,none⟩,1⟩:MvV)]) (n:=1) rfl rfl (fun _ _=>rfl) ah).trans Ent.freezeSl)
def mH{L:LH}(b:Nat)(sh:Int)(i:Nat)(S:LedM)(x:RLX)(h:GenR sh i S x)(hi:i≤100)(s:StV)(hs:StG0 s) :
  Tri ag 38 #[av b,.agg (aL s).toArray] (rlL b sh x (stM s::stP s::L)) (fun v L'=>∃(r e:Int) (S' : LedM) (x' : RLX),v=.tuple #[ac r,ac e]∧GenR sh (i+1) S' x'∧L' = rlL b sh x' (stM s::stP s::L)):=by
 obtain⟨k,hk,hl⟩:=h.led;have hd:=h.shard;subst hd;have hm:=hs.k;refine(qx b S k hl.g (h.cat▸rC) (h.cat▸cat16_good) s hs.inp ab x h.rf).conseq ?_;rintro v _ ⟨rfl,x',hF,h0,h1,h2,rfl⟩;exact⟨_,⟨_,_,cR S s.m,x',rfl,h.post ab hs hF h0 h1 h2,rfl⟩,Ent.refl _⟩
def BY{sh:Int}(a0:0≤sh∧sh<12){c:CatV}(hc:c.m=cat16)(hB:c.B):GenR sh 0 (led0 sh cat16) ⟨c,[],none,0,[],none,0,[],none,0⟩ :=
 ⟨⟨hc,hB,rfl,rfl,fun _ _=>rfl,fun _=>rfl,(fun s hs=>by cases hs),aB _,List.nodup_nil,(fun f hf=>by cases hf),bj _⟩,⟨0,aB _,wI a0 cat16⟩,rfl,rfl,aB _,(fun s hs=>by cases hs),(fun s hs=>by cases hs),.zero,(fun f hf=>by cases hf)⟩
def CX{L:LH}(sh:Int)(a2:0≤sh∧sh<12)(a1:OA)(nn nc:Nat)(xs:List Int)[hr:Rds L a1 Int (encZ .i64) 1 xs](hn:nn=xs.length)(a6:∀y∈xs,I64 y)(a0:Nat)(hm:a0≤90) :
  Tri ag 37 #[ac sh,.slice a1 nn nc,ac (a0:Int)] L (fun v L'=>∃(b:Nat) (S:LedM) (x:RLX),v=av b∧GenR sh a0 S x∧L' = rlL b sh x L):=by
 refine Tri.bd ?_;refine Hz ?_;intros;refine GO.ca (nR) ?_;rintro _ _⟨c,rfl,⟨hc,hB⟩,rfl⟩;simp only[CatV.cells];refine Hz ?_;intros;rename_i b;refine G.loop (α:=Nat×LedM×RLX) (fun z=>z.1≤a0∧GenR sh z.1 z.2.1 z.2.2) (fun z=>[(1,.slice a1 nn nc),(2,ac (a0:Int)),(7,av b),(8,ac (z.1:Int))]) (fun z=>rlL b sh z.2.2 L) (fun z=>a0 - z.1) (0,led0 sh cat16,⟨c,[],none,0,[],none,0,[],none,0⟩) ⟨aj _,BY a2 hc hB⟩ ai ?_ ?_
 ·refine(Ent.e7 rsP).trans ((Ent.e7 flP).trans ((Ent.e7 bK).trans ((Ent.d9 gT 3 tRS).trans ((Ent.d9 aM 11 bY).trans ((Ent.d9 aL 7 bB).trans ?_)))));simp only[rlL,aI];exact ae
 rintro⟨i,S,x⟩ ⟨hi,hg⟩;dsimp only at hi hg ⊢;by_cases a7:i<a0
 case neg =>
  obtain rfl:i=a0:=ab;refine Hz ?_;intros;exact KX.en ⟨b,S,x,rfl,hg,rfl⟩
 have hb:=hg.bnd ab;have a5:=hg.rf.cat.trans hg.cat;have a3:=hg.rf.catB;refine Hz ?_;intros;refine GO.ca (BX b sh a2 x a5 a3 hb.ok hb.stks hb.steps a1 nn nc xs hn a6 (6*(i:Int)) ab) ?_;rintro _ _⟨s,rfl,hs,rfl⟩;refine Hz ?_;intros;refine GO.ent (L':=rlL b sh x (stM s::stP s::L)) (by simp only[rlL,aI];exact ae) ?_;refine GO.ca (mH b sh i S x hg ab s hs) ?_;rintro _ _⟨r,e,S',x',rfl,a4,rfl⟩;refine Hz ?_;intros;refine⟨(i+1,S',x'),⟨by dsimp only;omega,a4⟩,by dsimp only;omega,?_,?_⟩
 ·dsimp only;rw[aK i];exact ai
 ·simp only[rlL,aI];exact ae
