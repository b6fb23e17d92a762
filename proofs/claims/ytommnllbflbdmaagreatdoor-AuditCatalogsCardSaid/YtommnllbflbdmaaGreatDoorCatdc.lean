/- Lemmas. -/
import Derived.Test.YtommnllbflbdmaaGreatDoorCatdb
import Derived.Test.YtommnllbflbdmaaGreatDoorCatV26
set_option linter.all false
set_option maxHeartbeats 16000000
namespace Go.Proofs.YtommnllbflbdmaaGreatDoor
section
open Go.V
attribute [local irreducible] G GO GP GPW GPK GF GE Ev Ef EfR Ent CB GB V.Enters
abbrev badN:List ByteArray:=[⟨#[]⟩,⟨#[66,105,103]⟩,⟨#[97,98,99,100,101,102,103,104,105,106,107,108,109,110,111,112,113]⟩,⟨#[97,32,98]⟩]
def NmB(s:ByteArray):Prop:=IsWord s∨s∈badN
abbrev tab12:List Int:=[0,1,-1,2,100,101,1000000,1000001,1048576,1048577,10000,10001]
def FF{k:Nat}(h:k<tab12.length) : -1≤tab12[k]!∧tab12[k]!≤1048577:=by
 have:∀x∈tab12,-1≤x∧x≤1048577:=by decide
 exact this _ (aL h)
def gR{L:LH}(g:Nat)(ad:OA)(n c:Nat)(i:Int)(xs:List Int)[hrd:Rds L ad Int (encZ .i64) 1 xs](hn:n=xs.length)(hx:∀x∈xs,I64 x) :
  Tri ai 128 #[aq g] (gen9 g ad n c i::L) (fun v L'=>∃p i',v=ac p∧(-1≤p∧p≤1048577)∧L' = gen9 g ad n c i'::L):=by
 refine Tri.bd ?_;refine IF ?_;intros;rename_i bl;refine GO.ent (L':=gen9 g ad n c i::isl (encZ .i64) 1 (some ⟨bl,0,none⟩) tab12::L) ((Ent.l5 (b:=bl) (enc:=encZ .i64) (sz:=1) tab12 rfl (fun _ _=>rfl) ag).trans ah) ?_;refine GO.ca (bL g ad n c i xs hn hx 12 ab) ?_;rintro _ _⟨p,i1,rfl,⟨a0,a1⟩,rfl⟩;have hl:tab12.length=12:=rfl;have hb:=FF (ab:p.toNat<tab12.length);refine IF ?_;intros;exact KX.en ⟨_,i1,rfl,hb,rfl⟩
structure ItS (x:ItG):Prop where
 nm:NmB x.name
 num:(-1≤x.wear∧x.wear≤1048577)∧(-1≤x.bind∧x.bind≤3)∧-1≤x.level∧x.level≤1048577
abbrev pool7:List ByteArray:=[⟨#[103,111,108,100]⟩,⟨#[115,116,111,110,101]⟩,⟨#[]⟩,⟨#[66,105,103]⟩,⟨#[97,98,99,100,101,102,103,104,105,106,107,108,109,110,111,112,113]⟩,⟨#[97,32,98]⟩,⟨#[105,114,111,110]⟩]
def FR:∀s∈pool7,NmB s:=by
 intro s hs;simp only[bh,aH,or_false] at hs;rcases hs with rfl|rfl|rfl|rfl|rfl|rfl|rfl
 ·exact .inl (fJ (by decide +kernel))
 ·exact .inl (fJ (by decide +kernel))
 ·exact .inr bH
 ·exact .inr bH
 ·exact .inr bH
 ·exact .inr bH
 ·exact .inl (fJ (by decide +kernel))
def tJ{L:LH}(g:Nat)(ad:OA)(n c:Nat)(i:Int)(xs:List Int)[hrd:Rds L ad Int (encZ .i64) 1 xs](hn:n=xs.length)(hx:∀x∈xs,I64 x)(x:ItG)(h:ItS x) :
  Tri ai 78 #[aN (be x),aq g] (gen9 g ad n c i::L) (fun v L'=>∃y i',v=aN (be y)∧ItS y∧L' = gen9 g ad n c i'::L):=by
 obtain⟨name,ob,mx,co,wear,bind,level⟩:=x;obtain⟨a1,hw,hb,a0⟩:=h;dsimp only at a1 hw hb a0;refine Tri.bd (args:=[aN (be ⟨name,ob,mx,co,wear,bind,level⟩),aq g]) ?_;simp only[be];refine IF ?_;intros;rename_i b2 b4;refine GO.ent (Ent.at (A:=gen9 g ad n c i) (Ent.refl _)) ?_;refine GO.ca (bL g ad n c i xs hn hx 7 ab) ?_;rintro _ _⟨p,i1,rfl,⟨a5,a6⟩,rfl⟩;have hp:p=0∨p=1∨p=2∨p=3∨p=4∨p=5∨p=6:=ab;rcases hp with rfl|rfl|rfl|rfl|rfl|rfl|rfl
 ·refine IF ?_;intros;rename_i bl;refine GO.ent (L':=gen9 g ad n c i1::isl cx 1 (some ⟨bl,0,none⟩) pool7::obj b2 tIt9 [.string name,.bool ob,.bool mx,.bool co,ac wear,ac bind,ac level]::obj b4 tIt9 [.string ⟨#[]⟩,.bool false,.bool false,.bool false,ac 0,ac 0,ac 0]::L) ((Ent.l5 (b:=bl) (enc:=cx) (sz:=1) pool7 rfl (fun _ _=>rfl) ag).trans ah) ?_;refine GO.ca (bL g ad n c i1 xs hn hx 7 ab) ?_;rintro _ _⟨q,i2,rfl,⟨a3,a4⟩,rfl⟩;have hl:pool7.length=7:=rfl;have a2:=FR _ (aL (ab:q.toNat<pool7.length));refine IF ?_;intros;exact KX.d7 (by exact ResOk.cell rfl aJ (ResOk.nil)) ah ⟨⟨pool7[q.toNat]!,ob,mx,co,wear,bind,level⟩,i2,rfl,⟨a2,hw,hb,a0⟩,rfl⟩
 ·refine IF ?_;intros;exact KX.d7 (by exact ResOk.cell rfl aJ (ResOk.nil)) ah ⟨⟨name,!ob,mx,co,wear,bind,level⟩,i1,rfl,⟨a1,hw,hb,a0⟩,rfl⟩
 ·refine IF ?_;intros;exact KX.d7 (by exact ResOk.cell rfl aJ (ResOk.nil)) ah ⟨⟨name,ob,!mx,co,wear,bind,level⟩,i1,rfl,⟨a1,hw,hb,a0⟩,rfl⟩
 ·refine IF ?_;intros;exact KX.d7 (by exact ResOk.cell rfl aJ (ResOk.nil)) ah ⟨⟨name,ob,mx,!co,wear,bind,level⟩,i1,rfl,⟨a1,hw,hb,a0⟩,rfl⟩
 ·refine IF ?_;intros;refine GO.ca (gR g ad n c i1 xs hn hx) ?_;rintro _ _⟨q,i2,rfl,hq,rfl⟩;refine IF ?_;intros;exact KX.d7 (by exact ResOk.cell rfl aJ (ResOk.nil)) ah ⟨⟨name,ob,mx,co,q,bind,level⟩,i2,rfl,⟨a1,hq,hb,a0⟩,rfl⟩
 ·refine IF ?_;intros;refine GO.ca (bL g ad n c i1 xs hn hx 5 ab) ?_;rintro _ _⟨q,i2,rfl,⟨a3,a4⟩,rfl⟩;refine IF ?_;intros;exact KX.d7 (by exact ResOk.cell rfl aJ (ResOk.nil)) ah ⟨⟨name,ob,mx,co,wear,q - 1,level⟩,i2,rfl,⟨a1,hw,by dsimp only;omega,a0⟩,rfl⟩
 ·refine IF ?_;intros;refine GO.ca (gR g ad n c i1 xs hn hx) ?_;rintro _ _⟨q,i2,rfl,hq,rfl⟩;refine IF ?_;intros;exact KX.d7 (by exact ResOk.cell rfl aJ (ResOk.nil)) ah ⟨⟨name,ob,mx,co,wear,bind,q⟩,i2,rfl,⟨a1,hw,hb,hq⟩,rfl⟩
abbrev tab6:List Int:=[0,1,3,-1,1099511627776,1099511627777]
def Hb{k:Nat}(h:k<tab6.length) : -1≤tab6[k]!∧tab6[k]!≤1099511627777:=by
 have:∀x∈tab6,-1≤x∧x≤1099511627777:=by decide
 exact this _ (aL h)
def AmW(l:List (Int×Int)):Prop:=∀a∈l,(-1≤a.1∧a.1≤1000)∧-1≤a.2∧a.2≤1099511627777
def AmW.snoc{l:List (Int×Int)}(h:AmW l){x:Int×Int}(hx:(-1≤x.1∧x.1≤1000)∧-1≤x.2∧x.2≤1099511627777):AmW (l++[x]):=by
 intro a ha;rcases List.mem_append.1 ha with ha|ha
 ·exact h a ha
 ·rw[List.mem_singleton.1 ha];exact hx
def AmW.set{l:List (Int×Int)}(h:AmW l){x:Int×Int}(hx:(-1≤x.1∧x.1≤1000)∧-1≤x.2∧x.2≤1099511627777)(k:Nat):AmW (l.set k x):=by
 intro a ha;rcases bX ha with ha|rfl
 ·exact h a ha
 ·exact hx
abbrev zX:=ar3 [.ev 5,.ef 4,.ev 6,.ef 7]
def XJ{φ ψ:Prop}(k:ψ)(h:Hid ψ→φ:=by intro k;(repeat (first|refine aa ?_|intro zzz|refine G.dr 39 5 zX ?_));(repeat revert zzz);exact Hid.out k):φ:=h ⟨k⟩
def jq{L:LH}(g:Nat)(ad:OA)(n c:Nat)(i:Int)(xs:List Int)[hrd:Rds L ad Int (encZ .i64) 1 xs](hn:n=xs.length)(hx:∀x∈xs,I64 x)
  (a3:OA) (ln lc:Nat) (l:List (Int×Int)) [b4:Rds L a3 (Int×Int) aV 2 l] (a4:ln=l.length) (hl:l.length≤1000) (hw:AmW l) :
  Tri ai 129 #[ae a3 ln lc,aq g] (gen9 g ad n c i::L)
   (fun v L'=>∃out a1 oc i',v=ae a1 out.length oc∧(AmW out∧out.length≤l.length+1)∧L' = osl aV 2 tAm9 a1 oc out::gen9 g ad n c i'::L):=by
 subst a4;refine Tri.bd ?_;refine XJ ?_;intros;refine GO.ent (Ent.d8 aV 2 tAm9) ?_;refine GO.ef (Ef.j0 (xs:=([]:List (Int×Int))) (ys:=l) rfl rfl rfl rfl rfl (fun e _=>gE e) fy fy) ag ?_;rintro _ _⟨a1,oc,rfl,rfl⟩;simp only[aj];refine XJ ?_;intros;refine GO.ent (Ent.at (A:=gen9 g ad n c i) (Ent.refl _)) ?_;refine GO.ca (bL g ad n c i xs hn hx 11 ab) ?_;rintro _ _⟨p,i1,rfl,⟨a8,a9⟩,rfl⟩;refine XJ ?_;intros;rename_i bl;refine GO.ent (L':=gen9 g ad n c i1::isl (encZ .i64) 1 (some ⟨bl,0,none⟩) tab6::osl aV 2 tAm9 a1 oc l::L) ((Ent.l5 (b:=bl) (enc:=encZ .i64) (sz:=1) tab6 rfl (fun _ _=>rfl) ag).trans ah) ?_;refine GO.ca (bL g ad n c i1 xs hn hx 6 ab) ?_;rintro _ _⟨q,i2,rfl,⟨b0,b1⟩,rfl⟩;have a7:tab6.length=6:=rfl;have hb:=Hb (ab:q.toNat<tab6.length);by_cases h0:0<l.length
 case neg =>
  refine XJ ?_;intros;refine GO.ef (Ef.d7 (enc:=aV) (e:=(p - 1,tab6[q.toNat]!)) rfl rfl rfl rfl rfl aJ (gE _) ab ab) ag ?_;rintro _ _⟨a0,a2,rfl,rfl⟩;refine XJ ?_;intros;exact KX.d7 av ah ⟨l++[(p - 1,tab6[q.toNat]!)],a0,a2,i2,rfl,⟨hw.snoc ⟨by dsimp only;omega,hb⟩,by simp⟩,rfl⟩
 refine XJ ?_;intros;refine GO.ent (Ent.at (A:=gen9 g ad n c i2) (Ent.refl _)) ?_;refine GO.ca (bL g ad n c i2 xs hn hx 2 ab) ?_;rintro _ _⟨r,i3,rfl,⟨b2,b3⟩,rfl⟩;by_cases hr:r=0
 case neg =>
  refine XJ ?_;intros;refine GO.ef (Ef.d7 (enc:=aV) (e:=(p - 1,tab6[q.toNat]!)) rfl rfl rfl rfl rfl aJ (gE _) ab ab) ag ?_;rintro _ _⟨a0,a2,rfl,rfl⟩;refine XJ ?_;intros;exact KX.d7 av ah ⟨l++[(p - 1,tab6[q.toNat]!)],a0,a2,i3,rfl,⟨hw.snoc ⟨by dsimp only;omega,hb⟩,by simp⟩,rfl⟩
 refine XJ ?_;intros;refine GPW.ca (bL g ad n c i3 xs hn hx (l.length:Int) ab) ?_;rintro _ _⟨k,i4,rfl,⟨a5,a6⟩,rfl⟩;refine XJ ?_;intros;refine GPW.efu (Ef.e7 (enc:=aV) (e:=(p - 1,tab6[q.toNat]!)) rfl rfl aJ aJ (gE (p - 1,tab6[q.toNat]!)) ab) ?_;rintro _ _ rfl;refine XJ ?_;intros;exact KX.d7 av ah ⟨l.set k.toNat (p - 1,tab6[q.toNat]!),a1,oc,i4,by rw[bJ];rfl,⟨hw.set ⟨by dsimp only;omega,hb⟩ _,by rw[bJ];omega⟩,rfl⟩
abbrev NumW(x:Int):Prop:=-1≤x∧x≤1099511627777
def NumW.of{q:Int}(h : -1≤q∧q≤1048577):NumW q:=⟨h.1,ab⟩
structure RuS (r:RuV):Prop where
 nm:NmB r.name
 num:NumW r.level∧NumW r.time∧NumW r.chance∧NumW r.of_
 take:AmW r.take.l∧r.take.l.length≤10
 give:AmW r.give.l∧r.give.l.length≤10
 back:AmW r.back.l∧r.back.l.length≤10
abbrev poolB:List ByteArray:=[⟨#[115,109,101,108,116]⟩,⟨#[114,97,105,110]⟩,⟨#[109,105,110,101]⟩,⟨#[]⟩,⟨#[66,105,103]⟩,⟨#[102,111,114,103,101]⟩]
def FQ:∀s∈poolB,NmB s:=by
 intro s hs;simp only[bh,aH,or_false] at hs;rcases hs with rfl|rfl|rfl|rfl|rfl|rfl
 ·exact .inl (fJ (by decide +kernel))
 ·exact .inl (fJ (by decide +kernel))
 ·exact .inl (fJ (by decide +kernel))
 ·exact .inr bH
 ·exact .inr bH
 ·exact .inl (fJ (by decide +kernel))
def Hm{r:RuV}{L:LH}:Ent (ruP r::L) (amS r.take::amS r.give::amS r.back::ruP r::L) :=
 (Ent.dup (jp r).pers).trans (Ent.andE.trans (Ent.d7 Ent.andE))
def tA{L:LH}(g:Nat)(ad:OA)(n c:Nat)(i:Int)(xs:List Int)[hrd:Rds L ad Int (encZ .i64) 1 xs](hn:n=xs.length)(hx:∀x∈xs,I64 x)(r:RuV)(h:RuS r)(h9:r.take.l.length≤9∧r.give.l.length≤9∧r.back.l.length≤9) :
  Tri ai 79 #[aN (bj r),aq g] (ruP r::gen9 g ad n c i::L) (fun v L'=>∃y i',v=aN (bj y)∧RuS y∧L' = ruP y::ruP r::gen9 g ad n c i'::L):=by
 obtain⟨name,sp,level,time,chance,of_,⟨tl,tad,tc⟩,⟨gl,a1,gc⟩,⟨bl,a0,bc⟩⟩:=r;obtain⟨b3,⟨a8,a9,b0,b1⟩,⟨a5,b5⟩,⟨a4,a7⟩,⟨a3,a6⟩⟩:=h;dsimp only at b3 a8 a9 b0 b1 a5 b5 a4 a7 a3 a6 h9;generalize hRP:ruP ⟨name,sp,level,time,chance,of_,⟨tl,tad,tc⟩,⟨gl,a1,gc⟩,⟨bl,a0,bc⟩⟩=RP;have b7:∀M,Ent (RP::M) (isl aV 2 tad tl::isl aV 2 a1 gl::isl aV 2 a0 bl::RP::M):=fun M=>by rw[←hRP];exact Hm
 refine Tri.bd (args:=[aN (bj ⟨name,sp,level,time,chance,of_,⟨tl,tad,tc⟩,⟨gl,a1,gc⟩,⟨bl,a0,bc⟩⟩),aq g]) ?_;simp only[bj];refine G.ent (b7 _) ?_;refine IF ?_;intros;rename_i b2 b4;refine GO.ent (L':=gen9 g ad n c i::obj b2 tRu9 [.string name,.bool sp,ac level,ac time,ac chance,ac of_,ae tad tl.length tc,ae a1 gl.length gc,ae a0 bl.length bc]::isl aV 2 tad tl::isl aV 2 a1 gl::isl aV 2 a0 bl::RP::obj b4 tRu9 zRu::L) ah ?_;refine GO.ca (bL g ad n c i xs hn hx 9 ab) ?_;rintro _ _⟨p,i1,rfl,⟨c0,c1⟩,rfl⟩;have hp:p=0∨p=1∨p=2∨p=3∨p=4∨p=5∨p=6∨p=7∨p=8:=ab;rcases hp with rfl|rfl|rfl|rfl|rfl|rfl|rfl|rfl|rfl
 ·refine IF ?_;intros;rename_i bs;refine GO.ent (Ent.l5 (b:=bs) (enc:=cx) (sz:=1) poolB rfl (fun _ _=>rfl) ag) ?_;refine GO.ent (Ent.at (A:=gen9 g ad n c i1) (Ent.refl _)) ?_;refine GO.ca (bL g ad n c i1 xs hn hx 6 ab) ?_;rintro _ _⟨q,i2,rfl,⟨c2,c3⟩,rfl⟩;have hl:poolB.length=6:=rfl;have b9:=FQ _ (aL (ab:q.toNat<poolB.length));refine IF ?_;intros;exact KX.d7 (by exact ResOk.cell rfl aJ (ResOk.nil)) ((show Ent _ (amS ⟨tl,tad,tc⟩::amS ⟨gl,a1,gc⟩::amS ⟨bl,a0,bc⟩::RP::gen9 g ad n c i2::L) by exact ah).trans (iB (r:=⟨poolB[q.toNat]!,sp,level,time,chance,of_,⟨tl,tad,tc⟩,⟨gl,a1,gc⟩,⟨bl,a0,bc⟩⟩))) ⟨_,i2,rfl,⟨b9,⟨a8,a9,b0,b1⟩,⟨a5,b5⟩,⟨a4,a7⟩,⟨a3,a6⟩⟩,rfl⟩
 ·refine IF ?_;intros;exact KX.d7 (by exact ResOk.cell rfl aJ (ResOk.nil)) ((show Ent _ (amS ⟨tl,tad,tc⟩::amS ⟨gl,a1,gc⟩::amS ⟨bl,a0,bc⟩::RP::gen9 g ad n c i1::L) by exact ah).trans (iB (r:=⟨name,!sp,level,time,chance,of_,⟨tl,tad,tc⟩,⟨gl,a1,gc⟩,⟨bl,a0,bc⟩⟩))) ⟨_,i1,rfl,⟨b3,⟨a8,a9,b0,b1⟩,⟨a5,b5⟩,⟨a4,a7⟩,⟨a3,a6⟩⟩,rfl⟩
 ·refine IF ?_;intros;refine GO.ca (gR g ad n c i1 xs hn hx) ?_;rintro _ _⟨q,i2,rfl,hq,rfl⟩;refine IF ?_;intros;exact KX.d7 (by exact ResOk.cell rfl aJ (ResOk.nil)) ((show Ent _ (amS ⟨tl,tad,tc⟩::amS ⟨gl,a1,gc⟩::amS ⟨bl,a0,bc⟩::RP::gen9 g ad n c i2::L) by exact ah).trans (iB (r:=⟨name,sp,q,time,chance,of_,⟨tl,tad,tc⟩,⟨gl,a1,gc⟩,⟨bl,a0,bc⟩⟩))) ⟨_,i2,rfl,⟨b3,⟨NumW.of hq,a9,b0,b1⟩,⟨a5,b5⟩,⟨a4,a7⟩,⟨a3,a6⟩⟩,rfl⟩
 ·refine IF ?_;intros;refine GO.ca (gR g ad n c i1 xs hn hx) ?_;rintro _ _⟨q,i2,rfl,hq,rfl⟩;refine IF ?_;intros;exact KX.d7 (by exact ResOk.cell rfl aJ (ResOk.nil)) ((show Ent _ (amS ⟨tl,tad,tc⟩::amS ⟨gl,a1,gc⟩::amS ⟨bl,a0,bc⟩::RP::gen9 g ad n c i2::L) by exact ah).trans (iB (r:=⟨name,sp,level,q,chance,of_,⟨tl,tad,tc⟩,⟨gl,a1,gc⟩,⟨bl,a0,bc⟩⟩))) ⟨_,i2,rfl,⟨b3,⟨a8,NumW.of hq,b0,b1⟩,⟨a5,b5⟩,⟨a4,a7⟩,⟨a3,a6⟩⟩,rfl⟩
 ·refine IF ?_;intros;refine GO.ca (gR g ad n c i1 xs hn hx) ?_;rintro _ _⟨q,i2,rfl,hq,rfl⟩;refine IF ?_;intros;exact KX.d7 (by exact ResOk.cell rfl aJ (ResOk.nil)) ((show Ent _ (amS ⟨tl,tad,tc⟩::amS ⟨gl,a1,gc⟩::amS ⟨bl,a0,bc⟩::RP::gen9 g ad n c i2::L) by exact ah).trans (iB (r:=⟨name,sp,level,time,q,of_,⟨tl,tad,tc⟩,⟨gl,a1,gc⟩,⟨bl,a0,bc⟩⟩))) ⟨_,i2,rfl,⟨b3,⟨a8,a9,NumW.of hq,b1⟩,⟨a5,b5⟩,⟨a4,a7⟩,⟨a3,a6⟩⟩,rfl⟩
 ·refine IF ?_;intros;refine GO.ca (gR g ad n c i1 xs hn hx) ?_;rintro _ _⟨q,i2,rfl,hq,rfl⟩;refine IF ?_;intros;exact KX.d7 (by exact ResOk.cell rfl aJ (ResOk.nil)) ((show Ent _ (amS ⟨tl,tad,tc⟩::amS ⟨gl,a1,gc⟩::amS ⟨bl,a0,bc⟩::RP::gen9 g ad n c i2::L) by exact ah).trans (iB (r:=⟨name,sp,level,time,chance,q,⟨tl,tad,tc⟩,⟨gl,a1,gc⟩,⟨bl,a0,bc⟩⟩))) ⟨_,i2,rfl,⟨b3,⟨a8,a9,b0,NumW.of hq⟩,⟨a5,b5⟩,⟨a4,a7⟩,⟨a3,a6⟩⟩,rfl⟩
 ·refine IF ?_;intros;refine GO.ent (Ent.at (A:=gen9 g ad n c i1) (Ent.refl _)) ?_;refine GO.ca (jq g ad n c i1 xs hn hx tad tl.length tc tl rfl ab a5) ?_;rintro _ _⟨out,a2,oc,i2,rfl,⟨b6,b8⟩,rfl⟩;refine IF ?_;intros;exact KX.d7 (by exact ResOk.cell rfl aJ (ResOk.nil)) ((Ent.at (A:=osl aV 2 tAm9 a2 oc out) Ent.freezeSl).trans ((show Ent _ (amS ⟨out,a2,oc⟩::amS ⟨gl,a1,gc⟩::amS ⟨bl,a0,bc⟩::RP::gen9 g ad n c i2::L) by exact ah).trans (iB (r:=⟨name,sp,level,time,chance,of_,⟨out,a2,oc⟩,⟨gl,a1,gc⟩,⟨bl,a0,bc⟩⟩)))) ⟨_,i2,rfl,⟨b3,⟨a8,a9,b0,b1⟩,⟨b6,by dsimp only;omega⟩,⟨a4,a7⟩,⟨a3,a6⟩⟩,rfl⟩
 ·refine IF ?_;intros;refine GO.ent (Ent.at (A:=gen9 g ad n c i1) (Ent.refl _)) ?_;refine GO.ca (jq g ad n c i1 xs hn hx a1 gl.length gc gl rfl ab a4) ?_;rintro _ _⟨out,a2,oc,i2,rfl,⟨b6,b8⟩,rfl⟩;refine IF ?_;intros;exact KX.d7 (by exact ResOk.cell rfl aJ (ResOk.nil)) ((Ent.at (A:=osl aV 2 tAm9 a2 oc out) Ent.freezeSl).trans ((show Ent _ (amS ⟨tl,tad,tc⟩::amS ⟨out,a2,oc⟩::amS ⟨bl,a0,bc⟩::RP::gen9 g ad n c i2::L) by exact ah).trans (iB (r:=⟨name,sp,level,time,chance,of_,⟨tl,tad,tc⟩,⟨out,a2,oc⟩,⟨bl,a0,bc⟩⟩)))) ⟨_,i2,rfl,⟨b3,⟨a8,a9,b0,b1⟩,⟨a5,b5⟩,⟨b6,by dsimp only;omega⟩,⟨a3,a6⟩⟩,rfl⟩
 ·refine IF ?_;intros;refine GO.ent (Ent.at (A:=gen9 g ad n c i1) (Ent.refl _)) ?_;refine GO.ca (jq g ad n c i1 xs hn hx a0 bl.length bc bl rfl ab a3) ?_;rintro _ _⟨out,a2,oc,i2,rfl,⟨b6,b8⟩,rfl⟩;refine IF ?_;intros;exact KX.d7 (by exact ResOk.cell rfl aJ (ResOk.nil)) ((Ent.at (A:=osl aV 2 tAm9 a2 oc out) Ent.freezeSl).trans ((show Ent _ (amS ⟨tl,tad,tc⟩::amS ⟨gl,a1,gc⟩::amS ⟨out,a2,oc⟩::RP::gen9 g ad n c i2::L) by exact ah).trans (iB (r:=⟨name,sp,level,time,chance,of_,⟨tl,tad,tc⟩,⟨gl,a1,gc⟩,⟨out,a2,oc⟩⟩)))) ⟨_,i2,rfl,⟨b3,⟨a8,a9,b0,b1⟩,⟨a5,b5⟩,⟨a4,a7⟩,⟨b6,by dsimp only;omega⟩⟩,rfl⟩
structure TxS (t:TxV):Prop where
 nm:NmB t.name
 brs:∀b∈t.brs,NumW b.1∧NumW b.2
 len:t.brs.length≤30
abbrev poolY:List ByteArray:=[⟨#[115,97,108,101]⟩,⟨#[115,116,97,108,108]⟩,⟨#[]⟩,⟨#[66,105,103]⟩]
abbrev poolZ:List ByteArray:=[⟨#[99,104,101,115,116]⟩,⟨#[104,101,114,98]⟩,⟨#[]⟩,⟨#[66,105,103]⟩]
def poolY_nm:(∀s∈poolY,NmB s)∧∀s∈poolZ,NmB s:=by
 refine⟨fun s hs=>?_,fun s hs=>?_⟩
 all_goals
  simp only[bh,aH,or_false] at hs
  rcases hs with rfl|rfl|rfl|rfl
  ·exact .inl (fJ (by decide +kernel))
  ·exact .inl (fJ (by decide +kernel))
  ·exact .inr bH
  ·exact .inr bH
def ya{l:List (Int×Int)}(h:∀b∈l,NumW b.1∧NumW b.2){x:Int×Int}(hx:NumW x.1∧NumW x.2):∀b∈l++[x],NumW b.1∧NumW b.2:=by
 intro b hb;rcases List.mem_append.1 hb with hb|hb
 ·exact h b hb
 ·rw[List.mem_singleton.1 hb];exact hx
def qh{L:LH}(g:Nat)(ad:OA)(n c:Nat)(i:Int)(xs:List Int)[hrd:Rds L ad Int (encZ .i64) 1 xs](hn:n=xs.length)(hx:∀x∈xs,I64 x)(t:TxV)(h:TxS t)(h9:t.brs.length≤20) :
  Tri ai 81 #[aN (bN t),aq g] (txP t::gen9 g ad n c i::L) (fun v L'=>∃y i',v=aN (bN y)∧TxS y∧L' = txP y::txP t::gen9 g ad n c i'::L):=by
 obtain⟨name,brs,a0,bc⟩:=t;obtain⟨a6,a3,a9⟩:=h;dsimp only at a6 a3 a9 h9;change Tri _ _ _ (isl aV 2 a0 brs::_) _;refine Tri.bd (args:=[aN (bN ⟨name,brs,a0,bc⟩),aq g]) ?_;simp only[bN];refine IF ?_;intros;rename_i b2 b4;refine GO.ent (Ent.d8 aV 2 tBr9) ?_;refine GO.ef (Ef.j0 (xs:=([]:List (Int×Int))) (ys:=brs) rfl rfl rfl rfl rfl (fun e _=>gE e) fy fy) ag ?_;rintro _ _⟨a8,oc,rfl,rfl⟩;simp only[aj];refine GO.d8 (gg (ad:=a8) (cap:=oc) (xs:=brs) (enc:=aV) (sz:=2) (E:=tBr9)) ?_;rintro⟨b7,c4⟩;refine IF ?_;intros;refine GO.ent (Ent.at (A:=gen9 g ad n c i) (Ent.refl _)) ?_;refine GO.ca (bL g ad n c i xs hn hx 3 ab) ?_;rintro _ _⟨p,i1,rfl,⟨c5,c6⟩,rfl⟩;have hp:p=0∨p=1∨p=2:=ab;rcases hp with rfl|rfl|rfl
 ·refine IF ?_;intros;rename_i bs;refine GO.ent (Ent.l5 (b:=bs) (enc:=cx) (sz:=1) poolY rfl (fun _ _=>rfl) ag) ?_;refine GO.ent (Ent.at (A:=gen9 g ad n c i1) (Ent.refl _)) ?_;refine GO.ca (bL g ad n c i1 xs hn hx 4 ab) ?_;rintro _ _⟨q,i2,rfl,⟨c0,c1⟩,rfl⟩;have hl:poolY.length=4:=rfl;have b6:=poolY_nm.1 _ (aL (ab:q.toNat<poolY.length));refine IF ?_;intros;exact KX.d7 (by exact ResOk.cell rfl aJ (ResOk.nil)) ((show Ent _ (isl aV 2 a0 brs::gen9 g ad n c i2::L) by exact ah).trans (Ent.dup (bI aV 2 a0 brs).pers)) ⟨⟨poolY[q.toNat]!,brs,a0,bc⟩,i2,rfl,⟨b6,a3,a9⟩,rfl⟩
 ·refine IF ?_;intros;refine GO.ca (gR g ad n c i1 xs hn hx) ?_;rintro _ _⟨q,i2,rfl,hq,rfl⟩;refine IF ?_;intros;refine GO.ca (gR g ad n c i2 xs hn hx) ?_;rintro _ _⟨r,i3,rfl,hr,rfl⟩;refine IF ?_;intros;refine GO.ef (Ef.d7 (enc:=aV) (e:=(q,r)) rfl rfl rfl rfl rfl aJ (gE _) ab ab) ag ?_;rintro _ _⟨a1,b1,rfl,rfl⟩;refine IF ?_;intros;have a5:(brs++[(q,r)]).length=brs.length+1:=by simp
  exact KX.d7 (by exact ResOk.cell rfl aJ (ResOk.nil)) ((Ent.at (A:=osl aV 2 tBr9 a1 b1 (brs++[(q,r)])) Ent.freezeSl).trans (show Ent _ (isl aV 2 a1 (brs++[(q,r)])::isl aV 2 a0 brs::gen9 g ad n c i3::L) by exact ah)) ⟨⟨name,brs++[(q,r)],a1,b1⟩,i3,rfl,⟨a6,ya a3 ⟨NumW.of hq,NumW.of hr⟩,by dsimp only;omega⟩,rfl⟩
 ·refine IF ?_;intros;refine GO.ca (bL g ad n c i1 xs hn hx 2 ab) ?_;rintro _ _⟨q,i2,rfl,⟨c0,c1⟩,rfl⟩;obtain⟨Q,hQ⟩:∃Q:Nat,(Q:Int)=min q (brs.length:Int):=⟨(min q (brs.length:Int)).toNat,ab⟩;have c2:Q≤brs.length:=ab;have c3:Q≤1:=ab;have b3:(Q:Int).toNat=Q:=aD Q;refine IF ?_;intros;rw[←hQ,b3];refine GO.ca (bL g ad n c i2 xs hn hx 20 ab) ?_;rintro _ _⟨r,i3,rfl,⟨c7,c8⟩,rfl⟩;obtain⟨R,rfl⟩:∃R:Nat,r=(R:Int):=⟨r.toNat,ab⟩;have b5:(brs.take Q).length=Q:=by rw[bg];omega
  refine IF ?_;intros;refine G.ent ((Ent.at (A:=osl aV 2 tBr9 a8 oc brs) (Ent.n8 Q))) ?_
  refine G.loop (α:=Nat×List (Int×Int)×OA×Nat×Int) (fun z=>(∀b∈z.2.1,NumW b.1∧NumW b.2)∧z.2.1.length+z.1≤30∧z.1≤19)
   (fun z=>[(0,.agg #[.string name,ae a0 brs.length bc]),(1,aq g),(2,aq b2),(4,aq b4),(5,ae z.2.2.1 z.2.1.length z.2.2.2.1),(6,ac (z.1:Int))])
   (fun z=>gen9 g ad n c z.2.2.2.2::osl aV 2 tBr9 z.2.2.1 z.2.2.2.1 z.2.1::obj b2 tTx9 [.string name,ae a0 brs.length bc]::obj b4 tTx9 [.string ⟨#[]⟩,ae none 0 0]::isl aV 2 a0 brs::L) (fun z=>z.1) (R,brs.take Q,a8,oc,i3) ⟨fun b hb=>a3 b (cz hb),by dsimp only;omega,by dsimp only;omega⟩ (by dsimp only;rw[b5];exact an) ah ?_
  rintro⟨k,l,a7,lc,i4⟩ ⟨a4,b8,b9⟩;dsimp only at a4 b8 b9 ⊢;rcases k with _|k
  ·refine IF ?_;intros;exact KX.d7 (by exact ResOk.cell rfl aJ (ResOk.nil)) ((Ent.at (A:=osl aV 2 tBr9 a7 lc l) Ent.freezeSl).trans (show Ent _ (isl aV 2 a7 l::isl aV 2 a0 brs::gen9 g ad n c i4::L) by exact ah)) ⟨⟨name,l,a7,lc⟩,i4,rfl,⟨a6,a4,by dsimp only;omega⟩,rfl⟩
  refine IF ?_;intros;refine GO.ef (Ef.d7 (enc:=aV) (e:=(100000 - ((k+1:Nat):Int),((k+1:Nat):Int))) rfl rfl rfl rfl rfl aJ (gE _) ab ab) ag ?_;rintro _ _⟨a2,b0,rfl,rfl⟩;refine IF ?_;intros;have a5:(l++[(100000 - ((k+1:Nat):Int),((k+1:Nat):Int))]).length=l.length+1:=by simp
  exact⟨(k,l++[(100000 - ((k+1:Nat):Int),((k+1:Nat):Int))],a2,b0,i4),⟨ya a4 (by dsimp only[NumW];omega),by dsimp only;omega,by dsimp only;omega⟩,by dsimp only;omega,by rw[show(((k,l++[(100000 - ((k+1:Nat):Int),((k+1:Nat):Int))],a2,b0,i4).1:Nat):Int)=((k+1:Nat):Int) - 1 by dsimp only;omega];exact an,by exact ah⟩
def RwS(r:RwV):Prop:=NumW r.weight∧AmW r.give.l∧r.give.l.length≤10
structure TbS (t:TbV):Prop where
 nm:NmB t.name
 rows:∀r∈t.rows,RwS r
 len:t.rows.length≤100
def wb{l:List RwV}(h:∀r∈l,RwS r){x:RwV}(hx:RwS x):∀r∈l++[x],RwS r:=by
 intro b hb;rcases List.mem_append.1 hb with hb|hb
 ·exact h b hb
 ·rw[List.mem_singleton.1 hb];exact hx
def tw{w:Int}(hw:NumW w):RwS ⟨w,⟨[],none,0⟩⟩:=⟨hw,(fun _ h=>absurd h aH),az _⟩
def tB{L:LH}(g:Nat)(ad:OA)(n c:Nat)(i:Int)(xs:List Int)[hrd:Rds L ad Int (encZ .i64) 1 xs](hn:n=xs.length)(hx:∀x∈xs,I64 x)(t:TbV)(h:TbS t)(h9:1≤t.rows.length∧t.rows.length≤9)(b7:∀r∈t.rows,r.give.l.length≤9) :
  Tri ai 80 #[aN (bK t),aq g] (tbP t::gen9 g ad n c i::L) (fun v L'=>∃y i',v=aN (bK y)∧TbS y∧L' = tbP y::tbP t::gen9 g ad n c i'::L):=by
 obtain⟨name,rows,a1,bc⟩:=t;obtain⟨a9,a6,b6⟩:=h;dsimp only at a9 a6 b6 h9 b7;generalize hTP:tbP ⟨name,rows,a1,bc⟩=TP
 have a7:∀M,Ent (TP::M) (isl du 2 a1 rows::allP rwP rows::TP::M):=fun M=>by
  rw[←hTP];exact(Ent.dup (jn _).pers).trans Ent.andE
 have a0:∀(nm:ByteArray) (r:List RwV) (a:OA) (k:Nat) M,Ent (isl du 2 a r::allP rwP r::M) (tbP ⟨nm,r,a,k⟩::M):=fun nm r a k M=>Ent.e8 (bI du 2 a r) (cG kc);refine Tri.bd (args:=[aN (bK ⟨name,rows,a1,bc⟩),aq g]) ?_;simp only[bK];refine G.ent (a7 _) ?_;refine IF ?_;intros;rename_i b2 b4;refine GO.ent (Ent.d8 du 2 tRw9) ?_;refine GO.ef (Ef.j0 (xs:=([]:List RwV)) (ys:=rows) rfl rfl rfl rfl rfl (fun e _=>la e) fy fy) ag ?_;rintro _ _⟨a3,oc,rfl,rfl⟩;simp only[aj];refine GO.d8 (gg (ad:=a3) (cap:=oc) (xs:=rows) (enc:=du) (sz:=2) (E:=tRw9)) ?_;rintro⟨c6,d1⟩;refine IF ?_;intros;refine GO.ent (Ent.at (A:=gen9 g ad n c i) (Ent.refl _)) ?_;refine GO.ca (bL g ad n c i xs hn hx 4 ab) ?_;rintro _ _⟨p,i1,rfl,⟨d4,d5⟩,rfl⟩;have hp:p=0∨p=1∨p=2∨p=3:=ab;rcases hp with rfl|rfl|rfl|rfl
 ·refine IF ?_;intros;rename_i bs;refine GO.ent (Ent.l5 (b:=bs) (enc:=cx) (sz:=1) poolZ rfl (fun _ _=>rfl) ag) ?_;refine GO.ent (Ent.at (A:=gen9 g ad n c i1) (Ent.refl _)) ?_;refine GO.ca (bL g ad n c i1 xs hn hx 4 ab) ?_;rintro _ _⟨q,i2,rfl,⟨b8,b9⟩,rfl⟩;have hl:poolZ.length=4:=rfl;have c5:=poolY_nm.2 _ (aL (ab:q.toNat<poolZ.length));refine IF ?_;intros;exact KX.d7 (by exact ResOk.cell rfl aJ (ResOk.nil)) ((show Ent _ (isl du 2 a1 rows::allP rwP rows::TP::gen9 g ad n c i2::L) by exact ah).trans (a0 poolZ[q.toNat]! rows a1 bc _)) ⟨⟨poolZ[q.toNat]!,rows,a1,bc⟩,i2,rfl,⟨c5,a6,b6⟩,rfl⟩
 ·refine IF ?_;intros;refine GO.ca (gR g ad n c i1 xs hn hx) ?_;rintro _ _⟨q,i2,rfl,hq,rfl⟩;refine IF ?_;intros;refine GO.ef (Ef.d7 (enc:=du) (e:=⟨q,⟨[],none,0⟩⟩) rfl rfl rfl rfl rfl aJ (la _) ab ab) ag ?_;rintro _ _⟨a2,b5,rfl,rfl⟩;refine IF ?_;intros;have b3:(rows++[(⟨q,⟨[],none,0⟩⟩:RwV)]).length=rows.length+1:=by simp
  refine KX.d7 (by exact ResOk.cell rfl aJ (ResOk.nil)) ?_ ⟨⟨name,rows++[⟨q,⟨[],none,0⟩⟩],a2,b5⟩,i2,rfl,⟨a9,wb a6 (tw (NumW.of hq)),by dsimp only;omega⟩,rfl⟩;refine(Ent.f8 aV 2 none).trans ?_;refine(show Ent (rwP ⟨q,⟨[],none,0⟩⟩::_) _ from(Ent.at (A:=allP rwP rows) Ent.swap).trans (ix kc)).trans ?_;refine(Ent.at (A:=osl du 2 tRw9 a2 b5 (rows++[⟨q,⟨[],none,0⟩⟩])) Ent.freezeSl).trans ?_;exact(show Ent _ (isl du 2 a2 (rows++[⟨q,⟨[],none,0⟩⟩])::allP rwP (rows++[⟨q,⟨[],none,0⟩⟩])::TP::gen9 g ad n c i2::L) by exact ah).trans (a0 name _ a2 b5 _)
 ·refine IF ?_;intros;refine GO.ca (bL g ad n c i1 xs hn hx (rows.length:Int) ab) ?_;rintro _ _⟨q,i2,rfl,⟨b8,b9⟩,rfl⟩;have c0:q.toNat<rows.length:=ab;have a5:=aL c0;refine GO.ent ((Ent.at (A:=allP rwP rows) (Ent.d9 (f:=rwP) a5)).trans (show Ent _ (gen9 g ad n c i2::isl aV 2 rows[q.toNat]!.give.ad rows[q.toNat]!.give.l::obj b2 tTb9 [.string name,ae a1 rows.length bc]::osl du 2 tRw9 a3 oc rows::obj b4 tTb9 [.string ⟨#[]⟩,ae none 0 0]::allP rwP rows::TP::L) by exact ah)) ?_;obtain⟨c1,d0,e0⟩:=a6 _ a5;refine IF ?_;intros;refine GO.ca (jq g ad n c i2 xs hn hx rows[q.toNat]!.give.ad rows[q.toNat]!.give.l.length rows[q.toNat]!.give.cap rows[q.toNat]!.give.l rfl ab d0) ?_;rintro _ _⟨out,a4,uc,i3,rfl,⟨c9,d3⟩,rfl⟩;refine IF ?_;intros;refine GO.efu (Ef.l7 (enc:=du) (e:=⟨rows[q.toNat]!.weight,⟨out,a4,uc⟩⟩) rfl rfl aJ rfl c0 ag) ?_;rintro _ _ rfl;refine IF ?_;intros;have d2:=b7 _ a5;refine KX.d7 (by exact ResOk.cell rfl aJ (ResOk.nil)) ?_ ⟨⟨name,rows.set q.toNat ⟨rows[q.toNat]!.weight,⟨out,a4,uc⟩⟩,a3,oc⟩,i3,by rw[bJ];rfl,⟨a9,fun r hr=>?_,by dsimp only;rw[bJ];omega⟩,rfl⟩
  ·refine(Ent.at (A:=osl aV 2 tAm9 a4 uc out) Ent.freezeSl).trans ?_;refine(show Ent (rwP ⟨rows[q.toNat]!.weight,⟨out,a4,uc⟩⟩::_) _ from(Ent.at (A:=allP rwP rows) Ent.swap).trans (Ent.g9 kc)).trans ?_
   refine(Ent.l6 (l':=rows.set q.toNat ⟨rows[q.toNat]!.weight,⟨out,a4,uc⟩⟩) (fun x hx=>by
    rcases bX hx with h|h
    ·exact aw _ h
    ·rw[h];exact au)).trans ?_
   refine(Ent.at (A:=osl du 2 tRw9 a3 oc (rows.set q.toNat ⟨rows[q.toNat]!.weight,⟨out,a4,uc⟩⟩)) Ent.freezeSl).trans ?_;exact(show Ent _ (isl du 2 a3 (rows.set q.toNat ⟨rows[q.toNat]!.weight,⟨out,a4,uc⟩⟩)::allP rwP (rows.set q.toNat ⟨rows[q.toNat]!.weight,⟨out,a4,uc⟩⟩)::TP::gen9 g ad n c i3::L) by exact ah).trans (a0 name _ a3 oc _)
  ·rcases bX hr with h|h
   ·exact a6 r h
   ·rw[h];exact⟨c1,c9,by dsimp only;omega⟩
 ·refine IF ?_;intros;refine GO.ca (bL g ad n c i1 xs hn hx 2 ab) ?_;rintro _ _⟨q,i2,rfl,⟨b8,b9⟩,rfl⟩;obtain⟨Q,rfl⟩:∃Q:Nat,q=(Q:Int):=⟨q.toNat,ab⟩;have c3:(Q:Int).toNat=Q:=aD Q;refine IF ?_;intros;rw[c3];refine GO.ca (bL g ad n c i2 xs hn hx 70 ab) ?_;rintro _ _⟨r,i3,rfl,⟨d6,c1⟩,rfl⟩;obtain⟨R,rfl⟩:∃R:Nat,r=(R:Int):=⟨r.toNat,ab⟩;have c4:(rows.take Q).length=Q:=by rw[bg];omega
  refine IF ?_;intros;refine G.ent ((Ent.at (A:=osl du 2 tRw9 a3 oc rows) (Ent.n8 Q))) ?_;refine G.ent ((Ent.at (A:=allP rwP rows) (Ent.dup (cG kc).pers)).trans (Ent.l6 (l':=rows.take Q) (fun x hx=>cz hx))) ?_
  refine G.loop (α:=Nat×List RwV×OA×Nat×Int) (fun z=>(∀r∈z.2.1,RwS r)∧z.2.1.length+z.1≤100∧z.1≤69)
   (fun z=>[(0,.agg #[.string name,ae a1 rows.length bc]),(1,aq g),(2,aq b2),(4,aq b4),(5,ae z.2.2.1 z.2.1.length z.2.2.2.1),(7,ac (z.1:Int))])
   (fun z=>gen9 g ad n c z.2.2.2.2::osl du 2 tRw9 z.2.2.1 z.2.2.2.1 z.2.1::allP rwP z.2.1::obj b2 tTb9 [.string name,ae a1 rows.length bc]::obj b4 tTb9 [.string ⟨#[]⟩,ae none 0 0]::TP::L) (fun z=>z.1) (R,rows.take Q,a3,oc,i3) ⟨fun b hb=>a6 b (cz hb),by dsimp only;omega,by dsimp only;omega⟩ (by dsimp only;rw[c4];exact an) ah ?_
  rintro⟨k,l,b0,lc,i4⟩ ⟨b1,c7,c8⟩;dsimp only at b1 c7 c8 ⊢;rcases k with _|k
  ·refine IF ?_;intros;exact KX.d7 (by exact ResOk.cell rfl aJ (ResOk.nil)) ((Ent.at (A:=osl du 2 tRw9 b0 lc l) Ent.freezeSl).trans ((show Ent _ (isl du 2 b0 l::allP rwP l::TP::gen9 g ad n c i4::L) by exact ah).trans (a0 name l b0 lc _))) ⟨⟨name,l,b0,lc⟩,i4,rfl,⟨a9,b1,by dsimp only;omega⟩,rfl⟩
  refine IF ?_;intros;refine GO.ef (Ef.d7 (enc:=du) (e:=⟨((k+1:Nat):Int),⟨[],none,0⟩⟩) rfl rfl rfl rfl rfl aJ (la _) ab ab) ag ?_;rintro _ _⟨a8,c2,rfl,rfl⟩;refine IF ?_;intros;have b3:(l++[(⟨((k+1:Nat):Int),⟨[],none,0⟩⟩:RwV)]).length=l.length+1:=by simp
  refine⟨(k,l++[⟨((k+1:Nat):Int),⟨[],none,0⟩⟩],a8,c2,i4),⟨wb b1 (tw (by dsimp only[NumW];omega)),by dsimp only;omega,by dsimp only;omega⟩,by dsimp only;omega,by rw[show(((k,l++[(⟨((k+1:Nat):Int),⟨[],none,0⟩⟩:RwV)],a8,c2,i4).1:Nat):Int)=((k+1:Nat):Int) - 1 by dsimp only;omega];exact an,?_⟩;refine(Ent.f8 aV 2 none).trans ?_;refine(show Ent (rwP ⟨((k+1:Nat):Int),⟨[],none,0⟩⟩::_) _ from(Ent.at (A:=allP rwP l) Ent.swap).trans (ix kc)).trans ?_;exact ah
def decN(n:Nat):ByteArray:=if n<10 then⟨#[(48+n).toUInt8]⟩ else⟨#[(48+n / 10).toUInt8,(48+n % 10).toUInt8]⟩
abbrev dig10:ByteArray:=⟨#[48,49,50,51,52,53,54,55,56,57]⟩
def Dj:dig10.size=10:=by decide +kernel
def pY:∀n:Nat,n<10→(dig10.extract n (n+1)).size=1:=by decide +kernel
def IB:∀n:Nat,n<10→dig10.extract n (n+1)++(⟨#[]⟩:ByteArray)=decN n:=by decide +kernel
def IA:∀n:Nat,n<100→10≤n→dig10.extract (n / 10) (n / 10+1)++(dig10.extract (n % 10) (n % 10+1)++(⟨#[]⟩:ByteArray))=decN n:=by decide +kernel
def Fh:∀n:Nat,n<100→(dig10.extract (n % 10) (n % 10+1)++(⟨#[]⟩:ByteArray)).size=1:=by decide +kernel
def FY:∀n:Nat,n<100→((1≤((⟨#[110]⟩:ByteArray)++decN n).size∧((⟨#[110]⟩:ByteArray)++decN n).size≤16)∧fQ ((⟨#[110]⟩:ByteArray)++decN n) 0=3∧∀i:Nat,i<((⟨#[110]⟩:ByteArray)++decN n).size→fQ ((⟨#[110]⟩:ByteArray)++decN n) i=3∨fQ ((⟨#[110]⟩:ByteArray)++decN n) i=4∨fQ ((⟨#[110]⟩:ByteArray)++decN n) i=5):=by decide +kernel
def FZ:∀n:Nat,n<100→(⟨#[110]⟩:ByteArray).size+(decN n).size≤1000000000:=by decide +kernel
def Fi{L:LH}(n:Nat)(h:1≤n∧n<100):Tri ai 82 #[ac (n:Int)] L (rtQ (.string (decN n)) L):=by
 have a6:=Dj;obtain⟨h0,a2⟩:=h;refine Tri.bd ?_;refine IF ?_;intros;by_cases h1:n<10
 ·refine G.d9 2 (GR.step ?_);have hm:(n:Int) % 10=n:=ab;have hd:(n:Int) / 10=0:=ab;refine IF ?_;intros;refine GO.ev (Ev.l8 (s:=dig10) rfl rfl rfl ab ab ab) ag ?_;rw[hm,show(n:Int).toNat=n by omega,show((n:Int)+1).toNat=n+1 by omega];refine IF ?_;intros;have a0:(dig10.extract n (n+1)).size+(⟨#[]⟩:ByteArray).size≤1000000000:=by rw[pY n h1];decide
  refine GO.ev (Ev.p5 rfl rfl a0) ag ?_;rw[IB n h1];refine IF ?_;intros;refine GR.step ?_;refine IF ?_;intros;exact KX.en ⟨rfl,rfl⟩
 ·have hm:((n:Int) % 10).toNat=n % 10:=ab;have a3:((n:Int) % 10+1).toNat=n % 10+1:=ab;have a7:(0:Int)≤(n:Int) % 10∧(n:Int) % 10<10:=ab;have hq:(n:Int) / 10 % 10=(n:Int) / 10:=ab;have a4:((n:Int) / 10).toNat=n / 10:=ab;have a5:((n:Int) / 10+1).toNat=n / 10+1:=ab;have a8:(1:Int)≤(n:Int) / 10∧(n:Int) / 10<10:=ab;have a9:(n:Int) / 10 / 10=0:=ab;refine G.d9 3 (GR.step ?_);refine IF ?_;intros;refine GO.ev (Ev.l8 (s:=dig10) rfl rfl rfl ab ab ab) ag ?_;rw[hm,a3];refine IF ?_;intros;have a0:(dig10.extract (n % 10) (n % 10+1)).size+(⟨#[]⟩:ByteArray).size≤1000000000:=by rw[pY _ ab];decide
  refine GO.ev (Ev.p5 rfl rfl a0) ag ?_;refine IF ?_;intros;refine GR.step ?_;refine IF ?_;intros;rw[hq];refine GO.ev (Ev.l8 (s:=dig10) rfl rfl rfl ab ab ab) ag ?_;rw[a4,a5];refine IF ?_;intros;have a1:(dig10.extract (n / 10) (n / 10+1)).size+(dig10.extract (n % 10) (n % 10+1)++(⟨#[]⟩:ByteArray)).size≤1000000000:=by rw[pY _ ab,Fh n a2];decide
  refine GO.ev (Ev.p5 rfl rfl a1) ag ?_;rw[IA n a2 ab];refine IF ?_;intros;refine GR.step ?_;refine IF ?_;intros;exact KX.en ⟨rfl,rfl⟩
structure CatI (c:CatV):Prop where
 it:c.items.length≤9∧∀x∈c.items,ItS x
 ru:c.rules.length≤9∧∀r∈c.rules,RuS r∧r.take.l.length≤9∧r.give.l.length≤9∧r.back.l.length≤9
 tb:c.tables.length≤9∧∀t∈c.tables,TbS t∧(1≤t.rows.length∧t.rows.length≤9)∧∀r∈t.rows,r.give.l.length≤9
 tx:c.taxes.length≤9∧∀t∈c.taxes,TxS t∧t.brs.length≤20
structure CatW (c:CatV):Prop where
 it:c.items.length≤100∧∀x∈c.items,ItS x
 ru:c.rules.length≤100∧∀r∈c.rules,RuS r
 tb:c.tables.length≤100∧∀t∈c.tables,TbS t
 tx:c.taxes.length≤100∧∀t∈c.taxes,TxS t
def qE{n:Nat}{l:List (Int×Int)}(h:fS n l)(hn:n≤1000):AmW l:=fun a ha=>by
 have:=h.1 a ha
 omega
def Ij{c:CatV}(h:CatGood c.m)(h9:Cat9 c):CatI c:=by
 have a0:=h9.it;refine⟨⟨ab,fun x hx=>?_⟩,⟨by have:=h9.ru.1;omega,fun r hr=>?_⟩,⟨by have:=h9.tb.1;omega,fun t ht=>?_⟩,⟨by have:=h9.tx.1;omega,fun t ht=>?_⟩⟩
 ·obtain⟨g1,g2,g3,g4⟩:=h.it x hx;refine⟨.inl g1,?_⟩;by_cases ho:x.obj=true
  ·rw[if_pos ho] at g2;have:=g3 ho
   omega
  ·rw[if_neg ho] at g2;omega
 ·have g:=h.ru r.m (alStd0List_mem_map_of_mem hr);obtain⟨l1,l2,l3⟩:=(h9.rw r hr).len;have hn:c.m.items.length≤1000:=show c.items.length≤1000 by omega
  obtain⟨n1,n2,n3,n4⟩:=g.num;change r.take.l.length≤3 at l1;change r.give.l.length≤3 at l2;change r.back.l.length≤3 at l3;change 0≤r.level∧r.level≤100 at n1;change 0≤r.time∧r.time≤1000000 at n2;change 1≤r.of_∧r.of_≤1000000 at n3;change 1≤r.chance∧r.chance≤r.of_ at n4;exact⟨⟨.inl g.word,⟨ab,ab,ab,ab⟩,⟨qE g.take hn,ab⟩,⟨qE g.give hn,ab⟩,⟨qE g.back hn,ab⟩⟩,ab,ab,ab⟩
 ·have g:=h.tb t.m (alStd0List_mem_map_of_mem ht);have hn:c.m.items.length≤1000:=show c.items.length≤1000 by omega
  obtain⟨o1,o2⟩:=h9.tb.2 t ht;have g1:0<t.rows.length:=by have:=g.rows.1;rwa [TbV.m,aA] at this
  refine⟨⟨.inl g.word,fun r hr=>?_,ab⟩,⟨ab,ab⟩,fun r hr=>by have:=o2 r hr;omega⟩;have q:=g.good r.m (alStd0List_mem_map_of_mem hr);obtain⟨q1,q2⟩:=q.num;change 1≤r.weight at q1;change r.weight≤1099511627776 at q2;have:=o2 r hr
  exact⟨⟨ab,ab⟩,qE q.give hn,ab⟩
 ·have g:=h.tx t.m (alStd0List_mem_map_of_mem ht);have o:=h9.tx.2 t ht;exact⟨⟨.inl g.word,fun b hb=>by have:=g.num b hb;exact⟨⟨ab,ab⟩,ab,ab⟩,ab⟩,ab⟩
def Dr(C:CatV){L:LH}:Ent (catS C L) (catP C::L):=by
 refine(show Ent _ (isl bN 2 C.xad C.taxes::allP txP C.taxes::isl bK 2 C.tad C.tables::allP tbP C.tables::isl bj 9 C.rad C.rules::allP ruP C.rules::catI C::L) by
  unfold catI;simp only[catS];exact ah).trans ?_
 refine(Ent.e8 (bI bN 2 C.xad C.taxes) (cG ka)).trans ?_;refine(Ent.d7 (Ent.e8 (bI bK 2 C.tad C.tables) (cG jn))).trans ?_;refine(show Ent (catX C::catT C::_) _ from Ent.swap.trans (Ent.e8 (kw C) (ku C))).trans ?_;refine(Ent.d7 (Ent.e8 (bI bj 9 C.rad C.rules) (cG jp))).trans ?_;refine(show Ent (andP (catT C) (catX C)::catR C::_) _ from Ent.swap.trans (Ent.e8 (mX C) ((kw C).and (ku C)))).trans ?_;exact Ent.swap.trans (Ent.e8 (sY C) ((mX C).and ((kw C).and (ku C))))
structure CatQ (i:Nat) (c:CatV):Prop where
 it:c.items.length+i≤100∧∀x∈c.items,ItS x
 ru:c.rules.length+i≤100∧∀r∈c.rules,RuS r
 tb:c.tables.length+i≤100∧∀t∈c.tables,TbS t
 tx:c.taxes.length+i≤100∧∀t∈c.taxes,TxS t
abbrev nmN(i:Nat):ByteArray:=(⟨#[110]⟩:ByteArray)++decN i
def Ip{i:Nat}(h:i<100):NmB (nmN i):=.inl (fJ (FY i h))
def oR{α:Type}{P:α→Prop}{l:List α}(h:∀x∈l,P x){e:α}(he:P e):∀x∈l++[e],P x:=fun x hx=>(List.mem_append.1 hx).elim (h x) (fun q=>List.mem_singleton.1 q▸he)
def tW:AmW []∧([]:List (Int×Int)).length≤10:=⟨(fun _ h=>absurd h aH),az _⟩
abbrev zW:=ar5 [.ev 8,.ef 9,.ev 10,.ef 11]
abbrev zV:=ar5 [.ev 8,.ef 9,.ev 10,.ef 11]
abbrev zU:=ar4 [.ev 6,.ef 7,.ev 8,.ef 9]
abbrev zT:=ar4 [.ev 6,.ef 7,.ev 8,.ef 9]
def aY{φ ψ:Prop}(k:ψ)(h:Hid ψ→φ:=by intro k;(with_reducible apply G.d7);first|refine G.dr 192 10 zW (Hid.out k)|refine G.dr 192 13 zV (Hid.out k)|refine G.dr 192 15 zU (Hid.out k)|refine G.dr 192 17 zT (Hid.out k)):φ:=h ⟨k⟩
def XU{φ ψ:Prop}(k:ψ)(h:Hid ψ→φ:=by intro k;(repeat (first|refine aa ?_|intro zzz|refine aY ?_));(repeat revert zzz);exact Hid.out k):φ:=h ⟨k⟩
def Dv{L:LH}(cv:CatV)(hI:CatI cv)(ad:OA)(n c:Nat)(xs:List Int)[hrd:Rds L ad Int (encZ .i64) 1 xs](hn:n=xs.length)(hx:∀x∈xs,I64 x) :
  Tri ai 31 #[aN cv.cells,ae ad n c] (catP cv::L) (fun v L'=>∃d:CatV,v=aN d.cells∧CatW d∧L' = catP d::catP cv::L):=by
 subst hn;obtain⟨c6,iad,ic,rs,rad,rc,c4,tad,tc,xl,xad,xc⟩:=cv;obtain⟨⟨j4,e4⟩,⟨j5,g8⟩,⟨j6,h1⟩,⟨j7,h3⟩⟩:=hI;dsimp only at j4 e4 j5 g8 j6 h1 j7 h3;have d5:∀M,Ent (catP ⟨c6,iad,ic,rs,rad,rc,c4,tad,tc,xl,xad,xc⟩::M) (isl be 7 iad c6::isl bj 9 rad rs::allP ruP rs::isl bK 2 tad c4::allP tbP c4::isl bN 2 xad xl::allP txP xl::catP ⟨c6,iad,ic,rs,rad,rc,c4,tad,tc,xl,xad,xc⟩::M):=fun M=>catS_open;generalize hC0:catP ⟨c6,iad,ic,rs,rad,rc,c4,tad,tc,xl,xad,xc⟩=C0 at d5 ⊢;refine Tri.bd (args:=[aN (CatV.cells ⟨c6,iad,ic,rs,rad,rc,c4,tad,tc,xl,xad,xc⟩),ae ad xs.length c]) ?_;simp only[CatV.cells];refine G.ent (d5 _) ?_;refine XU ?_;intros;rename_i b2 b4 g b6;refine GO.ent (Ent.d8 be 7 tIt9) ?_;refine GO.ef (Ef.j0 (xs:=([]:List ItG)) (ys:=c6) rfl rfl rfl rfl rfl (fun e _=>kn e) fy fy) ag ?_;rintro _ _⟨a0,b7,rfl,rfl⟩;simp only[aj];refine XU ?_;intros;refine GO.ent (Ent.d8 bj 9 tRu9) ?_;refine GO.ef (Ef.j0 (xs:=([]:List RuV)) (ys:=rs) rfl rfl rfl rfl rfl (fun e _=>jS e) fy fy) ag ?_;rintro _ _⟨a9,b8,rfl,rfl⟩;simp only[aj];refine XU ?_;intros;refine GO.ent (Ent.d8 bK 2 tTb9) ?_;refine GO.ef (Ef.j0 (xs:=([]:List TbV)) (ys:=c4) rfl rfl rfl rfl rfl (fun e _=>kZ e) fy fy) ag ?_;rintro _ _⟨b0,c0,rfl,rfl⟩;simp only[aj];refine XU ?_;intros;refine GO.ent (Ent.d8 bN 2 tTx9) ?_;refine GO.ef (Ef.j0 (xs:=([]:List TxV)) (ys:=xl) rfl rfl rfl rfl rfl (fun e _=>kY e) fy fy) ag ?_;rintro _ _⟨b1,c1,rfl,rfl⟩;simp only[aj];refine XU ?_;intros;refine GO.ent (L':=gen9 g ad xs.length c 0::cat9 b6 c6 a0 b7 rs a9 b8 c4.length b0 c0 xl.length b1 c1::osl be 7 tIt9 a0 b7 c6::osl bj 9 tRu9 a9 b8 rs::allP ruP rs::osl bK 2 tTb9 b0 c0 c4::allP tbP c4::osl bN 2 tTx9 b1 c1 xl::allP txP xl::obj b4 tCat [ae none 0 0,ae none 0 0,ae none 0 0,ae none 0 0]::C0::L) ah ?_;refine GO.ca (bL g ad xs.length c 0 xs rfl hx 6 ab) ?_;rintro _ _⟨w,i1,rfl,⟨k1,k2⟩,rfl⟩;repeat first|refine G.sm 8 ?_|refine bF ?_|intro _|refine aY ?_
 refine G.d8 (α:=List ItG×Int) (fun z=>z.1.length=c6.length∧∀x∈z.1,ItS x) (fun _=>[(4,aq b4),(5,aq g),(6,aq b6),(7,ac w)]) (fun z=>gen9 g ad xs.length c z.2::cat9 b6 z.1 a0 b7 rs a9 b8 c4.length b0 c0 xl.length b1 c1::osl be 7 tIt9 a0 b7 z.1::osl bj 9 tRu9 a9 b8 rs::allP ruP rs::osl bK 2 tTb9 b0 c0 c4::allP tbP c4::osl bN 2 tTx9 b1 c1 xl::allP txP xl::obj b4 tCat [ae none 0 0,ae none 0 0,ae none 0 0,ae none 0 0]::C0::L) ?_ ?_
 ·by_cases hw:w=0
  case neg =>
   refine XU ?_;intros;exact⟨(c6,i1),⟨rfl,e4⟩,an,by exact ah⟩
  by_cases hl:0<c6.length
  case neg =>
   refine XU ?_;intros;exact⟨(c6,i1),⟨rfl,e4⟩,an,by exact ah⟩
  refine XU ?_;intros;refine GO.ca (bL g ad xs.length c i1 xs rfl hx (c6.length:Int) ab) ?_;rintro _ _⟨k,i2,rfl,⟨h9,d6⟩,rfl⟩;have c9:k.toNat<c6.length:=ab;refine XU ?_;intros;refine GPW.ca (tJ g ad xs.length c i2 xs rfl hx c6[k.toNat]! (e4 _ (aL c9))) ?_;rintro _ _⟨y,i3,rfl,hy,rfl⟩;refine XU ?_;intros;refine GPW.efu (Ef.e7 (enc:=be) (e:=y) rfl rfl rfl rfl (kn y) ab) ?_;rintro _ _ rfl;refine XU ?_;intros;exact⟨(c6.set k.toNat y,i3),⟨bJ,fun x hx=>(bX hx).elim (e4 x) (fun e=>e▸hy)⟩,an,by simp only[cat9,bJ];exact ah⟩
 rintro⟨b3,i2⟩ ⟨h8,g6⟩;dsimp only at h8 g6 ⊢;refine G.d8 (α:=List RuV×Int) (fun z=>z.1.length=rs.length∧∀r∈z.1,RuS r) (fun _=>[(4,aq b4),(5,aq g),(6,aq b6),(7,ac w)]) (fun z=>gen9 g ad xs.length c z.2::cat9 b6 b3 a0 b7 z.1 a9 b8 c4.length b0 c0 xl.length b1 c1::osl be 7 tIt9 a0 b7 b3::osl bj 9 tRu9 a9 b8 z.1::allP ruP z.1::osl bK 2 tTb9 b0 c0 c4::allP tbP c4::osl bN 2 tTx9 b1 c1 xl::allP txP xl::obj b4 tCat [ae none 0 0,ae none 0 0,ae none 0 0,ae none 0 0]::C0::L) ?_ ?_
 ·have c7:∀x∈rs,RuS x:=fun x hx=>(g8 x hx).1;by_cases hw:w≤2
  case neg =>
   refine XU ?_;intros;exact⟨(rs,i2),⟨rfl,c7⟩,an,by exact ah⟩
  by_cases k3:0<w
  case neg =>
   refine XU ?_;intros;exact⟨(rs,i2),⟨rfl,c7⟩,an,by exact ah⟩
  by_cases hl:0<rs.length
  case neg =>
   refine XU ?_;intros;exact⟨(rs,i2),⟨rfl,c7⟩,an,by exact ah⟩
  refine XU ?_;intros;refine GO.ent (Ent.at (A:=gen9 g ad xs.length c i2) (Ent.refl _)) ?_;refine GO.ca (bL g ad xs.length c i2 xs rfl hx (rs.length:Int) ab) ?_;rintro _ _⟨k,i3,rfl,⟨h9,d6⟩,rfl⟩;have c9:k.toNat<rs.length:=ab;have c5:=aL c9;obtain⟨q1,q2⟩:=g8 _ c5;refine XU ?_;intros;refine GPW.ent ((Ent.at (A:=allP ruP rs) (Ent.d9 (f:=ruP) c5)).trans (Ent.at (A:=gen9 g ad xs.length c i3) Ent.swap)) ?_;refine GPW.ca (tA g ad xs.length c i3 xs rfl hx rs[k.toNat]! q1 q2) ?_;rintro _ _⟨y,i4,rfl,hy,rfl⟩;refine XU ?_;intros;refine GPW.efu (Ef.e7 (enc:=bj) (e:=y) rfl rfl rfl rfl (jS y) ab) ?_;rintro _ _ rfl;refine XU ?_;intros;refine⟨(rs.set k.toNat y,i4),⟨bJ,fun x hx=>(bX hx).elim (c7 x) (fun e=>e▸hy)⟩,an,?_⟩;refine(Ent.at (A:=ruP y) (Ent.refl _)).trans ?_;refine((Ent.at (A:=allP ruP rs) Ent.swap).trans (Ent.g9 jp)).trans ?_;refine(Ent.l6 (l':=rs.set k.toNat y) (fun x hx=>(bX hx).elim (aw _) (fun e=>e▸au))).trans ?_;simp only[cat9,bJ];exact ah
 rintro⟨c2,i3⟩ ⟨i9,h0⟩;dsimp only at i9 h0 ⊢;refine G.d8 (α:=List TbV×Int) (fun z=>z.1.length=c4.length∧∀t∈z.1,TbS t) (fun _=>[(4,aq b4),(5,aq g),(6,aq b6),(7,ac w)]) (fun z=>gen9 g ad xs.length c z.2::cat9 b6 b3 a0 b7 c2 a9 b8 z.1.length b0 c0 xl.length b1 c1::osl be 7 tIt9 a0 b7 b3::osl bj 9 tRu9 a9 b8 c2::allP ruP c2::osl bK 2 tTb9 b0 c0 z.1::allP tbP z.1::osl bN 2 tTx9 b1 c1 xl::allP txP xl::obj b4 tCat [ae none 0 0,ae none 0 0,ae none 0 0,ae none 0 0]::C0::L) ?_ ?_
 ·have c7:∀x∈c4,TbS x:=fun x hx=>(h1 x hx).1;by_cases hw:w=3
  case neg =>
   refine XU ?_;intros;exact⟨(c4,i3),⟨rfl,c7⟩,an,by exact ah⟩
  by_cases hl:0<c4.length
  case neg =>
   refine XU ?_;intros;exact⟨(c4,i3),⟨rfl,c7⟩,an,by exact ah⟩
  have c9:(0:Int).toNat<c4.length:=hl;have c5:=aL c9;obtain⟨q1,q2,q3⟩:=h1 _ c5;have q4:=q2.1;refine XU ?_;intros;refine GPW.ent ((Ent.at (A:=allP tbP c4) (Ent.d9 (f:=tbP) c5)).trans (Ent.at (A:=gen9 g ad xs.length c i3) Ent.swap)) ?_;refine GPW.ca (tB g ad xs.length c i3 xs rfl hx c4[(0:Int).toNat]! q1 q2 q3) ?_;rintro _ _⟨y,i4,rfl,hy,rfl⟩;refine XU ?_;intros;refine GPW.efu (Ef.e7 (enc:=bK) (e:=y) rfl rfl rfl rfl (kZ y) c9) ?_;rintro _ _ rfl;refine XU ?_;intros;refine⟨(c4.set (0:Int).toNat y,i4),⟨bJ,fun x hx=>(bX hx).elim (c7 x) (fun e=>e▸hy)⟩,an,?_⟩;refine(Ent.at (A:=tbP y) (Ent.refl _)).trans ?_;refine((Ent.at (A:=allP tbP c4) Ent.swap).trans (Ent.g9 jn)).trans ?_;refine(Ent.l6 (l':=c4.set (0:Int).toNat y) (fun x hx=>(bX hx).elim (aw _) (fun e=>e▸au))).trans ?_;simp only[cat9,bJ];exact ah
 rintro⟨b5,i4⟩ ⟨j1,h2⟩;dsimp only at j1 h2 ⊢;refine G.d8 (α:=List TxV×Int) (fun z=>z.1.length=xl.length∧∀t∈z.1,TxS t) (fun _=>[(4,aq b4),(5,aq g),(6,aq b6),(7,ac w)]) (fun z=>gen9 g ad xs.length c z.2::cat9 b6 b3 a0 b7 c2 a9 b8 b5.length b0 c0 z.1.length b1 c1::osl be 7 tIt9 a0 b7 b3::osl bj 9 tRu9 a9 b8 c2::allP ruP c2::osl bK 2 tTb9 b0 c0 b5::allP tbP b5::osl bN 2 tTx9 b1 c1 z.1::allP txP z.1::obj b4 tCat [ae none 0 0,ae none 0 0,ae none 0 0,ae none 0 0]::C0::L) ?_ ?_
 ·have c7:∀x∈xl,TxS x:=fun x hx=>(h3 x hx).1;by_cases hw:w=4
  case neg =>
   refine XU ?_;intros;exact⟨(xl,i4),⟨rfl,c7⟩,an,by exact ah⟩
  by_cases hl:0<xl.length
  case neg =>
   refine XU ?_;intros;exact⟨(xl,i4),⟨rfl,c7⟩,an,by exact ah⟩
  have c9:(0:Int).toNat<xl.length:=hl;have c5:=aL c9;obtain⟨q1,q2⟩:=h3 _ c5;refine XU ?_;intros;refine GPW.ent ((Ent.at (A:=allP txP xl) (Ent.d9 (f:=txP) c5)).trans (Ent.at (A:=gen9 g ad xs.length c i4) Ent.swap)) ?_;refine GPW.ca (qh g ad xs.length c i4 xs rfl hx xl[(0:Int).toNat]! q1 q2) ?_;rintro _ _⟨y,i5,rfl,hy,rfl⟩;refine XU ?_;intros;refine GPW.efu (Ef.e7 (enc:=bN) (e:=y) rfl rfl rfl rfl (kY y) c9) ?_;rintro _ _ rfl;refine XU ?_;intros;refine⟨(xl.set (0:Int).toNat y,i5),⟨bJ,fun x hx=>(bX hx).elim (c7 x) (fun e=>e▸hy)⟩,an,?_⟩;refine(Ent.at (A:=txP y) (Ent.refl _)).trans ?_;refine((Ent.at (A:=allP txP xl) Ent.swap).trans (Ent.g9 ka)).trans ?_;refine(Ent.l6 (l':=xl.set (0:Int).toNat y) (fun x hx=>(bX hx).elim (aw _) (fun e=>e▸au))).trans ?_;simp only[cat9,bJ];exact ah
 rintro⟨c3,i5⟩ ⟨j2,h4⟩;dsimp only at j2 h4 ⊢;refine G.d8 (α:=CatV×Int) (fun z=>CatQ 0 z.1) (fun _=>[(4,aq b4),(5,aq g),(6,aq b6),(7,ac w)]) (fun z=>gen9 g ad xs.length c z.2::obj b6 tCat [ae z.1.iad z.1.items.length z.1.icap,ae z.1.rad z.1.rules.length z.1.rcap,ae z.1.tad z.1.tables.length z.1.tcap,ae z.1.xad z.1.taxes.length z.1.xcap]::osl be 7 tIt9 z.1.iad z.1.icap z.1.items::osl bj 9 tRu9 z.1.rad z.1.rcap z.1.rules::allP ruP z.1.rules::osl bK 2 tTb9 z.1.tad z.1.tcap z.1.tables::allP tbP z.1.tables::osl bN 2 tTx9 z.1.xad z.1.xcap z.1.taxes::allP txP z.1.taxes::obj b4 tCat [ae none 0 0,ae none 0 0,ae none 0 0,ae none 0 0]::C0::L) ?_ ?_
 ·have d0:CatQ 69 ⟨b3,a0,b7,c2,a9,b8,b5,b0,c0,c3,b1,c1⟩:=⟨⟨by dsimp only;omega,g6⟩,⟨by dsimp only;omega,h0⟩,⟨by dsimp only;omega,h2⟩,⟨by dsimp only;omega,h4⟩⟩;have i0:CatQ 0 ⟨b3,a0,b7,c2,a9,b8,b5,b0,c0,c3,b1,c1⟩:=⟨⟨by dsimp only;omega,g6⟩,⟨by dsimp only;omega,h0⟩,⟨by dsimp only;omega,h2⟩,⟨by dsimp only;omega,h4⟩⟩;refine G.ent (show Ent _ (gen9 g ad xs.length c i5::obj b6 tCat [ae (⟨b3,a0,b7,c2,a9,b8,b5,b0,c0,c3,b1,c1⟩:CatV).iad (⟨b3,a0,b7,c2,a9,b8,b5,b0,c0,c3,b1,c1⟩:CatV).items.length (⟨b3,a0,b7,c2,a9,b8,b5,b0,c0,c3,b1,c1⟩:CatV).icap,ae (⟨b3,a0,b7,c2,a9,b8,b5,b0,c0,c3,b1,c1⟩:CatV).rad (⟨b3,a0,b7,c2,a9,b8,b5,b0,c0,c3,b1,c1⟩:CatV).rules.length (⟨b3,a0,b7,c2,a9,b8,b5,b0,c0,c3,b1,c1⟩:CatV).rcap,ae (⟨b3,a0,b7,c2,a9,b8,b5,b0,c0,c3,b1,c1⟩:CatV).tad (⟨b3,a0,b7,c2,a9,b8,b5,b0,c0,c3,b1,c1⟩:CatV).tables.length (⟨b3,a0,b7,c2,a9,b8,b5,b0,c0,c3,b1,c1⟩:CatV).tcap,ae (⟨b3,a0,b7,c2,a9,b8,b5,b0,c0,c3,b1,c1⟩:CatV).xad (⟨b3,a0,b7,c2,a9,b8,b5,b0,c0,c3,b1,c1⟩:CatV).taxes.length (⟨b3,a0,b7,c2,a9,b8,b5,b0,c0,c3,b1,c1⟩:CatV).xcap]::osl be 7 tIt9 (⟨b3,a0,b7,c2,a9,b8,b5,b0,c0,c3,b1,c1⟩:CatV).iad (⟨b3,a0,b7,c2,a9,b8,b5,b0,c0,c3,b1,c1⟩:CatV).icap (⟨b3,a0,b7,c2,a9,b8,b5,b0,c0,c3,b1,c1⟩:CatV).items::osl bj 9 tRu9 (⟨b3,a0,b7,c2,a9,b8,b5,b0,c0,c3,b1,c1⟩:CatV).rad (⟨b3,a0,b7,c2,a9,b8,b5,b0,c0,c3,b1,c1⟩:CatV).rcap (⟨b3,a0,b7,c2,a9,b8,b5,b0,c0,c3,b1,c1⟩:CatV).rules::allP ruP (⟨b3,a0,b7,c2,a9,b8,b5,b0,c0,c3,b1,c1⟩:CatV).rules::osl bK 2 tTb9 (⟨b3,a0,b7,c2,a9,b8,b5,b0,c0,c3,b1,c1⟩:CatV).tad (⟨b3,a0,b7,c2,a9,b8,b5,b0,c0,c3,b1,c1⟩:CatV).tcap (⟨b3,a0,b7,c2,a9,b8,b5,b0,c0,c3,b1,c1⟩:CatV).tables::allP tbP (⟨b3,a0,b7,c2,a9,b8,b5,b0,c0,c3,b1,c1⟩:CatV).tables::osl bN 2 tTx9 (⟨b3,a0,b7,c2,a9,b8,b5,b0,c0,c3,b1,c1⟩:CatV).xad (⟨b3,a0,b7,c2,a9,b8,b5,b0,c0,c3,b1,c1⟩:CatV).xcap (⟨b3,a0,b7,c2,a9,b8,b5,b0,c0,c3,b1,c1⟩:CatV).taxes::allP txP (⟨b3,a0,b7,c2,a9,b8,b5,b0,c0,c3,b1,c1⟩:CatV).taxes::obj b4 tCat [ae none 0 0,ae none 0 0,ae none 0 0,ae none 0 0]::C0::L) by simp only[cat9,h8,i9,j1,j2];exact ah) ?_;generalize (⟨b3,a0,b7,c2,a9,b8,b5,b0,c0,c3,b1,c1⟩:CatV)=d at *;by_cases hw:w=5
  case neg =>
   refine XU ?_;intros;exact⟨(d,i5),i0,an,by exact ah⟩
  refine XU ?_;intros;refine GO.ca (bL g ad xs.length c i5 xs rfl hx 4 ab) ?_;rintro _ _⟨gr,i6,rfl,⟨j8,j9⟩,rfl⟩;refine XU ?_;intros;refine GO.ca (bL g ad xs.length c i6 xs rfl hx 70 ab) ?_;rintro _ _⟨k,i7,rfl,⟨h9,d6⟩,rfl⟩;obtain⟨K,rfl⟩:∃K:Nat,k=(K:Int):=⟨k.toNat,ab⟩;refine XU ?_;intros
  refine G.loop (α:=Nat×CatV×Int) (fun z=>CatQ z.1 z.2.1∧z.1≤69)
   (fun z=>[(4,aq b4),(5,aq g),(6,aq b6),(7,ac w),(10,ac gr),(11,ac (z.1:Int))])
   (fun z=>gen9 g ad xs.length c z.2.2::obj b6 tCat [ae z.2.1.iad z.2.1.items.length z.2.1.icap,ae z.2.1.rad z.2.1.rules.length z.2.1.rcap,ae z.2.1.tad z.2.1.tables.length z.2.1.tcap,ae z.2.1.xad z.2.1.taxes.length z.2.1.xcap]::osl be 7 tIt9 z.2.1.iad z.2.1.icap z.2.1.items::osl bj 9 tRu9 z.2.1.rad z.2.1.rcap z.2.1.rules::allP ruP z.2.1.rules::osl bK 2 tTb9 z.2.1.tad z.2.1.tcap z.2.1.tables::allP tbP z.2.1.tables::osl bN 2 tTx9 z.2.1.xad z.2.1.xcap z.2.1.taxes::allP txP z.2.1.taxes::obj b4 tCat [ae none 0 0,ae none 0 0,ae none 0 0,ae none 0 0]::C0::L) (fun z=>z.1) (K,d,i7) ⟨⟨⟨by have:=d0.it.1;dsimp only;omega,d0.it.2⟩,⟨by have:=d0.ru.1;dsimp only;omega,d0.ru.2⟩,⟨by have:=d0.tb.1;dsimp only;omega,d0.tb.2⟩,⟨by have:=d0.tx.1;dsimp only;omega,d0.tx.2⟩⟩,by dsimp only;omega⟩ an ah ?_
  clear d0 i0 d;rintro⟨k,⟨c8,f7,f9,e1,g0,g1,e2,g2,g3,e3,g4,g5⟩,i8⟩ ⟨⟨⟨a1,a2⟩,⟨a3,a4⟩,⟨a5,a6⟩,⟨a7,a8⟩⟩,g7⟩;dsimp only at a1 a2 a3 a4 a5 a6 a7 a8 g7 ⊢;rcases k with _|k
  ·refine XU ?_;intros;exact⟨(⟨c8,f7,f9,e1,g0,g1,e2,g2,g3,e3,g4,g5⟩,i8),⟨⟨a1,a2⟩,⟨a3,a4⟩,⟨a5,a6⟩,⟨a7,a8⟩⟩,an,by exact ah⟩
  have d6:((k+1:Nat):Int) - 1=(k:Int):=ab;refine XU ?_;intros;refine GO.cr (Fi (k+1) ab) ?_;refine XU ?_;intros;refine GO.ev (Ev.p5 rfl rfl (FZ (k+1) ab)) ag ?_;have f6:=Ip (ab:k+1<100);have j3:gr=0∨gr=1∨gr=2∨gr=3:=ab;rcases j3 with rfl|rfl|rfl|rfl
  ·refine XU ?_;intros;refine GO.ef (Ef.d7 (enc:=be) (e:=⟨nmN (k+1),false,false,false,0,0,0⟩) rfl rfl rfl rfl rfl aJ (kn _) ab ab) ag ?_;rintro _ _⟨e5,e6,rfl,rfl⟩;refine XU ?_;intros;refine⟨(k,⟨c8++[⟨nmN (k+1),false,false,false,0,0,0⟩],e5,e6,e1,g0,g1,e2,g2,g3,e3,g4,g5⟩,i8),⟨⟨⟨by dsimp only;rw[ax,aG];omega,oR a2 ⟨f6,by dsimp only;omega⟩⟩,⟨by dsimp only;omega,a4⟩,⟨by dsimp only;omega,a6⟩,⟨by dsimp only;omega,a8⟩⟩,by dsimp only;omega⟩,by dsimp only;omega,by rw[←d6];exact an,?_⟩;exact ah
  ·refine XU ?_;intros;refine GO.ef (Ef.d7 (enc:=bj) (e:=⟨nmN (k+1),false,0,1,1,1,⟨[],none,0⟩,⟨[],none,0⟩,⟨[],none,0⟩⟩) rfl rfl rfl rfl rfl aJ (jS _) ab ab) ag ?_;rintro _ _⟨f0,f1,rfl,rfl⟩;refine XU ?_;intros;refine⟨(k,⟨c8,f7,f9,e1++[⟨nmN (k+1),false,0,1,1,1,⟨[],none,0⟩,⟨[],none,0⟩,⟨[],none,0⟩⟩],f0,f1,e2,g2,g3,e3,g4,g5⟩,i8),⟨⟨⟨by dsimp only;omega,a2⟩,⟨by dsimp only;rw[ax,aG];omega,oR a4 ⟨f6,⟨by dsimp only[NumW];omega,by dsimp only[NumW];omega,by dsimp only[NumW];omega,by dsimp only[NumW];omega⟩,tW,tW,tW⟩⟩,⟨by dsimp only;omega,a6⟩,⟨by dsimp only;omega,a8⟩⟩,by dsimp only;omega⟩,by dsimp only;omega,by rw[←d6];exact an,?_⟩;refine(Ent.f8 aV 2 none).trans ?_;refine(Ent.f8 aV 2 none).trans ?_;refine(Ent.f8 aV 2 none).trans ?_;refine(iB (r:=⟨nmN (k+1),false,0,1,1,1,⟨[],none,0⟩,⟨[],none,0⟩,⟨[],none,0⟩⟩)).trans ?_;refine((Ent.at (A:=allP ruP e1) Ent.swap).trans (ix jp)).trans ?_;exact ah
  ·refine XU ?_;intros;rename_i bl b9;refine GO.ef (Ef.d7 (enc:=bK) (e:=⟨nmN (k+1),[⟨1,⟨[],none,0⟩⟩],some ⟨bl,0,none⟩,1⟩) rfl rfl rfl rfl rfl aJ (kZ _) ab ab) ag ?_;rintro _ _⟨f2,f3,rfl,rfl⟩;refine XU ?_;intros;refine⟨(k,⟨c8,f7,f9,e1,g0,g1,e2++[⟨nmN (k+1),[⟨1,⟨[],none,0⟩⟩],some ⟨bl,0,none⟩,1⟩],f2,f3,e3,g4,g5⟩,i8),⟨⟨⟨by dsimp only;omega,a2⟩,⟨by dsimp only;omega,a4⟩,⟨by dsimp only;rw[ax,aG];omega,oR a6 ⟨f6,fun r hr=>by rw[List.mem_singleton.1 hr];exact tw (by dsimp only[NumW];omega),by simp⟩⟩,⟨by dsimp only;omega,a8⟩⟩,by dsimp only;omega⟩,by dsimp only;omega,by rw[←d6];exact an,?_⟩;refine(Ent.f8 aV 2 none).trans ?_;refine(show Ent (rwP ⟨1,⟨[],none,0⟩⟩::_) _ from Ent.l0 (f:=rwP) kc).trans ?_;refine(Ent.l5 (b:=bl) (enc:=du) (sz:=2) [⟨1,⟨[],none,0⟩⟩] rfl (fun _ _=>rfl) (ao rfl)).trans ?_;refine(Ent.e8 (bI du 2 (some ⟨bl,0,none⟩) [⟨1,⟨[],none,0⟩⟩]) (cG kc)).trans ?_;refine(show Ent (tbP ⟨nmN (k+1),[⟨1,⟨[],none,0⟩⟩],some ⟨bl,0,none⟩,1⟩::_) _ from(Ent.at (A:=allP tbP e2) Ent.swap).trans (ix jn)).trans ?_;exact ah
  ·refine XU ?_;intros;rename_i bl b9;refine GO.ef (Ef.d7 (enc:=bN) (e:=⟨nmN (k+1),[(0,0)],some ⟨bl,0,none⟩,1⟩) rfl rfl rfl rfl rfl aJ (kY _) ab ab) ag ?_;rintro _ _⟨f4,f5,rfl,rfl⟩;refine XU ?_;intros;refine⟨(k,⟨c8,f7,f9,e1,g0,g1,e2,g2,g3,e3++[⟨nmN (k+1),[(0,0)],some ⟨bl,0,none⟩,1⟩],f4,f5⟩,i8),⟨⟨⟨by dsimp only;omega,a2⟩,⟨by dsimp only;omega,a4⟩,⟨by dsimp only;omega,a6⟩,⟨by dsimp only;rw[ax,aG];omega,oR a8 ⟨f6,fun r hr=>by rw[List.mem_singleton.1 hr];dsimp only[NumW];omega,by simp⟩⟩⟩,by dsimp only;omega⟩,by dsimp only;omega,by rw[←d6];exact an,?_⟩;refine(Ent.l5 (b:=bl) (enc:=aV) (sz:=2) [(0,0)] rfl (fun _ _=>rfl) (ao rfl)).trans ?_;refine(show Ent (txP ⟨nmN (k+1),[(0,0)],some ⟨bl,0,none⟩,1⟩::_) _ from(Ent.at (A:=allP txP e3) Ent.swap).trans (ix ka)).trans ?_;exact ah
 rintro⟨⟨e0,e5,e6,h5,f0,f1,h6,f2,f3,h7,f4,f5⟩,i6⟩ ⟨d1,d2,d3,d4⟩;dsimp only at d1 d2 d3 d4 ⊢;refine XU ?_;intros;refine KX.d7 (ResOk.cell rfl aJ ResOk.nil) ?_ ⟨⟨e0,e5,e6,h5,f0,f1,h6,f2,f3,h7,f4,f5⟩,rfl,⟨d1,d2,d3,d4⟩,rfl⟩;refine(Ent.at (A:=osl be 7 tIt9 e5 e6 e0) Ent.freezeSl).trans ?_;refine(Ent.at (A:=osl bj 9 tRu9 f0 f1 h5) Ent.freezeSl).trans ?_;refine(Ent.at (A:=osl bK 2 tTb9 f2 f3 h6) Ent.freezeSl).trans ?_;refine(Ent.at (A:=osl bN 2 tTx9 f4 f5 h7) Ent.freezeSl).trans ?_
 exact(show Ent _ (catS ⟨e0,e5,e6,h5,f0,f1,h6,f2,f3,h7,f4,f5⟩ (C0::L)) by
  simp only[catS];exact ah).trans (Dr _)
