/- Lemmas. -/
import Derived.Test.YtommnllbflbdmaaGreatDoorLG45
import Derived.Test.YtommnllbflbdmaaGreatDoorRows
import Derived.LaidMore
import Derived.Stop.Joined
set_option linter.all false
set_option maxHeartbeats 16000000
namespace Go.Proofs.YtommnllbflbdmaaGreatDoor
section
open Go.V
def la(v:Value):LV:=[v]
theorem Bx{sh:Int}{fl:List FlM}{mix:Int→Bool}{s:StM}{N:Nat}{W:Wk}{m:MvM}(h1:W.sunk.length≤W.flows.length)(h2:W.flows.length≤N)(h3:∀f∈W.flows,f.made.length≤N):(dq sh fl mix s W m).2.sunk.length≤(dq sh fl mix s W m).2.flows.length∧(dq sh fl mix s W m).2.flows.length≤W.flows.length+1∧∀f∈(dq sh fl mix s W m).2.flows,f.made.length≤N:=by
 have hn:∀f∈W.flows++[fq sh fl.length mix s W m],f.made.length≤N:=fun f hf=>by
  rcases List.mem_append.1 hf with h|h
  ·exact h3 f h
  ·rw[List.mem_singleton.1 h];show(du s W m).length≤N;unfold du;split
   ·omega
   ·exact ao _
 have hl:(W.flows++[fq sh fl.length mix s W m]).length=W.flows.length+1:=by rw[az,bC]
 unfold dq;split
 ·exact⟨h1,bN _,h3⟩
 ·split
  ·exact⟨h1,bN _,h3⟩
  ·split
   ·refine⟨?_,Nat.le_of_eq hl,hn⟩;show(W.sunk++[cN sh fl.length W]).length≤(W.flows++[fq sh fl.length mix s W m]).length;rw[hl,az,bC];omega
   ·split
    ·exact⟨h1,bN _,h3⟩
    ·refine⟨?_,Nat.le_of_eq hl,hn⟩;show W.sunk.length≤(W.flows++[fq sh fl.length mix s W m]).length;rw[hl];omega
theorem qt{sh:Int}{fl:List FlM}{mix:Int→Bool}{s:StM}{N:Nat}:∀(ms:List MvM) (W:Wk),W.sunk.length≤W.flows.length→W.flows.length+ms.length≤N→(∀f∈W.flows,f.made.length≤N)→∀f∈(dN sh fl mix s W ms).2.flows,f.made.length≤N
 | [],_,_,_,h=>h
 | m::ms,W,h1,h2,h3=>by
  have e:dN sh fl mix s W (m::ms)=if(dq sh fl mix s W m).1=0 then dN sh fl mix s (dq sh fl mix s W m).2 ms else((dq sh fl mix s W m).1,W):=rfl;rw[bD] at h2;obtain⟨g1,g2,g3⟩:=Bx (sh:=sh) (fl:=fl) (mix:=mix) (s:=s) (N:=N) (m:=m) h1 ac h3;rw[e];split
  ·exact qt ms _ g1 ac g3
  ·exact h3
theorem FX{S:LedM}{s:StM}(h:(gTry S s).1=0):gTry S s=dN S.shard S.flows (bK S.cat) (s.at (aR S)) (wk0 S) s.moves:=by
 by_cases h1:65536≤S.steps.length
 ·have e:gTry S s=(4,wk0 S):=by unfold gTry;rw[if_pos h1]
  rw[e] at h;exact absurd (show(4:Int)=0 from h) ae
 have h2:=oY h;unfold gTry;rw[if_neg h1,if_neg (fun q=>q h2)]
theorem LRep.made{sh:Int}{c:CatM}{S:LedM}(h:LRep sh c S):∀f∈S.flows,f.made.length≤64:=by
 induction h with
 | zero=>intro f hf;cases hf
 | @post S s _ h0 ih =>
  have e1:cT S s=gJ S s:=if_pos h0;have hp:=oY h0;have hl:=hp.2.2.2.1.2;rw[e1];intro f hf;rcases List.mem_append.1 (show f∈S.flows++(gTry S s).2.flows from hf) with q|q
  ·exact ih f q
  ·rw[FX h0] at q;exact qt (N:=64) s.moves (wk0 S) (aB _) (by show 0+_≤64;omega) (fun f hf=>by cases hf) f q
theorem nA{a i:Int}:∀{l:List StV},(∀s∈l,lotsIn a i s.m.moves≤1)→stL a i (l.map StV.m)≤l.length
 | [],_=>aB _
 | s::l,h=>by
  have h1:=nA (l:=l) (fun u hu=>h u (av _ hu));have h2:=h s aw;show lotsIn a i s.m.moves+stL a i (l.map StV.m)≤l.length+1;omega
theorem zv{a i:Int}{s' : StV}(hs:lotsIn a i s'.m.moves≤4):∀(l:List StV) (k:Nat),(∀s∈l,lotsIn a i s.m.moves≤1)→stL a i ((l.set k s').map StV.m)≤l.length+3
 | [],_,_=>ao _
 | s::l,0,h=>by
  have h1:=nA (l:=l) (fun u hu=>h u (av _ hu));show lotsIn a i s'.m.moves+stL a i (l.map StV.m)≤l.length+1+3;omega
 | s::l,k+1,h=>by
  have h1:=zv hs l k (fun u hu=>h u (av _ hu));have h2:=h s aw;show lotsIn a i s.m.moves+stL a i ((l.set k s').map StV.m)≤l.length+1+3;omega
theorem zw{s' : StV}(hs:mvK s'.m.moves≤4):∀(l:List StV) (k:Nat),(∀s∈l,StG0 s)→stK ((l.set k s').map StV.m)≤3*l.length+1
 | [],_,_=>ao _
 | s::l,0,h=>by
  have h1:=nw (l:=l) (fun u hu=>h u (av _ hu));show mvK s'.m.moves+stK (l.map StV.m)≤3*(l.length+1)+1;omega
 | s::l,k+1,h=>by
  have h1:=zw hs l k (fun u hu=>h u (av _ hu));have h2:=(h s aw).k;show mvK s.m.moves+stK ((l.set k s').map StV.m)≤3*(l.length+1)+1;omega
theorem GenR.lotsIn{sh:Int}{i:Nat}{S:LedM}{x:RLX}(h:GenR sh i S x)(a j:Int):∀s∈x.steps,lotsIn a j s.m.moves≤1:=fun s hs=>(h.st s hs).lots (h.ne s hs) a j
theorem GenR.stepsLen{sh:Int}{i:Nat}{S:LedM}{x:RLX}(h:GenR sh i S x):x.steps.length≤i:=by
 rw[h.lens.1];exact h.steps
theorem GenR.audS{sh:Int}{i:Nat}{S:LedM}{x:RLX}(h:GenR sh i S x)(hi:i≤19):AudS x.steps:=by
 have h1:=h.stepsLen;have h2:=nw h.st;exact⟨ac,fun s hs=>⟨(h.st s hs).inp,(h.st s hs).cap⟩,ac,fun a j=>cB (nA (h.lotsIn a j)) ac⟩
theorem GenR.audSp{sh:Int}{i:Nat}{S:LedM}{x:RLX}(h:GenR sh i S x)(hi:i≤16){ss:List StV}(hp:SpL x.steps ss):AudS ss:=by
 rcases hp with rfl|⟨k,s',hk,hs,rfl⟩
 ·exact h.audS ac
 have h1:=h.stepsLen;have h2:=zw hs.k x.steps k h.st;refine⟨by rw[bg];omega,fun s hm=>?_,ac,fun a j=>cB (zv (cB (oS a j _) hs.k) x.steps k (h.lotsIn a j)) ac⟩;rcases cK hm with g|rfl
 ·exact⟨(h.st s g).inp,(h.st s g).cap⟩
 ·exact⟨hs.inp,hs.cap⟩
theorem GenR.flB{sh:Int}{i:Nat}{S:LedM}{x:RLX}(h:GenR sh i S x)(hi:i≤100):x.flows.length≤6400∧∀f∈x.flows,f.m.parts.length≤2047∧f.m.made.length≤64:=by
 obtain⟨k,hk,hl⟩:=h.led;obtain⟨e1,e2,e3,e4⟩:=h.lens;have e5:=h.steps;refine⟨ac,fun f hf=>?_⟩;have hm:f.m∈S.flows:=by rw[←h.rf.flows];exact alStd0List_mem_map_of_mem hf
 exact⟨(hl.g.fl f.m hm).2,h.rep.made f.m hm⟩
theorem pP{A B:HP}{M:LH}(hA:Pers A)(hB:Pers B):Ent (A::B::M) (A::B::A::B::M) :=
 (Ent.dup hA).trans (Ent.d7 ((Ent.swap.trans (Ent.dup hB)).trans (Ent.d7 Ent.swap)))
theorem DL{fs fs' : List FlV}{is:Bool}{b:Int}(hl:fs.length≤100000)(hf:∀f∈fs,f.m.parts.length≤1000000∧f.m.made.length≤1000000)(h:(is=false∧fs' = fs)∨(is=true∧b≠0∧∃k,k<fs.length∧ChgD fs k fs')):AudFl fs':=by
 rcases h with⟨_,rfl⟩|⟨_,_,k,hk,h⟩
 ·exact⟨ac,fun f m=>by have:=hf f m;omega⟩
 have hg:∀{j:Nat},j<fs.length→fs[j]!∈fs:=fun {j} hj=>aI hj
 have hm:∀f,f∈fs.take k∨f∈fs.drop (k+1)∨f∈fs.drop (k+2)∨f=fs[k]!→f.m.parts.length≤1000000000∧f.m.made.length≤1000000000:=by
  intro f q
  have hq:f∈fs:=by
   rcases q with q|q|q|q
   ·exact cz q
   ·exact dA q
   ·exact dA q
   ·rw[q];exact hg hk
  have:=hf f hq
  omega
 rcases h with rfl|rfl|⟨hk2,rfl⟩|⟨y,rfl,y1,y2⟩
 ·refine⟨by rw[az,aY,bR];omega,fun f q=>?_⟩;rcases List.mem_append.1 q with q|q
  ·exact hm f (.inl q)
  ·exact hm f (.inr (.inl q))
 ·refine⟨by rw[az,az,aY,bR];show _+2+_≤_;omega,fun f q=>?_⟩;rcases List.mem_append.1 q with q|q
  ·rcases List.mem_append.1 q with q|q
   ·exact hm f (.inl q)
   ·refine hm f (.inr (.inr (.inr ?_)));rcases List.mem_cons.1 q with q|q
    ·exact q
    ·exact List.mem_singleton.1 q
  ·exact hm f (.inr (.inl q))
 ·refine⟨by rw[az,az,aY,bR];show _+2+_≤_;omega,fun f q=>?_⟩;rcases List.mem_append.1 q with q|q
  ·rcases List.mem_append.1 q with q|q
   ·exact hm f (.inl q)
   ·rcases List.mem_cons.1 q with q|q
    ·have:=hf _ (hg hk2)
     rw[q];omega
    ·exact hm f (.inr (.inr (.inr (List.mem_singleton.1 q))))
  ·exact hm f (.inr (.inr (.inl q)))
 ·refine⟨by rw[az,az,aY,bR];show _+1+_≤_;omega,fun f q=>?_⟩;rcases List.mem_append.1 q with q|q
  ·rcases List.mem_append.1 q with q|q
   ·exact hm f (.inl q)
   ·have:=hf _ (hg hk)
    rw[List.mem_singleton.1 q];omega
  ·exact hm f (.inr (.inl q))
attribute [local irreducible] G GO GP GPW GPK GF GE Ev Ef EfR Ent CB GB V.Enters
theorem oQ{L:LH}(x:Fd):Tri ah 13 #[.agg (dT x).toArray] L (fun v L'=>v=.agg (dT x).toArray∧L' = L):=by
 refine Tri.body (args:=[.agg (dT x).toArray]) 10 en13 Tryz.func13 rfl rfl rfl (by simp) ?_;simp only[dT];repeat first|refine aa ?_|intro
 exact KX.d7 (ResOk.cell rfl (by rfl) ResOk.nil) ag ⟨rfl,rfl⟩
abbrev CN:List Stp:=[.ev 0,.ev 1,.ev 2,.ev 3,.ev 4,.ev 5,.ev 7,.ef 6,.ef 8,.ev 9,.ev 10,.ev 11,.ev 12,.ev 13]
abbrev CM:List Stp:=[.ev 0,.ev 1,.ev 2,.ev 3,.ev 4,.ev 5,.ev 6,.ev 7,.ev 8,.ev 9,.ef 10,.ev 11]
abbrev CL:List Stp:=[.ev 0,.ev 1,.ev 2,.ev 3,.ev 4,.ev 5,.ev 6,.ev 7,.ev 8,.ev 9,.ef 10,.ev 11]
abbrev Bi:List Stp:=[.ev 0,.ev 1,.ev 2,.ev 3,.ev 4,.ev 5,.ev 6,.ev 7,.ev 8,.ev 9,.ev 10,.ev 11,.ev 12,.ev 15,.ev 16,.ev 17,.ev 18,.ev 19,.ev 20,.ev 21,.ev 22,.ev 23,.ev 24,.ev 25,.ev 26,.ev 27,.ef 13,.ef 14,.ef 28,.ev 29]
abbrev Bh:List Stp:=[.ev 0,.ev 2,.ev 3,.ev 4,.ev 5,.ev 6,.ev 7,.ev 8,.ev 9,.ev 10,.ev 11,.ev 12,.ev 13,.ev 14,.ef 1,.ef 15,.ev 16,.ev 17,.ef 18,.ev 19,.ev 20]
theorem cO{φ ψ:Prop}(k:ψ)(h:Hid ψ→φ:=by intro k;(with_reducible apply G.d8);first|refine G.d7 (N:=135) (id:=4) CN mixed ap (Hid.out k)|refine G.d7 (N:=135) (id:=5) CM mixed ap (Hid.out k)|refine G.d7 (N:=135) (id:=6) CL mixed ap (Hid.out k)|refine G.d7 (N:=135) (id:=10) Bi mixed ap (Hid.out k)|refine G.d7 (N:=135) (id:=13) Bh mixed ap (Hid.out k)):φ:=h ⟨k⟩
theorem pX{L:LH}(ad:OA)(n c:Nat)(xs:List Int)[hrd:Rds L ad Int (encZ .i64) 1 xs](hn:n=xs.length)(hm:n≤9223372036854775807)(hx:∀x∈xs,I64 x)(shard:Int)(hsh:I64 shard)(at_:Int)(ha:I64 at_)(which:Int)(hw:I64 which)(by_:Int)(hb:I64 by_) :
  Tri ah 3 #[.slice ad n c,ab shard,ab at_,ab which,ab by_] (cI::L) (fun v L'=>v=.bool true∧L' = L):=by
 refine Tri.body (args:=[.slice ad n c,ab shard,ab at_,ab which,ab by_]) 135 en3 Tryz.func3 rfl rfl rfl (by simp) ?_;repeat first|refine aa ?_|intro _|refine cO ?_
 refine GO.ef (Ef.d7 (lN shard 12 hsh ae ae) rfl) ae ?_;rintro _ _⟨p,rfl,⟨hp0,hp1⟩,rfl⟩;repeat first|refine aa ?_|intro _|refine cO ?_
 refine GO.ef (Ef.d7 (An p ⟨hp0,hp1⟩ ad n c xs hn hx 12 ae) rfl) ae ?_;rintro _ _⟨b,S,x,rfl,hg,rfl⟩;obtain⟨e1,e2,e3,e4⟩:=hg.lens;have e5:=hg.steps;obtain⟨hfl,hff⟩:=hg.flB ae;have hff2:∀f∈x.flows,f.m.parts.length≤1000000∧f.m.made.length≤1000000:=fun f hf=>by have:=hff f hf;omega
 have hcm:x.cat.m=cat16:=hg.rf.cat.trans hg.cat;have hcg:CatGood x.cat.m:=hcm▸cat16_good;have hco:x.cat.m.Ok:=hcm▸ri;have hcB:x.cat.B:=hg.rf.catB;simp only[rlL,aK];repeat first|refine aa ?_|intro _|refine cO ?_
 refine GO.ent (L':=allP bA x.steps::(obj b tRL (aK p x)::osl gg 3 tRS x.sad x.scap x.stks::osl aL 11 bz x.fad x.fcap x.flows::osl aJ 7 bh x.tad x.tcap x.steps::catP x.cat::allP rsP x.stks::allP flP x.flows::cI::L)) (by simp only[aK];exact ag) ?_;refine GO.ef (Ef.d7 (uu x.tad x.steps.length x.tcap x.steps rfl ac hg.st at_ which by_ ha hw hb) rfl) ae ?_;rintro _ _⟨ad2,cap2,ss2,rfl,hsp,rfl⟩;simp only[aK];repeat first|refine aa ?_|intro _|refine cO ?_
 refine GPW.ef (Ef.d7 (lN which 16 hw ae ae) rfl) ae ?_;rintro _ _⟨q,rfl,⟨hq0,hq1⟩,rfl⟩;repeat first|refine aa ?_|intro _|refine cO ?_
 refine GPW.fct (fI (ad:=x.fad) (cap:=x.fcap) (xs:=x.flows) (enc:=aL) (sz:=11) (E:=bz)) ?_;rintro⟨hfc,_⟩;refine GPW.ent (L':=isl aL 11 x.fad x.flows::allP flP x.flows::(isl aJ 7 ad2 ss2::allP bA ss2::allP bA x.steps::obj b tRL (aK p x)::osl aJ 7 bh x.tad x.tcap x.steps::catP x.cat::cI::L)) ((Ent.at (A:=osl aL 11 bz x.fad x.fcap x.flows) Ent.freezeSl).trans (by simp only[aK];exact ag)) ?_;refine GPW.ef (Ef.d7 (tq x.fad x.flows.length x.fcap x.flows rfl hfc ac hff2 at_ q by_ ha ⟨hq0,ac⟩ hb) rfl) ae ?_;rintro _ _⟨ad4,cap4,fs4,is4,rfl,hch,hc4,rfl⟩;simp only[aK];repeat first|refine aa ?_|intro _|refine cO ?_
 rename_i bl bn;have hS1:AudS x.steps:=hg.audS ae;have hS2:AudS ss2:=hg.audSp ae hsp;have hF1:AudFl x.flows:=⟨ac,fun f hf=>by have:=hff f hf;omega⟩;have hF2:AudFl fs4:=DL ac hff2 hch;obtain⟨LS,hLS⟩:∃l:LV,l=[.slice x.tad x.steps.length x.tcap,.slice ad2 ss2.length cap2,.slice x.tad x.steps.length x.tcap,.slice ad2 ss2.length cap2]:=⟨_,rfl⟩;obtain⟨FS,hFS⟩:∃l:LV,l=[.slice x.fad x.flows.length x.fcap,.slice x.fad x.flows.length x.fcap,.slice ad4 fs4.length cap4,.slice ad4 fs4.length cap4]:=⟨_,rfl⟩;have hLl:LS.length=4:=by rw[hLS];rfl
 have hFl:FS.length=4:=by rw[hFS];rfl
 have hcase:∀i:Nat,i<4→∃(adI:OA) (capI:Nat) (ssI:List StV) (fadI:OA) (fcapI:Nat) (fsI:List FlV),LS[(i:Int).toNat]! = .slice adI ssI.length capI∧FS[(i:Int).toNat]! = .slice fadI fsI.length fcapI∧AudS ssI∧AudFl fsI∧fsI.length≤fcapI∧∀M:LH,Ent (isl aJ 7 x.tad x.steps::allP bA x.steps::isl aJ 7 ad2 ss2::allP bA ss2::isl aL 11 x.fad x.flows::allP flP x.flows::isl aL 11 ad4 fs4::allP flP fs4::M) (isl aJ 7 adI ssI::allP bA ssI::isl aL 11 fadI fsI::allP flP fsI::isl aJ 7 x.tad x.steps::allP bA x.steps::isl aJ 7 ad2 ss2::allP bA ss2::isl aL 11 x.fad x.flows::allP flP x.flows::isl aL 11 ad4 fs4::allP flP fs4::M):=by
  have g1:∀M:LH,Ent (isl aJ 7 x.tad x.steps::allP bA x.steps::isl aJ 7 ad2 ss2::allP bA ss2::isl aL 11 x.fad x.flows::allP flP x.flows::isl aL 11 ad4 fs4::allP flP fs4::M) (isl aJ 7 x.tad x.steps::allP bA x.steps::isl aJ 7 x.tad x.steps::allP bA x.steps::isl aJ 7 ad2 ss2::allP bA ss2::isl aL 11 x.fad x.flows::allP flP x.flows::isl aL 11 ad4 fs4::allP flP fs4::M):=fun M=>(pP (iw _ _ _ _) (fR _ _));have g2:∀M:LH,Ent (isl aJ 7 x.tad x.steps::allP bA x.steps::isl aJ 7 ad2 ss2::allP bA ss2::isl aL 11 x.fad x.flows::allP flP x.flows::isl aL 11 ad4 fs4::allP flP fs4::M) (isl aJ 7 ad2 ss2::allP bA ss2::isl aJ 7 x.tad x.steps::allP bA x.steps::isl aJ 7 ad2 ss2::allP bA ss2::isl aL 11 x.fad x.flows::allP flP x.flows::isl aL 11 ad4 fs4::allP flP fs4::M):=fun M=>Ent.trans (B:=isl aJ 7 ad2 ss2::allP bA ss2::isl aJ 7 x.tad x.steps::allP bA x.steps::isl aL 11 x.fad x.flows::allP flP x.flows::isl aL 11 ad4 fs4::allP flP fs4::M) ag ((pP (iw _ _ _ _) (fR _ _)).trans ag);have g3:∀M:LH,Ent (isl aJ 7 x.tad x.steps::allP bA x.steps::isl aJ 7 ad2 ss2::allP bA ss2::isl aL 11 x.fad x.flows::allP flP x.flows::isl aL 11 ad4 fs4::allP flP fs4::M) (isl aL 11 x.fad x.flows::allP flP x.flows::isl aJ 7 x.tad x.steps::allP bA x.steps::isl aJ 7 ad2 ss2::allP bA ss2::isl aL 11 x.fad x.flows::allP flP x.flows::isl aL 11 ad4 fs4::allP flP fs4::M):=fun M=>Ent.trans (B:=isl aL 11 x.fad x.flows::allP flP x.flows::isl aJ 7 x.tad x.steps::allP bA x.steps::isl aJ 7 ad2 ss2::allP bA ss2::isl aL 11 ad4 fs4::allP flP fs4::M) ag ((pP (iw _ _ _ _) (fR _ _)).trans ag);have g4:∀M:LH,Ent (isl aJ 7 x.tad x.steps::allP bA x.steps::isl aJ 7 ad2 ss2::allP bA ss2::isl aL 11 x.fad x.flows::allP flP x.flows::isl aL 11 ad4 fs4::allP flP fs4::M) (isl aL 11 ad4 fs4::allP flP fs4::isl aJ 7 x.tad x.steps::allP bA x.steps::isl aJ 7 ad2 ss2::allP bA ss2::isl aL 11 x.fad x.flows::allP flP x.flows::isl aL 11 ad4 fs4::allP flP fs4::M):=fun M=>Ent.trans (B:=isl aL 11 ad4 fs4::allP flP fs4::isl aJ 7 x.tad x.steps::allP bA x.steps::isl aJ 7 ad2 ss2::allP bA ss2::isl aL 11 x.fad x.flows::allP flP x.flows::M) ag ((pP (iw _ _ _ _) (fR _ _)).trans ag);intro i hi4;subst hLS hFS;rcases (by omega:i=0∨i=1∨i=2∨i=3) with rfl|rfl|rfl|rfl
  ·exact⟨_,_,_,_,_,_,rfl,rfl,hS1,hF1,hfc,fun M=>((g3 M).trans ag).trans ((g1 (isl aL 11 x.fad x.flows::allP flP x.flows::M)).trans ag)⟩
  ·exact⟨_,_,_,_,_,_,rfl,rfl,hS2,hF1,hfc,fun M=>((g3 M).trans ag).trans ((g2 (isl aL 11 x.fad x.flows::allP flP x.flows::M)).trans ag)⟩
  ·exact⟨_,_,_,_,_,_,rfl,rfl,hS1,hF2,hc4,fun M=>((g4 M).trans ag).trans ((g1 (isl aL 11 ad4 fs4::allP flP fs4::M)).trans ag)⟩
  ·exact⟨_,_,_,_,_,_,rfl,rfl,hS2,hF2,hc4,fun M=>((g4 M).trans ag).trans ((g2 (isl aL 11 ad4 fs4::allP flP fs4::M)).trans ag)⟩
 have hIp:I64 p:=by unfold I64;omega
 have hspec:∀(adI:OA) (capI:Nat) (ssI:List StV) (fadI:OA) (fcapI:Nat) (fsI:List FlV) (a1 a2:Value) (sh:Int),I64 sh→a1=.slice adI ssI.length capI→a2=.slice fadI fsI.length fcapI→AudS ssI→AudFl fsI→fsI.length≤fcapI→∀{M:LH},(Tri ah 14 #[ab sh,.agg x.cat.cells.toArray,a1,a2] (catP x.cat::allP bA ssI::isl aJ 7 adI ssI::allP flP fsI::isl aL 11 fadI fsI::M) (fun v L'=>v=.agg (dT (audF sh x.cat.m (ssI.map StV.m) (fsI.map FlV.m))).toArray∧L' = allP bA ssI::isl aJ 7 adI ssI::allP flP fsI::isl aL 11 fadI fsI::M))∧(Tri ah 15 #[ab sh,.agg x.cat.cells.toArray,a1,a2] (catP x.cat::allP bA ssI::isl aJ 7 adI ssI::allP flP fsI::isl aL 11 fadI fsI::M) (fun v L'=>v=.agg (dT (audF sh x.cat.m (ssI.map StV.m) (fsI.map FlV.m))).toArray∧L' = allP bA ssI::isl aJ 7 adI ssI::allP flP fsI::isl aL 11 fadI fsI::M)):=by
  intro adI capI ssI fadI fcapI fsI a1 a2 sh hI h1 h2 hS hF hc M;rw[h1,h2];have q1:∀s∈ssI,Ent (allP bA ssI::isl aJ 7 adI ssI::allP flP fsI::isl aL 11 fadI fsI::M) (bA s::allP bA ssI::isl aJ 7 adI ssI::allP flP fsI::isl aL 11 fadI fsI::M):=fun s hs=>Ent.d9 (f:=bA) hs;have q2:∀f∈fsI,Ent (allP bA ssI::isl aJ 7 adI ssI::allP flP fsI::isl aL 11 fadI fsI::M) (flP f::allP bA ssI::isl aJ 7 adI ssI::allP flP fsI::isl aL 11 fadI fsI::M):=fun f hf=>(Ent.at (A:=allP flP fsI) (Ent.d9 (f:=flP) hf)).trans ag;exact⟨ou sh x.cat hcB hco adI ssI.length capI ssI rfl hS q1 fadI fsI.length fcapI fsI rfl hF hc q2,sQ sh hI x.cat hcB hcg hco adI ssI.length capI ssI rfl hS q1 fadI fsI.length fcapI fsI rfl hF q2⟩
 refine G.loop (α:=Nat) (fun i=>i≤4) (fun i=>[(1,ab shard),(11,ab p),(12,au b),(16,.slice (some ⟨bl,0,none⟩) 4 4),(17,.slice (some ⟨bn,0,none⟩) 4 4),(18,ab (i:Int))]) (fun _=>isl aJ 7 x.tad x.steps::allP bA x.steps::isl aJ 7 ad2 ss2::allP bA ss2::isl aL 11 x.fad x.flows::allP flP x.flows::isl aL 11 ad4 fs4::allP flP fs4::isl la 1 (some ⟨bl,0,none⟩) LS::isl la 1 (some ⟨bn,0,none⟩) FS::obj b tRL (aK p x)::catP x.cat::cI::L) (fun i=>4 - i) 0 (ao _) aj ?_ ?_
 ·refine(Ent.at (A:=obj bn 35 [.slice x.fad x.flows.length x.fcap,.slice x.fad x.flows.length x.fcap,.slice ad4 fs4.length cap4,.slice ad4 fs4.length cap4]) ((Ent.e8 (enc:=la) (sz:=1) (xs:=FS) (n:=4) (by rw[hFS];rfl) hFl (fun _ _=>rfl) ae).trans Ent.freezeSl)).trans ?_;refine(Ent.at (A:=obj bl 26 [.slice x.tad x.steps.length x.tcap,.slice ad2 ss2.length cap2,.slice x.tad x.steps.length x.tcap,.slice ad2 ss2.length cap2]) ((Ent.e8 (enc:=la) (sz:=1) (xs:=LS) (n:=4) (by rw[hLS];rfl) hLl (fun _ _=>rfl) ae).trans Ent.freezeSl)).trans ?_;refine(Ent.at (A:=osl aJ 7 bh x.tad x.tcap x.steps) Ent.freezeSl).trans ?_;simp only[aK];exact ag
 intro i hi4;by_cases hlt:i<4
 case neg =>
  have d:=fun M:LH=>hspec x.tad x.tcap x.steps x.fad x.fcap x.flows (.slice x.tad x.steps.length x.tcap) (.slice x.fad x.flows.length x.fcap) shard hsh rfl rfl hS1 hF1 hfc (M:=M);generalize audF shard x.cat.m (x.steps.map StV.m) (x.flows.map FlV.m)=T at *;refine G.ent (L':=catP x.cat::allP bA x.steps::isl aJ 7 x.tad x.steps::allP flP x.flows::isl aL 11 x.fad x.flows::obj b tRL (aK p x)::catP x.cat::cI::L) ((Ent.at (A:=catP x.cat) (Ent.dup (jQ x.cat).pers)).trans ag) ?_;simp only[aK];repeat first|((fail_if_success (with_reducible refine G.atS 12 ?_));(with_reducible apply G.seq))|refine bB ?_|intro _|refine cO ?_
  refine G.d9 (α:=Nat) (fun _=>True) (fun bx=>[(1,ab shard),(12,au b),(19,au bx)]) (fun bx=>obj bx tFnd (dT T)::allP bA x.steps::isl aJ 7 x.tad x.steps::allP flP x.flows::isl aL 11 x.fad x.flows::obj b tRL (aK p x)::catP x.cat::cI::L) ?_ ?_
  ·refine G.f8 mixed ap ?_;refine GF.evP (i:=0) rfl ap (Ev.move rfl) ae ?_;refine GF.evP (i:=1) rfl ap (Ev.move rfl) ae ?_;refine GF.evP (i:=2) rfl ap (Ev.nilCheck rfl) ae ?_;refine GF.evP (i:=3) rfl ap (by first|exact Ev.fieldAddr rfl|exact Ev.e9 rfl) ae ?_;refine GF.evL (i:=4) rfl ap (by first|exact Ev.d8 rfl rfl|exact Ev.d7 rfl (by rfl)|exact Ev.d9 rfl rfl|exact Ev.e7 rfl ac|exact Ev.f7 rfl ac ae rfl) ae ?_;refine GF.evP (i:=5) rfl ap (Ev.move rfl) ae ?_;refine GF.evP (i:=6) rfl ap (Ev.nilCheck rfl) ae ?_;refine GF.evP (i:=7) rfl ap (by first|exact Ev.fieldAddr rfl|exact Ev.e9 rfl) ae ?_;refine GF.evL (i:=8) rfl ap (by first|exact Ev.d8 rfl rfl|exact Ev.d7 rfl (by rfl)|exact Ev.d9 rfl rfl|exact Ev.e7 rfl ac|exact Ev.f7 rfl ac ae rfl) ae ?_;refine GF.evP (i:=9) rfl ap (Ev.move rfl) ae ?_;refine GF.evP (i:=10) rfl ap (Ev.nilCheck rfl) ae ?_;refine GF.evP (i:=11) rfl ap (by first|exact Ev.fieldAddr rfl|exact Ev.e9 rfl) ae ?_;refine GF.evL (i:=12) rfl ap (by first|exact Ev.d8 rfl rfl|exact Ev.d7 rfl (by rfl)|exact Ev.d9 rfl rfl|exact Ev.e7 rfl ac|exact Ev.f7 rfl ac ae rfl) ae ?_;refine GF.d7 13 14 ap ?_ ?_
   ·refine GE.ef rfl (Ef.d7 ((d _).1) rfl) ae ?_;rintro _ _⟨rfl,rfl⟩;refine⟨(by intro pe hp;simp only[bj,aT,or_false] at hp;rcases hp with rfl|rfl|rfl<;>first|exact Ev.d8 rfl rfl|exact Ev.d7 rfl (by rfl)|exact Ev.d9 rfl rfl|exact Ev.e7 rfl ac|exact Ev.f7 rfl ac ae rfl|exact Ev.indexAddr rfl rfl ac ac ac),?_⟩;refine GF.plan [.ef 14,.ef 15] ap rfl ?_;simp only[dT];repeat first|refine aa ?_|intro _|refine cO ?_
    rename_i bx;exact⟨bx,trivial,aj,by(try simp only[dT,aK]);exact ag⟩
   ·refine GE.ef rfl Ef.alloc ae ?_;rintro _ _⟨bx,rfl,rfl⟩;refine⟨(by intro pe hp;simp only[bj,aT,or_false] at hp;rcases hp with rfl|rfl|rfl<;>first|exact Ev.d8 rfl rfl|exact Ev.d7 rfl (by rfl)|exact Ev.d9 rfl rfl|exact Ev.e7 rfl ac|exact Ev.f7 rfl ac ae rfl|exact Ev.indexAddr rfl rfl ac ac ac),?_⟩;refine GF.plan [.ef 13,.ef 15] ap rfl ?_;repeat first|refine aa ?_|intro _|refine cO ?_
    refine GPW.ent (L':=catP x.cat::allP bA x.steps::isl aJ 7 x.tad x.steps::allP flP x.flows::isl aL 11 x.fad x.flows::obj bx tFnd [ab 0,ab 0,ab 0]::obj b tRL (aK p x)::catP x.cat::cI::L) (by(try simp only[dT,aK]);exact ag) ?_;refine GPW.ef (Ef.d7 (((d _).1)) rfl) ae ?_;rintro _ _⟨rfl,rfl⟩;simp only[dT];repeat first|refine aa ?_|intro _|refine cO ?_
    exact⟨bx,trivial,aj,by(try simp only[dT,aK]);exact ag⟩
  rintro bx _;simp only[dT,aK];repeat first|refine aa ?_|intro _|refine cO ?_
  refine GPW.ef (Ef.d7 (oQ T) rfl) ae ?_;rintro _ _⟨rfl,rfl⟩;repeat first|refine aa ?_|intro _|refine cO ?_
  refine GPW.ent (L':=catP x.cat::allP bA x.steps::isl aJ 7 x.tad x.steps::allP flP x.flows::isl aL 11 x.fad x.flows::cI::L) ag ?_;refine GPW.ef (Ef.d7 ((d _).2) rfl) ae ?_;rintro _ _⟨rfl,rfl⟩;simp only[dT];repeat first|refine aa ?_|intro _|refine cO ?_
  refine GPW.ent (L':=cI::L) ag ?_;refine GPW.ef (Ef.d7 (wj) rfl) ae ?_;rintro _ _⟨rfl,rfl⟩;repeat first|refine aa ?_|intro _|refine cO ?_
  exact KX.d7 ai ag ⟨rfl,rfl⟩
 obtain⟨adI,capI,ssI,fadI,fcapI,fsI,hN,hL,hS,hF,hcI,hE⟩:=hcase i hlt;refine G.ent (L':=isl aJ 7 adI ssI::allP bA ssI::isl aL 11 fadI fsI::allP flP fsI::isl aJ 7 x.tad x.steps::allP bA x.steps::isl aJ 7 ad2 ss2::allP bA ss2::isl aL 11 x.fad x.flows::allP flP x.flows::isl aL 11 ad4 fs4::allP flP fs4::isl la 1 (some ⟨bl,0,none⟩) LS::isl la 1 (some ⟨bn,0,none⟩) FS::obj b tRL (aK p x)::catP x.cat::cI::L) (hE _) ?_;have c1:=fun M:LH=>(hspec adI capI ssI fadI fcapI fsI LS[(i:Int).toNat]! FS[(i:Int).toNat]! p hIp hN hL hS hF hcI (M:=M)).1;have c2:=fun M:LH=>(hspec adI capI ssI fadI fcapI fsI LS[(i:Int).toNat]! FS[(i:Int).toNat]! p hIp hN hL hS hF hcI (M:=M)).2;generalize hT:audF p x.cat.m (ssI.map StV.m) (fsI.map FlV.m)=T at *;simp only[aK];repeat first|refine aa ?_|intro _|refine cO ?_
 refine GPW.ent (L':=catP x.cat::allP bA ssI::isl aJ 7 adI ssI::allP flP fsI::isl aL 11 fadI fsI::isl aJ 7 x.tad x.steps::allP bA x.steps::isl aJ 7 ad2 ss2::allP bA ss2::isl aL 11 x.fad x.flows::allP flP x.flows::isl aL 11 ad4 fs4::allP flP fs4::isl la 1 (some ⟨bl,0,none⟩) LS::isl la 1 (some ⟨bn,0,none⟩) FS::obj b tRL (aK p x)::catP x.cat::cI::L) ((Ent.at (A:=catP x.cat) (Ent.dup (jQ x.cat).pers)).trans (by simp only[aK];exact ag)) ?_;refine GPW.ef (Ef.d7 (c1 _) rfl) ae ?_;rintro _ _⟨rfl,rfl⟩;simp only[dT];repeat first|refine aa ?_|intro _|refine cO ?_
 refine GPW.ef (Ef.d7 (oQ T) rfl) ae ?_;rintro _ _⟨rfl,rfl⟩;simp only[aK];repeat first|refine aa ?_|intro _|refine cO ?_
 refine GPW.ent (L':=catP x.cat::allP bA ssI::isl aJ 7 adI ssI::allP flP fsI::isl aL 11 fadI fsI::isl aJ 7 x.tad x.steps::allP bA x.steps::isl aJ 7 ad2 ss2::allP bA ss2::isl aL 11 x.fad x.flows::allP flP x.flows::isl aL 11 ad4 fs4::allP flP fs4::isl la 1 (some ⟨bl,0,none⟩) LS::isl la 1 (some ⟨bn,0,none⟩) FS::obj b tRL (aK p x)::catP x.cat::cI::L) ((Ent.at (A:=catP x.cat) (Ent.dup (jQ x.cat).pers)).trans (by simp only[aK];exact ag)) ?_;refine GPW.ef (Ef.d7 (c2 _) rfl) ae ?_;rintro _ _⟨rfl,rfl⟩;simp only[dT,aK];repeat first|refine aa ?_|intro _|refine cO ?_
 refine⟨i+1,ac,ac,?_,by(try simp only[aK]);exact ag⟩;rw[aP i];exact aj
end
section
open Go.V Go.ChangeShapes Go.WideShapes Go.ChangeAt Go.RowKit
abbrev laidK : List (String × DataW Unit) := [("worldmint/lexer.kinds", Rows.laid_worldmint_lexer_kinds)]
theorem gK : Tryz.prog.globalNamed "worldmint/lexer.kinds" = some 2 := by kernel_rfl
theorem tK:(Tryz.prog.globals[2]?).map (·.type)=some 359:=by kernel_rfl
theorem uK:Tryz.prog.underlying 359=some (.array 128 5):=by kernel_rfl
theorem uE:Tryz.prog.underlying 5=some (.int .u8):=by kernel_rfl
theorem cE:Tryz.prog.cellsOf 5=1:=by kernel_rfl
theorem Gz:(Rows.laid_worldmint_lexer_kinds:DataW Unit)=.agg (kindsL.map fun x=>.lit (.int .u8 x)):=by rfl
set_option maxRecDepth 100000 in
theorem EI(os:Os)(args:Array Value):laidMetH ah laidK ((World.doorLaid ah 400 os).forCall (fun _ _=>0) ⟨#[],args,[]⟩).memory :=
 laidMetH_of_parts3 (fuel:=8) (laidMet_of_run' 8 ap ap) ap ap
theorem Bt{W:World}(h:laidMetH ah laidK W):cI (gP W) Hp.emp:=by
 rw[MakeChecks.laidMetH_plain _ _ _ ap] at h;obtain⟨ps,⟨g0,t0,cs0,f0,p0,q0,hg0,ht0,hv0,hd0,_,_⟩,_,_⟩:=h;obtain rfl:=Option.some.inj (gK.symm.trans hg0);obtain rfl:=Option.some.inj (tK.symm.trans ht0);obtain⟨xs,m1,rfl,hx1,hlen,hn,hel⟩:=DataW.trod_array uK hd0;simp only[Prod.mk.injEq] at hx1;have hx:=hx1.1;rw[Gz,DataW.agg.injEq] at hx;have hkl:=sf
 have cell:∀i,i<128→cs0[i]? = some (.int .u8 kindsL[i]!):=by
  intro i hi;have h0:=hel i hi;obtain⟨x,hxi⟩:∃x,xs[i]? = some x:=⟨xs[i]'(by omega),List.getElem?_eq_getElem ac⟩;rw[hxi] at h0;obtain⟨k,e1,e2,_⟩:=DataW.trod_int uE h0;have hm:(xs.map (·.1))[i]? = some x.1:=by rw[List.getElem?_map,hxi];rfl
  rw[←hx,List.getElem?_map,List.getElem?_eq_getElem ac] at hm;rw[e2] at hm;simp only[gk,Option.some.injEq,DataW.lit.injEq,Lit.int.injEq,true_and] at hm;rw[cE,Nat.mul_one] at e1
  have h1:(cs0.toList.drop i)[0]? = some (.int .u8 k):=by
   have:=congrArg (fun l=>l[0]?) e1
   simpa [List.getElem?_take] using this
  rw[List.getElem?_drop,Nat.add_zero,Array.getElem?_toList] at h1;rw[h1,←hm,getElem!_of ac]
 refine⟨fun _ _=>rfl,.inr ?_⟩;have hv1:=hv0;simp only[World.var?,gK,Option.bind_some] at hv1;split at hv1
 case h_1 cur E fz hb =>
  obtain rfl:=Option.some.inj hv1;refine⟨2,0,cur,E,fz,rfl,hb,?_⟩;intro i v hi;rw[de]
  have hfl:kindsL.flatMap (encZ .u8)=kindsL.map fun x=>.int .u8 x:=by
   have:∀l:List Int,l.flatMap (encZ .u8)=l.map fun x=>.int .u8 x:=by
    intro l;induction l with
    | nil=>rfl
    | cons a t ih=>rw[bY,ih];rfl
   exact this _
  rw[hfl,List.getElem?_map] at hi;obtain⟨x,hxx,rfl⟩:=Option.map_eq_some_iff.1 hi;obtain⟨hi2,rfl⟩:=List.getElem?_eq_some_iff.1 hxx;rw[cell i ac,getElem!_of hi2]
 all_goals simp at hv1
