/- The law of package audit: every change is found (AuditFinds). -/
import Derived.Test.YtommnllbflbdmaaGreatDoorFcj
set_option linter.all false
set_option maxHeartbeats 16000000
namespace Go.Proofs.YtommnllbflbdmaaGreatDoor
open Go.V
def Jt{fs fs' : List FlV}{k:Nat}(h:ChgE fs k fs'):ChgD fs k fs':=by
 rcases h with h|h|h|⟨y,h1,_,h2⟩
 ·exact .inl h
 ·exact .inr (.inl h)
 ·exact .inr (.inr (.inl h))
 ·exact .inr (.inr (.inr ⟨y,h1,h2⟩))
def BM(a i:Int):∀x y:List StM,stL a i (x++y)=stL a i x+stL a i y
 | [],y=>by show stL a i y=0+stL a i y;omega
 | s::x,y=>by
  have:=BM a i x y
  show lotsIn a i s.moves+stL a i (x++y)=lotsIn a i s.moves+stL a i x+stL a i y;omega
def GD{ss:List StV}(h:AudS ss)(k:Nat):AudS (ss.take k):=by
 have e:ss.map StV.m=(ss.take k).map StV.m++(ss.drop k).map StV.m:=by rw[←aW,dj]
 have hl:=h.len;refine⟨by rw[bg];omega,fun s hs=>h.inp s (cc hs),?_,fun a i=>?_⟩
 ·have:=h.k
  rw[e,oF] at this;omega
 ·have:=h.l a i
  rw[e,BM] at this;omega
def lH{s s' : StV}{j:Nat}(hl:s'.moves.length=s.moves.length)(hj:j<s.moves.length)(hd:keyM s'.m s'.moves[j]!.m≠keyM s.m s.moves[j]!.m):s'.m.moves.map (keyM s'.m)≠s.m.moves.map (keyM s.m):=by
 intro e;have e1:s'.m.moves.map (keyM s'.m)=s'.moves.map (fun m=>keyM s'.m m.m):=dW ..;have e2:s.m.moves.map (keyM s.m)=s.moves.map (fun m=>keyM s.m m.m):=dW ..;rw[e1,e2] at e;have h1:=dI (fun m:MvV=>keyM s'.m m.m) (ab:j<s'.moves.length);have h2:=dI (fun m:MvV=>keyM s.m m.m) hj;rw[e,h2] at h1;exact hd h1.symm
def nH{ss:List StV}{k:Nat}{e:StV}(hk:k<ss.length)(h:stO e=stO ss[k]!):bigO stO (ss.set k e)=bigO stO ss:=by
 have e1:(ss.set k e).map stO=ss.map stO:=by
  refine dd ce (fun i h1 h2=>?_);rw[cK,cK,cP];split
  ·rename_i q;subst q;rw[h,getElem!_of hk]
  ·rfl
 unfold bigO;rw[e1]
def nB{ss:List StV}{k:Nat}{e:StV}(hk:k<ss.length)(h:aN e=aN ss[k]!):ss.map aN=(ss.set k e).map aN:=by
 refine dd ce (fun i h1 h2=>?_);rw[cK,cK,cP];split
 ·rename_i q;subst q;rw[h,getElem!_of hk]
 ·rfl
def tM{l:List MvV}{j:Nat}{m:MvV}(hj:j<l.length)(h:(m.m.parts,m.pcap)=(l[j]!.m.parts,l[j]!.pcap)):(l.set j m).map (fun m=>(m.m.parts,m.pcap))=l.map (fun m=>(m.m.parts,m.pcap)):=by
 refine dd ce (fun i h1 h2=>?_);rw[cK,cK,cP];split
 ·rename_i q;subst q;rw[h,getElem!_of hj]
 ·rfl
attribute [local irreducible] G GO GP GPW GPK GF GE Ev Ef EfR Ent CB GB V.Enters
abbrev FA:=aH1 [.ev 8,.ef 9,.ev 10,.ev 11,.ev 12,.ev 13,.ev 14]
abbrev DP:=aH4 [.ev 17,.ev 18,.ef 19]
abbrev DO:=aH4 [.ef 17]
abbrev DN:=aH4 [.ev 17,.ev 18,.ef 19]
abbrev DQ:=aH4 [.ef 17]
def bz{φ ψ:Prop}(k:ψ)(h:Hid ψ→φ:=by intro k;(with_reducible apply G.d7);first|refine G.dr 268 3 FA (Hid.out k)|refine G.dr 268 34 DP (Hid.out k)|refine G.dr 268 37 DO (Hid.out k)|refine G.dr 268 40 DN (Hid.out k)|refine G.dr 268 19 DQ (Hid.out k)):φ:=h ⟨k⟩
def aB6{φ ψ:Prop}(k:ψ)(h:Hid ψ→φ:=by intro k;(repeat (first|refine aa ?_|intro zzz|refine bz ?_));(repeat revert zzz);exact Hid.out k):φ:=h ⟨k⟩
def uf{L:LH}(ad:OA)(n c:Nat)(xs:List Int)[j7:Rds L ad Int (encZ .i64) 1 xs](hn:n=xs.length)(hm:n≤9223372036854775807)(hx:∀x∈xs,I64 x)(shard:Int)(i8:I64 shard)(at_:Int)(ha:I64 at_)(a9:Int)(hw:I64 a9)(a1:Int)(hb:I64 a1) :
  Tri ai 6 #[ah ad n c,ac shard,ac at_,ac a9,ac a1] (bZ::L) (rtQ (.bool true) L):=by
 refine Tri.bd ?_;refine aB6 ?_;intros;refine GO.ca (pz shard 12 i8 ae ae) ?_;rintro _ _⟨p,rfl,⟨d6,e0⟩,rfl⟩;refine aB6 ?_;intros;refine GO.ca (CJ p ⟨d6,e0⟩ ad n c xs hn hx 14 ae) ?_;rintro _ _⟨b,S,x,rfl,hg,rfl⟩;obtain⟨e1,e2,e3,e4⟩:=hg.lens;have e5:=hg.steps;obtain⟨j2,i0⟩:=hg.flB ae;have d3:x.cat.m=cat16:=hg.rf.cat.trans hg.cat;have h9:CatGood x.cat.m:=d3▸cat16_good;have c8:x.cat.m.Ok:=d3▸sO;have c7:x.cat.B:=hg.rf.catB;have b0:AudS x.steps:=hg.audS ae;have c4:S.steps=x.steps.map StV.m:=hg.rf.steps.symm;have c2:AccL (led0 p x.cat.m) (x.steps.map StV.m) S:=by rw[d3,←c4];exact hg.rep.acc
 have h3:∀s∈x.steps,mvK s.m.moves≤3:=fun s hs=>(hg.st s hs).k;have h4:=fun a i=>hg.lotsIn a i
 have f4:∀s∈S.steps,s.moves.length≤64∧∀u∈s.moves,u.parts.length≤1000000:=fun s hs=>by
  rw[c4] at hs;obtain⟨u,hu,rfl⟩:=List.mem_map.1 hs;have j3:u.m.moves.length=u.moves.length:=az _;rcases (hg.st u hu).form with⟨w1,w2⟩|⟨w1,w2⟩
  ·refine⟨ab,fun m hm=>?_⟩;obtain⟨v,hv,rfl⟩:=List.mem_map.1 (show m∈u.moves.map MvV.m from hm);have:=w2 v hv
   omega
  ·refine⟨ab,fun m hm=>?_⟩;obtain⟨v,hv,rfl⟩:=List.mem_map.1 (show m∈u.moves.map MvV.m from hm);rw[w2 v hv];decide
 have c3:∀f∈S.flows,f.parts.length≤1000000∧f.made.length≤1000000:=fun f hf=>by
  rw[←hg.rf.flows] at hf;obtain⟨u,hu,rfl⟩:=List.mem_map.1 hf;have:=i0 u hu
  omega
 have d1:FlN p S.flows:=by
  obtain⟨k,_,hl⟩:=hg.led;have:=hl.fn
  rwa [hg.shard] at this
 simp only[rlL,aI];refine aB6 ?_;intros;refine GPW.ent (L':=catP x.cat::bZ::allP cH x.steps::(obj b tRL (aI p x)::osl aN 7 ba x.tad x.tcap x.steps::catP x.cat::L)) ((Ent.at (A:=catP x.cat) (Ent.dup (kr x.cat).pers)).trans (by simp only[aI];exact ag)) ?_;refine GPW.ca (yg p ⟨d6,e0⟩ x.cat c7 h9 c8 x.tad x.steps.length x.tcap x.steps rfl ab S c2 b0.inp b0.k) ?_;rintro _ _⟨lb,rfl,rfl⟩;simp only[aI];refine aB6 ?_;intros;refine GO.ent (L':=mM lb S::(obj b tRL (aI p x)::catP x.cat::bZ::L)) (by simp only[aI];exact ag) ?_;refine GO.ca (zn lb S f4 ab) ?_;rintro _ _⟨sad,scap,ss,U,rfl,⟨c9,h0,d2⟩,rfl⟩;simp only[aI];refine aB6 ?_;intros;refine GO.ent (L':=LedR lb U::(osl aN 7 ba sad scap ss::bigO stO ss::obj b tRL (aI p x)::catP x.cat::bZ::L)) (by simp only[aI];exact ag) ?_;refine GO.ca (rN lb U (by rw[d2];exact c3) (by rw[d2];omega)) ?_;rintro _ _⟨fad,fcap,fs,rfl,b5,rfl⟩;rw[d2] at b5;have i1:fs.length=S.flows.length:=by rw[←b5,az]
 have i9:ss.length=x.steps.length:=by
  have:=congrArg List.length c9
  rw[az] at this;omega
 have b6:∀f∈fs,f.m.parts.length≤1000000∧f.m.made.length≤1000000:=fun f hf=>c3 f.m (by rw[←b5];exact alStd0List_mem_map_of_mem hf);refine aB6 ?_;intros;refine GO.ca (pz a9 16 hw ae ae) ?_;rintro _ _⟨q,rfl,⟨i7,j4⟩,rfl⟩;refine aB6 ?_;intros;refine GO.d8 (gA (ad:=fad) (cap:=fcap) (xs:=fs) (enc:=aQ) (sz:=11) (E:=bE)) ?_;rintro⟨d4,_⟩;refine GO.ent (L':=isl aQ 11 fad fs::allP flP fs::(osl aN 7 ba sad scap ss::bigO stO ss::obj b tRL (aI p x)::catP x.cat::bZ::L)) ((Ent.at (A:=bigO flO fs) (HD fs)).trans ((Ent.at (A:=osl aQ 11 bE fad fcap fs) Ent.freezeSl).trans (by simp only[aI];exact ag))) ?_;refine GO.ca (wo fad fs.length fcap fs rfl d4 ab b6 at_ q a1 ha ⟨i7,ab⟩ hb) ?_;rintro _ _⟨f6,d0,b9,f5,rfl,g5,h7,rfl⟩;simp only[aI];repeat first|refine G.sm 10 ?_|refine bV ?_|intro _|refine bz ?_
 have c1:AudS ss:=vS b0 (by rw[c9,c4]) h0;have c0:∀(l:List StM) (f:List FlM),audF p x.cat.m l f=audG f 0 (led0 p x.cat.m) l:=fun l f=>if_pos ⟨d6,e0⟩;have b1:AccL (led0 p x.cat.m) (ss.map StV.m) S:=by rw[c9,c4];exact c2
 have h6:AudFl b9:=Gz ab b6 (b:=a1) (is:=f5) (by
  rcases g5 with h|⟨h1,h2,k,hk,h3⟩
  ·exact .inl h
  ·exact .inr ⟨h1,h2,k,hk,Jt h3⟩)
 have i6:f5=true→(audF p x.cat.m (ss.map StV.m) (b9.map FlV.m)).1≠0:=fun hi=>by
  rcases g5 with⟨h,_⟩|⟨_,_,k,hk,h3⟩
  ·rw[h] at hi;cases hi
  ·rw[c0];refine Bt b1 ?_;rw[←b5];exact IR (by rw[b5];exact d1) hk h3
 refine G.f8 (gA (ad:=sad) (cap:=scap) (xs:=ss) (enc:=aN) (sz:=7) (E:=ba)) ?_;rintro⟨h8,_⟩;refine G.d8 (α:=Unit) (fun _=>True) (fun _=>[(2,ac at_),(4,ac a1),(11,ac p),(12,ay b),(15,ah sad ss.length scap),(16,ah fad fs.length fcap),(17,ac q)]) (fun _=>osl aN 7 ba sad scap ss::bigO stO ss::catP x.cat::allP flP fs::isl aQ 11 fad fs::obj b tRL (aI p x)::bZ::L) ?_ ?_
 ·cases f5 with
  | false =>
   refine aB6 ?_;intros;exact⟨(),trivial,av,by simp only[aI];exact ag⟩
  | true =>
   have d5:=i6 rfl;refine aB6 ?_;intros;refine GO.ent (L':=osl aN 7 ba sad scap ss::bigO stO ss::catP x.cat::allP flP b9::isl aQ 11 f6 b9::(allP flP fs::isl aQ 11 fad fs::obj b tRL (aI p x)::bZ::L)) (by simp only[aI];exact ag) ?_;refine GO.ca (py p x.cat c7 c8 sad f6 scap d0 ss b9 ss.length (aB _) h8 (by rw[bC];exact c1) h6 h7) ?_;rw[bC];rintro _ _⟨rfl,rfl⟩;generalize audF p x.cat.m (ss.map StV.m) (b9.map FlV.m)=FD at *;obtain⟨f1,f2,f3⟩:=FD;dsimp only at d5;simp only[fe];refine GO.ent (Ent.cons (nw ss)) ?_;refine GO.e7 rfl rfl ?_;refine GO.ev (Ev.A3 (off:=0) (fs:=Tryz.prog.fieldsOf tFnd) (fd:=(Tryz.prog.fieldsOf tFnd)[0]!) krStd0 krStd0 krStd0 (fun _=>krStd0) rfl rfl) ae ?_;refine aB6 ?_;intros;exact⟨(),trivial,av,by simp only[aI];exact ag⟩
 rintro _ _;simp only[aI];by_cases j8:ss.length=0
 ·refine aB6 ?_;intros;refine GO.ent (L':=bZ::L) ag ?_;refine GO.cr (mZ) ?_;refine aB6 ?_;intros;exact KX.en ⟨rfl,rfl⟩
 by_cases b2:a1=0
 ·refine aB6 ?_;intros;refine GO.ent (L':=bZ::L) ag ?_;refine GO.cr (mZ) ?_;refine aB6 ?_;intros;exact KX.en ⟨rfl,rfl⟩
 refine aB6 ?_;intros;refine GO.ca (pz at_ ss.length ha ab ab) ?_;rintro _ _⟨r,rfl,⟨j5,j6⟩,rfl⟩;obtain⟨k,rfl⟩:∃k:Nat,r=(k:Int):=⟨r.toNat,ab⟩;have b3:k<ss.length:=ab;have a2:(k:Int).toNat=k:=aC k;have a0 : (k:Int).toNat<ss.length:=ab
 have b8:ss.map StV.m=(ss.map StV.m).take k++ss[(k:Int).toNat]!.m::(ss.map StV.m).drop (k+1):=by
  have h1:(ss.map StV.m).drop k=ss[(k:Int).toNat]!.m::(ss.map StV.m).drop (k+1):=by
   rw[a2,←dI StV.m b3];exact ej (by rw[az];exact b3)
  rw[←h1,dj]
 have a5:=b1;rw[b8] at a5;obtain⟨T,z,t1,t2,t3,t4⟩:=nJ a5;have i5:=(kX t2).2.2.2.1.1;have i4:ss[(k:Int).toNat]!.m.moves.length=ss[(k:Int).toNat]!.moves.length:=az _;have b7:1≤ss[(k:Int).toNat]!.moves.length:=ab;have i3:ss[(k:Int).toNat]!.moves.length≤1000000:=(c1.inp _ (aJ a0)).1.len;repeat first|refine G.sm 18 ?_|refine bV ?_|intro _|refine bz ?_
 refine G.d8 (α:=StV) (fun s'=>ChS ss[k]! s'∧(s'.m.id≠ss[k]!.m.id∨s'.m.moves.map (keyM s'.m)≠ss[k]!.m.moves.map (keyM ss[k]!.m))) (fun _=>[(11,ac p),(12,ay b),(15,ah sad ss.length scap),(16,ah fad fs.length fcap),(20,ac (k:Int))]) (fun s'=>osl aN 7 ba sad scap (ss.set k s')::bigO stO (ss.set k s')::catP x.cat::allP flP fs::isl aQ 11 fad fs::obj b tRL (aI p x)::bZ::L) ?_ ?_
 ·rcases (by omega:(q=0∨q=8)∨(q=1∨q=9)∨(q=2∨q=10)∨(q=3∨q=11)∨(q=4∨q=12)∨(q=5∨q=13)∨(q=6∨q=14)∨(q=7∨q=15)) with hq|hq|hq|hq|hq|hq|hq|hq
  ·rcases hq with rfl|rfl
   all_goals
    refine aB6 ?_;intros;refine GO.ev (Ev.f8 rfl rfl) ae ?_
    refine aB6 ?_;intros;refine GO.efu (Ef.e9 (e:=(⟨IntKind.i64.wrap (ss[(k:Int).toNat]!.id+a1),ss[(k:Int).toNat]!.kind,ss[(k:Int).toNat]!.actor,ss[(k:Int).toNat]!.tick,ss[(k:Int).toNat]!.rule,ss[(k:Int).toNat]!.times,ss[(k:Int).toNat]!.moves,ss[(k:Int).toNat]!.mad,ss[(k:Int).toNat]!.mcap⟩:StV)) rfl rfl aK rfl a0 ae) ?_
    rintro _ _ rfl
    refine aB6 ?_;intros;refine⟨⟨IntKind.i64.wrap (ss[(k:Int).toNat]!.id+a1),ss[(k:Int).toNat]!.kind,ss[(k:Int).toNat]!.actor,ss[(k:Int).toNat]!.tick,ss[(k:Int).toNat]!.rule,ss[(k:Int).toNat]!.times,ss[(k:Int).toNat]!.moves,ss[(k:Int).toNat]!.mad,ss[(k:Int).toNat]!.mcap⟩,⟨by rw[a2];exact⟨rfl,rfl,rfl⟩,by rw[a2] at b7 ⊢;exact(.inl (fun h=>gz hb b2 h))⟩,av,?_⟩
    rw[a2,nH (e:=⟨IntKind.i64.wrap (ss[k]!.id+a1),ss[k]!.kind,ss[k]!.actor,ss[k]!.tick,ss[k]!.rule,ss[k]!.times,ss[k]!.moves,ss[k]!.mad,ss[k]!.mcap⟩) b3 rfl]
    simp only[aI]
    exact ag
  ·rcases hq with rfl|rfl
   all_goals
    refine aB6 ?_;intros;refine GO.ev (Ev.f8 rfl rfl) ae ?_
    refine aB6 ?_;intros;refine GO.efu (Ef.e9 (e:=(⟨ss[(k:Int).toNat]!.id,IntKind.i64.wrap (ss[(k:Int).toNat]!.kind+a1),ss[(k:Int).toNat]!.actor,ss[(k:Int).toNat]!.tick,ss[(k:Int).toNat]!.rule,ss[(k:Int).toNat]!.times,ss[(k:Int).toNat]!.moves,ss[(k:Int).toNat]!.mad,ss[(k:Int).toNat]!.mcap⟩:StV)) rfl rfl aK rfl a0 ae) ?_
    rintro _ _ rfl
    refine aB6 ?_;intros;refine⟨⟨ss[(k:Int).toNat]!.id,IntKind.i64.wrap (ss[(k:Int).toNat]!.kind+a1),ss[(k:Int).toNat]!.actor,ss[(k:Int).toNat]!.tick,ss[(k:Int).toNat]!.rule,ss[(k:Int).toNat]!.times,ss[(k:Int).toNat]!.moves,ss[(k:Int).toNat]!.mad,ss[(k:Int).toNat]!.mcap⟩,⟨by rw[a2];exact⟨rfl,rfl,rfl⟩,by rw[a2] at b7 ⊢;exact(.inr (lH (j:=0) rfl b7 (fun h=>gz hb b2 (congrArg (fun z=>z.1) h))))⟩,av,?_⟩
    rw[a2,nH (e:=⟨ss[k]!.id,IntKind.i64.wrap (ss[k]!.kind+a1),ss[k]!.actor,ss[k]!.tick,ss[k]!.rule,ss[k]!.times,ss[k]!.moves,ss[k]!.mad,ss[k]!.mcap⟩) b3 rfl]
    simp only[aI]
    exact ag
  ·rcases hq with rfl|rfl
   all_goals
    refine aB6 ?_;intros;refine GO.ev (Ev.f8 rfl rfl) ae ?_
    refine aB6 ?_;intros;refine GO.efu (Ef.e9 (e:=(⟨ss[(k:Int).toNat]!.id,ss[(k:Int).toNat]!.kind,IntKind.i64.wrap (ss[(k:Int).toNat]!.actor+a1),ss[(k:Int).toNat]!.tick,ss[(k:Int).toNat]!.rule,ss[(k:Int).toNat]!.times,ss[(k:Int).toNat]!.moves,ss[(k:Int).toNat]!.mad,ss[(k:Int).toNat]!.mcap⟩:StV)) rfl rfl aK rfl a0 ae) ?_
    rintro _ _ rfl
    refine aB6 ?_;intros;refine⟨⟨ss[(k:Int).toNat]!.id,ss[(k:Int).toNat]!.kind,IntKind.i64.wrap (ss[(k:Int).toNat]!.actor+a1),ss[(k:Int).toNat]!.tick,ss[(k:Int).toNat]!.rule,ss[(k:Int).toNat]!.times,ss[(k:Int).toNat]!.moves,ss[(k:Int).toNat]!.mad,ss[(k:Int).toNat]!.mcap⟩,⟨by rw[a2];exact⟨rfl,rfl,rfl⟩,by rw[a2] at b7 ⊢;exact(.inr (lH (j:=0) rfl b7 (fun h=>gz hb b2 (congrArg (fun z=>z.2.2.1) h))))⟩,av,?_⟩
    rw[a2,nH (e:=⟨ss[k]!.id,ss[k]!.kind,IntKind.i64.wrap (ss[k]!.actor+a1),ss[k]!.tick,ss[k]!.rule,ss[k]!.times,ss[k]!.moves,ss[k]!.mad,ss[k]!.mcap⟩) b3 rfl]
    simp only[aI]
    exact ag
  ·rcases hq with rfl|rfl
   all_goals
    refine aB6 ?_;intros;refine GO.ev (Ev.f8 rfl rfl) ae ?_
    refine aB6 ?_;intros;refine GO.efu (Ef.e9 (e:=(⟨ss[(k:Int).toNat]!.id,ss[(k:Int).toNat]!.kind,ss[(k:Int).toNat]!.actor,IntKind.i64.wrap (ss[(k:Int).toNat]!.tick+a1),ss[(k:Int).toNat]!.rule,ss[(k:Int).toNat]!.times,ss[(k:Int).toNat]!.moves,ss[(k:Int).toNat]!.mad,ss[(k:Int).toNat]!.mcap⟩:StV)) rfl rfl aK rfl a0 ae) ?_
    rintro _ _ rfl
    refine aB6 ?_;intros;refine⟨⟨ss[(k:Int).toNat]!.id,ss[(k:Int).toNat]!.kind,ss[(k:Int).toNat]!.actor,IntKind.i64.wrap (ss[(k:Int).toNat]!.tick+a1),ss[(k:Int).toNat]!.rule,ss[(k:Int).toNat]!.times,ss[(k:Int).toNat]!.moves,ss[(k:Int).toNat]!.mad,ss[(k:Int).toNat]!.mcap⟩,⟨by rw[a2];exact⟨rfl,rfl,rfl⟩,by rw[a2] at b7 ⊢;exact(.inr (lH (j:=0) rfl b7 (fun h=>gz hb b2 (congrArg (fun z=>z.2.1) h))))⟩,av,?_⟩
    rw[a2,nH (e:=⟨ss[k]!.id,ss[k]!.kind,ss[k]!.actor,IntKind.i64.wrap (ss[k]!.tick+a1),ss[k]!.rule,ss[k]!.times,ss[k]!.moves,ss[k]!.mad,ss[k]!.mcap⟩) b3 rfl]
    simp only[aI]
    exact ag
  ·rcases hq with rfl|rfl
   all_goals
    have hj:((ss[(k:Int).toNat]!.moves.length:Int) - 1).toNat<ss[(k:Int).toNat]!.moves.length:=by first|omega|(show 0<_;omega)
    refine G.ent (L':=osl aL 5 tMv ss[(k:Int).toNat]!.mad ss[(k:Int).toNat]!.mcap ss[(k:Int).toNat]!.moves::allP mvP ss[(k:Int).toNat]!.moves::bigO stO (ss.eraseIdx (k:Int).toNat)::osl aN 7 ba sad scap ss::catP x.cat::allP flP fs::isl aQ 11 fad fs::obj b tRL (aI p x)::bZ::L) ((Ent.at (A:=bigO stO ss) (mK (k:=(k:Int).toNat) a0)).trans (by simp only[aI];exact ag)) ?_
    simp only[aI]
    refine aB6 ?_;intros;refine GPW.evP (Ev.f8 rfl rfl) ae ?_
    refine aB6 ?_;intros;refine GPW.efu (Ef.e9 (e:=(⟨⟨IntKind.i64.wrap (ss[(k:Int).toNat]!.moves[((ss[(k:Int).toNat]!.moves.length:Int) - 1).toNat]!.m.frm+a1),ss[(k:Int).toNat]!.moves[((ss[(k:Int).toNat]!.moves.length:Int) - 1).toNat]!.m.to,ss[(k:Int).toNat]!.moves[((ss[(k:Int).toNat]!.moves.length:Int) - 1).toNat]!.m.item,ss[(k:Int).toNat]!.moves[((ss[(k:Int).toNat]!.moves.length:Int) - 1).toNat]!.m.n,ss[(k:Int).toNat]!.moves[((ss[(k:Int).toNat]!.moves.length:Int) - 1).toNat]!.m.parts⟩,ss[(k:Int).toNat]!.moves[((ss[(k:Int).toNat]!.moves.length:Int) - 1).toNat]!.pad,ss[(k:Int).toNat]!.moves[((ss[(k:Int).toNat]!.moves.length:Int) - 1).toNat]!.pcap⟩:MvV)) rfl rfl aK rfl hj ae) ?_
    rintro _ _ rfl
    refine aB6 ?_;intros;have a4:(ss[(k:Int).toNat]!.moves.set ((ss[(k:Int).toNat]!.moves.length:Int) - 1).toNat (⟨⟨IntKind.i64.wrap (ss[(k:Int).toNat]!.moves[((ss[(k:Int).toNat]!.moves.length:Int) - 1).toNat]!.m.frm+a1),ss[(k:Int).toNat]!.moves[((ss[(k:Int).toNat]!.moves.length:Int) - 1).toNat]!.m.to,ss[(k:Int).toNat]!.moves[((ss[(k:Int).toNat]!.moves.length:Int) - 1).toNat]!.m.item,ss[(k:Int).toNat]!.moves[((ss[(k:Int).toNat]!.moves.length:Int) - 1).toNat]!.m.n,ss[(k:Int).toNat]!.moves[((ss[(k:Int).toNat]!.moves.length:Int) - 1).toNat]!.m.parts⟩,ss[(k:Int).toNat]!.moves[((ss[(k:Int).toNat]!.moves.length:Int) - 1).toNat]!.pad,ss[(k:Int).toNat]!.moves[((ss[(k:Int).toNat]!.moves.length:Int) - 1).toNat]!.pcap⟩:MvV)).length=ss[(k:Int).toNat]!.moves.length:=bh
    obtain⟨e,he⟩:∃e,(⟨ss[(k:Int).toNat]!.id,ss[(k:Int).toNat]!.kind,ss[(k:Int).toNat]!.actor,ss[(k:Int).toNat]!.tick,ss[(k:Int).toNat]!.rule,ss[(k:Int).toNat]!.times,ss[(k:Int).toNat]!.moves.set ((ss[(k:Int).toNat]!.moves.length:Int) - 1).toNat (⟨⟨IntKind.i64.wrap (ss[(k:Int).toNat]!.moves[((ss[(k:Int).toNat]!.moves.length:Int) - 1).toNat]!.m.frm+a1),ss[(k:Int).toNat]!.moves[((ss[(k:Int).toNat]!.moves.length:Int) - 1).toNat]!.m.to,ss[(k:Int).toNat]!.moves[((ss[(k:Int).toNat]!.moves.length:Int) - 1).toNat]!.m.item,ss[(k:Int).toNat]!.moves[((ss[(k:Int).toNat]!.moves.length:Int) - 1).toNat]!.m.n,ss[(k:Int).toNat]!.moves[((ss[(k:Int).toNat]!.moves.length:Int) - 1).toNat]!.m.parts⟩,ss[(k:Int).toNat]!.moves[((ss[(k:Int).toNat]!.moves.length:Int) - 1).toNat]!.pad,ss[(k:Int).toNat]!.moves[((ss[(k:Int).toNat]!.moves.length:Int) - 1).toNat]!.pcap⟩:MvV),ss[(k:Int).toNat]!.mad,ss[(k:Int).toNat]!.mcap⟩:StV)=e:=⟨_,rfl⟩
    have a3:e.moves=ss[(k:Int).toNat]!.moves.set ((ss[(k:Int).toNat]!.moves.length:Int) - 1).toNat (⟨⟨IntKind.i64.wrap (ss[(k:Int).toNat]!.moves[((ss[(k:Int).toNat]!.moves.length:Int) - 1).toNat]!.m.frm+a1),ss[(k:Int).toNat]!.moves[((ss[(k:Int).toNat]!.moves.length:Int) - 1).toNat]!.m.to,ss[(k:Int).toNat]!.moves[((ss[(k:Int).toNat]!.moves.length:Int) - 1).toNat]!.m.item,ss[(k:Int).toNat]!.moves[((ss[(k:Int).toNat]!.moves.length:Int) - 1).toNat]!.m.n,ss[(k:Int).toNat]!.moves[((ss[(k:Int).toNat]!.moves.length:Int) - 1).toNat]!.m.parts⟩,ss[(k:Int).toNat]!.moves[((ss[(k:Int).toNat]!.moves.length:Int) - 1).toNat]!.pad,ss[(k:Int).toNat]!.moves[((ss[(k:Int).toNat]!.moves.length:Int) - 1).toNat]!.pcap⟩:MvV):=by rw[←he]
    have a6:ChS ss[(k:Int).toNat]! e:=⟨by rw[←he],by rw[←he],by rw[a3];exact tM hj rfl⟩
    have a7:e.m.moves.map (keyM e.m)≠ss[(k:Int).toNat]!.m.moves.map (keyM ss[(k:Int).toNat]!.m):=lH (j:=((ss[(k:Int).toNat]!.moves.length:Int) - 1).toNat) (by rw[a3];exact a4) hj (by rw[a3,getElem!_of (by rw[a4];exact hj),cP,if_pos rfl];exact fun h=>gz hb b2 (congrArg (fun z=>z.2.2.2.1) h))
    refine⟨e,⟨by rw[a2] at a6;exact a6,by rw[a2] at a7;exact .inr a7⟩,av,?_⟩
    refine(Ent.at (A:=allP mvP ss[(k:Int).toNat]!.moves) (Ent.l7 (l':=e.moves) (by rw[a3];exact re rfl hj))).trans ?_
    rw[←a3]
    refine Ent.trans (B:=osl aL 5 tMv e.mad e.mcap e.moves::allP mvP e.moves::bigO stO (ss.eraseIdx (k:Int).toNat)::osl aN 7 ba sad scap ss::catP x.cat::allP flP fs::isl aQ 11 fad fs::obj b tRL (aI p x)::bZ::L) (by rw[show e.mad=ss[(k:Int).toNat]!.mad by rw[←he],show e.mcap=ss[(k:Int).toNat]!.mcap by rw[←he]];simp only[aI];exact ag) ?_
    refine(lY (k:=(k:Int).toNat) a0 e).trans ((Ent.at (A:=osl aN 7 ba sad scap ss) (rb (nB (e:=e) a0 (by rw[←he];simp only[aN,bh])))).trans ?_)
    rw[a2]
    exact ag
  ·rcases hq with rfl|rfl
   all_goals
    have hj:(Int.toNat 0)<ss[(k:Int).toNat]!.moves.length:=by first|omega|(show 0<_;omega)
    refine G.ent (L':=osl aL 5 tMv ss[(k:Int).toNat]!.mad ss[(k:Int).toNat]!.mcap ss[(k:Int).toNat]!.moves::allP mvP ss[(k:Int).toNat]!.moves::bigO stO (ss.eraseIdx (k:Int).toNat)::osl aN 7 ba sad scap ss::catP x.cat::allP flP fs::isl aQ 11 fad fs::obj b tRL (aI p x)::bZ::L) ((Ent.at (A:=bigO stO ss) (mK (k:=(k:Int).toNat) a0)).trans (by simp only[aI];exact ag)) ?_
    simp only[aI]
    refine aB6 ?_;intros;refine GPW.evP (Ev.f8 rfl rfl) ae ?_
    refine aB6 ?_;intros;refine GPW.efu (Ef.e9 (e:=(⟨⟨ss[(k:Int).toNat]!.moves[(Int.toNat 0)]!.m.frm,IntKind.i64.wrap (ss[(k:Int).toNat]!.moves[(Int.toNat 0)]!.m.to+a1),ss[(k:Int).toNat]!.moves[(Int.toNat 0)]!.m.item,ss[(k:Int).toNat]!.moves[(Int.toNat 0)]!.m.n,ss[(k:Int).toNat]!.moves[(Int.toNat 0)]!.m.parts⟩,ss[(k:Int).toNat]!.moves[(Int.toNat 0)]!.pad,ss[(k:Int).toNat]!.moves[(Int.toNat 0)]!.pcap⟩:MvV)) rfl rfl aK rfl hj ae) ?_
    rintro _ _ rfl
    refine aB6 ?_;intros;have a4:(ss[(k:Int).toNat]!.moves.set (Int.toNat 0) (⟨⟨ss[(k:Int).toNat]!.moves[(Int.toNat 0)]!.m.frm,IntKind.i64.wrap (ss[(k:Int).toNat]!.moves[(Int.toNat 0)]!.m.to+a1),ss[(k:Int).toNat]!.moves[(Int.toNat 0)]!.m.item,ss[(k:Int).toNat]!.moves[(Int.toNat 0)]!.m.n,ss[(k:Int).toNat]!.moves[(Int.toNat 0)]!.m.parts⟩,ss[(k:Int).toNat]!.moves[(Int.toNat 0)]!.pad,ss[(k:Int).toNat]!.moves[(Int.toNat 0)]!.pcap⟩:MvV)).length=ss[(k:Int).toNat]!.moves.length:=bh
    obtain⟨e,he⟩:∃e,(⟨ss[(k:Int).toNat]!.id,ss[(k:Int).toNat]!.kind,ss[(k:Int).toNat]!.actor,ss[(k:Int).toNat]!.tick,ss[(k:Int).toNat]!.rule,ss[(k:Int).toNat]!.times,ss[(k:Int).toNat]!.moves.set (Int.toNat 0) (⟨⟨ss[(k:Int).toNat]!.moves[(Int.toNat 0)]!.m.frm,IntKind.i64.wrap (ss[(k:Int).toNat]!.moves[(Int.toNat 0)]!.m.to+a1),ss[(k:Int).toNat]!.moves[(Int.toNat 0)]!.m.item,ss[(k:Int).toNat]!.moves[(Int.toNat 0)]!.m.n,ss[(k:Int).toNat]!.moves[(Int.toNat 0)]!.m.parts⟩,ss[(k:Int).toNat]!.moves[(Int.toNat 0)]!.pad,ss[(k:Int).toNat]!.moves[(Int.toNat 0)]!.pcap⟩:MvV),ss[(k:Int).toNat]!.mad,ss[(k:Int).toNat]!.mcap⟩:StV)=e:=⟨_,rfl⟩
    have a3:e.moves=ss[(k:Int).toNat]!.moves.set (Int.toNat 0) (⟨⟨ss[(k:Int).toNat]!.moves[(Int.toNat 0)]!.m.frm,IntKind.i64.wrap (ss[(k:Int).toNat]!.moves[(Int.toNat 0)]!.m.to+a1),ss[(k:Int).toNat]!.moves[(Int.toNat 0)]!.m.item,ss[(k:Int).toNat]!.moves[(Int.toNat 0)]!.m.n,ss[(k:Int).toNat]!.moves[(Int.toNat 0)]!.m.parts⟩,ss[(k:Int).toNat]!.moves[(Int.toNat 0)]!.pad,ss[(k:Int).toNat]!.moves[(Int.toNat 0)]!.pcap⟩:MvV):=by rw[←he]
    have a6:ChS ss[(k:Int).toNat]! e:=⟨by rw[←he],by rw[←he],by rw[a3];exact tM hj rfl⟩
    have a7:e.m.moves.map (keyM e.m)≠ss[(k:Int).toNat]!.m.moves.map (keyM ss[(k:Int).toNat]!.m):=lH (j:=(Int.toNat 0)) (by rw[a3];exact a4) hj (by rw[a3,getElem!_of (by rw[a4];exact hj),cP,if_pos rfl];exact fun h=>gz hb b2 (congrArg (fun z=>z.2.2.2.2.1) h))
    refine⟨e,⟨by rw[a2] at a6;exact a6,by rw[a2] at a7;exact .inr a7⟩,av,?_⟩
    refine(Ent.at (A:=allP mvP ss[(k:Int).toNat]!.moves) (Ent.l7 (l':=e.moves) (by rw[a3];exact re rfl hj))).trans ?_
    rw[←a3]
    refine Ent.trans (B:=osl aL 5 tMv e.mad e.mcap e.moves::allP mvP e.moves::bigO stO (ss.eraseIdx (k:Int).toNat)::osl aN 7 ba sad scap ss::catP x.cat::allP flP fs::isl aQ 11 fad fs::obj b tRL (aI p x)::bZ::L) (by rw[show e.mad=ss[(k:Int).toNat]!.mad by rw[←he],show e.mcap=ss[(k:Int).toNat]!.mcap by rw[←he]];simp only[aI];exact ag) ?_
    refine(lY (k:=(k:Int).toNat) a0 e).trans ((Ent.at (A:=osl aN 7 ba sad scap ss) (rb (nB (e:=e) a0 (by rw[←he];simp only[aN,bh])))).trans ?_)
    rw[a2]
    exact ag
  ·rcases hq with rfl|rfl
   all_goals
    have hj:((ss[(k:Int).toNat]!.moves.length:Int) - 1).toNat<ss[(k:Int).toNat]!.moves.length:=by first|omega|(show 0<_;omega)
    refine G.ent (L':=osl aL 5 tMv ss[(k:Int).toNat]!.mad ss[(k:Int).toNat]!.mcap ss[(k:Int).toNat]!.moves::allP mvP ss[(k:Int).toNat]!.moves::bigO stO (ss.eraseIdx (k:Int).toNat)::osl aN 7 ba sad scap ss::catP x.cat::allP flP fs::isl aQ 11 fad fs::obj b tRL (aI p x)::bZ::L) ((Ent.at (A:=bigO stO ss) (mK (k:=(k:Int).toNat) a0)).trans (by simp only[aI];exact ag)) ?_
    simp only[aI]
    refine aB6 ?_;intros;refine GPW.evP (Ev.f8 rfl rfl) ae ?_
    refine aB6 ?_;intros;refine GPW.efu (Ef.e9 (e:=(⟨⟨ss[(k:Int).toNat]!.moves[((ss[(k:Int).toNat]!.moves.length:Int) - 1).toNat]!.m.frm,ss[(k:Int).toNat]!.moves[((ss[(k:Int).toNat]!.moves.length:Int) - 1).toNat]!.m.to,IntKind.i64.wrap (ss[(k:Int).toNat]!.moves[((ss[(k:Int).toNat]!.moves.length:Int) - 1).toNat]!.m.item+a1),ss[(k:Int).toNat]!.moves[((ss[(k:Int).toNat]!.moves.length:Int) - 1).toNat]!.m.n,ss[(k:Int).toNat]!.moves[((ss[(k:Int).toNat]!.moves.length:Int) - 1).toNat]!.m.parts⟩,ss[(k:Int).toNat]!.moves[((ss[(k:Int).toNat]!.moves.length:Int) - 1).toNat]!.pad,ss[(k:Int).toNat]!.moves[((ss[(k:Int).toNat]!.moves.length:Int) - 1).toNat]!.pcap⟩:MvV)) rfl rfl aK rfl hj ae) ?_
    rintro _ _ rfl
    refine aB6 ?_;intros;have a4:(ss[(k:Int).toNat]!.moves.set ((ss[(k:Int).toNat]!.moves.length:Int) - 1).toNat (⟨⟨ss[(k:Int).toNat]!.moves[((ss[(k:Int).toNat]!.moves.length:Int) - 1).toNat]!.m.frm,ss[(k:Int).toNat]!.moves[((ss[(k:Int).toNat]!.moves.length:Int) - 1).toNat]!.m.to,IntKind.i64.wrap (ss[(k:Int).toNat]!.moves[((ss[(k:Int).toNat]!.moves.length:Int) - 1).toNat]!.m.item+a1),ss[(k:Int).toNat]!.moves[((ss[(k:Int).toNat]!.moves.length:Int) - 1).toNat]!.m.n,ss[(k:Int).toNat]!.moves[((ss[(k:Int).toNat]!.moves.length:Int) - 1).toNat]!.m.parts⟩,ss[(k:Int).toNat]!.moves[((ss[(k:Int).toNat]!.moves.length:Int) - 1).toNat]!.pad,ss[(k:Int).toNat]!.moves[((ss[(k:Int).toNat]!.moves.length:Int) - 1).toNat]!.pcap⟩:MvV)).length=ss[(k:Int).toNat]!.moves.length:=bh
    obtain⟨e,he⟩:∃e,(⟨ss[(k:Int).toNat]!.id,ss[(k:Int).toNat]!.kind,ss[(k:Int).toNat]!.actor,ss[(k:Int).toNat]!.tick,ss[(k:Int).toNat]!.rule,ss[(k:Int).toNat]!.times,ss[(k:Int).toNat]!.moves.set ((ss[(k:Int).toNat]!.moves.length:Int) - 1).toNat (⟨⟨ss[(k:Int).toNat]!.moves[((ss[(k:Int).toNat]!.moves.length:Int) - 1).toNat]!.m.frm,ss[(k:Int).toNat]!.moves[((ss[(k:Int).toNat]!.moves.length:Int) - 1).toNat]!.m.to,IntKind.i64.wrap (ss[(k:Int).toNat]!.moves[((ss[(k:Int).toNat]!.moves.length:Int) - 1).toNat]!.m.item+a1),ss[(k:Int).toNat]!.moves[((ss[(k:Int).toNat]!.moves.length:Int) - 1).toNat]!.m.n,ss[(k:Int).toNat]!.moves[((ss[(k:Int).toNat]!.moves.length:Int) - 1).toNat]!.m.parts⟩,ss[(k:Int).toNat]!.moves[((ss[(k:Int).toNat]!.moves.length:Int) - 1).toNat]!.pad,ss[(k:Int).toNat]!.moves[((ss[(k:Int).toNat]!.moves.length:Int) - 1).toNat]!.pcap⟩:MvV),ss[(k:Int).toNat]!.mad,ss[(k:Int).toNat]!.mcap⟩:StV)=e:=⟨_,rfl⟩
    have a3:e.moves=ss[(k:Int).toNat]!.moves.set ((ss[(k:Int).toNat]!.moves.length:Int) - 1).toNat (⟨⟨ss[(k:Int).toNat]!.moves[((ss[(k:Int).toNat]!.moves.length:Int) - 1).toNat]!.m.frm,ss[(k:Int).toNat]!.moves[((ss[(k:Int).toNat]!.moves.length:Int) - 1).toNat]!.m.to,IntKind.i64.wrap (ss[(k:Int).toNat]!.moves[((ss[(k:Int).toNat]!.moves.length:Int) - 1).toNat]!.m.item+a1),ss[(k:Int).toNat]!.moves[((ss[(k:Int).toNat]!.moves.length:Int) - 1).toNat]!.m.n,ss[(k:Int).toNat]!.moves[((ss[(k:Int).toNat]!.moves.length:Int) - 1).toNat]!.m.parts⟩,ss[(k:Int).toNat]!.moves[((ss[(k:Int).toNat]!.moves.length:Int) - 1).toNat]!.pad,ss[(k:Int).toNat]!.moves[((ss[(k:Int).toNat]!.moves.length:Int) - 1).toNat]!.pcap⟩:MvV):=by rw[←he]
    have a6:ChS ss[(k:Int).toNat]! e:=⟨by rw[←he],by rw[←he],by rw[a3];exact tM hj rfl⟩
    have a7:e.m.moves.map (keyM e.m)≠ss[(k:Int).toNat]!.m.moves.map (keyM ss[(k:Int).toNat]!.m):=lH (j:=((ss[(k:Int).toNat]!.moves.length:Int) - 1).toNat) (by rw[a3];exact a4) hj (by rw[a3,getElem!_of (by rw[a4];exact hj),cP,if_pos rfl];exact fun h=>gz hb b2 (congrArg (fun z=>z.2.2.2.2.2.1) h))
    refine⟨e,⟨by rw[a2] at a6;exact a6,by rw[a2] at a7;exact .inr a7⟩,av,?_⟩
    refine(Ent.at (A:=allP mvP ss[(k:Int).toNat]!.moves) (Ent.l7 (l':=e.moves) (by rw[a3];exact re rfl hj))).trans ?_
    rw[←a3]
    refine Ent.trans (B:=osl aL 5 tMv e.mad e.mcap e.moves::allP mvP e.moves::bigO stO (ss.eraseIdx (k:Int).toNat)::osl aN 7 ba sad scap ss::catP x.cat::allP flP fs::isl aQ 11 fad fs::obj b tRL (aI p x)::bZ::L) (by rw[show e.mad=ss[(k:Int).toNat]!.mad by rw[←he],show e.mcap=ss[(k:Int).toNat]!.mcap by rw[←he]];simp only[aI];exact ag) ?_
    refine(lY (k:=(k:Int).toNat) a0 e).trans ((Ent.at (A:=osl aN 7 ba sad scap ss) (rb (nB (e:=e) a0 (by rw[←he];simp only[aN,bh])))).trans ?_)
    rw[a2]
    exact ag
  ·rcases hq with rfl|rfl
   all_goals
    have hj:(Int.toNat 0)<ss[(k:Int).toNat]!.moves.length:=by first|omega|(show 0<_;omega)
    refine G.ent (L':=osl aL 5 tMv ss[(k:Int).toNat]!.mad ss[(k:Int).toNat]!.mcap ss[(k:Int).toNat]!.moves::allP mvP ss[(k:Int).toNat]!.moves::bigO stO (ss.eraseIdx (k:Int).toNat)::osl aN 7 ba sad scap ss::catP x.cat::allP flP fs::isl aQ 11 fad fs::obj b tRL (aI p x)::bZ::L) ((Ent.at (A:=bigO stO ss) (mK (k:=(k:Int).toNat) a0)).trans (by simp only[aI];exact ag)) ?_
    simp only[aI]
    refine aB6 ?_;intros;refine GPW.evP (Ev.f8 rfl rfl) ae ?_
    refine aB6 ?_;intros;refine GPW.efu (Ef.e9 (e:=(⟨⟨ss[(k:Int).toNat]!.moves[(Int.toNat 0)]!.m.frm,ss[(k:Int).toNat]!.moves[(Int.toNat 0)]!.m.to,ss[(k:Int).toNat]!.moves[(Int.toNat 0)]!.m.item,IntKind.i64.wrap (ss[(k:Int).toNat]!.moves[(Int.toNat 0)]!.m.n+a1),ss[(k:Int).toNat]!.moves[(Int.toNat 0)]!.m.parts⟩,ss[(k:Int).toNat]!.moves[(Int.toNat 0)]!.pad,ss[(k:Int).toNat]!.moves[(Int.toNat 0)]!.pcap⟩:MvV)) rfl rfl aK rfl hj ae) ?_
    rintro _ _ rfl
    refine aB6 ?_;intros;have a4:(ss[(k:Int).toNat]!.moves.set (Int.toNat 0) (⟨⟨ss[(k:Int).toNat]!.moves[(Int.toNat 0)]!.m.frm,ss[(k:Int).toNat]!.moves[(Int.toNat 0)]!.m.to,ss[(k:Int).toNat]!.moves[(Int.toNat 0)]!.m.item,IntKind.i64.wrap (ss[(k:Int).toNat]!.moves[(Int.toNat 0)]!.m.n+a1),ss[(k:Int).toNat]!.moves[(Int.toNat 0)]!.m.parts⟩,ss[(k:Int).toNat]!.moves[(Int.toNat 0)]!.pad,ss[(k:Int).toNat]!.moves[(Int.toNat 0)]!.pcap⟩:MvV)).length=ss[(k:Int).toNat]!.moves.length:=bh
    obtain⟨e,he⟩:∃e,(⟨ss[(k:Int).toNat]!.id,ss[(k:Int).toNat]!.kind,ss[(k:Int).toNat]!.actor,ss[(k:Int).toNat]!.tick,ss[(k:Int).toNat]!.rule,ss[(k:Int).toNat]!.times,ss[(k:Int).toNat]!.moves.set (Int.toNat 0) (⟨⟨ss[(k:Int).toNat]!.moves[(Int.toNat 0)]!.m.frm,ss[(k:Int).toNat]!.moves[(Int.toNat 0)]!.m.to,ss[(k:Int).toNat]!.moves[(Int.toNat 0)]!.m.item,IntKind.i64.wrap (ss[(k:Int).toNat]!.moves[(Int.toNat 0)]!.m.n+a1),ss[(k:Int).toNat]!.moves[(Int.toNat 0)]!.m.parts⟩,ss[(k:Int).toNat]!.moves[(Int.toNat 0)]!.pad,ss[(k:Int).toNat]!.moves[(Int.toNat 0)]!.pcap⟩:MvV),ss[(k:Int).toNat]!.mad,ss[(k:Int).toNat]!.mcap⟩:StV)=e:=⟨_,rfl⟩
    have a3:e.moves=ss[(k:Int).toNat]!.moves.set (Int.toNat 0) (⟨⟨ss[(k:Int).toNat]!.moves[(Int.toNat 0)]!.m.frm,ss[(k:Int).toNat]!.moves[(Int.toNat 0)]!.m.to,ss[(k:Int).toNat]!.moves[(Int.toNat 0)]!.m.item,IntKind.i64.wrap (ss[(k:Int).toNat]!.moves[(Int.toNat 0)]!.m.n+a1),ss[(k:Int).toNat]!.moves[(Int.toNat 0)]!.m.parts⟩,ss[(k:Int).toNat]!.moves[(Int.toNat 0)]!.pad,ss[(k:Int).toNat]!.moves[(Int.toNat 0)]!.pcap⟩:MvV):=by rw[←he]
    have a6:ChS ss[(k:Int).toNat]! e:=⟨by rw[←he],by rw[←he],by rw[a3];exact tM hj rfl⟩
    have a7:e.m.moves.map (keyM e.m)≠ss[(k:Int).toNat]!.m.moves.map (keyM ss[(k:Int).toNat]!.m):=lH (j:=(Int.toNat 0)) (by rw[a3];exact a4) hj (by rw[a3,getElem!_of (by rw[a4];exact hj),cP,if_pos rfl];exact fun h=>gz hb b2 (congrArg (fun z=>z.2.2.2.2.2.2) h))
    refine⟨e,⟨by rw[a2] at a6;exact a6,by rw[a2] at a7;exact .inr a7⟩,av,?_⟩
    refine(Ent.at (A:=allP mvP ss[(k:Int).toNat]!.moves) (Ent.l7 (l':=e.moves) (by rw[a3];exact re rfl hj))).trans ?_
    rw[←a3]
    refine Ent.trans (B:=osl aL 5 tMv e.mad e.mcap e.moves::allP mvP e.moves::bigO stO (ss.eraseIdx (k:Int).toNat)::osl aN 7 ba sad scap ss::catP x.cat::allP flP fs::isl aQ 11 fad fs::obj b tRL (aI p x)::bZ::L) (by rw[show e.mad=ss[(k:Int).toNat]!.mad by rw[←he],show e.mcap=ss[(k:Int).toNat]!.mcap by rw[←he]];simp only[aI];exact ag) ?_
    refine(lY (k:=(k:Int).toNat) a0 e).trans ((Ent.at (A:=osl aN 7 ba sad scap ss) (rb (nB (e:=e) a0 (by rw[←he];simp only[aN,bh])))).trans ?_)
    rw[a2]
    exact ag
 rintro s' ⟨g0,hD⟩;obtain⟨f9,j1⟩:=HO b0 ab h3 h4 (by rw[c9,c4]) h0 b3 g0;have f0 : (ss.set k s').length=ss.length:=bh;have g4:AudFl fs:=⟨ab,fun f hf=>by have:=b6 f hf;omega⟩
 have e6:(ss.set k s').map StV.m=(ss.map StV.m).take k++s'.m::(ss.map StV.m).drop (k+1):=by
  rw[List.map_set,List.set_eq_take_append_cons_drop,if_pos (by rw[az];exact b3)]
 rw[a2] at a5
 have b4:(audF p x.cat.m ((ss.set k s').map StV.m) (fs.map FlV.m)).1≠0:=by
  rw[c0,e6,b5]
  have i2:s'.m.moves.length=ss[k]!.m.moves.length:=by
   have h1:s'.m.moves.length=s'.moves.length:=az _;have h2:ss[k]!.m.moves.length=ss[k]!.moves.length:=az _;rw[h1,h2];exact g0.len
  exact Eo a5 i2 hD
 have a8:(audF p x.cat.m (((ss.set k s').take k).map StV.m) (fs.map FlV.m)).1≠0:=by
  rw[c0,b5,List.map_take,List.map_set,List.take_set_of_le (aB _)];exact Gl a5 (by rw[a2] at i5;omega)
 have h5:AudS ((ss.set k s').take k):=GD f9 k;simp only[aI];refine aB6 ?_;intros;refine GO.ent (L':=osl aN 7 ba sad scap (ss.set k s')::bigO stO (ss.set k s')::catP x.cat::allP flP fs::isl aQ 11 fad fs::(catP x.cat::obj b tRL (aI p x)::bZ::L)) ((Ent.at (A:=catP x.cat) (Ent.dup (kr x.cat).pers)).trans (by simp only[aI];exact ag)) ?_;refine GO.ca (py p x.cat c7 c8 sad fad scap fcap (ss.set k s') fs ss.length ab ab (by rw[aD ab];exact f9) g4 d4) ?_;rw[aD (Nat.le_of_eq f0)];rintro _ _⟨rfl,rfl⟩;generalize audF p x.cat.m ((ss.set k s').map StV.m) (fs.map FlV.m)=FD at *;obtain⟨f1,f2,f3⟩:=FD;dsimp only at b4;simp only[fe,aI];refine GO.ent (Ent.cons (nw _)) ?_;repeat first|refine G.sn 42 ?_|refine bV ?_|intro _|refine bz ?_
 rename_i c5
 have g6:∀M:LH,Tri ai 14 #[ac p,aO x.cat.cells,ah sad (k:Int).toNat scap,ah fad fs.length fcap] (osl aN 7 ba sad scap (ss.set k s')::bigO stO (ss.set k s')::catP x.cat::allP flP fs::isl aQ 11 fad fs::M) (rtQ (.agg (fe (audG (fs.map FlV.m) 0 (led0 p x.cat.m) (((ss.set k s').take k).map StV.m))).toArray) (osl aN 7 ba sad scap (ss.set k s')::bigO stO (ss.set k s')::catP x.cat::allP flP fs::isl aQ 11 fad fs::M)):=fun M=>by
  have h1:=py (M:=M) p x.cat c7 c8 sad fad scap fcap (ss.set k s') fs k ab ab h5 g4 d4;rw[c0] at h1;rw[a2];refine h1.conseq ?_;rintro v L' ⟨rfl,rfl⟩;exact⟨_,⟨rfl,rfl⟩,Ent.cons (nw _)⟩
 simp only[c0] at a8;refine G.ent (L':=osl aN 7 ba sad scap (ss.set k s')::bigO stO (ss.set k s')::catP x.cat::allP flP fs::isl aQ 11 fad fs::(catP x.cat::obj c5 tFnd [ac f1,ac f2,ac f3]::obj b tRL (aI p x)::bZ::L)) (by simp only[aI];exact ag) ?_;simp only[aI];refine G.d8 (α:=Nat) (fun _=>True) (fun c6=>[(22,ay c5),(23,ay c6)]) (fun c6=>obj c6 tFnd (fe (audG (fs.map FlV.m) 0 (led0 p x.cat.m) (((ss.set k s').take k).map StV.m)))::obj c5 tFnd [ac f1,ac f2,ac f3]::bZ::L) ?_ ?_
 ·refine G.e7 mixed krStd0 ?_;refine GF.evP (i:=0) rfl krStd0 (Ev.move rfl) ae ?_;refine GF.evP (i:=1) rfl krStd0 (Ev.move rfl) ae ?_;refine GF.evP (i:=2) rfl krStd0 (Ev.nilCheck rfl) ae ?_;refine GF.evP (i:=3) rfl krStd0 (by first|exact Ev.fieldAddr rfl|exact Ev.e9 rfl) ae ?_;refine GF.evL (i:=4) rfl krStd0 (by first|exact Ev.d8 rfl rfl|exact Ev.d7 rfl aK|exact Ev.d9 rfl rfl) ae ?_;refine GF.evP (i:=5) rfl krStd0 (Ev.move rfl) ae ?_;refine GF.evP (i:=6) rfl krStd0 (Ev.move rfl) ae ?_;refine GF.evP (i:=7) rfl krStd0 (Ev.l8 rfl rfl ab ab) ae ?_;refine GF.evP (i:=8) rfl krStd0 (Ev.move rfl) ae ?_;refine GF.d7 9 10 krStd0 ?_ ?_
  ·refine GE.ef rfl (Ef.g8 (g6 _) rfl) ae ?_;rintro _ _⟨rfl,rfl⟩;refine⟨(by intro pe hp;simp only[bA,aV,or_false] at hp;rcases hp with rfl<;>first|exact Ev.d8 rfl rfl|exact Ev.d7 rfl aK|exact Ev.d9 rfl rfl|exact Ev.l8 rfl rfl ab ab),?_⟩;refine GF.plan [.ef 10,.ef 11] krStd0 rfl ?_;simp only[fe];refine aB6 ?_;intros;rename_i bx;exact⟨bx,trivial,av,by(try simp only[fe,aI]);exact ag⟩
  ·refine GE.ef rfl Ef.alloc ae ?_;rintro _ _⟨bx,rfl,rfl⟩;refine⟨(by intro pe hp;simp only[bA,aV,or_false] at hp;rcases hp with rfl<;>first|exact Ev.d8 rfl rfl|exact Ev.d7 rfl aK|exact Ev.d9 rfl rfl|exact Ev.l8 rfl rfl ab ab),?_⟩;refine GF.plan [.ef 9,.ef 11] krStd0 rfl ?_;refine aB6 ?_;intros;refine GPW.ent (L':=osl aN 7 ba sad scap (ss.set k s')::bigO stO (ss.set k s')::catP x.cat::allP flP fs::isl aQ 11 fad fs::(obj bx tFnd [ac 0,ac 0,ac 0]::obj c5 tFnd [ac f1,ac f2,ac f3]::bZ::L)) (by(try simp only[fe,aI]);exact ag) ?_;refine GPW.cr (g6 _) ?_;simp only[fe];refine aB6 ?_;intros;exact⟨bx,trivial,av,by(try simp only[fe,aI]);exact ag⟩
 rintro c6 _;generalize audG (fs.map FlV.m) 0 (led0 p x.cat.m) (((ss.set k s').take k).map StV.m)=FE at *;obtain⟨g1,g2,g3⟩:=FE;dsimp only at a8;simp only[fe];refine aB6 ?_;intros;refine GO.ent (L':=bZ::L) ag ?_;refine GO.cr (mZ) ?_;refine aB6 ?_;intros;exact KX.en ⟨rfl,rfl⟩
