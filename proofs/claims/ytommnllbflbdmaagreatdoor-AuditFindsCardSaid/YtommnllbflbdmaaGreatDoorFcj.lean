/- Lemmas. -/
import Derived.Test.YtommnllbflbdmaaGreatDoorFci
set_option linter.all false
set_option maxHeartbeats 16000000
namespace Go.Proofs.YtommnllbflbdmaaGreatDoor
section
open Go.V
def ChgD(fs:List FlV)(k:Nat)(fs' : List FlV):Prop :=
 fs' = fs.take k++fs.drop (k+1)∨fs' = (fs.take k++[fs[k]!,fs[k]!])++fs.drop (k+1)∨(k+1<fs.length∧fs' = (fs.take k++[fs[k+1]!,fs[k]!])++fs.drop (k+2)) ∨
  ∃y:FlV,fs' = (fs.take k++[y])++fs.drop (k+1)∧y.m.parts.length≤fs[k]!.m.parts.length+1∧y.m.made.length≤fs[k]!.m.made.length+1
def uS{ad ad3:OA}{cap3:Nat}{fs fs' : List FlV}{L:LH}(hs:∀y∈fs',y∈fs):Ent (osl aQ 11 bE ad3 cap3 fs'::isl aQ 11 ad fs::allP flP fs::L) (isl aQ 11 ad3 fs'::allP flP fs'::isl aQ 11 ad fs::allP flP fs::L) :=
 Ent.freezeSl.trans (Ent.d7 (Ent.swap.trans ((Ent.dup (kf flP fs)).trans ((Ent.j0 hs).trans (Ent.d7 Ent.swap)))))
def HK{ad ad3:OA}{cap3:Nat}{fs fs' : List FlV}{y:FlV}{L:LH}(hs:∀z∈fs',z=y∨z∈fs):Ent (flP y::osl aQ 11 bE ad3 cap3 fs'::isl aQ 11 ad fs::allP flP fs::L) (isl aQ 11 ad3 fs'::allP flP fs'::isl aQ 11 ad fs::allP flP fs::L):=by
 refine(Ent.swap.trans (Ent.freezeSl.trans (Ent.d7 ?_)));refine Ent.trans (B:=flP y::allP flP fs::isl aQ 11 ad fs::L) (Ent.d7 Ent.swap) ?_;refine(Ent.d7 (Ent.dup (kf flP fs))).trans ((Ent.g8 (f:=flP) jK).trans ((Ent.j0 fun z hz=>?_).trans (Ent.d7 Ent.swap)));rcases hs z hz with h|h
 ·rw[h];exact au
 ·exact aw _ h
def jd{y:FlV}{L:LH}:Ent (isl aj 3 y.pad y.m.parts::isl (encZ .i64) 1 y.mad y.m.made::L) (flP y::L):=Ent.e9 (bM _ _ _ _) (bM _ _ _ _)
def Ch{b:Nat}{x y:FlV}{cs:LV}{L:LH}(h:cs=aQ x++aQ y):Ent (obj b bE cs::L) (isl aQ 11 (some ⟨b,0,none⟩) [x,y]::L) :=
 (Ent.f7 (enc:=aQ) (sz:=11) (xs:=[x,y]) (n:=2) (by rw[h];simp) rfl (fun _ _=>rfl) ae).trans Ent.freezeSl
attribute [local irreducible] G GO GP GPW GPK GF GE Ev Ef EfR Ent CB GB V.Enters
end
section
open Go.V
def gz{a b:Int}(hb:I64 b)(h0:b≠0):IntKind.i64.wrap (a+b)≠a:=by
 unfold I64 at hb;intro h;have h2:(if(true && decide ((a+b) % (18446744073709551616:Int) ≥ 9223372036854775808))=true then(a+b) % 18446744073709551616 - 18446744073709551616 else(a+b) % 18446744073709551616)=a:=h;simp only[Bool.true_and,decide_eq_true_eq] at h2;split at h2<;>omega
def GI{α:Type}{l:List α}{x:α}:l++[x]≠l:=fun h=>by
 have:=congrArg List.length h
 rw[aq,aM] at this;omega
def xc{α:Type}[Inhabited α]{l:List α}{k:Nat}{v:α}(hk:k<l.length)(hv:v≠l[k]!):l.set k v≠l:=fun h=>by
 have h1:(l.set k v)[k]! = l[k]!:=by rw[h]
 rw[getElem!_of (by rw[bh];exact hk),cP,if_pos rfl] at h1;exact hv h1
def ChgE(fs:List FlV)(k:Nat)(fs' : List FlV):Prop :=
 fs' = fs.take k++fs.drop (k+1)∨fs' = (fs.take k++[fs[k]!,fs[k]!])++fs.drop (k+1)∨(k+1<fs.length∧fs' = (fs.take k++[fs[k+1]!,fs[k]!])++fs.drop (k+2)) ∨
  ∃y:FlV,fs' = (fs.take k++[y])++fs.drop (k+1)∧y.m≠fs[k]!.m∧y.m.parts.length≤fs[k]!.m.parts.length+1∧y.m.made.length≤fs[k]!.m.made.length+1
attribute [local irreducible] G GO GP GPW GPK GF GE Ev Ef EfR Ent CB GB V.Enters
abbrev AG:List Stp:=[.ev 0,.ev 1,.ev 2,.ev 5,.ev 6,.ev 7,.ev 8,.ef 3,.ef 4,.ef 9,.ev 10,.ev 11]
abbrev AF:=aH0 [.ev 6,.ev 9,.ev 10,.ev 11,.ev 12,.ef 7,.ef 8,.ef 13,.ev 14,.ev 15]
def be{φ ψ:Prop}(k:ψ)(h:Hid ψ→φ:=by intro k;(with_reducible apply G.d7);first|refine G.dr 223 22 AG (Hid.out k)|refine G.dr 223 26 AF (Hid.out k)):φ:=h ⟨k⟩
def aw3{φ ψ:Prop}(k:ψ)(h:Hid ψ→φ:=by intro k;(repeat (first|refine aa ?_|intro zzz|refine be ?_));(repeat revert zzz);exact Hid.out k):φ:=h ⟨k⟩
def wo{L:LH}(ad:OA)(n c:Nat)(fs:List FlV)(hn:n=fs.length)(b4:fs.length≤c)(hl:fs.length≤100000)(hf:∀f∈fs,f.m.parts.length≤1000000∧f.m.made.length≤1000000)(at_ a1 a0:Int)(ha:I64 at_)(hw:0≤a1∧a1<16)(hb:I64 a0) :
  Tri ai 12 #[ah ad n c,ac at_,ac a1,ac a0] (isl aQ 11 ad fs::allP flP fs::L) (fun v L'=>∃c5 b7 fs' is,v=.tuple #[ah c5 fs'.length b7,.bool is]∧((is=false∧fs' = fs)∨(is=true∧a0≠0∧∃k,k<fs.length∧ChgE fs k fs'))∧fs'.length≤b7∧L' = isl aQ 11 c5 fs'::allP flP fs'::isl aQ 11 ad fs::allP flP fs::L):=by
 subst hn;have b6:∀{M:LH},Ent (isl aQ 11 ad fs::allP flP fs::M) (isl aQ 11 ad fs::allP flP fs::isl aQ 11 ad fs::allP flP fs::M):=(Ent.dup (kE _ _ _ _)).trans (Ent.d7 ((Ent.swap.trans (Ent.dup (kf _ _))).trans (Ent.d7 Ent.swap)));refine Tri.bd ?_;by_cases h0:fs.length=0
 ·refine aw3 ?_;intros;exact KX.d7 an b6 ⟨ad,c,fs,false,rfl,.inl ⟨rfl,rfl⟩,b4,rfl⟩
 by_cases h1:a0=0
 ·refine aw3 ?_;intros;exact KX.d7 an b6 ⟨ad,c,fs,false,rfl,.inl ⟨rfl,rfl⟩,b4,rfl⟩
 have c8:(0:Int)<fs.length:=ab;have d5 : -(fs.length:Int)<at_.tmod fs.length:=Int.lt_tmod_of_pos _ c8;have d6:at_.tmod fs.length<(fs.length:Int):=Int.tmod_lt_of_pos _ c8
 have d2:∃k:Nat,k<fs.length∧(k:Int)=if at_.tmod fs.length<0 then at_.tmod fs.length+fs.length else at_.tmod fs.length:=by
  split
  ·exact⟨(at_.tmod fs.length+fs.length).toNat,ab,ab⟩
  ·exact⟨(at_.tmod fs.length).toNat,ab,ab⟩
 obtain⟨k,hk,c0⟩:=d2;have b2:(k:Int).toNat=k:=aC k;have c3 : (k:Int).toNat<fs.length:=ab;have b0:(k:Int).toNat=(fs.take (k:Int).toNat).length:=by rw[bg];omega
 have d0:=hf _ (aJ c3);repeat first|refine G.sm 4 ?_|refine bV ?_|intro _|refine be ?_
 refine G.d8 (α:=Unit) (fun _=>True) (fun _=>[(0,ah ad fs.length c),(2,ac a1),(3,ac a0),(10,ac (k:Int))]) (fun _=>osl aQ 11 bE none 0 []::isl aQ 11 ad fs::allP flP fs::L) ?_ ?_
 ·by_cases hq:at_.tmod fs.length<0
  ·rw[if_pos hq] at c0;refine aw3 ?_;intros;rw[←c0];exact⟨(),trivial,av,Ent.d8 aQ 11 bE⟩
  ·rw[if_neg hq] at c0;refine aw3 ?_;intros;rw[←c0];exact⟨(),trivial,av,Ent.d8 aQ 11 bE⟩
 rintro _ _;refine aw3 ?_;intros;refine GO.ef (Ef.d9 (xs:=([]:List FlV)) (ys:=fs.take (k:Int).toNat) (hq:=Rds.take inferInstance _) rfl rfl rfl rfl b0 (fun e _=>fZ e) (by rw[cB,←b0];omega) (by rw[cB,←b0];omega)) ae ?_;rintro _ _⟨a5,a2,rfl,rfl⟩;simp only[al];repeat first|refine G.sm 9 ?_|refine bV ?_|intro _|refine be ?_
 rename_i a6;have e0:a1 % 16=a1:=Int.emod_eq_of_lt hw.1 hw.2;have a8:fs.length - ((k:Int)+1).toNat=(fs.drop ((k:Int)+1).toNat).length:=by rw[cu]
 have b9:((k:Int)+1).toNat=k+1:=ab;have c7:∀{M:LH},Ent (allP flP fs::M) (flP fs[(k:Int).toNat]!::allP flP fs::M):=Ent.e7 (f:=flP) (aJ c3);obtain⟨x,hx⟩:∃x,fs[(k:Int).toNat]! = x:=⟨_,rfl⟩;have c4:fs[k]! = x:=by rw[←hx,b2]
 rw[hx] at d0 c7;simp only[hx];obtain⟨⟨id,step,kind,tick,actor,frm,to,item,n,parts,made⟩,pad,pcap,mad,mcap⟩:=x;dsimp only at d0;refine G.ent (L':=isl aj 3 pad parts::isl (encZ .i64) 1 mad made::obj a6 bE [ac id,ac step,ac kind,ac tick,ac actor,ac frm,ac to,ac item,ac n,ah pad parts.length pcap,ah mad made.length mcap]::osl aQ 11 bE a5 a2 (fs.take (k:Int).toNat)::isl aQ 11 ad fs::allP flP fs::L) ((Ent.at (A:=allP flP fs) (c7.trans Ent.andE)).trans (by(try simp only[aQ]);exact ag)) ?_;refine G.d8 (α:=FlV) (fun y=>y.m≠fs[k]!.m∧y.m.parts.length≤fs[k]!.m.parts.length+1∧y.m.made.length≤fs[k]!.m.made.length+1) (fun _=>[(0,ah ad fs.length c),(10,ac (k:Int)),(11,ah a5 (fs.take (k:Int).toNat).length a2),(12,ay a6)]) (fun y=>flP y::obj a6 bE (aQ y)::osl aQ 11 bE a5 a2 (fs.take (k:Int).toNat)::isl aQ 11 ad fs::allP flP fs::L) ?_ ?_
 ·rw[c4];dsimp only;by_cases q0:a1=0
  ·refine aw3 ?_;intros;refine GO.ef (Ef.d9 (ys:=fs.drop ((k:Int)+1).toNat) (hq:=Rds.drop inferInstance b4 _) rfl rfl rfl rfl a8 (fun e _=>fZ e) (by rw[←b0,←a8];omega) (by rw[←b0,←a8];omega)) ae ?_;rintro _ _⟨ad3,cap3,rfl,rfl⟩;refine GO.d8 (gA (ad:=ad3) (cap:=cap3) (xs:=fs.take (k:Int).toNat++fs.drop ((k:Int)+1).toNat) (enc:=aQ) (sz:=11) (E:=bE)) ?_;rintro⟨b3,_⟩;refine aw3 ?_;intros;refine KX.d7 an (Ent.trans ag (uS (fs':=fs.take (k:Int).toNat++fs.drop ((k:Int)+1).toNat) (ad3:=ad3) (cap3:=cap3) (ad:=ad) (L:=L) fun y hy=>?_)) ⟨ad3,cap3,_,true,rfl,.inr ⟨rfl,h1,k,hk,.inl (by rw[b2,b9])⟩,b3,rfl⟩;rcases List.mem_append.1 hy with h|h
   ·exact cc h
   ·exact dp h
  have c2:(⟨⟨id,step,kind,tick,actor,frm,to,item,n,parts,made⟩,pad,pcap,mad,mcap⟩:FlV)∈fs:=by rw[←hx];exact aJ c3
  by_cases q1:a1=1
  ·refine aw3 ?_;intros;rename_i bb;refine GPW.ent (L':=isl aQ 11 (some ⟨bb,0,none⟩) [(⟨⟨id,step,kind,tick,actor,frm,to,item,n,parts,made⟩,pad,pcap,mad,mcap⟩:FlV),(⟨⟨id,step,kind,tick,actor,frm,to,item,n,parts,made⟩,pad,pcap,mad,mcap⟩:FlV)]::isl aj 3 pad parts::isl (encZ .i64) 1 mad made::obj a6 bE [ac id,ac step,ac kind,ac tick,ac actor,ac frm,ac to,ac item,ac n,ah pad parts.length pcap,ah mad made.length mcap]::osl aQ 11 bE a5 a2 (fs.take (k:Int).toNat)::isl aQ 11 ad fs::allP flP fs::L) (Ch rfl) ?_;have h2:([(⟨⟨id,step,kind,tick,actor,frm,to,item,n,parts,made⟩,pad,pcap,mad,mcap⟩:FlV),(⟨⟨id,step,kind,tick,actor,frm,to,item,n,parts,made⟩,pad,pcap,mad,mcap⟩:FlV)]:List FlV).length=2:=rfl;refine GPW.ef (Ef.d9 (xs:=fs.take (k:Int).toNat) (ys:=[(⟨⟨id,step,kind,tick,actor,frm,to,item,n,parts,made⟩,pad,pcap,mad,mcap⟩:FlV),(⟨⟨id,step,kind,tick,actor,frm,to,item,n,parts,made⟩,pad,pcap,mad,mcap⟩:FlV)]) rfl rfl rfl rfl rfl (fun e _=>fZ e) (by rw[←b0,h2];omega) (by rw[←b0,h2];omega)) ae ?_;rintro _ _⟨c6,b8,rfl,rfl⟩;have a9:(fs.take (k:Int).toNat++[(⟨⟨id,step,kind,tick,actor,frm,to,item,n,parts,made⟩,pad,pcap,mad,mcap⟩:FlV),(⟨⟨id,step,kind,tick,actor,frm,to,item,n,parts,made⟩,pad,pcap,mad,mcap⟩:FlV)]).length=k+2:=by rw[aq,←b0,b2];rfl
   refine aw3 ?_;intros;refine GPW.ef (Ef.d9 (ys:=fs.drop ((k:Int)+1).toNat) (hq:=Rds.drop inferInstance b4 _) rfl rfl rfl rfl a8 (fun e _=>fZ e) (by rw[a9,←a8];omega) (by rw[a9,←a8];omega)) ae ?_;rintro _ _⟨ad3,cap3,rfl,rfl⟩;refine aw3 ?_;intros;refine KX.f7 (.inl rfl) (gA (ad:=ad3) (cap:=cap3) (xs:=(fs.take (k:Int).toNat++[(⟨⟨id,step,kind,tick,actor,frm,to,item,n,parts,made⟩,pad,pcap,mad,mcap⟩:FlV),(⟨⟨id,step,kind,tick,actor,frm,to,item,n,parts,made⟩,pad,pcap,mad,mcap⟩:FlV)])++fs.drop ((k:Int)+1).toNat) (enc:=aQ) (sz:=11) (E:=bE)) ?_;rintro⟨b3,_⟩;refine KX.d7 an (Ent.trans ag (uS (fs':=(fs.take (k:Int).toNat++[(⟨⟨id,step,kind,tick,actor,frm,to,item,n,parts,made⟩,pad,pcap,mad,mcap⟩:FlV),(⟨⟨id,step,kind,tick,actor,frm,to,item,n,parts,made⟩,pad,pcap,mad,mcap⟩:FlV)])++fs.drop ((k:Int)+1).toNat) (ad3:=ad3) (cap3:=cap3) (ad:=ad) (L:=L) fun y hy=>?_)) ⟨ad3,cap3,_,true,rfl,.inr ⟨rfl,h1,k,hk,.inr (.inl (by rw[c4,b2,b9]))⟩,b3,rfl⟩;rcases List.mem_append.1 hy with h|h
   ·rcases List.mem_append.1 h with h|h
    ·exact cc h
    ·rcases List.mem_cons.1 h with h|h
     ·rw[h];exact c2
     ·rw[List.mem_singleton.1 h];exact c2
   ·exact dp h
  by_cases q2:a1=2
  ·by_cases e6:k+1=fs.length
   ·refine aw3 ?_;intros;exact KX.d7 an (Ent.trans (B:=isl aQ 11 ad fs::allP flP fs::L) ag b6) ⟨ad,c,fs,false,rfl,.inl ⟨rfl,rfl⟩,b4,rfl⟩
   have d3:((k:Int)+2).toNat=k+2:=ab;have d4:k+1<fs.length:=ab;have b5:fs.length - ((k:Int)+2).toNat=(fs.drop ((k:Int)+2).toNat).length:=by rw[cu]
   have d1:fs[((k:Int)+1).toNat]!∈fs:=aJ ab;refine aw3 ?_;intros;rename_i bb;refine GPW.ent (L':=isl aQ 11 (some ⟨bb,0,none⟩) [fs[((k:Int)+1).toNat]!,(⟨⟨id,step,kind,tick,actor,frm,to,item,n,parts,made⟩,pad,pcap,mad,mcap⟩:FlV)]::isl aj 3 pad parts::isl (encZ .i64) 1 mad made::obj a6 bE [ac id,ac step,ac kind,ac tick,ac actor,ac frm,ac to,ac item,ac n,ah pad parts.length pcap,ah mad made.length mcap]::osl aQ 11 bE a5 a2 (fs.take (k:Int).toNat)::isl aQ 11 ad fs::allP flP fs::L) (Ch rfl) ?_;have h2:([fs[((k:Int)+1).toNat]!,(⟨⟨id,step,kind,tick,actor,frm,to,item,n,parts,made⟩,pad,pcap,mad,mcap⟩:FlV)]:List FlV).length=2:=rfl;refine GPW.ef (Ef.d9 (xs:=fs.take (k:Int).toNat) (ys:=[fs[((k:Int)+1).toNat]!,(⟨⟨id,step,kind,tick,actor,frm,to,item,n,parts,made⟩,pad,pcap,mad,mcap⟩:FlV)]) rfl rfl rfl rfl rfl (fun e _=>fZ e) (by rw[←b0,h2];omega) (by rw[←b0,h2];omega)) ae ?_;rintro _ _⟨c6,b8,rfl,rfl⟩;have a9:(fs.take (k:Int).toNat++[fs[((k:Int)+1).toNat]!,(⟨⟨id,step,kind,tick,actor,frm,to,item,n,parts,made⟩,pad,pcap,mad,mcap⟩:FlV)]).length=k+2:=by rw[aq,←b0,b2];rfl
   refine aw3 ?_;intros;refine GPW.ef (Ef.d9 (ys:=fs.drop ((k:Int)+2).toNat) (hq:=Rds.drop inferInstance b4 _) rfl rfl rfl rfl b5 (fun e _=>fZ e) (by rw[a9,←b5];omega) (by rw[a9,←b5];omega)) ae ?_;rintro _ _⟨ad3,cap3,rfl,rfl⟩;refine aw3 ?_;intros;refine KX.f7 (.inl rfl) (gA (ad:=ad3) (cap:=cap3) (xs:=(fs.take (k:Int).toNat++[fs[((k:Int)+1).toNat]!,(⟨⟨id,step,kind,tick,actor,frm,to,item,n,parts,made⟩,pad,pcap,mad,mcap⟩:FlV)])++fs.drop ((k:Int)+2).toNat) (enc:=aQ) (sz:=11) (E:=bE)) ?_;rintro⟨b3,_⟩;refine KX.d7 an (Ent.trans ag (uS (fs':=(fs.take (k:Int).toNat++[fs[((k:Int)+1).toNat]!,(⟨⟨id,step,kind,tick,actor,frm,to,item,n,parts,made⟩,pad,pcap,mad,mcap⟩:FlV)])++fs.drop ((k:Int)+2).toNat) (ad3:=ad3) (cap3:=cap3) (ad:=ad) (L:=L) fun y hy=>?_)) ⟨ad3,cap3,_,true,rfl,.inr ⟨rfl,h1,k,hk,.inr (.inr (.inl ⟨d4,by rw[c4,b2,b9,d3]⟩))⟩,b3,rfl⟩;rcases List.mem_append.1 hy with h|h
   ·rcases List.mem_append.1 h with h|h
    ·exact cc h
    ·rcases List.mem_cons.1 h with h|h
     ·rw[h];exact d1
     ·rw[List.mem_singleton.1 h];exact c2
   ·exact dp h
  by_cases q3:a1=3
  ·refine aw3 ?_;intros;refine GO.ev (Ev.f8 rfl rfl) ae ?_;refine aw3 ?_;intros;refine⟨(⟨⟨IntKind.i64.wrap (id+a0),step,kind,tick,actor,frm,to,item,n,parts,made⟩,pad,pcap,mad,mcap⟩:FlV),⟨(fun h=>gz hb h1 (congrArg FlM.id h)),bP _,bP _⟩,av,?_⟩;exact Ent.trans (B:=isl aj 3 pad parts::isl (encZ .i64) 1 mad made::obj a6 bE [ac (IntKind.i64.wrap (id+a0)),ac step,ac kind,ac tick,ac actor,ac frm,ac to,ac item,ac n,ah pad parts.length pcap,ah mad made.length mcap]::osl aQ 11 bE a5 a2 (fs.take (k:Int).toNat)::isl aQ 11 ad fs::allP flP fs::L) ag (jd (y:=(⟨⟨IntKind.i64.wrap (id+a0),step,kind,tick,actor,frm,to,item,n,parts,made⟩,pad,pcap,mad,mcap⟩:FlV)))
  by_cases q4:a1=4
  ·refine aw3 ?_;intros;refine GO.ev (Ev.f8 rfl rfl) ae ?_;refine aw3 ?_;intros;refine⟨(⟨⟨id,IntKind.i64.wrap (step+a0),kind,tick,actor,frm,to,item,n,parts,made⟩,pad,pcap,mad,mcap⟩:FlV),⟨(fun h=>gz hb h1 (congrArg FlM.step h)),bP _,bP _⟩,av,?_⟩;exact Ent.trans (B:=isl aj 3 pad parts::isl (encZ .i64) 1 mad made::obj a6 bE [ac id,ac (IntKind.i64.wrap (step+a0)),ac kind,ac tick,ac actor,ac frm,ac to,ac item,ac n,ah pad parts.length pcap,ah mad made.length mcap]::osl aQ 11 bE a5 a2 (fs.take (k:Int).toNat)::isl aQ 11 ad fs::allP flP fs::L) ag (jd (y:=(⟨⟨id,IntKind.i64.wrap (step+a0),kind,tick,actor,frm,to,item,n,parts,made⟩,pad,pcap,mad,mcap⟩:FlV)))
  by_cases q5:a1=5
  ·refine aw3 ?_;intros;refine GO.ev (Ev.f8 rfl rfl) ae ?_;refine aw3 ?_;intros;refine⟨(⟨⟨id,step,IntKind.i64.wrap (kind+a0),tick,actor,frm,to,item,n,parts,made⟩,pad,pcap,mad,mcap⟩:FlV),⟨(fun h=>gz hb h1 (congrArg FlM.kind h)),bP _,bP _⟩,av,?_⟩;exact Ent.trans (B:=isl aj 3 pad parts::isl (encZ .i64) 1 mad made::obj a6 bE [ac id,ac step,ac (IntKind.i64.wrap (kind+a0)),ac tick,ac actor,ac frm,ac to,ac item,ac n,ah pad parts.length pcap,ah mad made.length mcap]::osl aQ 11 bE a5 a2 (fs.take (k:Int).toNat)::isl aQ 11 ad fs::allP flP fs::L) ag (jd (y:=(⟨⟨id,step,IntKind.i64.wrap (kind+a0),tick,actor,frm,to,item,n,parts,made⟩,pad,pcap,mad,mcap⟩:FlV)))
  by_cases q6:a1=6
  ·refine aw3 ?_;intros;refine GO.ev (Ev.f8 rfl rfl) ae ?_;refine aw3 ?_;intros;refine⟨(⟨⟨id,step,kind,IntKind.i64.wrap (tick+a0),actor,frm,to,item,n,parts,made⟩,pad,pcap,mad,mcap⟩:FlV),⟨(fun h=>gz hb h1 (congrArg FlM.tick h)),bP _,bP _⟩,av,?_⟩;exact Ent.trans (B:=isl aj 3 pad parts::isl (encZ .i64) 1 mad made::obj a6 bE [ac id,ac step,ac kind,ac (IntKind.i64.wrap (tick+a0)),ac actor,ac frm,ac to,ac item,ac n,ah pad parts.length pcap,ah mad made.length mcap]::osl aQ 11 bE a5 a2 (fs.take (k:Int).toNat)::isl aQ 11 ad fs::allP flP fs::L) ag (jd (y:=(⟨⟨id,step,kind,IntKind.i64.wrap (tick+a0),actor,frm,to,item,n,parts,made⟩,pad,pcap,mad,mcap⟩:FlV)))
  by_cases q7:a1=7
  ·refine aw3 ?_;intros;refine GO.ev (Ev.f8 rfl rfl) ae ?_;refine aw3 ?_;intros;refine⟨(⟨⟨id,step,kind,tick,IntKind.i64.wrap (actor+a0),frm,to,item,n,parts,made⟩,pad,pcap,mad,mcap⟩:FlV),⟨(fun h=>gz hb h1 (congrArg FlM.actor h)),bP _,bP _⟩,av,?_⟩;exact Ent.trans (B:=isl aj 3 pad parts::isl (encZ .i64) 1 mad made::obj a6 bE [ac id,ac step,ac kind,ac tick,ac (IntKind.i64.wrap (actor+a0)),ac frm,ac to,ac item,ac n,ah pad parts.length pcap,ah mad made.length mcap]::osl aQ 11 bE a5 a2 (fs.take (k:Int).toNat)::isl aQ 11 ad fs::allP flP fs::L) ag (jd (y:=(⟨⟨id,step,kind,tick,IntKind.i64.wrap (actor+a0),frm,to,item,n,parts,made⟩,pad,pcap,mad,mcap⟩:FlV)))
  by_cases q8:a1=8
  ·refine aw3 ?_;intros;refine GO.ev (Ev.f8 rfl rfl) ae ?_;refine aw3 ?_;intros;refine⟨(⟨⟨id,step,kind,tick,actor,IntKind.i64.wrap (frm+a0),to,item,n,parts,made⟩,pad,pcap,mad,mcap⟩:FlV),⟨(fun h=>gz hb h1 (congrArg FlM.frm h)),bP _,bP _⟩,av,?_⟩;exact Ent.trans (B:=isl aj 3 pad parts::isl (encZ .i64) 1 mad made::obj a6 bE [ac id,ac step,ac kind,ac tick,ac actor,ac (IntKind.i64.wrap (frm+a0)),ac to,ac item,ac n,ah pad parts.length pcap,ah mad made.length mcap]::osl aQ 11 bE a5 a2 (fs.take (k:Int).toNat)::isl aQ 11 ad fs::allP flP fs::L) ag (jd (y:=(⟨⟨id,step,kind,tick,actor,IntKind.i64.wrap (frm+a0),to,item,n,parts,made⟩,pad,pcap,mad,mcap⟩:FlV)))
  by_cases q9:a1=9
  ·refine aw3 ?_;intros;refine GO.ev (Ev.f8 rfl rfl) ae ?_;refine aw3 ?_;intros;refine⟨(⟨⟨id,step,kind,tick,actor,frm,IntKind.i64.wrap (to+a0),item,n,parts,made⟩,pad,pcap,mad,mcap⟩:FlV),⟨(fun h=>gz hb h1 (congrArg FlM.to h)),bP _,bP _⟩,av,?_⟩;exact Ent.trans (B:=isl aj 3 pad parts::isl (encZ .i64) 1 mad made::obj a6 bE [ac id,ac step,ac kind,ac tick,ac actor,ac frm,ac (IntKind.i64.wrap (to+a0)),ac item,ac n,ah pad parts.length pcap,ah mad made.length mcap]::osl aQ 11 bE a5 a2 (fs.take (k:Int).toNat)::isl aQ 11 ad fs::allP flP fs::L) ag (jd (y:=(⟨⟨id,step,kind,tick,actor,frm,IntKind.i64.wrap (to+a0),item,n,parts,made⟩,pad,pcap,mad,mcap⟩:FlV)))
  by_cases e1:a1=10
  ·refine aw3 ?_;intros;refine GO.ev (Ev.f8 rfl rfl) ae ?_;refine aw3 ?_;intros;refine⟨(⟨⟨id,step,kind,tick,actor,frm,to,IntKind.i64.wrap (item+a0),n,parts,made⟩,pad,pcap,mad,mcap⟩:FlV),⟨(fun h=>gz hb h1 (congrArg FlM.item h)),bP _,bP _⟩,av,?_⟩;exact Ent.trans (B:=isl aj 3 pad parts::isl (encZ .i64) 1 mad made::obj a6 bE [ac id,ac step,ac kind,ac tick,ac actor,ac frm,ac to,ac (IntKind.i64.wrap (item+a0)),ac n,ah pad parts.length pcap,ah mad made.length mcap]::osl aQ 11 bE a5 a2 (fs.take (k:Int).toNat)::isl aQ 11 ad fs::allP flP fs::L) ag (jd (y:=(⟨⟨id,step,kind,tick,actor,frm,to,IntKind.i64.wrap (item+a0),n,parts,made⟩,pad,pcap,mad,mcap⟩:FlV)))
  by_cases e2:a1=11
  ·refine aw3 ?_;intros;refine GO.ev (Ev.f8 rfl rfl) ae ?_;refine aw3 ?_;intros;refine⟨(⟨⟨id,step,kind,tick,actor,frm,to,item,IntKind.i64.wrap (n+a0),parts,made⟩,pad,pcap,mad,mcap⟩:FlV),⟨(fun h=>gz hb h1 (congrArg FlM.n h)),bP _,bP _⟩,av,?_⟩;exact Ent.trans (B:=isl aj 3 pad parts::isl (encZ .i64) 1 mad made::obj a6 bE [ac id,ac step,ac kind,ac tick,ac actor,ac frm,ac to,ac item,ac (IntKind.i64.wrap (n+a0)),ah pad parts.length pcap,ah mad made.length mcap]::osl aQ 11 bE a5 a2 (fs.take (k:Int).toNat)::isl aQ 11 ad fs::allP flP fs::L) ag (jd (y:=(⟨⟨id,step,kind,tick,actor,frm,to,item,IntKind.i64.wrap (n+a0),parts,made⟩,pad,pcap,mad,mcap⟩:FlV)))
  by_cases e3:a1=12
  ·refine aw3 ?_;intros;rename_i bb;refine GO.ent (L':=osl (encZ .i64) 1 tInt (some ⟨bb,0,none⟩) 0 []::isl aj 3 pad parts::isl (encZ .i64) 1 mad made::obj a6 bE [ac id,ac step,ac kind,ac tick,ac actor,ac frm,ac to,ac item,ac n,ah pad parts.length pcap,ah mad made.length mcap]::osl aQ 11 bE a5 a2 (fs.take (k:Int).toNat)::isl aQ 11 ad fs::allP flP fs::L) (Ent.f7 (enc:=encZ .i64) (sz:=1) (xs:=([]:List Int)) (n:=0) rfl rfl (fun _ h=>by cases h) ae) ?_;refine GO.ef (Ef.d9 (xs:=([]:List Int)) (ys:=made) rfl rfl rfl rfl rfl (fun e _=>by simp[encZ,Value.oneCell']) eh eh) ae ?_;rintro _ _⟨a7,a3,rfl,rfl⟩;simp only[al];refine aw3 ?_;intros;refine GO.ef (Ef.d7 (enc:=encZ .i64) (xs:=made) (e:=a0) rfl rfl rfl rfl rfl aK (by simp[encZ,Value.oneCell']) ab ab) ae ?_;rintro _ _⟨b1,a4,rfl,rfl⟩;refine aw3 ?_;intros;have hY:aQ (⟨⟨id,step,kind,tick,actor,frm,to,item,n,parts,(made++[a0])⟩,pad,pcap,b1,a4⟩:FlV)=[ac id,ac step,ac kind,ac tick,ac actor,ac frm,ac to,ac item,ac n,ah pad parts.length pcap,ah b1 (made++[a0]).length a4]:=by simp only[aQ,bh,aq]
   refine⟨(⟨⟨id,step,kind,tick,actor,frm,to,item,n,parts,(made++[a0])⟩,pad,pcap,b1,a4⟩:FlV),⟨(fun h=>GI (congrArg FlM.made h)),bP _,by show(made++[a0]).length≤_;rw[aq];exact aB _⟩,av,?_⟩;rw[hY];exact Ent.trans (B:=osl (encZ .i64) 1 tInt b1 a4 (made++[a0])::isl aj 3 pad parts::obj a6 bE [ac id,ac step,ac kind,ac tick,ac actor,ac frm,ac to,ac item,ac n,ah pad parts.length pcap,ah b1 (made++[a0]).length a4]::osl aQ 11 bE a5 a2 (fs.take (k:Int).toNat)::isl aQ 11 ad fs::allP flP fs::L) ag (Ent.freezeSl.trans (Ent.swap.trans (jd (y:=(⟨⟨id,step,kind,tick,actor,frm,to,item,n,parts,(made++[a0])⟩,pad,pcap,b1,a4⟩:FlV)))))
  by_cases qp:parts.length=0
  ·refine aw3 ?_;intros;rename_i bb;refine GO.ent (L':=osl aj 3 tLot (some ⟨bb,0,none⟩) 0 []::isl aj 3 pad parts::isl (encZ .i64) 1 mad made::obj a6 bE [ac id,ac step,ac kind,ac tick,ac actor,ac frm,ac to,ac item,ac n,ah pad parts.length pcap,ah mad made.length mcap]::osl aQ 11 bE a5 a2 (fs.take (k:Int).toNat)::isl aQ 11 ad fs::allP flP fs::L) (Ent.f7 (enc:=aj) (sz:=3) (xs:=([]:LL)) (n:=0) rfl rfl (fun _ h=>by cases h) ae) ?_;refine GO.ef (Ef.d9 (xs:=([]:LL)) (ys:=parts) rfl rfl rfl rfl rfl (fun e _=>bX e) eh eh) ae ?_;rintro _ _⟨a7,a3,rfl,rfl⟩;simp only[al];refine aw3 ?_;intros;refine GO.ef (Ef.d7 (enc:=aj) (xs:=parts) (e:=((a0,a0,a0):Lot)) rfl rfl rfl rfl rfl aK (bX _) ab ab) ae ?_;rintro _ _⟨b1,a4,rfl,rfl⟩;refine aw3 ?_;intros;have hY:aQ (⟨⟨id,step,kind,tick,actor,frm,to,item,n,(parts++[(a0,a0,a0)]),made⟩,b1,a4,mad,mcap⟩:FlV)=[ac id,ac step,ac kind,ac tick,ac actor,ac frm,ac to,ac item,ac n,ah b1 (parts++[(a0,a0,a0)]).length a4,ah mad made.length mcap]:=by simp only[aQ,bh,aq]
   refine⟨(⟨⟨id,step,kind,tick,actor,frm,to,item,n,(parts++[(a0,a0,a0)]),made⟩,b1,a4,mad,mcap⟩:FlV),⟨(fun h=>GI (congrArg FlM.parts h)),by show(parts++[_]).length≤_;rw[aq];exact aB _,bP _⟩,av,?_⟩;rw[hY];exact Ent.trans (B:=osl aj 3 tLot b1 a4 (parts++[(a0,a0,a0)])::isl (encZ .i64) 1 mad made::obj a6 bE [ac id,ac step,ac kind,ac tick,ac actor,ac frm,ac to,ac item,ac n,ah b1 (parts++[(a0,a0,a0)]).length a4,ah mad made.length mcap]::osl aQ 11 bE a5 a2 (fs.take (k:Int).toNat)::isl aQ 11 ad fs::allP flP fs::L) ag (Ent.freezeSl.trans (jd (y:=(⟨⟨id,step,kind,tick,actor,frm,to,item,n,(parts++[(a0,a0,a0)]),made⟩,b1,a4,mad,mcap⟩:FlV))))
  have c1:(Int.toNat 0)<parts.length:=by show 0<_;omega
  have c9:((parts.length:Int) - 1).toNat<parts.length:=ab;by_cases e4:a1=13
  ·refine aw3 ?_;intros;rename_i bb;refine GO.ent (L':=osl aj 3 tLot (some ⟨bb,0,none⟩) 0 []::isl aj 3 pad parts::isl (encZ .i64) 1 mad made::obj a6 bE [ac id,ac step,ac kind,ac tick,ac actor,ac frm,ac to,ac item,ac n,ah pad parts.length pcap,ah mad made.length mcap]::osl aQ 11 bE a5 a2 (fs.take (k:Int).toNat)::isl aQ 11 ad fs::allP flP fs::L) (Ent.f7 (enc:=aj) (sz:=3) (xs:=([]:LL)) (n:=0) rfl rfl (fun _ h=>by cases h) ae) ?_;refine GO.ef (Ef.d9 (xs:=([]:LL)) (ys:=parts) rfl rfl rfl rfl rfl (fun e _=>bX e) eh eh) ae ?_;rintro _ _⟨a7,a3,rfl,rfl⟩;simp only[al];refine aw3 ?_;intros;refine GO.ev (Ev.f8 rfl rfl) ae ?_;refine aw3 ?_;intros;refine GO.efu (Ef.e9 (e:=((IntKind.i64.wrap (parts[Int.toNat 0]!.1+a0),parts[Int.toNat 0]!.2.1,parts[Int.toNat 0]!.2.2):Lot)) rfl rfl aK rfl c1 ae) ?_;rintro _ _ rfl;refine aw3 ?_;intros;have hY:aQ (⟨⟨id,step,kind,tick,actor,frm,to,item,n,(parts.set (Int.toNat 0) (IntKind.i64.wrap (parts[Int.toNat 0]!.1+a0),parts[Int.toNat 0]!.2.1,parts[Int.toNat 0]!.2.2)),made⟩,a7,a3,mad,mcap⟩:FlV)=[ac id,ac step,ac kind,ac tick,ac actor,ac frm,ac to,ac item,ac n,ah a7 parts.length a3,ah mad made.length mcap]:=by simp only[aQ,bh,aq]
   refine⟨(⟨⟨id,step,kind,tick,actor,frm,to,item,n,(parts.set (Int.toNat 0) (IntKind.i64.wrap (parts[Int.toNat 0]!.1+a0),parts[Int.toNat 0]!.2.1,parts[Int.toNat 0]!.2.2)),made⟩,a7,a3,mad,mcap⟩:FlV),⟨(fun h=>xc c1 (fun q=>gz hb h1 (congrArg (fun z:Lot=>z.1) q)) (congrArg FlM.parts h)),by show(List.set _ _ _).length≤_;rw[bh];exact bP _,bP _⟩,av,?_⟩;rw[hY];exact Ent.trans (B:=osl aj 3 tLot a7 a3 (parts.set (Int.toNat 0) (IntKind.i64.wrap (parts[Int.toNat 0]!.1+a0),parts[Int.toNat 0]!.2.1,parts[Int.toNat 0]!.2.2))::isl (encZ .i64) 1 mad made::obj a6 bE [ac id,ac step,ac kind,ac tick,ac actor,ac frm,ac to,ac item,ac n,ah a7 parts.length a3,ah mad made.length mcap]::osl aQ 11 bE a5 a2 (fs.take (k:Int).toNat)::isl aQ 11 ad fs::allP flP fs::L) ag (Ent.freezeSl.trans (jd (y:=(⟨⟨id,step,kind,tick,actor,frm,to,item,n,(parts.set (Int.toNat 0) (IntKind.i64.wrap (parts[Int.toNat 0]!.1+a0),parts[Int.toNat 0]!.2.1,parts[Int.toNat 0]!.2.2)),made⟩,a7,a3,mad,mcap⟩:FlV))))
  by_cases e5:a1=14
  ·refine aw3 ?_;intros;rename_i bb;refine GO.ent (L':=osl aj 3 tLot (some ⟨bb,0,none⟩) 0 []::isl aj 3 pad parts::isl (encZ .i64) 1 mad made::obj a6 bE [ac id,ac step,ac kind,ac tick,ac actor,ac frm,ac to,ac item,ac n,ah pad parts.length pcap,ah mad made.length mcap]::osl aQ 11 bE a5 a2 (fs.take (k:Int).toNat)::isl aQ 11 ad fs::allP flP fs::L) (Ent.f7 (enc:=aj) (sz:=3) (xs:=([]:LL)) (n:=0) rfl rfl (fun _ h=>by cases h) ae) ?_;refine GO.ef (Ef.d9 (xs:=([]:LL)) (ys:=parts) rfl rfl rfl rfl rfl (fun e _=>bX e) eh eh) ae ?_;rintro _ _⟨a7,a3,rfl,rfl⟩;simp only[al];refine aw3 ?_;intros;refine GO.ev (Ev.f8 rfl rfl) ae ?_;refine aw3 ?_;intros;refine GO.efu (Ef.e9 (e:=((parts[((parts.length:Int) - 1).toNat]!.1,IntKind.i64.wrap (parts[((parts.length:Int) - 1).toNat]!.2.1+a0),parts[((parts.length:Int) - 1).toNat]!.2.2):Lot)) rfl rfl aK rfl c9 ae) ?_;rintro _ _ rfl;refine aw3 ?_;intros;have hY:aQ (⟨⟨id,step,kind,tick,actor,frm,to,item,n,(parts.set ((parts.length:Int) - 1).toNat (parts[((parts.length:Int) - 1).toNat]!.1,IntKind.i64.wrap (parts[((parts.length:Int) - 1).toNat]!.2.1+a0),parts[((parts.length:Int) - 1).toNat]!.2.2)),made⟩,a7,a3,mad,mcap⟩:FlV)=[ac id,ac step,ac kind,ac tick,ac actor,ac frm,ac to,ac item,ac n,ah a7 parts.length a3,ah mad made.length mcap]:=by simp only[aQ,bh,aq]
   refine⟨(⟨⟨id,step,kind,tick,actor,frm,to,item,n,(parts.set ((parts.length:Int) - 1).toNat (parts[((parts.length:Int) - 1).toNat]!.1,IntKind.i64.wrap (parts[((parts.length:Int) - 1).toNat]!.2.1+a0),parts[((parts.length:Int) - 1).toNat]!.2.2)),made⟩,a7,a3,mad,mcap⟩:FlV),⟨(fun h=>xc c9 (fun q=>gz hb h1 (congrArg (fun z:Lot=>z.2.1) q)) (congrArg FlM.parts h)),by show(List.set _ _ _).length≤_;rw[bh];exact bP _,bP _⟩,av,?_⟩;rw[hY];exact Ent.trans (B:=osl aj 3 tLot a7 a3 (parts.set ((parts.length:Int) - 1).toNat (parts[((parts.length:Int) - 1).toNat]!.1,IntKind.i64.wrap (parts[((parts.length:Int) - 1).toNat]!.2.1+a0),parts[((parts.length:Int) - 1).toNat]!.2.2))::isl (encZ .i64) 1 mad made::obj a6 bE [ac id,ac step,ac kind,ac tick,ac actor,ac frm,ac to,ac item,ac n,ah a7 parts.length a3,ah mad made.length mcap]::osl aQ 11 bE a5 a2 (fs.take (k:Int).toNat)::isl aQ 11 ad fs::allP flP fs::L) ag (Ent.freezeSl.trans (jd (y:=(⟨⟨id,step,kind,tick,actor,frm,to,item,n,(parts.set ((parts.length:Int) - 1).toNat (parts[((parts.length:Int) - 1).toNat]!.1,IntKind.i64.wrap (parts[((parts.length:Int) - 1).toNat]!.2.1+a0),parts[((parts.length:Int) - 1).toNat]!.2.2)),made⟩,a7,a3,mad,mcap⟩:FlV))))
  ·skip;refine aw3 ?_;intros;rename_i bb;refine GO.ent (L':=osl aj 3 tLot (some ⟨bb,0,none⟩) 0 []::isl aj 3 pad parts::isl (encZ .i64) 1 mad made::obj a6 bE [ac id,ac step,ac kind,ac tick,ac actor,ac frm,ac to,ac item,ac n,ah pad parts.length pcap,ah mad made.length mcap]::osl aQ 11 bE a5 a2 (fs.take (k:Int).toNat)::isl aQ 11 ad fs::allP flP fs::L) (Ent.f7 (enc:=aj) (sz:=3) (xs:=([]:LL)) (n:=0) rfl rfl (fun _ h=>by cases h) ae) ?_;refine GO.ef (Ef.d9 (xs:=([]:LL)) (ys:=parts) rfl rfl rfl rfl rfl (fun e _=>bX e) eh eh) ae ?_;rintro _ _⟨a7,a3,rfl,rfl⟩;simp only[al];refine aw3 ?_;intros;refine GO.ev (Ev.f8 rfl rfl) ae ?_;refine aw3 ?_;intros;refine GO.efu (Ef.e9 (e:=((parts[Int.toNat 0]!.1,parts[Int.toNat 0]!.2.1,IntKind.i64.wrap (parts[Int.toNat 0]!.2.2+a0)):Lot)) rfl rfl aK rfl c1 ae) ?_;rintro _ _ rfl;refine aw3 ?_;intros;have hY:aQ (⟨⟨id,step,kind,tick,actor,frm,to,item,n,(parts.set (Int.toNat 0) (parts[Int.toNat 0]!.1,parts[Int.toNat 0]!.2.1,IntKind.i64.wrap (parts[Int.toNat 0]!.2.2+a0))),made⟩,a7,a3,mad,mcap⟩:FlV)=[ac id,ac step,ac kind,ac tick,ac actor,ac frm,ac to,ac item,ac n,ah a7 parts.length a3,ah mad made.length mcap]:=by simp only[aQ,bh,aq]
   refine⟨(⟨⟨id,step,kind,tick,actor,frm,to,item,n,(parts.set (Int.toNat 0) (parts[Int.toNat 0]!.1,parts[Int.toNat 0]!.2.1,IntKind.i64.wrap (parts[Int.toNat 0]!.2.2+a0))),made⟩,a7,a3,mad,mcap⟩:FlV),⟨(fun h=>xc c1 (fun q=>gz hb h1 (congrArg (fun z:Lot=>z.2.2) q)) (congrArg FlM.parts h)),by show(List.set _ _ _).length≤_;rw[bh];exact bP _,bP _⟩,av,?_⟩;rw[hY];exact Ent.trans (B:=osl aj 3 tLot a7 a3 (parts.set (Int.toNat 0) (parts[Int.toNat 0]!.1,parts[Int.toNat 0]!.2.1,IntKind.i64.wrap (parts[Int.toNat 0]!.2.2+a0)))::isl (encZ .i64) 1 mad made::obj a6 bE [ac id,ac step,ac kind,ac tick,ac actor,ac frm,ac to,ac item,ac n,ah a7 parts.length a3,ah mad made.length mcap]::osl aQ 11 bE a5 a2 (fs.take (k:Int).toNat)::isl aQ 11 ad fs::allP flP fs::L) ag (Ent.freezeSl.trans (jd (y:=(⟨⟨id,step,kind,tick,actor,frm,to,item,n,(parts.set (Int.toNat 0) (parts[Int.toNat 0]!.1,parts[Int.toNat 0]!.2.1,IntKind.i64.wrap (parts[Int.toNat 0]!.2.2+a0))),made⟩,a7,a3,mad,mcap⟩:FlV))))
 rintro y ⟨y0,y1,y2⟩;simp only[aQ];refine aw3 ?_;intros;refine GO.ef (Ef.d7 (enc:=aQ) (xs:=fs.take (k:Int).toNat) (e:=y) rfl rfl rfl rfl rfl aK (fZ _) (by rw[←b0];omega) (by rw[←b0];omega)) ae ?_;rintro _ _⟨c6,b8,rfl,rfl⟩;have a9:(fs.take (k:Int).toNat++[y]).length=k+1:=by rw[aq,←b0,b2];rfl
 refine aw3 ?_;intros;refine GO.ef (Ef.d9 (ys:=fs.drop ((k:Int)+1).toNat) (hq:=Rds.drop inferInstance b4 _) rfl rfl rfl rfl a8 (fun e _=>fZ e) (by rw[a9,←a8];omega) (by rw[a9,←a8];omega)) ae ?_;rintro _ _⟨ad3,cap3,rfl,rfl⟩;refine GO.d8 (gA (ad:=ad3) (cap:=cap3) (xs:=(fs.take (k:Int).toNat++[y])++fs.drop ((k:Int)+1).toNat) (enc:=aQ) (sz:=11) (E:=bE)) ?_;rintro⟨b3,_⟩;refine aw3 ?_;intros;refine KX.d7 an (Ent.trans ag (HK (fs':=(fs.take (k:Int).toNat++[y])++fs.drop ((k:Int)+1).toNat) (y:=y) (ad3:=ad3) (cap3:=cap3) (ad:=ad) (L:=L) fun z hz=>?_)) ⟨ad3,cap3,_,true,rfl,.inr ⟨rfl,h1,k,hk,.inr (.inr (.inr ⟨y,by rw[b2,b9],y0,y1,y2⟩))⟩,b3,rfl⟩;rcases List.mem_append.1 hz with h|h
 ·rcases List.mem_append.1 h with h|h
  ·exact .inr (cc h)
  ·exact .inl (List.mem_singleton.1 h)
 ·exact .inr (dp h)
end
section
open Go.V
def rm{fl:List FlM}:∀{ss:List StM} {S:LedM},(audG fl S.steps.length S ss).1=0→fl.take S.flows.length=S.flows→∃S',AccL S ss S'∧fl=S'.flows
 | [],S,h,hp=>by
  rw[sQ] at h;by_cases c:S.flows.length<fl.length
  ·rw[if_pos c] at h;exact absurd (show(20:Int)=0 from h) ae
  ·rw[aD ab] at hp;exact⟨S,.nil S,hp⟩
 | s::ss,S,h,hp=>by
  rw[ld] at h;by_cases c1:s.id≠S.shard*4294967296+(S.steps.length:Int)
  ·rw[if_pos c1] at h;exact absurd (show(1:Int)=0 from h) ae
  rw[if_neg c1] at h;by_cases c2:(gTry S s).1≠0
  ·rw[if_pos c2] at h;exact absurd h c2
  rw[if_neg c2] at h;have a0 : (gTry S s).1=0:=Classical.not_not.1 c2;by_cases c3:fl.length<(cM S s).flows.length∨(cM S s).flows.drop S.flows.length≠(fl.drop S.flows.length).take ((cM S s).flows.length - S.flows.length)
  ·rw[if_pos c3] at h;exact absurd (show(20:Int)=0 from h) ae
  rw[if_neg c3,←Gg a0] at h;obtain⟨w,hw⟩:=nS S s;have c4:(cM S s).flows.drop S.flows.length=(fl.drop S.flows.length).take ((cM S s).flows.length - S.flows.length):=Classical.byContradiction fun q=>c3 (.inr q)
  have a1:fl.take (cM S s).flows.length=(cM S s).flows:=by
   rw[hw,List.drop_left,aq,Nat.add_sub_cancel_left] at c4;rw[hw,aq,List.take_add,hp,←c4]
  obtain⟨S',h1,h2⟩:=rm h a1;exact⟨S',.cons a0 (Classical.not_not.1 c1) h1,h2⟩
def AccL.det:∀{ss:List StM} {S S' S'' : LedM},AccL S ss S'→AccL S ss S''→S' = S''
 | [],_,_,_,.nil _,.nil _=>rfl
 | _::_,_,_,_,.cons _ _ h,.cons _ _ h'=>h.det h'
def AccL.split:∀{a b:List StM} {S S' : LedM},AccL S (a++b) S'→∃T,AccL S a T∧AccL T b S'
 | [],_,S,_,h=>⟨S,.nil S,h⟩
 | _::_,_,_,_,.cons h1 h2 h3=>by
  obtain⟨T,t1,t2⟩:=h3.split;exact⟨T,.cons h1 h2 t1,t2⟩
def AccL.inv1{S S' : LedM}{s:StM}{ss:List StM}(h:AccL S (s::ss) S'):(gTry S s).1=0∧s.id=aP S∧AccL (cM S s) ss S':=by
 cases h with
 | cons h1 h2 h3=>exact⟨h1,h2,h3⟩
def keyF(f:FlM):Int×Int×Int×Int×Int×Int×Int:=(f.kind,f.tick,f.actor,f.frm,f.to,f.item,f.n)
def keyM(s:StM)(m:MvM):Int×Int×Int×Int×Int×Int×Int:=(s.kind,s.tick,s.actor,m.frm,m.to,m.item,m.n)
def rM{sh:Int}{fl:List FlM}{mix:Int→Bool}{s:StM}:∀{ms:List MvM} {W:Wk},(dy sh fl mix s W ms).1=0→(dy sh fl mix s W ms).2.flows.map keyF=W.flows.map keyF++ms.map (keyM s)
 | [],W,_=>(aR _).symm
 | m::ms,W,he=>by
  have e:dy sh fl mix s W (m::ms)=if(cC sh fl mix s W m).1=0 then dy sh fl mix s (cC sh fl mix s W m).2 ms else((cC sh fl mix s W m).1,W):=rfl;rw[e] at he ⊢;by_cases h1:(cC sh fl mix s W m).1=0
  ·rw[if_pos h1] at he ⊢;rw[rM he,(Gi h1).2.2.2.1,aW,aF];rfl
  ·rw[if_neg h1] at he;exact absurd he h1
def qy{S:LedM}{s:StM}(h:(gTry S s).1=0):(gTry S s).2.flows.map keyF=s.moves.map (keyM s):=by
 have e:=uL h;have h4:=h;rw[e] at h4;rw[e,rM h4];rfl
def nJ{S0 S' : LedM}{a b:List StM}{s:StM}(h:AccL S0 (a++s::b) S'):∃T z,AccL S0 a T∧(gTry T s).1=0∧s.id=aP T∧S'.flows=T.flows++((gTry T s).2.flows++z):=by
 obtain⟨T,t1,t2⟩:=h.split;obtain⟨h1,h2,h3⟩:=t2.inv1;obtain⟨z,hz⟩:=h3.pre;have e:cM T s=gt T s:=if_pos h1;exact⟨T,z,t1,h1,h2,by rw[hz,e];show(T.flows++(gTry T s).2.flows)++z=_;rw[aF]⟩
def Eo{sh:Int}{c:CatM}{S' : LedM}{a b:List StM}{s s' : StM}(h:AccL (led0 sh c) (a++s::b) S')(hl:s'.moves.length=s.moves.length)(hd:s'.id≠s.id∨s'.moves.map (keyM s')≠s.moves.map (keyM s)):(audG S'.flows 0 (led0 sh c) (a++s'::b)).1≠0:=by
 intro h0;obtain⟨S'',g1,g2⟩:=rm (S:=led0 sh c) h0 rfl;obtain⟨T,z,t1,t2,t3,t4⟩:=nJ h;obtain⟨T',z',u1,u2,u3,u4⟩:=nJ g1;obtain rfl:T=T':=t1.det u1;rcases hd with hd|hd
 ·exact hd (u3.trans t3.symm)
 ·have e:(gTry T s).2.flows++z=(gTry T s').2.flows++z':=List.append_cancel_left (t4.symm.trans (g2.trans u4));have k1:=qy t2;have k2:=qy u2;have l1:=congrArg List.length k1;have l2:=congrArg List.length k2;rw[az,az] at l1 l2;have e2:=(List.append_inj e ab).1;rw[e2] at k1;exact hd (k2.symm.trans k1)
def Gl{sh:Int}{c:CatM}{S' : LedM}{a b:List StM}{s:StM}(h:AccL (led0 sh c) (a++s::b) S')(hm:0<s.moves.length):(audG S'.flows 0 (led0 sh c) a).1≠0:=by
 intro h0;obtain⟨S'',g1,g2⟩:=rm (S:=led0 sh c) h0 rfl;obtain⟨T,z,t1,t2,t3,t4⟩:=nJ h;obtain rfl:T=S'':=t1.det g1;have l1:=congrArg List.length (qy t2);rw[az,az] at l1;have l2:=congrArg List.length (g2.symm.trans t4);rw[aq,aq] at l2;omega
def Bt{sh:Int}{c:CatM}{S' : LedM}{ss:List StM}{fl:List FlM}(h:AccL (led0 sh c) ss S')(hd:fl≠S'.flows):(audG fl 0 (led0 sh c) ss).1≠0:=by
 intro h0;obtain⟨S'',g1,g2⟩:=rm (S:=led0 sh c) h0 rfl;exact hd (by rw[g2,h.det g1])
def IR{sh:Int}{fs fs' : List FlV}{k:Nat}(hn:FlN sh (fs.map FlV.m))(hk:k<fs.length)(h:ChgE fs k fs'):fs'.map FlV.m≠fs.map FlV.m:=by
 intro e;have hl:=congrArg List.length e;rw[az,az] at hl
 have a0:∀{y:FlV} {r:List FlV},fs' = fs.take k++y::r→y.m=fs[k]!.m:=fun {y r} q=>by
  have h1:(fs'.map FlV.m)[k]? = (fs.map FlV.m)[k]?:=by rw[e]
  rw[q,aW,List.getElem?_append_right (by rw[az,bg];omega),az,bg,Nat.min_eq_left ab,Nat.sub_self,List.getElem?_map,List.getElem?_map,List.getElem?_eq_getElem hk] at h1;rw[getElem!_of hk];simpa using h1
 rcases h with h|h|⟨h1,h⟩|⟨y,h,h1,_⟩
 ·rw[h,aq,bg,cu] at hl;omega
 ·rw[h,aq,aq,bg,cu] at hl;have:([fs[k]!,fs[k]!]:List FlV).length=2:=rfl
  omega
 ·have q:=a0 (y:=fs[k+1]!) (r:=fs[k]!::fs.drop (k+2)) (by rw[h,aF];rfl);have i1:=(hn k (by rw[az];exact hk)).1;have i2:=(hn (k+1) (by rw[az];exact h1)).1;rw[dI FlV.m hk] at i1;rw[dI FlV.m h1,q,i1] at i2;omega
 ·exact h1 (a0 (y:=y) (r:=fs.drop (k+1)) (by rw[h,aF];rfl))
def ownS(s:StV):LH:=[osl aL 5 tMv s.mad s.mcap s.moves,stP s]
def frzS(s:StV):LH:=[stM s,stP s]
def vR:∀(ss:List StV) {L:LH},Ent (bigO stO ss::L) (ss.flatMap ownS++L)
 | [],L=>Ent.drop
 | s::ss,L=>Ent.bigO_uncons.trans (Ent.unstars2.trans (Ent.cons (Ent.cons (vR ss))))
def nw:∀(ss:List StV) {L:LH},Ent (ss.flatMap ownS++L) (bigO stO ss::L)
 | [],L=>Ent.l5 stO
 | s::ss,L=>(Ent.cons (Ent.cons (nw ss))).trans (Ent.trans (B:=stO s::bigO stO ss::L) Ent.m5 Ent.l9)
def yz{X X' : LH}(h:Frz X X'):∀ss:List StV,Frz (ss.flatMap ownS++X) (ss.flatMap frzS++X')
 | []=>h
 | s::ss=>Frz.osl (Frz.d7 (cQ ix) (yz h ss))
def yA:∀(ss:List StV) {L:LH},Ent (ss.flatMap frzS++L) (allP cH ss::L)
 | [],L=>Ent.d9 cH
 | s::ss,L=>(Ent.cons (Ent.cons (yA ss))).trans (Ent.trans (Ent.e9 (np s) (cQ ix)) (Ent.g8 (f:=cH) kN))
def py{M:LH}(sh:Int)(c:CatV)(hB:c.B)(hc:c.m.Ok)(sad fad:OA)(scap fcap:Nat)(ss:List StV)(fs:List FlV)(n:Nat)(hn:n≤ss.length)(a0:ss.length≤scap)(hS:AudS (ss.take n))(hF:AudFl fs)(a1:fs.length≤fcap) :
  Tri ai 14 #[ac sh,aO c.cells,ah sad n scap,ah fad fs.length fcap] (osl aN 7 ba sad scap ss::bigO stO ss::catP c::allP flP fs::isl aQ 11 fad fs::M) (rtQ (.agg (fe (audF sh c.m ((ss.take n).map StV.m) (fs.map FlV.m))).toArray) (osl aN 7 ba sad scap ss::(ss.flatMap ownS++catP c::allP flP fs::isl aQ 11 fad fs::M))):=by
 have a2:n=(ss.take n).length:=by rw[bg];omega
 have hr:Rds [allP cH ss,allP flP fs,isl aN 7 sad ss,isl aQ 11 fad fs] sad StV aN 7 (ss.take n):=Rds.take inferInstance _;have h:=pJ (L:=[allP cH ss,allP flP fs,isl aN 7 sad ss,isl aQ 11 fad fs]) sh c hB hc sad n scap (ss.take n) a2 hS (fun s hs=>Ent.e7 (f:=cH) (cc hs)) fad fs.length fcap fs rfl hF a1 (fun f hf=>(Ent.at (A:=allP flP fs) (Ent.e7 (f:=flP) hf)).trans ag);have he:Ent (isl aN 7 sad ss::(ss.flatMap frzS++[catP c,allP flP fs,isl aQ 11 fad fs])) [catP c,allP cH ss,allP flP fs,isl aN 7 sad ss,isl aQ 11 fad fs]:=Ent.trans (B:=isl aN 7 sad ss::allP cH ss::[catP c,allP flP fs,isl aQ 11 fad fs]) (Ent.cons (yA ss)) ag;have h2:=(h.pre he).mono (post':=fun v L'=>∃(x:Unit) (X:LH),v=.agg (fe (audF sh c.m ((ss.take n).map StV.m) (fs.map FlV.m))).toArray∧L' = ([]:LH)++X) (fun v L' q=>⟨(),L',q.1,rfl⟩);have hf:Frz (osl aN 7 ba sad scap ss::(ss.flatMap ownS++[catP c,allP flP fs,isl aQ 11 fad fs])) (isl aN 7 sad ss::(ss.flatMap frzS++[catP c,allP flP fs,isl aQ 11 fad fs])):=Frz.osl (yz (Frz.d7 (kr c) (Frz.d7 (cQ jK) (Frz.d7 (bM _ _ _ _) Frz.nil))) ss);have h3:=(Tri.reads (Res:=fun _:Unit=>[]) (M:=M) (fun _ _ _ _ _=>trivial) h2 hf).mono (post':=fun v L'=>v=.agg (fe (audF sh c.m ((ss.take n).map StV.m) (fs.map FlV.m))).toArray∧L' = osl aN 7 ba sad scap ss::(ss.flatMap ownS++catP c::allP flP fs::isl aQ 11 fad fs::M)) (fun v L' ⟨_,q1,q2⟩=>⟨q1,by rw[q2,al,ao,aF];rfl⟩);refine h3.pre ?_;rw[ao,aF];exact Ent.cons (vR ss)
def IN(f:FlV)(L:LH):Ent (flO f::L) (flP f::L):=Ent.unstars2.trans (Ent.freezeSl.trans (Ent.swap.trans (Ent.freezeSl.trans (Ent.swap.trans (Ent.e9 (bM _ _ _ _) (bM _ _ _ _))))))
def HD(fs:List FlV){L:LH}:Ent (bigO flO fs::L) (allP flP fs::L):=Ent.m7 jK IN fs L
def sy{α β:Type}{f:α→β}{xs ys:List α}(e:ys.map f=xs.map f){y:α}(h:y∈ys):∃x∈xs,f x=f y:=by
 have h1:f y∈xs.map f:=by rw[←e];exact alStd0List_mem_map_of_mem h
 obtain⟨x,hx,q⟩:=List.mem_map.1 h1;exact⟨x,hx,q⟩
def vS{xs ss:List StV}(h:AudS xs)(e:ss.map StV.m=xs.map StV.m)(hc:∀s∈ss,stC s):AudS ss:=by
 have hl:=congrArg List.length e;rw[az,az] at hl;refine⟨by rw[hl];exact h.len,fun s hs=>?_,by rw[e];exact h.k,fun a i=>by rw[e];exact h.l a i⟩;obtain⟨u,hu,q⟩:=sy e hs;obtain⟨hi,_⟩:=h.inp u hu;have hm:u.moves.map MvV.m=s.moves.map MvV.m:=congrArg StM.moves q;have a0:=congrArg List.length hm;rw[az,az] at a0;have hr:u.rule=s.rule:=congrArg StM.rule q;refine⟨⟨by have:=hi.len;omega,hr▸hi.rule,fun m hq=>?_,fun m hq=>(hc s hs).2 m hq,fun m hq=>?_⟩,(hc s hs).1⟩
 ·obtain⟨m',h1,h2⟩:=sy hm.symm hq;rw[←h2];exact hi.parts m' h1
 ·obtain⟨m',h1,h2⟩:=sy hm.symm hq;rw[←h2];exact hi.bd m' h1
def AccL.inv{S S' : LedM}{s:StM}{ss:List StM}(h:AccL S (s::ss) S'):(gTry S s).1=0∧s.id=aP S∧AccL (cM S s) ss S':=by
 cases h with
 | cons h1 h2 h3=>exact⟨h1,h2,h3⟩
def AccL.end{S S' : LedM}(h:AccL S [] S'):S=S':=by cases h;rfl
attribute [local irreducible] G GO GP GPW GPK GF GE Ev Ef EfR Ent CB GB V.Enters
end
section
open Go.V
attribute [local irreducible] G GO GP GPW GPK GF GE Ev Ef EfR Ent CB GB V.Enters
def yg{L:LH}(sh:Int)(b3:0≤sh∧sh<12)(c:CatV)(hB:c.B)(hg:CatGood c.m)(b9:c.m.Ok)(ad:OA)(n cap:Nat)(ss:List StV)[hr:Rds L ad StV aN 7 ss](hn:n=ss.length)(hl:ss.length≤1000000)(S:LedM)(a8:AccL (led0 sh c.m) (ss.map StV.m) S)(c7:∀s∈ss,StInG s∧s.moves.length≤s.mcap)(hk:stK (ss.map StV.m)≤2000) :
  Tri ai 29 #[ac sh,aO c.cells,ah ad n cap] (catP c::bZ::allP cH ss::L) (fun v L'=>∃b,v=.tuple #[ay b,ac 0]∧L' = mM b S::catP c::bZ::allP cH ss::L):=by
 subst hn;refine Tri.bd ?_;simp only[CatV.cells];refine JM ?_;intros;rename_i b4;refine GO.ent (L':=catP c::bZ::(allP cH ss::obj b4 tCat c.cells::L)) (by simp only[CatV.cells];exact ag) ?_;refine GO.ca (Ea sh c b3 hB hg) ?_;rintro _ _⟨lb,rfl,rfl⟩;simp only[CatV.cells];refine JM ?_;intros;refine G.loop (α:=Nat×LedM×Nat) (fun g=>g.1≤ss.length∧AccL g.2.1 ((ss.map StV.m).drop g.1) S∧LedA g.2.2 g.2.1∧g.2.2+stK ((ss.map StV.m).drop g.1)≤2000∧0≤g.2.1.now∧g.2.1.cat=c.m) (fun g=>[(8,ay lb),(23,ah ad ss.length cap),(24,ac (ss.length:Int)),(25,ac (g.1:Int))]) (fun g=>mM lb g.2.1::catP c::bZ::allP cH ss::L) (fun g=>ss.length - g.1) (0,led0 sh c.m,0) ⟨ax _,a8,yl b3 c.m,by dsimp only;rw[List.drop_zero];omega,bB _,rfl⟩ av ag ?_;rintro⟨i,T,k⟩ ⟨hi,hT,a4,b1,a7,a6⟩;dsimp only at hi hT a4 b1 a7 a6 ⊢;by_cases b2:i<ss.length
 case neg =>
  rw[bG (by rw[az];omega)] at hT;have b8:=hT.end;subst b8;refine JM ?_;intros;exact KX.en ⟨lb,rfl,rfl⟩
 have c4:(i:Int).toNat=i:=ab;have a0 : (i:Int).toNat<ss.length:=ab;have c2:(ss.map StV.m)[i]! = ss[(i:Int).toNat]!.m:=by rw[dI StV.m b2,c4]
 have c1:(ss.map StV.m).drop i=ss[(i:Int).toNat]!.m::(ss.map StV.m).drop (i+1):=by rw[←c2];exact ej (by rw[az];exact b2)
 rw[c1] at hT b1;obtain⟨a1,a2,a3⟩:=hT.inv;have c8:stK (ss[(i:Int).toNat]!.m::(ss.map StV.m).drop (i+1))=mvK ss[(i:Int).toNat]!.m.moves+stK ((ss.map StV.m).drop (i+1)):=rfl;obtain⟨c5,c0⟩:=c7 _ (aJ a0);have c6:=kX a1;have b0:=vD c6 a7;have b7:cM T ss[(i:Int).toNat]!.m=gt T ss[(i:Int).toNat]!.m:=if_pos a1;have a5:=(uM (s:=ss[(i:Int).toNat]!.m) a4 ab).1;have b5:=fun M:LH=>CQ (L:=M) lb T k a4 (a6▸b9) a7 ss[(i:Int).toNat]! c5 c0 ab wu;have c3:(cM T ss[(i:Int).toNat]!.m).cat=c.m:=(qA _ _).trans a6;have a9:=fun M:LH=>pU (L:=M) a0;generalize hse:ss[(i:Int).toNat]! = s at *;rw[a1] at b5;refine JM ?_;intros;rw[hse];simp only[aN];refine JM ?_;intros;rename_i b6;refine GO.ent (L':=mM lb T::stM s::stP s::(obj b6 ba (aN s)::allP cH ss::catP c::bZ::L)) ((Ent.at (A:=allP cH ss) (a9 _)).trans (by simp only[aN];exact ag)) ?_;refine GO.cr (b5 _) ?_;simp only[aN];refine JM ?_;intros;refine⟨(i+1,cM T s.m,k+mvK s.m.moves),⟨by dsimp only;omega,a3,a5,by dsimp only;omega,by dsimp only;rw[b7];exact b0,c3⟩,by dsimp only;omega,?_,by exact ag⟩;dsimp only;rw[aY i];exact av
end
section
open Go.V
structure ChS (s s' : StV):Prop where
 rule:s'.rule=s.rule
 cap:s'.mcap=s.mcap
 mv:s'.moves.map (fun m=>(m.m.parts,m.pcap))=s.moves.map (fun m=>(m.m.parts,m.pcap))
def vq:∀{a b:List MvM},a.map (·.parts)=b.map (·.parts)→mvK a=mvK b
 | [],[],_=>rfl
 | [],_::_,h=>by cases h
 | _::_,[],h=>by cases h
 | x::a,y::b,h=>by
  rw[bL,bL,List.cons.injEq] at h;show(x.parts.length+1)+mvK a=(y.parts.length+1)+mvK b;rw[h.1,vq h.2]
def ChS.len{s s' : StV}(h:ChS s s'):s'.moves.length=s.moves.length:=by
 have:=congrArg List.length h.mv
 rwa [az,az] at this
def ChS.k{s s' : StV}(h:ChS s s'):mvK s'.m.moves=mvK s.m.moves:=by
 refine vq ?_;have:=congrArg (List.map Prod.fst) h.mv
 rw[dW,dW] at this;show(s'.moves.map MvV.m).map _=(s.moves.map MvV.m).map _;rw[dW,dW];exact this
def ChS.inp{s s' : StV}(h:ChS s s')(hi:StInG s)(hc:stC s):StInG s'∧stC s':=by
 have hp:∀m∈s'.moves,∃u∈s.moves,u.m.parts=m.m.parts∧u.pcap=m.pcap:=fun m hm=>by
  have h1:(m.m.parts,m.pcap)∈s.moves.map (fun m=>(m.m.parts,m.pcap)):=by rw[←h.mv];exact alStd0List_mem_map_of_mem (f:=fun m:MvV=>(m.m.parts,m.pcap)) hm
  obtain⟨u,hu,e⟩:=List.mem_map.1 h1;rw[Prod.mk.injEq] at e;exact⟨u,hu,e.1,e.2⟩
 have hl:=h.len;refine⟨⟨by rw[hl];exact hi.len,by rw[h.rule];exact hi.rule,fun m hm=>?_,fun m hm=>?_,fun m hm=>?_⟩,by rw[hl,h.cap];exact hc.1,fun m hm=>?_⟩
 ·obtain⟨u,hu,e1,e2⟩:=hp m hm;rw[←e1];exact hi.parts u hu
 ·obtain⟨u,hu,e1,e2⟩:=hp m hm;rw[←e1,←e2];exact hi.cap u hu
 ·obtain⟨u,hu,e1,e2⟩:=hp m hm;rw[←e1];exact hi.bd u hu
 ·obtain⟨u,hu,e1,e2⟩:=hp m hm;unfold mvC;rw[←e1,←e2];exact hc.2 u hu
def wU{a i:Int}{c:Nat}{s' : StM}:∀(l:List StM) (k:Nat),k<l.length→(∀s∈l,lotsIn a i s.moves≤1)→lotsIn a i s'.moves≤c→stL a i (l.set k s')+1≤l.length+c
 | [],_,h,_,_=>absurd h (cj _)
 | s::l,0,_,hs,hc=>by
  have h1:∀l:List StM,(∀s∈l,lotsIn a i s.moves≤1)→stL a i l≤l.length:=fun l=>by
   induction l with
   | nil=>intro _;exact aB _
   | cons s l ih =>
    intro h;have h1:=h s au;have h2:=ih (fun x hx=>h x (aw _ hx));show lotsIn a i s.moves+stL a i l≤l.length+1;omega
  have h2:=h1 l (fun x hx=>hs x (aw _ hx));show lotsIn a i s'.moves+stL a i l+1≤l.length+1+c;omega
 | s::l,k+1,hk,hs,hc=>by
  have h1:=hs s au;have h2:=wU l k (by rw[bD] at hk;omega) (fun x hx=>hs x (aw _ hx)) hc;show lotsIn a i s.moves+stL a i (l.set k s')+1≤l.length+1+c;omega
def wV{c:Nat}{s' : StM}(hc:mvK s'.moves≤c):∀(l:List StM) (k:Nat),(∀s∈l,mvK s.moves≤c)→stK (l.set k s')≤c*l.length
 | [],_,_=>ax _
 | s::l,0,hs=>by
  have h1:∀l:List StM,(∀s∈l,mvK s.moves≤c)→stK l≤c*l.length:=fun l=>by
   induction l with
   | nil=>intro _;exact ax _
   | cons s l ih =>
    intro h;have h1:=h s au;have h2:=ih (fun x hx=>h x (aw _ hx));show mvK s.moves+stK l≤c*(l.length+1);rw[fP];omega
  have h2:=h1 l (fun x hx=>hs x (aw _ hx));show mvK s'.moves+stK l≤c*(l.length+1);rw[fP];omega
 | s::l,k+1,hs=>by
  have h1:=hs s au;have h2:=wV hc l k (fun x hx=>hs x (aw _ hx));show mvK s.moves+stK (l.set k s')≤c*(l.length+1);rw[fP];omega
def HO{xs ss:List StV}{k:Nat}{s' : StV}(h:AudS xs)(hl:xs.length≤17)(h3:∀s∈xs,mvK s.m.moves≤3)(h1:∀a i,∀s∈xs,lotsIn a i s.m.moves≤1)(e:ss.map StV.m=xs.map StV.m)(hc:∀s∈ss,stC s)(hk:k<ss.length)(hs:ChS ss[k]! s'):AudS (ss.set k s')∧∀s∈ss.set k s',stC s:=by
 have hA:=vS h e hc;have a1:=congrArg List.length e;rw[az,az] at a1
 have g3:∀s∈ss.map StV.m,mvK s.moves≤3:=fun s hq=>by
  rw[e] at hq;obtain⟨u,hu,rfl⟩:=List.mem_map.1 hq;exact h3 u hu
 have g1:∀a i,∀s∈ss.map StV.m,lotsIn a i s.moves≤1:=fun a i s hq=>by
  rw[e] at hq;obtain⟨u,hu,rfl⟩:=List.mem_map.1 hq;exact h1 a i u hu
 have gk:mvK s'.m.moves≤3:=by rw[hs.k];exact g3 _ (alStd0List_mem_map_of_mem (aJ hk))
 have a2:(ss.map StV.m).length=ss.length:=az _
 have a0:∀s∈ss.set k s',StInG s∧stC s:=fun s hq=>by
  rcases dz hq with g|rfl
  ·exact⟨(hA.inp s g).1,hc s g⟩
  ·exact hs.inp (hA.inp _ (aJ hk)).1 (hc _ (aJ hk))
 refine⟨⟨by rw[bh];omega,fun s hq=>⟨(a0 s hq).1,(a0 s hq).2.1⟩,?_,fun a i=>?_⟩,fun s hq=>(a0 s hq).2⟩
 ·rw[List.map_set];have:=wV gk (ss.map StV.m) k g3
  omega
 ·rw[List.map_set];have h4:=ql a i s'.m.moves;have:=wU (a:=a) (i:=i) (c:=3) (s':=s'.m) (ss.map StV.m) k ab (g1 a i) ab
  omega
attribute [local irreducible] G GO GP GPW GPK GF GE Ev Ef EfR Ent CB GB V.Enters
def zn{L:LH}(b:Nat)(S:LedM)(hS:∀s∈S.steps,s.moves.length≤64∧∀u∈s.moves,u.parts.length≤1000000)(a0:S.steps.length≤100000) :
  Tri ai 25 #[ay b] (mM b S::L) (fun v L'=>∃ad cap ss U,v=ah ad ss.length cap∧(ss.map StV.m=S.steps∧(∀s∈ss,stC s)∧U.flows=S.flows)∧L' = osl aN 7 ba ad cap ss::bigO stO ss::LedR b U::L):=by
 refine Tri.e9 (g:=tQ b S) en25.1 ?_;intro x;show Tri _ _ _ (dA (LedFG S x)::ledL b S.shard x L) _;refine Tri.e8 en25.1 ?_;intro hF;refine((zo (L:=L) b (S.asX x) hS a0).pre (kD (S:=S.asX x) x hF.toF)).mono ?_;rintro v L' ⟨ad,cap,ss,h1,⟨h2,h3⟩,h4⟩;exact⟨ad,cap,ss,S.asX x,h1,⟨h2,h3,rfl⟩,h4⟩
end
section
open Go.V
def vj{ss:List StV}{k:Nat}(hk:k<ss.length):ss.Perm (ss[k]!::ss.eraseIdx k):=by
 have h1:ss=ss.take k++ss[k]!::ss.drop (k+1):=by rw[←ej hk,dj]
 rw[List.eraseIdx_eq_take_drop_succ];exact(List.Perm.of_eq h1).trans fH
def DT{ss:List StV}{k:Nat}(hk:k<ss.length)(e:StV):(e::ss.eraseIdx k).Perm (ss.set k e):=by
 have h:=vj (ss:=ss.set k e) (k:=k) (by rw[bh];exact hk);rw[getElem!_of (by rw[bh];exact hk),cP,if_pos rfl,List.eraseIdx_set_eq] at h;exact h.symm
def mK{ss:List StV}{k:Nat}(hk:k<ss.length){L:LH}:Ent (bigO stO ss::L) (osl aL 5 tMv ss[k]!.mad ss[k]!.mcap ss[k]!.moves::allP mvP ss[k]!.moves::bigO stO (ss.eraseIdx k)::L) :=
 (Ent.l8 (vj hk)).trans (Ent.bigO_uncons.trans Ent.unstars2)
def lY{ss:List StV}{k:Nat}(hk:k<ss.length)(e:StV){L:LH}:Ent (osl aL 5 tMv e.mad e.mcap e.moves::allP mvP e.moves::bigO stO (ss.eraseIdx k)::L) (bigO stO (ss.set k e)::L) :=
 (Ent.trans (B:=stO e::bigO stO (ss.eraseIdx k)::L) Ent.m5 Ent.l9).trans (Ent.l8 (DT hk e))
def rb{α:Type}{enc:α→LV}{sz E:Nat}{ad:OA}{cap:Nat}{xs ys:List α}{L:LH}(h:xs.map enc=ys.map enc):Ent (osl enc sz E ad cap xs::L) (osl enc sz E ad cap ys::L):=by
 refine(Ent.m9 (f:=enc) (enc:=fun u:LV=>u)).trans ?_;rw[h];exact Ent.n7 (f:=enc) (enc:=fun u:LV=>u)
def re{ms:List MvV}{j:Nat}{m:MvV}(h:mvP m=mvP ms[j]!)(hj:j<ms.length):∀y∈ms.set j m,∃x∈ms,mvP y=mvP x:=fun y hy=>by
 rcases dz hy with q|rfl
 ·exact⟨y,q,rfl⟩
 ·exact⟨_,aJ hj,h⟩
def Gz{fs fs' : List FlV}{is:Bool}{b:Int}(hl:fs.length≤100000)(hf:∀f∈fs,f.m.parts.length≤1000000∧f.m.made.length≤1000000)(h:(is=false∧fs' = fs)∨(is=true∧b≠0∧∃k,k<fs.length∧ChgD fs k fs')):AudFl fs':=by
 rcases h with⟨_,rfl⟩|⟨_,_,k,hk,h⟩
 ·exact⟨ab,fun f m=>by have:=hf f m;omega⟩
 have hg:∀{j:Nat},j<fs.length→fs[j]!∈fs:=fun {j} hj=>aJ hj
 have hm:∀f,f∈fs.take k∨f∈fs.drop (k+1)∨f∈fs.drop (k+2)∨f=fs[k]!→f.m.parts.length≤1000000000∧f.m.made.length≤1000000000:=by
  intro f q
  have hq:f∈fs:=by
   rcases q with q|q|q|q
   ·exact cc q
   ·exact dp q
   ·exact dp q
   ·rw[q];exact hg hk
  have:=hf f hq
  omega
 rcases h with rfl|rfl|⟨a0,rfl⟩|⟨y,rfl,y1,y2⟩
 ·refine⟨by rw[aq,bg,cu];omega,fun f q=>?_⟩;rcases List.mem_append.1 q with q|q
  ·exact hm f (.inl q)
  ·exact hm f (.inr (.inl q))
 ·refine⟨by rw[aq,aq,bg,cu];show _+2+_≤_;omega,fun f q=>?_⟩;rcases List.mem_append.1 q with q|q
  ·rcases List.mem_append.1 q with q|q
   ·exact hm f (.inl q)
   ·refine hm f (.inr (.inr (.inr ?_)));rcases List.mem_cons.1 q with q|q
    ·exact q
    ·exact List.mem_singleton.1 q
  ·exact hm f (.inr (.inl q))
 ·refine⟨by rw[aq,aq,bg,cu];show _+2+_≤_;omega,fun f q=>?_⟩;rcases List.mem_append.1 q with q|q
  ·rcases List.mem_append.1 q with q|q
   ·exact hm f (.inl q)
   ·rcases List.mem_cons.1 q with q|q
    ·have:=hf _ (hg a0)
     rw[q];omega
    ·exact hm f (.inr (.inr (.inr (List.mem_singleton.1 q))))
  ·exact hm f (.inr (.inr (.inl q)))
 ·refine⟨by rw[aq,aq,bg,cu];show _+1+_≤_;omega,fun f q=>?_⟩;rcases List.mem_append.1 q with q|q
  ·rcases List.mem_append.1 q with q|q
   ·exact hm f (.inl q)
   ·have:=hf _ (hg hk)
    rw[List.mem_singleton.1 q];omega
  ·exact hm f (.inr (.inl q))
attribute [local irreducible] G GO GP GPW GPK GF GE Ev Ef EfR Ent CB GB V.Enters
