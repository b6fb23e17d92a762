/- The model of package audit: flows of which one is changed (Changed). (Printed by gen_g45.py.) -/
import Derived.Test.YtommnllbflbdmaaGreatDoorLbx
set_option linter.all false
set_option maxHeartbeats 16000000
namespace Go.Proofs.YtommnllbflbdmaaGreatDoor
open Go.V
def ChgD(fs:List FlV)(k:Nat)(fs' : List FlV):Prop :=
 fs' = fs.take k++fs.drop (k+1)∨fs' = (fs.take k++[fs[k]!,fs[k]!])++fs.drop (k+1)∨(k+1<fs.length∧fs' = (fs.take k++[fs[k+1]!,fs[k]!])++fs.drop (k+2)) ∨
  ∃y:FlV,fs' = (fs.take k++[y])++fs.drop (k+1)∧y.m.parts.length≤fs[k]!.m.parts.length+1∧y.m.made.length≤fs[k]!.m.made.length+1
theorem tm{ad ad3:OA}{cap3:Nat}{fs fs' : List FlV}{L:LH}(hs:∀y∈fs',y∈fs):Ent (osl aL 11 bz ad3 cap3 fs'::isl aL 11 ad fs::allP flP fs::L) (isl aL 11 ad3 fs'::allP flP fs'::isl aL 11 ad fs::allP flP fs::L) :=
 Ent.freezeSl.trans (Ent.d7 (Ent.swap.trans ((Ent.dup (fR flP fs)).trans ((Ent.g9 hs).trans (Ent.d7 Ent.swap)))))
theorem EL{ad ad3:OA}{cap3:Nat}{fs fs' : List FlV}{y:FlV}{L:LH}(hs:∀z∈fs',z=y∨z∈fs):Ent (flP y::osl aL 11 bz ad3 cap3 fs'::isl aL 11 ad fs::allP flP fs::L) (isl aL 11 ad3 fs'::allP flP fs'::isl aL 11 ad fs::allP flP fs::L):=by
 refine(Ent.swap.trans (Ent.freezeSl.trans (Ent.d7 ?_)));refine Ent.trans (B:=flP y::allP flP fs::isl aL 11 ad fs::L) (Ent.d7 Ent.swap) ?_;refine(Ent.d7 (Ent.dup (fR flP fs))).trans ((Ent.f8 (f:=flP) lK).trans ((Ent.g9 fun z hz=>?_).trans (Ent.d7 Ent.swap)));rcases hs z hz with h|h
 ·rw[h];exact aw
 ·exact av _ h
theorem iE{y:FlV}{L:LH}:Ent (isl an 3 y.pad y.m.parts::isl (encZ .i64) 1 y.mad y.m.made::L) (flP y::L):=Ent.f7 (bT _ _ _ _) (bT _ _ _ _)
theorem zP{b:Nat}{x y:FlV}{cs:LV}{L:LH}(h:cs=aL x++aL y):Ent (obj b bz cs::L) (isl aL 11 (some ⟨b,0,none⟩) [x,y]::L) :=
 (Ent.e8 (enc:=aL) (sz:=11) (xs:=[x,y]) (n:=2) (by rw[h];simp) rfl (fun _ _=>rfl) ae).trans Ent.freezeSl
attribute [local irreducible] G GO GP GPW GPK GF GE Ev Ef EfR Ent CB GB V.Enters
abbrev yh:List Stp:=[.ev 0,.ev 1,.ev 2,.ev 5,.ev 6,.ev 7,.ev 8,.ef 3,.ef 4,.ef 9,.ev 10,.ev 11]
abbrev yg:List Stp:=[.ev 0,.ev 1,.ev 2,.ev 3,.ev 4,.ev 5,.ev 6,.ev 9,.ev 10,.ev 11,.ev 12,.ef 7,.ef 8,.ef 13,.ev 14,.ev 15]
theorem aQ{φ ψ:Prop}(k:ψ)(h:Hid ψ→φ:=by intro k;(with_reducible apply G.d8);first|refine G.d7 (N:=223) (id:=22) yh mixed ap (Hid.out k)|refine G.d7 (N:=223) (id:=26) yg mixed ap (Hid.out k)):φ:=h ⟨k⟩
theorem tq{L:LH}(ad:OA)(n c:Nat)(fs:List FlV)(hn:n=fs.length)(hcp:fs.length≤c)(hl:fs.length≤100000)(hf:∀f∈fs,f.m.parts.length≤1000000∧f.m.made.length≤1000000)(at_ which by_:Int)(ha:I64 at_)(hw:0≤which∧which<16)(hb:I64 by_) :
  Tri ah 12 #[.slice ad n c,ab at_,ab which,ab by_] (isl aL 11 ad fs::allP flP fs::L) (fun v L'=>∃ad' cap' fs' is,v=.tuple #[.slice ad' fs'.length cap',.bool is]∧((is=false∧fs' = fs)∨(is=true∧by_≠0∧∃k,k<fs.length∧ChgD fs k fs'))∧fs'.length≤cap'∧L' = isl aL 11 ad' fs'::allP flP fs'::isl aL 11 ad fs::allP flP fs::L):=by
 subst hn;have hdup:∀{M:LH},Ent (isl aL 11 ad fs::allP flP fs::M) (isl aL 11 ad fs::allP flP fs::isl aL 11 ad fs::allP flP fs::M):=(Ent.dup (iw _ _ _ _)).trans (Ent.d7 ((Ent.swap.trans (Ent.dup (fR _ _))).trans (Ent.d7 Ent.swap)));refine Tri.body (args:=[.slice ad fs.length c,ab at_,ab which,ab by_]) 223 en12 Tryz.func12 rfl rfl rfl (by simp) ?_;by_cases h0:fs.length=0
 ·repeat first|refine aa ?_|intro _|refine aQ ?_
  exact KX.d7 ai hdup ⟨ad,c,fs,false,rfl,.inl ⟨rfl,rfl⟩,hcp,rfl⟩
 by_cases h1:by_=0
 ·repeat first|refine aa ?_|intro _|refine aQ ?_
  exact KX.d7 ai hdup ⟨ad,c,fs,false,rfl,.inl ⟨rfl,rfl⟩,hcp,rfl⟩
 have hlp:(0:Int)<fs.length:=ac;have hb1 : -(fs.length:Int)<at_.tmod fs.length:=Int.lt_tmod_of_pos _ hlp;have hb2:at_.tmod fs.length<(fs.length:Int):=Int.tmod_lt_of_pos _ hlp
 have hk0:∃k:Nat,k<fs.length∧(k:Int)=if at_.tmod fs.length<0 then at_.tmod fs.length+fs.length else at_.tmod fs.length:=by
  split
  ·exact⟨(at_.tmod fs.length+fs.length).toNat,ac,ac⟩
  ·exact⟨(at_.tmod fs.length).toNat,ac,ac⟩
 obtain⟨k,hk,hke⟩:=hk0;have hkk:(k:Int).toNat=k:=aA k;have hk' : (k:Int).toNat<fs.length:=ac;have htl:(k:Int).toNat=(fs.take (k:Int).toNat).length:=by rw[aY];omega
 have hxp:=hf _ (aI hk');repeat first|((fail_if_success (with_reducible refine G.e7 4 ?_));(with_reducible apply G.seq))|refine bB ?_|intro _|refine aQ ?_
 refine G.d9 (α:=Unit) (fun _=>True) (fun _=>[(0,.slice ad fs.length c),(2,ab which),(3,ab by_),(10,ab (k:Int))]) (fun _=>osl aL 11 bz none 0 []::isl aL 11 ad fs::allP flP fs::L) ?_ ?_
 ·by_cases hq:at_.tmod fs.length<0
  ·rw[if_pos hq] at hke;repeat first|refine aa ?_|intro _|refine aQ ?_
   rw[←hke];exact⟨(),trivial,aj,Ent.d8 aL 11 bz⟩
  ·rw[if_neg hq] at hke;repeat first|refine aa ?_|intro _|refine aQ ?_
   rw[←hke];exact⟨(),trivial,aj,Ent.d8 aL 11 bz⟩
 rintro _ _;repeat first|refine aa ?_|intro _|refine aQ ?_
 refine GO.ef (Ef.e7 (xs:=([]:List FlV)) (ys:=fs.take (k:Int).toNat) (hq:=Rds.take inferInstance _) rfl rfl rfl rfl htl (fun e _=>fP e) (by rw[cH,←htl];omega) (by rw[cH,←htl];omega)) ae ?_;rintro _ _⟨ad1,cap1,rfl,rfl⟩;simp only[aq];repeat first|((fail_if_success (with_reducible refine G.e7 9 ?_));(with_reducible apply G.seq))|refine bB ?_|intro _|refine aQ ?_
 rename_i b12;have hwm:which % 16=which:=Int.emod_eq_of_lt hw.1 hw.2;have hdl1:fs.length - ((k:Int)+1).toNat=(fs.drop ((k:Int)+1).toNat).length:=by rw[bR]
 have hk1:((k:Int)+1).toNat=k+1:=ac;have hPx:∀{M:LH},Ent (allP flP fs::M) (flP fs[(k:Int).toNat]!::allP flP fs::M):=Ent.d9 (f:=flP) (aI hk');obtain⟨x,hx⟩:∃x,fs[(k:Int).toNat]! = x:=⟨_,rfl⟩;have hxk:fs[k]! = x:=by rw[←hx,hkk]
 rw[hx] at hxp hPx;simp only[hx];obtain⟨⟨id,step,kind,tick,actor,frm,to,item,n,parts,made⟩,pad,pcap,mad,mcap⟩:=x;dsimp only at hxp;refine G.ent (L':=isl an 3 pad parts::isl (encZ .i64) 1 mad made::obj b12 bz [ab id,ab step,ab kind,ab tick,ab actor,ab frm,ab to,ab item,ab n,.slice pad parts.length pcap,.slice mad made.length mcap]::osl aL 11 bz ad1 cap1 (fs.take (k:Int).toNat)::isl aL 11 ad fs::allP flP fs::L) ((Ent.at (A:=allP flP fs) (hPx.trans Ent.andE)).trans (by(try simp only[aL]);exact ag)) ?_;refine G.d9 (α:=FlV) (fun y=>y.m.parts.length≤fs[k]!.m.parts.length+1∧y.m.made.length≤fs[k]!.m.made.length+1) (fun _=>[(0,.slice ad fs.length c),(10,ab (k:Int)),(11,.slice ad1 (fs.take (k:Int).toNat).length cap1),(12,au b12)]) (fun y=>flP y::obj b12 bz (aL y)::osl aL 11 bz ad1 cap1 (fs.take (k:Int).toNat)::isl aL 11 ad fs::allP flP fs::L) ?_ ?_
 ·rw[hxk];dsimp only;by_cases q0:which=0
  ·repeat first|refine aa ?_|intro _|refine aQ ?_
   refine GO.ef (Ef.e7 (ys:=fs.drop ((k:Int)+1).toNat) (hq:=Rds.drop inferInstance hcp _) rfl rfl rfl rfl hdl1 (fun e _=>fP e) (by rw[←htl,←hdl1];omega) (by rw[←htl,←hdl1];omega)) ae ?_;rintro _ _⟨ad3,cap3,rfl,rfl⟩;refine GO.e8 (fI (ad:=ad3) (cap:=cap3) (xs:=fs.take (k:Int).toNat++fs.drop ((k:Int)+1).toNat) (enc:=aL) (sz:=11) (E:=bz)) ?_;rintro⟨hc3,_⟩;repeat first|refine aa ?_|intro _|refine aQ ?_
   refine KX.d7 ai (Ent.trans ag (tm (fs':=fs.take (k:Int).toNat++fs.drop ((k:Int)+1).toNat) (ad3:=ad3) (cap3:=cap3) (ad:=ad) (L:=L) fun y hy=>?_)) ⟨ad3,cap3,_,true,rfl,.inr ⟨rfl,h1,k,hk,.inl (by rw[hkk,hk1])⟩,hc3,rfl⟩;rcases List.mem_append.1 hy with h|h
   ·exact cz h
   ·exact dA h
  have hXm:(⟨⟨id,step,kind,tick,actor,frm,to,item,n,parts,made⟩,pad,pcap,mad,mcap⟩:FlV)∈fs:=by rw[←hx];exact aI hk'
  by_cases q1:which=1
  ·repeat first|refine aa ?_|intro _|refine aQ ?_
   rename_i bb;refine GPW.ent (L':=isl aL 11 (some ⟨bb,0,none⟩) [(⟨⟨id,step,kind,tick,actor,frm,to,item,n,parts,made⟩,pad,pcap,mad,mcap⟩:FlV),(⟨⟨id,step,kind,tick,actor,frm,to,item,n,parts,made⟩,pad,pcap,mad,mcap⟩:FlV)]::isl an 3 pad parts::isl (encZ .i64) 1 mad made::obj b12 bz [ab id,ab step,ab kind,ab tick,ab actor,ab frm,ab to,ab item,ab n,.slice pad parts.length pcap,.slice mad made.length mcap]::osl aL 11 bz ad1 cap1 (fs.take (k:Int).toNat)::isl aL 11 ad fs::allP flP fs::L) (zP rfl) ?_;have h2:([(⟨⟨id,step,kind,tick,actor,frm,to,item,n,parts,made⟩,pad,pcap,mad,mcap⟩:FlV),(⟨⟨id,step,kind,tick,actor,frm,to,item,n,parts,made⟩,pad,pcap,mad,mcap⟩:FlV)]:List FlV).length=2:=rfl;refine GPW.ef (Ef.e7 (xs:=fs.take (k:Int).toNat) (ys:=[(⟨⟨id,step,kind,tick,actor,frm,to,item,n,parts,made⟩,pad,pcap,mad,mcap⟩:FlV),(⟨⟨id,step,kind,tick,actor,frm,to,item,n,parts,made⟩,pad,pcap,mad,mcap⟩:FlV)]) rfl rfl rfl rfl rfl (fun e _=>fP e) (by rw[←htl,h2];omega) (by rw[←htl,h2];omega)) ae ?_;rintro _ _⟨ad4,cap4,rfl,rfl⟩;have htl2:(fs.take (k:Int).toNat++[(⟨⟨id,step,kind,tick,actor,frm,to,item,n,parts,made⟩,pad,pcap,mad,mcap⟩:FlV),(⟨⟨id,step,kind,tick,actor,frm,to,item,n,parts,made⟩,pad,pcap,mad,mcap⟩:FlV)]).length=k+2:=by rw[az,←htl,hkk];rfl
   repeat first|refine aa ?_|intro _|refine aQ ?_
   refine GPW.ef (Ef.e7 (ys:=fs.drop ((k:Int)+1).toNat) (hq:=Rds.drop inferInstance hcp _) rfl rfl rfl rfl hdl1 (fun e _=>fP e) (by rw[htl2,←hdl1];omega) (by rw[htl2,←hdl1];omega)) ae ?_;rintro _ _⟨ad3,cap3,rfl,rfl⟩;repeat first|refine aa ?_|intro _|refine aQ ?_
   refine KX.f9 (.inl rfl) (fI (ad:=ad3) (cap:=cap3) (xs:=(fs.take (k:Int).toNat++[(⟨⟨id,step,kind,tick,actor,frm,to,item,n,parts,made⟩,pad,pcap,mad,mcap⟩:FlV),(⟨⟨id,step,kind,tick,actor,frm,to,item,n,parts,made⟩,pad,pcap,mad,mcap⟩:FlV)])++fs.drop ((k:Int)+1).toNat) (enc:=aL) (sz:=11) (E:=bz)) ?_;rintro⟨hc3,_⟩;refine KX.d7 ai (Ent.trans ag (tm (fs':=(fs.take (k:Int).toNat++[(⟨⟨id,step,kind,tick,actor,frm,to,item,n,parts,made⟩,pad,pcap,mad,mcap⟩:FlV),(⟨⟨id,step,kind,tick,actor,frm,to,item,n,parts,made⟩,pad,pcap,mad,mcap⟩:FlV)])++fs.drop ((k:Int)+1).toNat) (ad3:=ad3) (cap3:=cap3) (ad:=ad) (L:=L) fun y hy=>?_)) ⟨ad3,cap3,_,true,rfl,.inr ⟨rfl,h1,k,hk,.inr (.inl (by rw[hxk,hkk,hk1]))⟩,hc3,rfl⟩;rcases List.mem_append.1 hy with h|h
   ·rcases List.mem_append.1 h with h|h
    ·exact cz h
    ·rcases List.mem_cons.1 h with h|h
     ·rw[h];exact hXm
     ·rw[List.mem_singleton.1 h];exact hXm
   ·exact dA h
  by_cases q2:which=2
  ·by_cases q2l:k+1=fs.length
   ·repeat first|refine aa ?_|intro _|refine aQ ?_
    exact KX.d7 ai (Ent.trans (B:=isl aL 11 ad fs::allP flP fs::L) ag hdup) ⟨ad,c,fs,false,rfl,.inl ⟨rfl,rfl⟩,hcp,rfl⟩
   have hk2:((k:Int)+2).toNat=k+2:=ac;have hkl:k+1<fs.length:=ac;have hdl2:fs.length - ((k:Int)+2).toNat=(fs.drop ((k:Int)+2).toNat).length:=by rw[bR]
   have hZm:fs[((k:Int)+1).toNat]!∈fs:=aI ac;repeat first|refine aa ?_|intro _|refine aQ ?_
   rename_i bb;refine GPW.ent (L':=isl aL 11 (some ⟨bb,0,none⟩) [fs[((k:Int)+1).toNat]!,(⟨⟨id,step,kind,tick,actor,frm,to,item,n,parts,made⟩,pad,pcap,mad,mcap⟩:FlV)]::isl an 3 pad parts::isl (encZ .i64) 1 mad made::obj b12 bz [ab id,ab step,ab kind,ab tick,ab actor,ab frm,ab to,ab item,ab n,.slice pad parts.length pcap,.slice mad made.length mcap]::osl aL 11 bz ad1 cap1 (fs.take (k:Int).toNat)::isl aL 11 ad fs::allP flP fs::L) (zP rfl) ?_;have h2:([fs[((k:Int)+1).toNat]!,(⟨⟨id,step,kind,tick,actor,frm,to,item,n,parts,made⟩,pad,pcap,mad,mcap⟩:FlV)]:List FlV).length=2:=rfl;refine GPW.ef (Ef.e7 (xs:=fs.take (k:Int).toNat) (ys:=[fs[((k:Int)+1).toNat]!,(⟨⟨id,step,kind,tick,actor,frm,to,item,n,parts,made⟩,pad,pcap,mad,mcap⟩:FlV)]) rfl rfl rfl rfl rfl (fun e _=>fP e) (by rw[←htl,h2];omega) (by rw[←htl,h2];omega)) ae ?_;rintro _ _⟨ad4,cap4,rfl,rfl⟩;have htl2:(fs.take (k:Int).toNat++[fs[((k:Int)+1).toNat]!,(⟨⟨id,step,kind,tick,actor,frm,to,item,n,parts,made⟩,pad,pcap,mad,mcap⟩:FlV)]).length=k+2:=by rw[az,←htl,hkk];rfl
   repeat first|refine aa ?_|intro _|refine aQ ?_
   refine GPW.ef (Ef.e7 (ys:=fs.drop ((k:Int)+2).toNat) (hq:=Rds.drop inferInstance hcp _) rfl rfl rfl rfl hdl2 (fun e _=>fP e) (by rw[htl2,←hdl2];omega) (by rw[htl2,←hdl2];omega)) ae ?_;rintro _ _⟨ad3,cap3,rfl,rfl⟩;repeat first|refine aa ?_|intro _|refine aQ ?_
   refine KX.f9 (.inl rfl) (fI (ad:=ad3) (cap:=cap3) (xs:=(fs.take (k:Int).toNat++[fs[((k:Int)+1).toNat]!,(⟨⟨id,step,kind,tick,actor,frm,to,item,n,parts,made⟩,pad,pcap,mad,mcap⟩:FlV)])++fs.drop ((k:Int)+2).toNat) (enc:=aL) (sz:=11) (E:=bz)) ?_;rintro⟨hc3,_⟩;refine KX.d7 ai (Ent.trans ag (tm (fs':=(fs.take (k:Int).toNat++[fs[((k:Int)+1).toNat]!,(⟨⟨id,step,kind,tick,actor,frm,to,item,n,parts,made⟩,pad,pcap,mad,mcap⟩:FlV)])++fs.drop ((k:Int)+2).toNat) (ad3:=ad3) (cap3:=cap3) (ad:=ad) (L:=L) fun y hy=>?_)) ⟨ad3,cap3,_,true,rfl,.inr ⟨rfl,h1,k,hk,.inr (.inr (.inl ⟨hkl,by rw[hxk,hkk,hk1,hk2]⟩))⟩,hc3,rfl⟩;rcases List.mem_append.1 hy with h|h
   ·rcases List.mem_append.1 h with h|h
    ·exact cz h
    ·rcases List.mem_cons.1 h with h|h
     ·rw[h];exact hZm
     ·rw[List.mem_singleton.1 h];exact hXm
   ·exact dA h
  by_cases q3:which=3
  ·repeat first|refine aa ?_|intro _|refine aQ ?_
   refine GO.ev (Ev.f8 rfl rfl) ae ?_;repeat first|refine aa ?_|intro _|refine aQ ?_
   refine⟨(⟨⟨IntKind.i64.wrap (id+by_),step,kind,tick,actor,frm,to,item,n,parts,made⟩,pad,pcap,mad,mcap⟩:FlV),⟨bN _,bN _⟩,aj,?_⟩;exact Ent.trans (B:=isl an 3 pad parts::isl (encZ .i64) 1 mad made::obj b12 bz [ab (IntKind.i64.wrap (id+by_)),ab step,ab kind,ab tick,ab actor,ab frm,ab to,ab item,ab n,.slice pad parts.length pcap,.slice mad made.length mcap]::osl aL 11 bz ad1 cap1 (fs.take (k:Int).toNat)::isl aL 11 ad fs::allP flP fs::L) ag (iE (y:=(⟨⟨IntKind.i64.wrap (id+by_),step,kind,tick,actor,frm,to,item,n,parts,made⟩,pad,pcap,mad,mcap⟩:FlV)))
  by_cases q4:which=4
  ·repeat first|refine aa ?_|intro _|refine aQ ?_
   refine GO.ev (Ev.f8 rfl rfl) ae ?_;repeat first|refine aa ?_|intro _|refine aQ ?_
   refine⟨(⟨⟨id,IntKind.i64.wrap (step+by_),kind,tick,actor,frm,to,item,n,parts,made⟩,pad,pcap,mad,mcap⟩:FlV),⟨bN _,bN _⟩,aj,?_⟩;exact Ent.trans (B:=isl an 3 pad parts::isl (encZ .i64) 1 mad made::obj b12 bz [ab id,ab (IntKind.i64.wrap (step+by_)),ab kind,ab tick,ab actor,ab frm,ab to,ab item,ab n,.slice pad parts.length pcap,.slice mad made.length mcap]::osl aL 11 bz ad1 cap1 (fs.take (k:Int).toNat)::isl aL 11 ad fs::allP flP fs::L) ag (iE (y:=(⟨⟨id,IntKind.i64.wrap (step+by_),kind,tick,actor,frm,to,item,n,parts,made⟩,pad,pcap,mad,mcap⟩:FlV)))
  by_cases q5:which=5
  ·repeat first|refine aa ?_|intro _|refine aQ ?_
   refine GO.ev (Ev.f8 rfl rfl) ae ?_;repeat first|refine aa ?_|intro _|refine aQ ?_
   refine⟨(⟨⟨id,step,IntKind.i64.wrap (kind+by_),tick,actor,frm,to,item,n,parts,made⟩,pad,pcap,mad,mcap⟩:FlV),⟨bN _,bN _⟩,aj,?_⟩;exact Ent.trans (B:=isl an 3 pad parts::isl (encZ .i64) 1 mad made::obj b12 bz [ab id,ab step,ab (IntKind.i64.wrap (kind+by_)),ab tick,ab actor,ab frm,ab to,ab item,ab n,.slice pad parts.length pcap,.slice mad made.length mcap]::osl aL 11 bz ad1 cap1 (fs.take (k:Int).toNat)::isl aL 11 ad fs::allP flP fs::L) ag (iE (y:=(⟨⟨id,step,IntKind.i64.wrap (kind+by_),tick,actor,frm,to,item,n,parts,made⟩,pad,pcap,mad,mcap⟩:FlV)))
  by_cases q6:which=6
  ·repeat first|refine aa ?_|intro _|refine aQ ?_
   refine GO.ev (Ev.f8 rfl rfl) ae ?_;repeat first|refine aa ?_|intro _|refine aQ ?_
   refine⟨(⟨⟨id,step,kind,IntKind.i64.wrap (tick+by_),actor,frm,to,item,n,parts,made⟩,pad,pcap,mad,mcap⟩:FlV),⟨bN _,bN _⟩,aj,?_⟩;exact Ent.trans (B:=isl an 3 pad parts::isl (encZ .i64) 1 mad made::obj b12 bz [ab id,ab step,ab kind,ab (IntKind.i64.wrap (tick+by_)),ab actor,ab frm,ab to,ab item,ab n,.slice pad parts.length pcap,.slice mad made.length mcap]::osl aL 11 bz ad1 cap1 (fs.take (k:Int).toNat)::isl aL 11 ad fs::allP flP fs::L) ag (iE (y:=(⟨⟨id,step,kind,IntKind.i64.wrap (tick+by_),actor,frm,to,item,n,parts,made⟩,pad,pcap,mad,mcap⟩:FlV)))
  by_cases q7:which=7
  ·repeat first|refine aa ?_|intro _|refine aQ ?_
   refine GO.ev (Ev.f8 rfl rfl) ae ?_;repeat first|refine aa ?_|intro _|refine aQ ?_
   refine⟨(⟨⟨id,step,kind,tick,IntKind.i64.wrap (actor+by_),frm,to,item,n,parts,made⟩,pad,pcap,mad,mcap⟩:FlV),⟨bN _,bN _⟩,aj,?_⟩;exact Ent.trans (B:=isl an 3 pad parts::isl (encZ .i64) 1 mad made::obj b12 bz [ab id,ab step,ab kind,ab tick,ab (IntKind.i64.wrap (actor+by_)),ab frm,ab to,ab item,ab n,.slice pad parts.length pcap,.slice mad made.length mcap]::osl aL 11 bz ad1 cap1 (fs.take (k:Int).toNat)::isl aL 11 ad fs::allP flP fs::L) ag (iE (y:=(⟨⟨id,step,kind,tick,IntKind.i64.wrap (actor+by_),frm,to,item,n,parts,made⟩,pad,pcap,mad,mcap⟩:FlV)))
  by_cases q8:which=8
  ·repeat first|refine aa ?_|intro _|refine aQ ?_
   refine GO.ev (Ev.f8 rfl rfl) ae ?_;repeat first|refine aa ?_|intro _|refine aQ ?_
   refine⟨(⟨⟨id,step,kind,tick,actor,IntKind.i64.wrap (frm+by_),to,item,n,parts,made⟩,pad,pcap,mad,mcap⟩:FlV),⟨bN _,bN _⟩,aj,?_⟩;exact Ent.trans (B:=isl an 3 pad parts::isl (encZ .i64) 1 mad made::obj b12 bz [ab id,ab step,ab kind,ab tick,ab actor,ab (IntKind.i64.wrap (frm+by_)),ab to,ab item,ab n,.slice pad parts.length pcap,.slice mad made.length mcap]::osl aL 11 bz ad1 cap1 (fs.take (k:Int).toNat)::isl aL 11 ad fs::allP flP fs::L) ag (iE (y:=(⟨⟨id,step,kind,tick,actor,IntKind.i64.wrap (frm+by_),to,item,n,parts,made⟩,pad,pcap,mad,mcap⟩:FlV)))
  by_cases q9:which=9
  ·repeat first|refine aa ?_|intro _|refine aQ ?_
   refine GO.ev (Ev.f8 rfl rfl) ae ?_;repeat first|refine aa ?_|intro _|refine aQ ?_
   refine⟨(⟨⟨id,step,kind,tick,actor,frm,IntKind.i64.wrap (to+by_),item,n,parts,made⟩,pad,pcap,mad,mcap⟩:FlV),⟨bN _,bN _⟩,aj,?_⟩;exact Ent.trans (B:=isl an 3 pad parts::isl (encZ .i64) 1 mad made::obj b12 bz [ab id,ab step,ab kind,ab tick,ab actor,ab frm,ab (IntKind.i64.wrap (to+by_)),ab item,ab n,.slice pad parts.length pcap,.slice mad made.length mcap]::osl aL 11 bz ad1 cap1 (fs.take (k:Int).toNat)::isl aL 11 ad fs::allP flP fs::L) ag (iE (y:=(⟨⟨id,step,kind,tick,actor,frm,IntKind.i64.wrap (to+by_),item,n,parts,made⟩,pad,pcap,mad,mcap⟩:FlV)))
  by_cases q10:which=10
  ·repeat first|refine aa ?_|intro _|refine aQ ?_
   refine GO.ev (Ev.f8 rfl rfl) ae ?_;repeat first|refine aa ?_|intro _|refine aQ ?_
   refine⟨(⟨⟨id,step,kind,tick,actor,frm,to,IntKind.i64.wrap (item+by_),n,parts,made⟩,pad,pcap,mad,mcap⟩:FlV),⟨bN _,bN _⟩,aj,?_⟩;exact Ent.trans (B:=isl an 3 pad parts::isl (encZ .i64) 1 mad made::obj b12 bz [ab id,ab step,ab kind,ab tick,ab actor,ab frm,ab to,ab (IntKind.i64.wrap (item+by_)),ab n,.slice pad parts.length pcap,.slice mad made.length mcap]::osl aL 11 bz ad1 cap1 (fs.take (k:Int).toNat)::isl aL 11 ad fs::allP flP fs::L) ag (iE (y:=(⟨⟨id,step,kind,tick,actor,frm,to,IntKind.i64.wrap (item+by_),n,parts,made⟩,pad,pcap,mad,mcap⟩:FlV)))
  by_cases q11:which=11
  ·repeat first|refine aa ?_|intro _|refine aQ ?_
   refine GO.ev (Ev.f8 rfl rfl) ae ?_;repeat first|refine aa ?_|intro _|refine aQ ?_
   refine⟨(⟨⟨id,step,kind,tick,actor,frm,to,item,IntKind.i64.wrap (n+by_),parts,made⟩,pad,pcap,mad,mcap⟩:FlV),⟨bN _,bN _⟩,aj,?_⟩;exact Ent.trans (B:=isl an 3 pad parts::isl (encZ .i64) 1 mad made::obj b12 bz [ab id,ab step,ab kind,ab tick,ab actor,ab frm,ab to,ab item,ab (IntKind.i64.wrap (n+by_)),.slice pad parts.length pcap,.slice mad made.length mcap]::osl aL 11 bz ad1 cap1 (fs.take (k:Int).toNat)::isl aL 11 ad fs::allP flP fs::L) ag (iE (y:=(⟨⟨id,step,kind,tick,actor,frm,to,item,IntKind.i64.wrap (n+by_),parts,made⟩,pad,pcap,mad,mcap⟩:FlV)))
  by_cases q12:which=12
  ·repeat first|refine aa ?_|intro _|refine aQ ?_
   rename_i bb;refine GO.ent (L':=osl (encZ .i64) 1 tInt (some ⟨bb,0,none⟩) 0 []::isl an 3 pad parts::isl (encZ .i64) 1 mad made::obj b12 bz [ab id,ab step,ab kind,ab tick,ab actor,ab frm,ab to,ab item,ab n,.slice pad parts.length pcap,.slice mad made.length mcap]::osl aL 11 bz ad1 cap1 (fs.take (k:Int).toNat)::isl aL 11 ad fs::allP flP fs::L) (Ent.e8 (enc:=encZ .i64) (sz:=1) (xs:=([]:List Int)) (n:=0) rfl rfl (fun _ h=>by cases h) ae) ?_;refine GO.ef (Ef.e7 (xs:=([]:List Int)) (ys:=made) rfl rfl rfl rfl rfl (fun e _=>by simp[encZ,Value.oneCell']) (by simp;omega) (by simp;omega)) ae ?_;rintro _ _⟨ad5,cap5,rfl,rfl⟩;simp only[aq];repeat first|refine aa ?_|intro _|refine aQ ?_
   refine GO.ef (Ef.d8 (enc:=encZ .i64) (xs:=made) (e:=by_) rfl rfl rfl rfl rfl (by rfl) (by simp[encZ,Value.oneCell']) ac ac) ae ?_;rintro _ _⟨ad6,cap6,rfl,rfl⟩;repeat first|refine aa ?_|intro _|refine aQ ?_
   have hY:aL (⟨⟨id,step,kind,tick,actor,frm,to,item,n,parts,(made++[by_])⟩,pad,pcap,ad6,cap6⟩:FlV)=[ab id,ab step,ab kind,ab tick,ab actor,ab frm,ab to,ab item,ab n,.slice pad parts.length pcap,.slice ad6 (made++[by_]).length cap6]:=by simp only[aL,bg,az]
   refine⟨(⟨⟨id,step,kind,tick,actor,frm,to,item,n,parts,(made++[by_])⟩,pad,pcap,ad6,cap6⟩:FlV),⟨bN _,by show(made++[by_]).length≤_;rw[az];exact aB _⟩,aj,?_⟩;rw[hY];exact Ent.trans (B:=osl (encZ .i64) 1 tInt ad6 cap6 (made++[by_])::isl an 3 pad parts::obj b12 bz [ab id,ab step,ab kind,ab tick,ab actor,ab frm,ab to,ab item,ab n,.slice pad parts.length pcap,.slice ad6 (made++[by_]).length cap6]::osl aL 11 bz ad1 cap1 (fs.take (k:Int).toNat)::isl aL 11 ad fs::allP flP fs::L) ag (Ent.freezeSl.trans (Ent.swap.trans (iE (y:=(⟨⟨id,step,kind,tick,actor,frm,to,item,n,parts,(made++[by_])⟩,pad,pcap,ad6,cap6⟩:FlV)))))
  by_cases qp:parts.length=0
  ·repeat first|refine aa ?_|intro _|refine aQ ?_
   rename_i bb;refine GO.ent (L':=osl an 3 tLot (some ⟨bb,0,none⟩) 0 []::isl an 3 pad parts::isl (encZ .i64) 1 mad made::obj b12 bz [ab id,ab step,ab kind,ab tick,ab actor,ab frm,ab to,ab item,ab n,.slice pad parts.length pcap,.slice mad made.length mcap]::osl aL 11 bz ad1 cap1 (fs.take (k:Int).toNat)::isl aL 11 ad fs::allP flP fs::L) (Ent.e8 (enc:=an) (sz:=3) (xs:=([]:LL)) (n:=0) rfl rfl (fun _ h=>by cases h) ae) ?_;refine GO.ef (Ef.e7 (xs:=([]:LL)) (ys:=parts) rfl rfl rfl rfl rfl (fun e _=>cx e) (by simp;omega) (by simp;omega)) ae ?_;rintro _ _⟨ad5,cap5,rfl,rfl⟩;simp only[aq];repeat first|refine aa ?_|intro _|refine aQ ?_
   refine GO.ef (Ef.d8 (enc:=an) (xs:=parts) (e:=((by_,by_,by_):Lot)) rfl rfl rfl rfl rfl (by rfl) (cx _) ac ac) ae ?_;rintro _ _⟨ad6,cap6,rfl,rfl⟩;repeat first|refine aa ?_|intro _|refine aQ ?_
   have hY:aL (⟨⟨id,step,kind,tick,actor,frm,to,item,n,(parts++[(by_,by_,by_)]),made⟩,ad6,cap6,mad,mcap⟩:FlV)=[ab id,ab step,ab kind,ab tick,ab actor,ab frm,ab to,ab item,ab n,.slice ad6 (parts++[(by_,by_,by_)]).length cap6,.slice mad made.length mcap]:=by simp only[aL,bg,az]
   refine⟨(⟨⟨id,step,kind,tick,actor,frm,to,item,n,(parts++[(by_,by_,by_)]),made⟩,ad6,cap6,mad,mcap⟩:FlV),⟨by show(parts++[_]).length≤_;rw[az];exact aB _,bN _⟩,aj,?_⟩;rw[hY];exact Ent.trans (B:=osl an 3 tLot ad6 cap6 (parts++[(by_,by_,by_)])::isl (encZ .i64) 1 mad made::obj b12 bz [ab id,ab step,ab kind,ab tick,ab actor,ab frm,ab to,ab item,ab n,.slice ad6 (parts++[(by_,by_,by_)]).length cap6,.slice mad made.length mcap]::osl aL 11 bz ad1 cap1 (fs.take (k:Int).toNat)::isl aL 11 ad fs::allP flP fs::L) ag (Ent.freezeSl.trans (iE (y:=(⟨⟨id,step,kind,tick,actor,frm,to,item,n,(parts++[(by_,by_,by_)]),made⟩,ad6,cap6,mad,mcap⟩:FlV))))
  have hp0:(Int.toNat 0)<parts.length:=by show 0<_;omega
  have hpl:((parts.length:Int) - 1).toNat<parts.length:=ac;by_cases q13:which=13
  ·repeat first|refine aa ?_|intro _|refine aQ ?_
   rename_i bb;refine GO.ent (L':=osl an 3 tLot (some ⟨bb,0,none⟩) 0 []::isl an 3 pad parts::isl (encZ .i64) 1 mad made::obj b12 bz [ab id,ab step,ab kind,ab tick,ab actor,ab frm,ab to,ab item,ab n,.slice pad parts.length pcap,.slice mad made.length mcap]::osl aL 11 bz ad1 cap1 (fs.take (k:Int).toNat)::isl aL 11 ad fs::allP flP fs::L) (Ent.e8 (enc:=an) (sz:=3) (xs:=([]:LL)) (n:=0) rfl rfl (fun _ h=>by cases h) ae) ?_;refine GO.ef (Ef.e7 (xs:=([]:LL)) (ys:=parts) rfl rfl rfl rfl rfl (fun e _=>cx e) (by simp;omega) (by simp;omega)) ae ?_;rintro _ _⟨ad5,cap5,rfl,rfl⟩;simp only[aq];repeat first|refine aa ?_|intro _|refine aQ ?_
   refine GO.ev (Ev.f8 rfl rfl) ae ?_;repeat first|refine aa ?_|intro _|refine aQ ?_
   refine GO.efu (Ef.e8 (e:=((IntKind.i64.wrap (parts[Int.toNat 0]!.1+by_),parts[Int.toNat 0]!.2.1,parts[Int.toNat 0]!.2.2):Lot)) rfl rfl (by rfl) rfl hp0 ae) ?_;rintro _ _ rfl;repeat first|refine aa ?_|intro _|refine aQ ?_
   have hY:aL (⟨⟨id,step,kind,tick,actor,frm,to,item,n,(parts.set (Int.toNat 0) (IntKind.i64.wrap (parts[Int.toNat 0]!.1+by_),parts[Int.toNat 0]!.2.1,parts[Int.toNat 0]!.2.2)),made⟩,ad5,cap5,mad,mcap⟩:FlV)=[ab id,ab step,ab kind,ab tick,ab actor,ab frm,ab to,ab item,ab n,.slice ad5 parts.length cap5,.slice mad made.length mcap]:=by simp only[aL,bg,az]
   refine⟨(⟨⟨id,step,kind,tick,actor,frm,to,item,n,(parts.set (Int.toNat 0) (IntKind.i64.wrap (parts[Int.toNat 0]!.1+by_),parts[Int.toNat 0]!.2.1,parts[Int.toNat 0]!.2.2)),made⟩,ad5,cap5,mad,mcap⟩:FlV),⟨by show(List.set _ _ _).length≤_;rw[bg];exact bN _,bN _⟩,aj,?_⟩;rw[hY];exact Ent.trans (B:=osl an 3 tLot ad5 cap5 (parts.set (Int.toNat 0) (IntKind.i64.wrap (parts[Int.toNat 0]!.1+by_),parts[Int.toNat 0]!.2.1,parts[Int.toNat 0]!.2.2))::isl (encZ .i64) 1 mad made::obj b12 bz [ab id,ab step,ab kind,ab tick,ab actor,ab frm,ab to,ab item,ab n,.slice ad5 parts.length cap5,.slice mad made.length mcap]::osl aL 11 bz ad1 cap1 (fs.take (k:Int).toNat)::isl aL 11 ad fs::allP flP fs::L) ag (Ent.freezeSl.trans (iE (y:=(⟨⟨id,step,kind,tick,actor,frm,to,item,n,(parts.set (Int.toNat 0) (IntKind.i64.wrap (parts[Int.toNat 0]!.1+by_),parts[Int.toNat 0]!.2.1,parts[Int.toNat 0]!.2.2)),made⟩,ad5,cap5,mad,mcap⟩:FlV))))
  by_cases q14:which=14
  ·repeat first|refine aa ?_|intro _|refine aQ ?_
   rename_i bb;refine GO.ent (L':=osl an 3 tLot (some ⟨bb,0,none⟩) 0 []::isl an 3 pad parts::isl (encZ .i64) 1 mad made::obj b12 bz [ab id,ab step,ab kind,ab tick,ab actor,ab frm,ab to,ab item,ab n,.slice pad parts.length pcap,.slice mad made.length mcap]::osl aL 11 bz ad1 cap1 (fs.take (k:Int).toNat)::isl aL 11 ad fs::allP flP fs::L) (Ent.e8 (enc:=an) (sz:=3) (xs:=([]:LL)) (n:=0) rfl rfl (fun _ h=>by cases h) ae) ?_;refine GO.ef (Ef.e7 (xs:=([]:LL)) (ys:=parts) rfl rfl rfl rfl rfl (fun e _=>cx e) (by simp;omega) (by simp;omega)) ae ?_;rintro _ _⟨ad5,cap5,rfl,rfl⟩;simp only[aq];repeat first|refine aa ?_|intro _|refine aQ ?_
   refine GO.ev (Ev.f8 rfl rfl) ae ?_;repeat first|refine aa ?_|intro _|refine aQ ?_
   refine GO.efu (Ef.e8 (e:=((parts[((parts.length:Int) - 1).toNat]!.1,IntKind.i64.wrap (parts[((parts.length:Int) - 1).toNat]!.2.1+by_),parts[((parts.length:Int) - 1).toNat]!.2.2):Lot)) rfl rfl (by rfl) rfl hpl ae) ?_;rintro _ _ rfl;repeat first|refine aa ?_|intro _|refine aQ ?_
   have hY:aL (⟨⟨id,step,kind,tick,actor,frm,to,item,n,(parts.set ((parts.length:Int) - 1).toNat (parts[((parts.length:Int) - 1).toNat]!.1,IntKind.i64.wrap (parts[((parts.length:Int) - 1).toNat]!.2.1+by_),parts[((parts.length:Int) - 1).toNat]!.2.2)),made⟩,ad5,cap5,mad,mcap⟩:FlV)=[ab id,ab step,ab kind,ab tick,ab actor,ab frm,ab to,ab item,ab n,.slice ad5 parts.length cap5,.slice mad made.length mcap]:=by simp only[aL,bg,az]
   refine⟨(⟨⟨id,step,kind,tick,actor,frm,to,item,n,(parts.set ((parts.length:Int) - 1).toNat (parts[((parts.length:Int) - 1).toNat]!.1,IntKind.i64.wrap (parts[((parts.length:Int) - 1).toNat]!.2.1+by_),parts[((parts.length:Int) - 1).toNat]!.2.2)),made⟩,ad5,cap5,mad,mcap⟩:FlV),⟨by show(List.set _ _ _).length≤_;rw[bg];exact bN _,bN _⟩,aj,?_⟩;rw[hY];exact Ent.trans (B:=osl an 3 tLot ad5 cap5 (parts.set ((parts.length:Int) - 1).toNat (parts[((parts.length:Int) - 1).toNat]!.1,IntKind.i64.wrap (parts[((parts.length:Int) - 1).toNat]!.2.1+by_),parts[((parts.length:Int) - 1).toNat]!.2.2))::isl (encZ .i64) 1 mad made::obj b12 bz [ab id,ab step,ab kind,ab tick,ab actor,ab frm,ab to,ab item,ab n,.slice ad5 parts.length cap5,.slice mad made.length mcap]::osl aL 11 bz ad1 cap1 (fs.take (k:Int).toNat)::isl aL 11 ad fs::allP flP fs::L) ag (Ent.freezeSl.trans (iE (y:=(⟨⟨id,step,kind,tick,actor,frm,to,item,n,(parts.set ((parts.length:Int) - 1).toNat (parts[((parts.length:Int) - 1).toNat]!.1,IntKind.i64.wrap (parts[((parts.length:Int) - 1).toNat]!.2.1+by_),parts[((parts.length:Int) - 1).toNat]!.2.2)),made⟩,ad5,cap5,mad,mcap⟩:FlV))))
  ·skip;repeat first|refine aa ?_|intro _|refine aQ ?_
   rename_i bb;refine GO.ent (L':=osl an 3 tLot (some ⟨bb,0,none⟩) 0 []::isl an 3 pad parts::isl (encZ .i64) 1 mad made::obj b12 bz [ab id,ab step,ab kind,ab tick,ab actor,ab frm,ab to,ab item,ab n,.slice pad parts.length pcap,.slice mad made.length mcap]::osl aL 11 bz ad1 cap1 (fs.take (k:Int).toNat)::isl aL 11 ad fs::allP flP fs::L) (Ent.e8 (enc:=an) (sz:=3) (xs:=([]:LL)) (n:=0) rfl rfl (fun _ h=>by cases h) ae) ?_;refine GO.ef (Ef.e7 (xs:=([]:LL)) (ys:=parts) rfl rfl rfl rfl rfl (fun e _=>cx e) (by simp;omega) (by simp;omega)) ae ?_;rintro _ _⟨ad5,cap5,rfl,rfl⟩;simp only[aq];repeat first|refine aa ?_|intro _|refine aQ ?_
   refine GO.ev (Ev.f8 rfl rfl) ae ?_;repeat first|refine aa ?_|intro _|refine aQ ?_
   refine GO.efu (Ef.e8 (e:=((parts[Int.toNat 0]!.1,parts[Int.toNat 0]!.2.1,IntKind.i64.wrap (parts[Int.toNat 0]!.2.2+by_)):Lot)) rfl rfl (by rfl) rfl hp0 ae) ?_;rintro _ _ rfl;repeat first|refine aa ?_|intro _|refine aQ ?_
   have hY:aL (⟨⟨id,step,kind,tick,actor,frm,to,item,n,(parts.set (Int.toNat 0) (parts[Int.toNat 0]!.1,parts[Int.toNat 0]!.2.1,IntKind.i64.wrap (parts[Int.toNat 0]!.2.2+by_))),made⟩,ad5,cap5,mad,mcap⟩:FlV)=[ab id,ab step,ab kind,ab tick,ab actor,ab frm,ab to,ab item,ab n,.slice ad5 parts.length cap5,.slice mad made.length mcap]:=by simp only[aL,bg,az]
   refine⟨(⟨⟨id,step,kind,tick,actor,frm,to,item,n,(parts.set (Int.toNat 0) (parts[Int.toNat 0]!.1,parts[Int.toNat 0]!.2.1,IntKind.i64.wrap (parts[Int.toNat 0]!.2.2+by_))),made⟩,ad5,cap5,mad,mcap⟩:FlV),⟨by show(List.set _ _ _).length≤_;rw[bg];exact bN _,bN _⟩,aj,?_⟩;rw[hY];exact Ent.trans (B:=osl an 3 tLot ad5 cap5 (parts.set (Int.toNat 0) (parts[Int.toNat 0]!.1,parts[Int.toNat 0]!.2.1,IntKind.i64.wrap (parts[Int.toNat 0]!.2.2+by_)))::isl (encZ .i64) 1 mad made::obj b12 bz [ab id,ab step,ab kind,ab tick,ab actor,ab frm,ab to,ab item,ab n,.slice ad5 parts.length cap5,.slice mad made.length mcap]::osl aL 11 bz ad1 cap1 (fs.take (k:Int).toNat)::isl aL 11 ad fs::allP flP fs::L) ag (Ent.freezeSl.trans (iE (y:=(⟨⟨id,step,kind,tick,actor,frm,to,item,n,(parts.set (Int.toNat 0) (parts[Int.toNat 0]!.1,parts[Int.toNat 0]!.2.1,IntKind.i64.wrap (parts[Int.toNat 0]!.2.2+by_))),made⟩,ad5,cap5,mad,mcap⟩:FlV))))
 rintro y ⟨y1,y2⟩;simp only[aL];repeat first|refine aa ?_|intro _|refine aQ ?_
 refine GO.ef (Ef.d8 (enc:=aL) (xs:=fs.take (k:Int).toNat) (e:=y) rfl rfl rfl rfl rfl (by rfl) (fP _) (by rw[←htl];omega) (by rw[←htl];omega)) ae ?_;rintro _ _⟨ad4,cap4,rfl,rfl⟩;have htl2:(fs.take (k:Int).toNat++[y]).length=k+1:=by rw[az,←htl,hkk];rfl
 repeat first|refine aa ?_|intro _|refine aQ ?_
 refine GO.ef (Ef.e7 (ys:=fs.drop ((k:Int)+1).toNat) (hq:=Rds.drop inferInstance hcp _) rfl rfl rfl rfl hdl1 (fun e _=>fP e) (by rw[htl2,←hdl1];omega) (by rw[htl2,←hdl1];omega)) ae ?_;rintro _ _⟨ad3,cap3,rfl,rfl⟩;refine GO.e8 (fI (ad:=ad3) (cap:=cap3) (xs:=(fs.take (k:Int).toNat++[y])++fs.drop ((k:Int)+1).toNat) (enc:=aL) (sz:=11) (E:=bz)) ?_;rintro⟨hc3,_⟩;repeat first|refine aa ?_|intro _|refine aQ ?_
 refine KX.d7 ai (Ent.trans ag (EL (fs':=(fs.take (k:Int).toNat++[y])++fs.drop ((k:Int)+1).toNat) (y:=y) (ad3:=ad3) (cap3:=cap3) (ad:=ad) (L:=L) fun z hz=>?_)) ⟨ad3,cap3,_,true,rfl,.inr ⟨rfl,h1,k,hk,.inr (.inr (.inr ⟨y,by rw[hkk,hk1],y1,y2⟩))⟩,hc3,rfl⟩;rcases List.mem_append.1 hz with h|h
 ·rcases List.mem_append.1 h with h|h
  ·exact .inr (cz h)
  ·exact .inl (List.mem_singleton.1 h)
 ·exact .inr (dA h)
