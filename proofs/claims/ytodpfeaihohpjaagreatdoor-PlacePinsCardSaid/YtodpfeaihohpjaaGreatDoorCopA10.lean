/- Part 11: contracts of what the law calls. -/
import Derived.Test.YtodpfeaihohpjaaGreatDoorCopA09
set_option maxRecDepth 1000000
set_option maxHeartbeats 16000000
set_option linter.unusedSimpArgs false
set_option linter.unusedVariables false
open Go.Value renaming int→O,slice→Z
open Go.IntKind renaming i64→Y
open Go renaming World→X,Value→V
namespace Go.Proofs.YtodpfeaihohpjaaGreatDoor.Cop
section
open Go.RowKit Go.Shelf
def turnedP (way:Int) (ps:List (Int×Int)):List (Int×Int):=settledP (if 3<way then (ps.map (wayP way)).reverse else ps.map (wayP way))
theorem zbX {nb:Bool} {ps:List (Int×Int)} {d de gx gz:Int} (h:stoneB nb ps d de gx gz=true):3≤ps.length∧ps.length≤12∧PBd 2000 ps∧Bd 100 gx∧Bd 100 gz:=by
 unfold stoneB at h;simp only [Bool.and_eq_true]at h;obtain⟨⟨⟨⟨_,h1⟩,_⟩,_⟩,h5⟩:=h
 have hc:convexB ps=true:=by
  cases hcc:convexB ps
  ·rw [zbJ hcc]at h1;cases h1
  ·rfl
 have hf:ps.any farB=false:=by
  cases hff:ps.any farB
  ·rfl
  ·rw [zdU hff]at h1;cases h1
 have hl:=zck hc;unfold grainB wthn at h5;simp at h5;exact⟨hl.1,hl.2,zlx hf,by unfold Bd;omega,by unfold Bd;omega⟩
theorem zmG {k way x z:Int} (h1:Bd k x) (h2:Bd k z):Bd k (wayP way (x,z)).1∧Bd k (wayP way (x,z)).2:=by
 have n1:Bd k (-x):=by unfold Bd at *;omega
 have n2:Bd k (-z):=by unfold Bd at *;omega
 have n3:Bd k (- -x):=by unfold Bd at *;omega
 unfold wayP;dsimp only
 split<;>split<;>(try split)<;>(try split)<;>exact⟨by assumption,by assumption⟩
theorem PBd.way {k way:Int} {ps:List (Int×Int)} (h:PBd k ps):PBd k (ps.map (wayP way)):=fun p hp=>by
 obtain⟨q,hq,rfl⟩:=List.mem_map.1 hp;exact zmG (h q hq).1 (h q hq).2
theorem PBd.rev {k:Int} {ps:List (Int×Int)} (h:PBd k ps):PBd k ps.reverse:=fun p hp=>h p (List.mem_reverse.1 hp)
def StB (W:X) (b:Nat) (nm:ByteArray) (v:V) (d de gx gz:Int):Prop:=W.heap[b]?=some (.cells #[.string nm,v,O Y d,O Y de,O Y gx,O Y gz] 35 (0,0))
def TuS (w:X) (s8 base:Nat) (nm:ByteArray) (v:V) (d de gx gz way:Int) (ps:List (Int×Int)) (g:Nat) (t27:V) (W:X):Prop:=
 ∃(i:Nat) (vv:V),i≤ps.length∧t27=O Y i∧g=ps.length-i∧Ext w W∧base≤W.heap.size∧StB W s8 nm vv d de gx gz∧OwnC 33 2 W base vv (((ps.take i).map (wayP way)).map pc) ∧
  StB W w.heap.size nm v d de gx gz∧W.heap[w.heap.size+1]?=some (.cells #[O Y way] 3 (0,0))∧W.heap[w.heap.size+1+1]?=some (.cells #[.string ⟨#[]⟩,Z none 0 0,O Y 0,O Y 0,O Y 0,O Y 0] 35 (0,0))∧Gw W
theorem StB.set {W:X} {b:Nat} {nm:ByteArray} {v:V} {d de gx gz:Int} (h:StB W b nm v d de gx gz) (u:V):StB (W.setCell ⟨b,1,none⟩ u) b nm u d de gx gz:=by
 unfold StB at *;simp [World.setCell,Array.getElem?_modify,h]
theorem TuS.step {w wr w4:X} {s8:Nat} {nm:ByteArray} {v v3 v4:V} {d de gx gz way:Int} {ps:List (Int×Int)} {n i:Nat} (hn:ps.length=n) (hlt:i<n) (hx:Ext w wr) (hsA:w.heap.size+1+1<s8)
  (h8:StB wr s8 nm v3 d de gx gz) (hs0:StB wr w.heap.size nm v d de gx gz) (hs1:wr.heap[w.heap.size+1]?=some (.cells #[O Y way] 3 (0,0)))
  (hs2:wr.heap[w.heap.size+1+1]?=some (.cells #[.string ⟨#[]⟩,Z none 0 0,O Y 0,O Y 0,O Y 0,O Y 0] 35 (0,0))) (hg:Gw w)
  (hB:Below (s8+1) wr w4) (hown:OwnC 33 2 w4 (s8+1) v4 (((ps.take (i+1)).map (wayP way)).map pc)) :
  TuS w s8 (s8+1) nm v d de gx gz way ps (n-(i+1)) (O Y ((i:Int)+1)) (w4.setCell ⟨s8,1,none⟩ v4):=by
 have z8:s8<wr.heap.size:=zaa h8;have X4:Ext w w4:=hx.thenB hB (by omega);have hsz:=hB.size
 have E:∀{k:Nat} {o:Obj},k<s8→wr.heap[k]?=some o→(w4.setCell ⟨s8,1,none⟩ v4).heap[k]?=some o:=fun hk ho=>by
  rw [bS _ _ _ _ (by dsimp only;omega),hB.block _ (by omega)];exact ho
 have X5:Ext w (w4.setCell ⟨s8,1,none⟩ v4):=X4.set (by dsimp only;omega) _;refine⟨i+1,v4,by omega,by go_num,by rw [hn],X5,by simp only [qcZ];omega,StB.set (v:=v3) ((hB.block s8 (by omega)).trans h8) _,hown.setOther (fun e=>?_) _,E (by omega) hs0,E (by omega) hs1,E (by omega) hs2,hg.ext X5⟩;have:=(hown.lt _ e).1;dsimp only at this;omega
theorem OwnC.pts {w:X} {base:Nat} {v:V} {ls:List (Int×Int)} (h:OwnC 33 2 w base v (ls.map pc)):IsPts w v ls:=
 OwnC.sl h (by simp) (fun i c x hc hx=>by
  rw [lP,hx]at hc
  cases hc;rfl)
def RetT (w:X) (nm:ByteArray) (d de:Int) (g:Int×Int) (qs:List (Int×Int)) (e:Ending) (w':X):Prop:=
 ∃v',e = .returned (.tuple #[.agg #[.string nm,v',O Y d,O Y de,O Y g.1,O Y g.2],O Y 0])∧OwnC 33 2 w' w.heap.size v' (qs.map pc)∧Ext w w'
theorem ziq (w:X) (nm:ByteArray) (v:V) (ps:List (Int×Int)) (d de gx gz way:Int) (h:IsPts w v ps) (hB:stoneB (namedB nm) ps d de gx gz=true) (hw0:0≤way) (hw7:way≤7) (hg:Gw w) :
  Calls Tryz.prog 123 #[.agg #[.string nm,v,O Y d,O Y de,O Y gx,O Y gz],O Y way] w (RetT w nm d de (wayP way (gx,gz)) (turnedP way ps)):=by
 obtain⟨a,c,rfl⟩:=h.form;obtain⟨h3,h12,hbd,hgx,hgz⟩:=zbX hB;have hck:=fun W (hW:Ext w W)=>zfr W nm _ ps d de gx gz (h.ext' hW)
 rw [hB]at hck;simp only [if_true]at hck;have hwi:wthn way 0 7=true:=by simp [wthn];omega
 obtain⟨n,hn⟩:=gX ps.length;rw [hn]at h hck ⊢;have Hck:=hd9 hck;have Hbd:=hd9 hbd;have Hgx:=hd9 hgx;have Hgz:=hd9 hgz;have Hn:=hd9 hn;have Hwi:=hd9 hwi;have Hg:=hd9 hg;obtain⟨R,hR⟩:=gX (RetT w nm d de (wayP way (gx,gz)) (turnedP way ps));rw [hR];have HR:=hd9 hR;have hmf:∀(fn:Fn) (first cap:Array V) (w:X),(Instr.makeFunc fn first cap).run Tryz.prog w = .ok (.func fn first cap) w:=fun _ _ _ _=>rfl
 clear hck hbd hgx hgz hwi hg hB hR;rw [hn]at h3 h12;clear hn;go_enter Tryz.func123,Tryz.ntmps123
 go_wp2_with(first|((go_at_call 98;(with_reducible refine(Hck.out _ ?_).mono ?_);exact eA;rintro e w1 ⟨rfl,hx1⟩;obtain⟨⟨hc1,hf1⟩,z1_0,z1_1,z1_2⟩:=cK3 w hx1))|((go_at_call 134;(with_reducible refine(zah _ way 0 7).mono ?_);rw [Hwi.out];rintro e w2 ⟨rfl,hx2⟩;obtain⟨hc2,hf2⟩:=hx2.cells;have z2_0:=hx2.lt z1_0;have z2_1:=hx2.lt z1_1;have z2_2:=hx2.lt z1_2)))
 have hxA:Ext w w2:=eA;have hxB:Ext (((w.alloc (.cells #[.string nm,Z a n c,O Y d,O Y de,O Y gx,O Y gz] 35)).alloc (.cells #[O Y way] 3)).alloc (.cells #[.string ⟨#[]⟩,Z none 0 0,O Y 0,O Y 0,O Y 0,O Y 0] 35)) w2:=hx1.trans hx2;obtain⟨s8,hs8⟩:=gX w2.heap.size;have Hs8:=hd9 hs8;rw [hs8];rw [hs8]at z2_2;have hsA:w.heap.size≤s8:=by rw [←hs8];exact hxA.size
 clear hs8
 go_loopg [27] n (TuS w s8 (s8+1) nm (Z a n c) d de gx gz way ps)
 case atStart =>
  have hy:=(eR w2).alloc (.cells #[.string nm,Z none 0 0,O Y d,O Y de,O Y gx,O Y gz] 35);refine⟨0,Z none 0 0,by omega,rfl,by rw [Hn.out];rfl,hxA.alloc _,by simp [Hs8.out],qhA _ _ _ Hs8.out.symm,by simpa using OwnC.nil _ _ _ _,hy.heapS (hxB.heapS ?_),hy.heapS (hxB.heapS ?_),hy.heapS (hxB.heapS (qhA _ _ _ (by simp))),(Hg.out.ext hxA).ext hy⟩
  ·rw [zae,if_neg (by simp;omega),zae,if_neg (by simp)];exact qhA _ _ _ rfl
  ·rw [zae,if_neg (by simp)];exact qhA _ _ _ (by simp)
 case round =>
  have zs2:w.heap.size+1+1<s8:=z2_2;clear hc1 hf1 hc2 hf2 hx1 hx2 hxA hxB z1_0 z1_1 z1_2 z2_0 z2_1 z2_2;obtain⟨i,vv,hi,rfl,rfl,hx,hsz,h8,hown,hs0,hs1,hs2,hgw⟩:=hrel;rw [Hn.out]at hi;obtain⟨va,vn,vc,rfl⟩:=hown.form3;have c8:=qcB h8 (i:=1) (u:=Z va vn vc) rfl;have f8:=qfB h8;have cw:=qcB hs1 (i:=0) (u:=O Y way) rfl;have z8:s8<wr.heap.size:=zaa h8;have H8:=hd9 h8;have Hown:=hd9 hown;have Hs0:=hd9 hs0;have Hs1:=hd9 hs1;have Hs2:=hd9 hs2;have Hgw:=hd9 hgw;have hbs:wr.heap.size+1≤wr.heap.size+1:=nE _
  by_cases hlt:i<n
  ·obtain⟨⟨x,z⟩,hq⟩:∃q,ps[i]?=some q:=⟨ps[i]'(by rw [Hn.out];omega),by simp [Hn.out,hlt]⟩
   obtain⟨b,o,rfl,hb,d0,d1⟩:=(h.ext' hx).at' hq;have hbx:=Hbd.out (x,z) (lM hq);have Hbx:=hd9 hbx;obtain⟨⟨x2,z2⟩,hxz⟩:∃q,wayP way (x,z)=q:=⟨_,rfl⟩;have htc:=fun(W:X) (hW:Ext wr W)=>zeh W x z way (w.heap.size+1) (hW.cellS cw) hw0 hw7 (hgw.ext hW) (hbx.1.mono (by decide)) (hbx.2.mono (by decide))
   rw [hxz]at htc;have Htc:=hd9 htc
   have hsn:((ps.take (i+1)).map (wayP way)).map pc=((ps.take i).map (wayP way)).map pc++[pc (x2,z2)]:=by
    rw [zab _ _ _ hq,List.map_append,List.map_append,←hxz];rfl
   have Hsn:=hd9 hsn;have hle:(((ps.take i).map (wayP way)).map pc).length+1≤100000000000:=by simp;omega
   have Hle:=hd9 hle;have p1:(0:Int)≤(i:Int):=by omega
   have p2:(i:Int)<(n:Int):=by omega
   clear hq hbx htc hsn hle hgw hs0 hs1 hs2 h8 hxz;go_wp2
   go_region_law (first|(go_simp;go_at_call 156;go_wp2_with(go_at_call 156;(with_reducible refine(Htc.out _ ?_).mono ?_);exact eA;rintro e w3 ⟨rfl,hx3⟩;obtain⟨hc3,hf3⟩:=hx3.cells;(try simp only [qcD,qfD,qdZ]at hc3 hf3);(have y3:=hx3.lt (n:=s8) (by simp only [wZ,qdZ];omega));(have y4:=hx3.lt (n:=wr.heap.size) (by simp only [wZ,qdZ];omega))))|(refine zbW (v:=Z va vn vc) (base:=s8+1) zbD rfl (by decide) (by decide) Tryz.underlying32 (by rfl) _ _ (by rfl) (by rfl) (cs:=((ps.take i).map (wayP way)).map pc) (Hown.out.ext ?_) (by rfl) [pc (x2,z2)] rfl (by simp [pc]) (zjx _ _ _ _) (zlL _ _) Hle.out ?_ ?_;exact eA;(simp only [wZ,qdZ];omega);intro v4 w4 hown4 hgrow hlie;obtain⟨a4,n4,c4,rfl⟩:=hown4.form3;(have B4:Below (s8+1) wr w4:=by(refine Below.trans (Below.mono (B':=s8+1) (show Ext wr _ from ?_) hsz) (zad hgrow ?_ (fun k hk=>(Hown.out.lt k hk).1));exact eA;(simp only [wZ,qdZ];omega)));(have E8:=(B4.block s8 (by omega)).trans H8.out);(have c9:=qcB E8 (i:=1) (u:=Z va vn vc) rfl);(have f9:=qfB E8 1)))
   all_goals go_wp2
   all_goals
    go_roundg (n-(i+1))
    case measure=>have:=Hn.out;omega
    case rel=>exact TuS.step Hn.out hlt hx zs2 H8.out Hs0.out Hs1.out Hs2.out Hg.out B4 (by rw [Hsn.out];exact hown4)
  ·obtain rfl:i=n:=by omega
   have e:(ps.take i).map (wayP way)=ps.map (wayP way):=by rw [lT (by rw [Hn.out];exact nE _)]
   have hown':=Hown.out;rw [e]at hown';have hlen:(ps.map (wayP way)).length=i:=by simp [Hn.out]
   have hb9:PBd 1000000 (ps.map (wayP way)):=fun p hp=>⟨(Hbd.out.way p hp).1.mono (by decide),(Hbd.out.way p hp).2.mono (by decide)⟩
   have Hown':=hd9 hown';have Hlen:=hd9 hlen;have Hb9:=hd9 hb9;clear e hown hown' hlen hb9 hgw hs0 hs1 hs2 h8 Hown
   by_cases hw3:3<way
   ·have k3:decide (3<way)=true:=by simpa using hw3
    have hrv:=zmv wr (s8+1) (Z va vn vc) (ps.map (wayP way)) Hown'.out (by rw [Hlen.out];omega);have Hrv:=hd9 hrv;obtain⟨ls,hls⟩:=gX ((ps.map (wayP way)).reverse);have HL:Hid (turnedP way ps=settledP ls):=hd9 (by unfold turnedP;rw [if_pos hw3,hls]);have hl1:ls.length=i:=by rw [←hls,List.length_reverse];exact Hlen.out
    have hl2:PBd 1000000 ls:=by rw [←hls];exact Hb9.out.rev
    have Hls:=hd9 hls;have Hl1:=hd9 hl1;have Hl2:=hd9 hl2;clear hrv hls hl1 hl2 hw3
    go_wp2_with(((go_at_call 157;(with_reducible refine Hrv.out.mono ?_);rintro e w3 ⟨rfl,ho3,hg3⟩)))
    have B3:Below (s8+1) wr w3:=zad hg3 hsz (fun k hk=>(Hown'.out.lt k hk).1);rw [Hls.out]at ho3;have Ho3:=hd9 ho3;clear ho3 hg3;have E8:StB w3 s8 nm (Z va vn vc) d de gx gz:=(B3.block s8 (by omega)).trans H8.out;have E0:StB w3 w.heap.size nm _ d de gx gz:=(B3.block w.heap.size (by omega)).trans Hs0.out;have E1:=(B3.block (w.heap.size+1) (by omega)).trans Hs1.out;have E2:=(B3.block (w.heap.size+1+1) (by omega)).trans Hs2.out;have X3:Ext w w3:=hx.thenB B3 (by omega);have b0:=qcB E8 (i:=0) (u:=.string nm) rfl;have b1:=qcB E8 (i:=1) (u:=Z va vn vc) rfl;have b2:=qcB E8 (i:=2) (u:=O Y d) rfl;have b3:=qcB E8 (i:=3) (u:=O Y de) rfl;have b4:=qcB E8 (i:=4) (u:=O Y gx) rfl;have b5:=qcB E8 (i:=5) (u:=O Y gz) rfl;have bf:=qfB E8;have a4:=qcB E0 (i:=4) (u:=O Y gx) rfl;have a5:=qcB E0 (i:=5) (u:=O Y gz) rfl;have e0:=qcB E2 (i:=0) (u:=.string ⟨#[]⟩) rfl;have e1:=qcB E2 (i:=1) (u:=Z none 0 0) rfl;have e2:=qcB E2 (i:=2) (u:=O Y 0) rfl;have e3:=qcB E2 (i:=3) (u:=O Y 0) rfl;have e4:=qcB E2 (i:=4) (u:=O Y 0) rfl;have e5:=qcB E2 (i:=5) (u:=O Y 0) rfl;have ef:=qfB E2;have y0:s8<w3.heap.size:=zaa E8;have y1:w.heap.size+1+1<w3.heap.size:=by omega
    have y2:w.heap.size<w3.heap.size:=by omega
    have hst:=fun(W:X) (hW:Ext w3 W)=>zdd W (Z va vn vc) ls (Ho3.out.pts.ext' hW) (by rw [Hl1.out];omega) (by rw [Hl1.out];omega) Hl2.out
    obtain⟨⟨g1,g2⟩,hgg⟩:∃q,wayP way (gx,gz)=q:=⟨_,rfl⟩;have htg:=fun(W:X) (hW:Ext w3 W)=>zeh W gx gz way (w.heap.size+1) (hW.cellS (qcB E1 (i:=0) rfl)) hw0 hw7 ((Hg.out.ext X3).ext hW) (Hgx.out.mono (by decide)) (Hgz.out.mono (by decide))
    rw [hgg]at htg;have Hst:=hd9 hst;have Htg:=hd9 htg;have Hgg:=hd9 hgg;clear hst htg hgg E0 E1 E2 E8
    first|(go_region_with (first|((go_at_call 158;(with_reducible refine(Hst.out _ ?_).mono ?_);exact eA;rintro e w4 ⟨v4,rfl,ho4,hx4⟩;obtain⟨q4,n4,c4,rfl⟩:=ho4.form3;obtain⟨hc4,hf4⟩:=hx4.cells;(try simp only [qcD,qfD,qdZ]at hc4 hf4);have u0:=hx4.lt (n:=s8) y0;have u1:=hx4.lt (n:=w.heap.size+1+1) y1;have u2:=hx4.lt (n:=w.heap.size) y2;have X4:Ext w3 w4:=(eR w3).drew.trans hx4))|((go_at_call 156;(with_reducible refine(Htg.out _ ?_).mono ?_);exact eA;rintro e w5 ⟨rfl,hx5⟩;obtain⟨hc5,hf5⟩:=hx5.cells;have t0:=hx5.lt u0;have t1:=hx5.lt u1;have t2:=hx5.lt u2))))|fail
    all_goals go_wp2
    all_goals
     have hne8:(Value.slice q4 n4 c4).ownBlock≠some s8:=fun e=>by
      have:=(ho4.lt _ e).1;simp only [qdZ]at this;omega
     have hne2:(Value.slice q4 n4 c4).ownBlock≠some (w.heap.size+1+1):=fun e=>by
      have:=(ho4.lt _ e).1;simp only [qdZ]at this;omega
     have X5:Ext w w5:=(X3.trans X4).trans hx5;have hn1:¬s8=w.heap.size+1+1:=by omega
     have hn2:¬w.heap.size+1+1=s8:=by omega
     refine bR (v:=.tuple #[.agg #[.string nm,Z q4 n4 c4,O Y d,O Y de,O Y g1,O Y g2],O Y 0]) (by simp [results,Tryz.results123,go_sem,hc5,hc4,u1,y1,e0,e1,e2,e3,e4,e5,hn1,hn2]) rfl ?_;rw [←HR.out,Hgg.out,HL.out];refine⟨_,rfl,OwnC.mono (b':=w.heap.size) ?_ X3.size,eA⟩
     repeat(refine OwnC.setOther ?_ (by first|exact hne8|exact hne2) _)
     exact OwnC.ext ho4 hx5
   ·have k3:decide (3<way)=false:=by simpa using hw3
    obtain⟨ls,hls⟩:=gX (ps.map (wayP way));have HL:Hid (turnedP way ps=settledP ls):=hd9 (by unfold turnedP;rw [if_neg hw3,hls]);have hl1:ls.length=i:=by rw [←hls];exact Hlen.out
    have hl2:PBd 1000000 ls:=by rw [←hls];exact Hb9.out
    have ho3:=Hown'.out;rw [hls]at ho3;have Ho3:=hd9 ho3;have Hl1:=hd9 hl1;have Hl2:=hd9 hl2;clear hls hl1 hl2 hw3 ho3;obtain⟨w3,rfl⟩:∃w3,w3=wr:=⟨_,rfl⟩;have B3:Below (s8+1) w3 w3:=Below.refl _ _;go_wp2;have E8:StB w3 s8 nm (Z va vn vc) d de gx gz:=(B3.block s8 (by omega)).trans H8.out;have E0:StB w3 w.heap.size nm _ d de gx gz:=(B3.block w.heap.size (by omega)).trans Hs0.out;have E1:=(B3.block (w.heap.size+1) (by omega)).trans Hs1.out;have E2:=(B3.block (w.heap.size+1+1) (by omega)).trans Hs2.out;have X3:Ext w w3:=hx.thenB B3 (by omega);have b0:=qcB E8 (i:=0) (u:=.string nm) rfl;have b1:=qcB E8 (i:=1) (u:=Z va vn vc) rfl;have b2:=qcB E8 (i:=2) (u:=O Y d) rfl;have b3:=qcB E8 (i:=3) (u:=O Y de) rfl;have b4:=qcB E8 (i:=4) (u:=O Y gx) rfl;have b5:=qcB E8 (i:=5) (u:=O Y gz) rfl;have bf:=qfB E8;have a4:=qcB E0 (i:=4) (u:=O Y gx) rfl;have a5:=qcB E0 (i:=5) (u:=O Y gz) rfl;have e0:=qcB E2 (i:=0) (u:=.string ⟨#[]⟩) rfl;have e1:=qcB E2 (i:=1) (u:=Z none 0 0) rfl;have e2:=qcB E2 (i:=2) (u:=O Y 0) rfl;have e3:=qcB E2 (i:=3) (u:=O Y 0) rfl;have e4:=qcB E2 (i:=4) (u:=O Y 0) rfl;have e5:=qcB E2 (i:=5) (u:=O Y 0) rfl;have ef:=qfB E2;have y0:s8<w3.heap.size:=zaa E8;have y1:w.heap.size+1+1<w3.heap.size:=by omega
    have y2:w.heap.size<w3.heap.size:=by omega
    have hst:=fun(W:X) (hW:Ext w3 W)=>zdd W (Z va vn vc) ls (Ho3.out.pts.ext' hW) (by rw [Hl1.out];omega) (by rw [Hl1.out];omega) Hl2.out
    obtain⟨⟨g1,g2⟩,hgg⟩:∃q,wayP way (gx,gz)=q:=⟨_,rfl⟩;have htg:=fun(W:X) (hW:Ext w3 W)=>zeh W gx gz way (w.heap.size+1) (hW.cellS (qcB E1 (i:=0) rfl)) hw0 hw7 ((Hg.out.ext X3).ext hW) (Hgx.out.mono (by decide)) (Hgz.out.mono (by decide))
    rw [hgg]at htg;have Hst:=hd9 hst;have Htg:=hd9 htg;have Hgg:=hd9 hgg;clear hst htg hgg E0 E1 E2 E8
    first|(go_region_with (first|((go_at_call 158;(with_reducible refine(Hst.out _ ?_).mono ?_);exact eA;rintro e w4 ⟨v4,rfl,ho4,hx4⟩;obtain⟨q4,n4,c4,rfl⟩:=ho4.form3;obtain⟨hc4,hf4⟩:=hx4.cells;(try simp only [qcD,qfD,qdZ]at hc4 hf4);have u0:=hx4.lt (n:=s8) y0;have u1:=hx4.lt (n:=w.heap.size+1+1) y1;have u2:=hx4.lt (n:=w.heap.size) y2;have X4:Ext w3 w4:=(eR w3).drew.trans hx4))|((go_at_call 156;(with_reducible refine(Htg.out _ ?_).mono ?_);exact eA;rintro e w5 ⟨rfl,hx5⟩;obtain⟨hc5,hf5⟩:=hx5.cells;have t0:=hx5.lt u0;have t1:=hx5.lt u1;have t2:=hx5.lt u2))))|fail
    all_goals go_wp2
    all_goals
     have hne8:(Value.slice q4 n4 c4).ownBlock≠some s8:=fun e=>by
      have:=(ho4.lt _ e).1;simp only [qdZ]at this;omega
     have hne2:(Value.slice q4 n4 c4).ownBlock≠some (w.heap.size+1+1):=fun e=>by
      have:=(ho4.lt _ e).1;simp only [qdZ]at this;omega
     have X5:Ext w w5:=(X3.trans X4).trans hx5;have hn1:¬s8=w.heap.size+1+1:=by omega
     have hn2:¬w.heap.size+1+1=s8:=by omega
     refine bR (v:=.tuple #[.agg #[.string nm,Z q4 n4 c4,O Y d,O Y de,O Y g1,O Y g2],O Y 0]) (by simp [results,Tryz.results123,go_sem,hc5,hc4,u1,y1,e0,e1,e2,e3,e4,e5,hn1,hn2]) rfl ?_;rw [←HR.out,Hgg.out,HL.out];refine⟨_,rfl,OwnC.mono (b':=w.heap.size) ?_ X3.size,eA⟩
     repeat(refine OwnC.setOther ?_ (by first|exact hne8|exact hne2) _)
     exact OwnC.ext ho4 hx5
end
end Go.Proofs.YtodpfeaihohpjaaGreatDoor.Cop
