/- Part 29: contracts of what the law calls. -/
import Derived.Test.YteipgejmhfpkaaaGreatDoorCopA26
import Derived.Test.YteipgejmhfpkaaaGreatDoorCopA27
import Derived.Maps.GroupsBeside
import Derived.Maps.Views
import Derived.Test.YteipgejmhfpkaaaGreatDoorCopA23
set_option maxRecDepth 1000000
set_option maxHeartbeats 16000000
set_option linter.unusedSimpArgs false
set_option linter.unusedVariables false
open Go.Value renaming slice→O,int→Y,bool→X,pointer→N
open Go.IntKind renaming i64→Z
open Go renaming World→V,Value→I
open Option renaming some→J,none→M
namespace Go.Proofs.YteipgejmhfpkaaaGreatDoor.Cop
section
open Go.RowKit Go.Shelf Go.Sort Go.Lib
theorem PBe.keep {w w':V} {c:List I} {b:Be} (h:PBe w c b) (k:KeepT 2 w w'):PBe w' c b:=by
 obtain⟨f,t,h1,h2,h3⟩:=h;exact⟨f,t,h1,h2.keep k,h3.keep k⟩
def OwnBe (w:V) (base:Nat) (v:I) (bs:List Be):Prop:=∃cs,OwnC 60 17 w base v cs∧cs.length=bs.length∧∀(i:Nat) c b,cs[i]?=J c→bs[i]?=J b→PBe w c b
theorem OwnBe.ext {w w':V} {base:Nat} {v:I} {bs:List Be} (h:OwnBe w base v bs) (k:Ext w w'):OwnBe w' base v bs:=by
 obtain⟨cs,h1,h2,h3⟩:=h;exact⟨cs,h1.ext k,h2,fun i c b hc hb=>(h3 i c b hc hb).ext k⟩
theorem OwnBe.nil (w:V) (base:Nat):OwnBe w base (O M 0 0) []:=⟨[],OwnC.nil _ _ _ _,rfl,fun i c b hc=>by simp at hc⟩
theorem OwnBe.form3 {w:V} {base:Nat} {v:I} {bs:List Be} (h:OwnBe w base v bs):∃a n c,v=O a n c:=by obtain⟨cs,h1,_⟩:=h;exact h1.form3
theorem OwnBe.app {wr w8:V} {base:Nat} {v':I} {bs:List Be} {cs:List (List I)} {d:List I} {b:Be} (h:OwnC 60 17 w8 base v' (cs++[d])) (hcl:cs.length=bs.length)
  (hcp:∀(i:Nat) c b,cs[i]?=J c→bs[i]?=J b→PBe wr c b) (hk:KeepT 2 wr w8) (hd:PBe w8 d b):OwnBe w8 base v' (bs++[b]):=by
 refine⟨cs++[d],h,by simp [hcl],fun i c b' hc hb=>?_⟩
 by_cases hi:i<cs.length
 ·rw [List.getElem?_append_left hi]at hc
  rw [List.getElem?_append_left (by omega)]at hb;exact(hcp i c b' hc hb).keep hk
 ·rw [List.getElem?_append_right (by omega)]at hc hb
  have hl:=(lS.1 hc).1;simp at hl;have:i-cs.length=0:=by omega
  rw [this]at hc;rw [show i-bs.length=0 by omega]at hb;simp at hc hb;subst hc hb;exact hd
theorem znp:(Tryz.prog.info? 60).map (fun i=>(i.zero,i.size,i.bytes))=J (J (.agg be0),17,264):=by kernel_rfl
def bedAt (g:List (Int×Int)) (ps:List Pl) (a:Nat) (p:Pl) (pin b:Int):Option Be:=
 if (a:Int)=b then M else if b<0 then bedO p g b pin else match ps[b.toNat]? with|none=>M|some q=>if meetB p q=true then bedO p (upP2 q) b pin else M
def bedsN (g:List (Int×Int)) (ps:List Pl) (a:Nat) (p:Pl) (pin:Int) (n:Nat):List Be:=(List.range n).filterMap fun k:Nat=>bedAt g ps a p pin ((k:Int)-1)
theorem zep (g:List (Int×Int)) (ps:List Pl) (a:Nat) (p:Pl) (pin:Int) (n:Nat):bedsN g ps a p pin (n+1)=bedsN g ps a p pin n++(match bedAt g ps a p pin ((n:Int)-1)with|none=>[]|some b=>[b]):=by
 unfold bedsN;rw [List.range_succ,List.filterMap_append]
 congr 1
 cases h:bedAt g ps a p pin ((n:Int)-1)<;>simp [h]
theorem zfm (g:List (Int×Int)) (ps:List Pl) (a:Nat) (p:Pl) (pin:Int) (n:Nat):(bedsN g ps a p pin n).length≤n:=by
 unfold bedsN;have:=List.length_filterMap_le (fun k:Nat=>bedAt g ps a p pin ((k:Int)-1)) (List.range n)
 simpa using this
theorem zm0 (w:V) (vg vs:I) (g:List (Int×Int)) (ps:List Pl) (a:Nat) (p:Pl) (b pin:Int) (hg:IsPts w vg g) (hs:IsLas w vs ps) (ha:ps[a]?=J p) (hgr:groundB g=true) (hok:∀q∈ps,placedOk q=true) (hb1 : -1≤b) (hb2:b<ps.length)
  (hp:Bd 104000 pin) :
  Calls Tryz.prog 32 #[.agg #[vg,vs],Y Z a,Y Z b,Y Z pin] w (RetBe w (bedAt g ps a p pin b)):=by
 have hpk:=hok p (lM ha);unfold bedAt
 by_cases h1:(a:Int)=b
 ·rw [if_pos h1,←h1]
  exact zle w vg vs ps a p pin (form3 hg) hs ha
 rw [if_neg h1]
 by_cases h2:b<0
 ·rw [if_pos h2]
  exact zmD w vg vs ps a p b pin g (form3 hg) hs ha (.inl h2) (zbE hpk).1 (zcN hgr) (zjz hgr) (fun W hW=>(ziy W vg vs b h2 (form3 hg) (form3 hs)).mono (by rintro e w' ⟨rfl,hx⟩;exact⟨_,rfl,hg.ext' (hW.trans hx),hx⟩)) hp
 rw [if_neg h2];obtain⟨q,hq⟩:∃q,ps[b.toNat]?=J q:=⟨ps[b.toNat]'(by omega),gE _⟩;have hqm:=lM hq;simp only [hq];have hbj:b=((b.toNat:Nat):Int):=by omega
 cases hmt:meetB p q with
 | false =>
  rw [if_neg (by simp)];exact ziU w vg vs ps a p b pin (form3 hg) hs ha b.toNat hbj q hq hmt h1
 | true =>
 rw [if_pos rfl];refine zmD w vg vs ps a p b pin (upP2 q) (form3 hg) hs ha (.inr ⟨b.toNat,q,hbj,hq,hmt,h1⟩) (zbE hpk).1 (zbE (hok q hqm)).2 (znW (hok q hqm)) (fun W hW=>?_) hp;have:=zkU W vg vs ps b.toNat q (form3 hg) (hs.ext' hW) hq;rw [←hbj]at this;exact this
theorem OwnBe.lt {w:V} {base:Nat} {v:I} {bs:List Be} (h:OwnBe w base v bs):∀j,v.ownBlock=J j→base≤j∧j<w.heap.size:=by obtain⟨cs,h1,_⟩:=h;exact h1.lt
theorem OwnBe.mono {w:V} {base b':Nat} {v:I} {bs:List Be} (h:OwnBe w base v bs) (k:b'≤base):OwnBe w b' v bs:=by obtain⟨cs,h1,h2,h3⟩:=h;exact⟨cs,h1.mono k,h2,h3⟩
def RetBs (w:V) (bs:List Be) (e:Ending) (w':V):Prop:=∃v,e = .returned (.tuple #[v,Y Z 0])∧OwnBe w' w.heap.size v bs∧Ext w w'
def BdS (w:V) (b8:Nat) (vg vs:I) (ps:List Pl) (bsf:Nat→List Be) (gk:Nat) (t10 t11:I) (W:V):Prop:=
 ∃i:Nat,i≤ps.length+1∧t11=Y Z ((i:Int)-1)∧gk=ps.length+1-i∧Ext w W∧b8+1≤W.heap.size∧W.heap[b8]?=J (.cells #[vg,vs] 102 (0,0))∧OwnBe W (b8+1) t10 (bsf i)
theorem PBe.form {w:V} {c:List I} {b:Be} (h:PBe w c b):∃a m c1 s a2 m2 c2 b1 n k t b2 n2 k2 a' m' c' s' a2' m2' c2' b' n' k' t' b2' n2' k2',c=[Y Z b.num,O a m c1,X s,O a2 m2 c2,O b1 n k,X t,O b2 n2 k2,O a' m' c',X s',O a2' m2' c2',O b' n' k',X t',O b2' n2' k2',Y Z b.d1.1,Y Z b.d1.2,Y Z b.d2.1,Y Z b.d2.2]:=by
 obtain⟨f,t,rfl,⟨a,m,c,s,a2,m2,c2,b1,n,k,t1,b2,n2,k2,h1,_,_⟩,a',m',c',s',a2',m2',c2',b',n',k',t',b2',n2',k2',h2,_,_⟩:=h;have e1:f=[O a m c,X s,O a2 m2 c2,O b1 n k,X t1,O b2 n2 k2]:=by simpa using h1
 have e2:t=[O a' m' c',X s',O a2' m2' c2',O b' n' k',X t',O b2' n2' k2']:=by simpa using h2
 subst e1 e2;exact⟨a,m,c,s,a2,m2,c2,b1,n,k,t1,b2,n2,k2,a',m',c',s',a2',m2',c2',b',n',k',t',b2',n2',k2',rfl⟩
theorem bed17 {W w':V} {o:Option Be} {e:Ending} (h:RetBe W o e w'):∃nb a m c1 s a2 m2 c2 b1 n k t b2 n2 k2 a' m' c' s' a2' m2' c2' b' n' k' t' b2' n2' k2' e1 e2 e3 e4 bb,e = .returned (.tuple #[.agg #[Y Z nb,O a m c1,X s,O a2 m2 c2,O b1 n k,X t,O b2 n2 k2,O a' m' c',X s',O a2' m2' c2',O b' n' k',X t',O b2' n2' k2',Y Z e1,Y Z e2,Y Z e3,Y Z e4],X bb])∧(bb=true→∃be,o=J be∧PBe w' [Y Z nb,O a m c1,X s,O a2 m2 c2,O b1 n k,X t,O b2 n2 k2,O a' m' c',X s',O a2' m2' c2',O b' n' k',X t',O b2' n2' k2',Y Z e1,Y Z e2,Y Z e3,Y Z e4] be)∧(bb=false→o=M)∧Ext W w':=by
 obtain⟨h1,⟨h2,h3⟩|⟨b,c,h2,h3,h4⟩⟩:=h
 ·exact⟨0,M,0,0,false,M,0,0,M,0,0,false,M,0,0,M,0,0,false,M,0,0,M,0,0,false,M,0,0,0,0,0,0,false,h3,(fun h=>by cases h),fun _=>h2,h1⟩
 ·obtain⟨a,m,c1,s,a2,m2,c2,b1,n,k,t,b2,n2,k2,a',m',c',s',a2',m2',c2',b',n',k',t',b2',n2',k2',rfl⟩:=h4.form
  exact⟨b.num,a,m,c1,s,a2,m2,c2,b1,n,k,t,b2,n2,k2,a',m',c',s',a2',m2',c2',b',n',k',t',b2',n2',k2',b.d1.1,b.d1.2,b.d2.1,b.d2.2,true,h3,fun _=>⟨b,h2,h4⟩,(fun h=>by cases h),h1⟩
theorem zlh {w3 wr W w9:V} {b8 i:Nat} {vg vs v9:I} {ps:List Pl} {bsf:Nat→List Be} {va:I} {cs:List (List I)} {d:List I} {be:Be} {A:Array I} (hlt:i<ps.length+1) (h38:w3.heap.size=b8) (hx:Ext w3 wr) (hbs:b8+1≤wr.heap.size) (hK:wr.heap[b8]?=J (.cells #[vg,vs] 102 (0,0)))
  (hxA:Ext wr W) (hz:b8+1≤W.heap.size) (hcs:OwnC 60 17 wr (b8+1) va cs) (hcl:cs.length=(bsf i).length) (hcp:∀(j:Nat) c b,cs[j]?=J c→(bsf i)[j]?=J b→PBe wr c b)
  (hown9:OwnC 60 17 w9 (b8+1) v9 (cs++[d])) (hgrow:(W.alloc (.cells A 60)).grownBy w9 va.ownBlock) (hpb:PBe W d be) (hs:bsf (i+1)=bsf i++[be]) :
  BdS w3 b8 vg vs ps bsf (ps.length+1-(i+1)) v9 (Y Z (i:Int)) w9:=by
 have hxB:=hxA.alloc (.cells A 60);have hO2:=hcs.ext hxB;have hb0:b8+1≤(W.alloc (.cells A 60)).heap.size:=by simp only [wZ];omega
 have hbw:=zad (base:=b8+1) hgrow hb0 (fun k hk=>(hO2.lt k hk).1);have hkt:=hO2.keepT (T':=2) (by decide) hgrow;have hXA:=hx.trans hxB;refine⟨i+1,by omega,by go_num,rfl,hXA.thenB hbw (by omega),nT hb0 hbw.size,(hbw.block _ (by omega)).trans (hxB.heapS hK),?_⟩;rw [hs];exact OwnBe.app hown9 hcl hcp (hxB.keep.trans hkt) ((hpb.ext ((eR _).alloc _)).keep hkt)
theorem ziV (w3 w4:V) (b8:Nat) (vg vs:I) (ps:List Pl) (a:Nat) (pin:Int) (bsf:Nat→List Be) (bat:Int→Option Be) (Q:Exit→Act→V→Prop) (x0 x3 x4 x5 x6 x7 x9 x12 x13 x14 x15 x16 x17 x18 x19 x20 x21 x22 x23 x24 x25 x26 x27 x28 x29 x30 x31 x32 x33 x34 x35 x36 x37 x38 x39 x40 x41 x42 x43 x44 x45 x46:I)
  (hg3:∃a n c,vg=O a n c) (hvs:IsLas w3 vs ps) (hn9:ps.length≤120) (hst:∀n,bsf (n+1)=bsf n++(match bat ((n:Int)-1)with|none=>[]|some b=>[b])) (hbl:∀n,(bsf n).length≤n) (hb0:bsf 0=[])
  (hB:∀W,Ext w3 W→∀b:Int,-1≤b→b<ps.length→Calls Tryz.prog 32 #[.agg #[vg,vs],Y Z a,Y Z b,Y Z pin] W (RetBe W (bat b)))
  (X34:Ext w3 w4) (z48:b8+1≤w4.heap.size) (h38:w3.heap.size=b8) (K8:w4.heap[b8]?=J (.cells #[vg,vs] 102 (0,0)))
  (hQ:∀(W:V) (v10 v11 y12 y13 y26 y27 y28 y29 y30 y31 y32 y33 y34 y35 y36 y37 y38 y39 y40 y41 y42 y43 y44 y45 y46:I),Ext w3 W→OwnBe W (b8+1) v10 (bsf (ps.length+1))→(∃a n c,v10=O a n c)→Q (.exit 0) { tmps:=#[x0,Y Z a,Y Z pin,x3,x4,x5,x6,x7,N (J ⟨b8,0,M⟩),x9,v10,v11,y12,y13,x14,x15,x16,x17,x18,x19,x20,x21,x22,x23,x24,x25,y26,y27,y28,y29,y30,y31,y32,y33,y34,y35,y36,y37,y38,y39,y40,y41,y42,y43,y44,y45,y46],defers:=[] } W) :
  (Code.loop (loopAt Tryz.f12 0)).wp Tryz.prog Q { tmps:=#[x0,Y Z a,Y Z pin,x3,x4,x5,x6,x7,N (J ⟨b8,0,M⟩),x9,O M 0 0,Y Z (-1),x12,x13,x14,x15,x16,x17,x18,x19,x20,x21,x22,x23,x24,x25,x26,x27,x28,x29,x30,x31,x32,x33,x34,x35,x36,x37,x38,x39,x40,x41,x42,x43,x44,x45,x46],defers:=[] } w4:=by
 obtain⟨ga,gn,gc,rfl⟩:=hg3;obtain⟨sa,sn,sc,rfl⟩:=form3 hvs;have Hsn:=hd9 (show sn=ps.length from hvs.len);have HB:=hd9 hB;have Hst:=hd9 hst;have Hbl:=hd9 hbl;have Hb0:=hd9 hb0;have H38:=hd9 h38;have HQ:=hd9 hQ;clear hB hst hbl hb0 h38 hQ hvs;unfold loopAt;simp only [Tryz.f12,loopsOf,List.append_nil,List.nil_append,List.singleton_append,List.getD_cons_zero,List.getD_cons_succ]
 go_loopg [10,11] (ps.length+1) (BdS w3 b8 (O ga gn gc) (O sa sn sc) ps bsf)
 case atStart=>exact⟨0,by omega,by go_num,by omega,X34,z48,K8,by rw [Hb0.out];exact OwnBe.nil _ _⟩
 case round =>
  clear K8 X34 z48 Hb0;obtain⟨i,hi,rfl,rfl,hx,hbs,hK,hown⟩:=hrel;obtain⟨va,vn,vc,rfl⟩:=hown.form3;have m0:=qcB hK (i:=0) (u:=O ga gn gc) rfl;have m1:=qcB hK (i:=1) (u:=O sa sn sc) rfl;have HK:=hd9 hK;have Hx:=hd9 hx;have Hown:=hd9 hown;clear hK
  by_cases hlt:i<ps.length+1
  ·have q1 : -1≤(i:Int)-1:=by omega
   have q2:(i:Int)-1<(ps.length:Int):=by omega
   have q3:(i:Int)-1<(sn:Int):=by have:=Hsn.out;omega
   have HBi:=hd9 (fun(W:V) (hW:Ext wr W)=>HB.out W (hx.trans hW) ((i:Int)-1) q1 q2);clear hx HB q1 q2;have HBn:=hd9 (fun(W:V) (hW:Ext wr W)=>(HBi.out W hW).mono (fun e w' h=>bed17 h));obtain⟨cs,hcs,hcl,hcp⟩:=hown;have Hcs:=hd9 hcs;have Hcp:=hd9 hcp;have Hcl:=hd9 hcl;have Hlc:=hd9 (show cs.length≤121 by rw [hcl];exact nT (Hbl.out i) (by omega));clear HBi hcs hcl hcp Hbl HQ hi
   go_wp2_with(first|(go_at_call 32;(with_reducible refine(HBn.out _ ?_).mono ?_);exact eA;rintro e w5 ⟨nb,a,m,c1,s,a2,m2,c2,b1,n,k,t,b2,n2,k2,a',m',c',s',a2',m2',c2',b',n',k',t',b2',n2',k2',e1,e2,e3,e4,bb,rfl,hyes,hno,hx5⟩;(have z5:=hx5.size))|(at_builtin;refine appC (T:=60) (t:=47) (z:=.agg be0) (k:=17) (bytes:=264) (base:=b8+1) (v:=O va vn vc) (cs:=cs) (m:=1) (c:=1) (ad:=⟨w5.heap.size+1,0,M⟩) znp rfl (by decide) (by decide) Tryz.underlying47 rfl _ _ rfl rfl (Hcs.out.ext ((hx5.alloc _).alloc _)) rfl [[Y Z nb,O a m c1,X s,O a2 m2 c2,O b1 n k,X t,O b2 n2 k2,O a' m' c',X s',O a2' m2' c2',O b' n' k',X t',O b2' n2' k2',Y Z e1,Y Z e2,Y Z e3,Y Z e4]] rfl (by simp) (by have:=zaE (w5.alloc (.cells #[Y Z nb,O a m c1,X s,O a2 m2 c2,O b1 n k,X t,O b2 n2 k2,O a' m' c',X s',O a2' m2' c2',O b' n' k',X t',O b2' n2' k2',Y Z e1,Y Z e2,Y Z e3,Y Z e4] 60)) #[Y Z nb,O a m c1,X s,O a2 m2 c2,O b1 n k,X t,O b2 n2 k2,O a' m' c',X s',O a2' m2' c2',O b' n' k',X t',O b2' n2' k2',Y Z e1,Y Z e2,Y Z e3,Y Z e4] 60;simpa only [wZ] using this) (by simp [Value.oneCell']) (by have:=Hlc.out;omega) (by simp only [wZ];omega) ?_;intro v' w9 hown9 hgrow hlie;obtain⟨a9,n9,c9,rfl⟩:=hown9.form3))
   ·go_roundg (ps.length+1-(i+1))
    case measure=>omega
    case rel =>
     obtain⟨be,hbt,hpb⟩:=hyes (by assumption);exact zlh hlt H38.out Hx.out hbs HK.out (hx5.alloc _) (by simp only [wZ];omega) Hcs.out Hcl.out Hcp.out hown9 hgrow (hpb.ext ((eR _).alloc _)) (by rw [Hst.out,hbt])
   ·go_roundg (ps.length+1-(i+1))
    case measure=>omega
    case rel =>
     have hbt:=hno (by assumption);exact⟨i+1,by omega,by go_num,rfl,(Hx.out.trans hx5).alloc _,by have:=hx5.size;simp only [wZ];omega,((eR _).alloc _).heapS (hx5.heapS HK.out),by rw [Hst.out,hbt,List.append_nil];exact(Hown.out.ext hx5).ext ((eR _).alloc _)⟩
  ·obtain rfl:i=ps.length+1:=by omega
   have q3:¬(((ps.length+1:Nat):Int)-1<(sn:Int)):=by have:=Hsn.out;omega
   go_wp2;exact HQ.out _ _ _ _ _ _ _ _ _ _ _ _ _ _ _ _ _ _ _ _ _ _ _ _ _ _ Hx.out Hown.out ⟨_,_,_,rfl⟩
theorem ziW (w:V) (vg vp:I) (g:List (Int×Int)) (ps:List Pl) (a:Nat) (p:Pl) (pin:Int) (hg:IsPts w vg g) (hp:IsPls w vp ps) (hgw:Gw w) (h0:laidP g ps=0) (ha:ps[a]?=J p) (hp0:0≤pin) (hp1:pin≤50)
  (hgr:groundB g=true) (hok:∀q∈ps,placedOk q=true) (hn9:ps.length≤120) :
  Calls Tryz.prog 12 #[.agg #[vg,vp],Y Z a,Y Z pin] w (RetBs w (bedsN g ps a p pin (ps.length+1))):=by
 have HL:=hd9 (fun(W:V) (hW:Ext w W)=>(zdR W vg vp g ps (hg.ext' hW) (hp.ext' hW) (hgw.ext hW)).mono (fun e w' h=>h.resolve_left (fun h9=>h9.1 h0)));have HB:=hd9 (fun(W:V) (hW:Ext w W) (vs:I) (hs:IsLas W vs ps) (b:Int) (hb1 : -1≤b) (hb2:b<ps.length)=>zm0 W vg vs g ps a p b pin (hg.ext' hW) hs ha hgr hok hb1 hb2 (by unfold Bd;omega));obtain⟨ga,gn,gc,rfl⟩:=form3 hg;obtain⟨pa,pn,pc1,rfl⟩:=form3 hp;have hpl:=hp.len;have Hn:=hd9 hpl;have Hw:=hd9 (fun(sn:Nat) (h:ps.length=sn)=>(show wrongB sn a pin=false by unfold wrongB;have:=(lS.1 ha).1;simp;omega));clear hpl;have hi:=(lS.1 ha).1;obtain⟨bsf,hbsf⟩:=gX (bedsN g ps a p pin);have Hst:=hd9 (hbsf▸zep g ps a p pin);have Hbl:=hd9 (hbsf▸zfm g ps a p pin);have Hb0:=hd9 (show bsf 0=[] by rw [←hbsf];rfl);rw [hbsf];obtain⟨bat,hbat⟩:=gX (bedAt g ps a p pin);rw [hbat]at HB Hst;obtain⟨R,hR⟩:=gX (RetBs w (bsf (ps.length+1)));rw [hR];have HR:=hd9 hR;clear hg hp hgw h0 ha hgr hok hR hbsf hbat;go_enter Tryz.func12,Tryz.ntmps12
 go_wp2_with(first|(go_at_call 30;(with_reducible refine(HL.out _ ?_).mono ?_);exact eA;rintro e w3 ⟨-,vs,rfl,hvs,hx3⟩;obtain⟨sa,sn,sc,rfl⟩:=form3 hvs;obtain⟨hc3,hf3⟩:=hx3.cells;(have z3:=hx3.size);(simp only [wZ]at z3);(have hwr:wrongB sn a pin=false:=Hw.out sn hvs.len.symm);(have Hvs:=hd9 hvs);clear hvs;(have zl3:w.heap.size<w3.heap.size:=(by omega)))|(go_at_call 31;(with_reducible refine(zk1 _ (O ga gn gc) sa sn sc a pin ⟨_,_,_,rfl⟩).mono ?_);rw [hwr];rintro e w4 ⟨rfl,hx4⟩;obtain⟨hc4,hf4⟩:=hx4.cells;(have z4:=hx4.size);(simp only [wZ]at z4)))
 have X3:Ext w w3:=((eR w).alloc _).trans hx3;have Hsn:=hd9 (show sn=ps.length from Hvs.out.len);have K8:=hx4.heapS (aN w3 (.cells #[O ga gn gc,O sa sn sc] 102));have X34:Ext w3 w4:=((eR w3).alloc _).trans hx4;obtain⟨b8,hb8⟩:=gX w3.heap.size;have HX3:=hd9 X3;have H38:=hd9 hb8;have hz8:w.heap.size≤b8:=by omega
 have z48:b8+1≤w4.heap.size:=by omega
 rw [hb8]at K8;simp only [hb8];clear hc3 hf3 hc4 hf4 hx3 hx4 X3 hb8 z3 z4 zl3;refine ziV w3 w4 b8 (O ga gn gc) (O sa sn sc) ps a pin bsf bat _ _ _ _ _ _ _ _ _ _ _ _ _ _ _ _ _ _ _ _ _ _ _ _ _ _ _ _ _ _ _ _ _ _ _ _ _ _ _ _ _ _ _ ⟨_,_,_,rfl⟩ Hvs.out hn9 Hst.out Hbl.out Hb0.out (fun W hW b hb1 hb2=>HB.out W (HX3.out.trans hW) _ (Hvs.out.ext' hW) b hb1 hb2) X34 z48 H38.out K8 ?_;intro W v10 v11 y12 y13 y26 y27 y28 y29 y30 y31 y32 y33 y34 y35 y36 y37 y38 y39 y40 y41 y42 y43 y44 y45 y46 hxW hown hform;obtain⟨va,vn,vc,rfl⟩:=hform;have HxW:=hd9 hxW;have Hown:=hd9 hown;clear hxW hown K8 X34 HL HB Hst Hbl Hb0;go_wp2;rw [←HR.out];exact⟨_,rfl,Hown.out.mono (by omega),HX3.out.trans HxW.out⟩
end
section
open Go.RowKit Go.Shelf Go.Maps
theorem key3:Keyed Tryz.prog 3:=int_keyed Tryz.underlying3
theorem zk2 (w:World):(zeroValue 36).run Tryz.prog w = .ok (.slice none 0 0) w:=by kernel_rfl
def Gm (W:World) (base B n:Nat) (f:Nat→List Int):Prop:=
 ∃D:DataW Unit,W.ownsGroups Tryz.prog 3 base 3 .i64 B n D∧∀k:Nat,k<1000→(D.atKey (.int .i64 (k:Int)) .nil = .nil∧f k=[])∨D.atKey (.int .i64 (k:Int)) .nil = .slice (ChangeShapes.lits .i64 (f k)) []
theorem Gm.made (w:World):Gm (w.alloc (.map #[] 0)) (w.heap.size+1) w.heap.size 0 (fun _=>[]):=
 ⟨.map [],World.ownsGroups_made _ _ _ _ _,fun k _=>.inl ⟨rfl,rfl⟩⟩
theorem Gm.keptLow {W W':World} {base B n:Nat} {f:Nat→List Int} {row:Option Nat} (h:Gm W base B n f) (hg:W.grownBy W' row) (hb:some B≠row) (hr:∀j,row=some j→j<base):Gm W' base B n f:=by
 obtain⟨D,h1,h2⟩:=h;exact⟨D,h1.kept hg hb (h1.rowsAbove hr),h2⟩
theorem wf_k {k:Nat} (h:k<1000):(Lit.int .i64 (k:Int)).wf=true:=WalkArith.wf_i64 (by omega)
theorem zlQ {xs ys:List Int} (h:(ChangeShapes.lits (H:=Unit) .i64 xs)=ChangeShapes.lits .i64 ys):xs=ys:=by
 unfold ChangeShapes.lits at h;exact(List.map_inj_right (fun a b hab=>by simpa using hab)).1 h
theorem Gm.at {W:World} {base B n:Nat} {f:Nat→List Int} (h:Gm W base B n f) (hn:n<maxLen) {k:Nat} (hk:k<1000) :
  ∃v,(Instr.lookup 140 (.map (some B)) (.int .i64 (k:Int)) false).run Tryz.prog W = .ok v W∧W.ownsInts base 3 .i64 v (f k)∧(f k).length≤n ∧
   ∀w1 v' x,W.grownBy w1 v.ownBlock→w1.ownsInts base 3 .i64 v' (f k++[x])→(v'.ownBlock=v.ownBlock∨∃g,v'.ownBlock=some g∧W.heap.size≤g) →
    ∃w2,(Instr.mapUpdate 140 (.map (some B)) (.int .i64 (k:Int)) v').run Tryz.prog w1 = .ok () w2∧Gm w2 base B (n+1) (fun j=>if j=k then f k++[x]else f j)∧w1.grownBy w2 (some B):=by
 obtain⟨D,h1,h2⟩:=h;obtain⟨v,zs,hrun,hat,hoi,hzl,hback⟩:=h1.at key3 Tryz.underlying140 (zk2 _) hn (keyOf_int_mk Tryz.underlying3 (wf_k hk))
 have e:f k=zs:=by
  rcases h2 k hk with ⟨a1,a2⟩|a1
  ·rw [a1]at hat
   rcases hoi.datum (H:=Unit)with ⟨b1,b2⟩|b1
   ·rw [a2,b2]
   ·rw [b1]at hat;cases hat
  ·rw [a1]at hat
   rcases hoi.datum (H:=Unit)with ⟨b1,b2⟩|b1
   ·rw [b1]at hat;cases hat
   ·rw [b1]at hat;exact zlQ (by simpa using hat)
 subst e;refine⟨v,hrun,hoi,hzl,fun w1 v' x hg ho hl=>?_⟩;obtain⟨w2,r1,r2,r3⟩:=hback w1 v' _ hg ho (by simp;omega) hl;refine⟨w2,r1,⟨_,r2,fun j hj=>?_⟩,r3⟩
 have hD:IsMap D:=by
  obtain⟨es,clock,_,_,_,hD,_⟩:=h1;exact⟨_,hD⟩
 by_cases hjk:j=k
 ·subst hjk
  right
  dsimp only;rw [if_pos rfl,atKey_put_same hD (by first|trivial|exact True.intro|simp [WideAt.IsKeyLit])];exact ho.datum_pos (by simp)
 ·dsimp only
  rw [if_neg hjk,atKey_put_other (by simp;omega)];exact h2 j hj
theorem zaH {W:World} {base:Nat} {v:Value} {zs:List Int} (h:W.ownsInts base 3 .i64 v zs):OwnC 3 1 W base v (zs.map ic):=by
 refine⟨zg7,?_⟩
 have e:(zs.map ic).flatten=zs.map (Value.int .i64):=by
  clear h
  induction zs with
  | nil=>rfl
  | cons z zs ih=>rw [List.map_cons,List.flatten_cons,ih];rfl
 rw [e,lL];exact h.1
end
section
open Go.RowKit Go.Shelf
theorem zjV (w:V) (v:I) (zs:List Int) (b1:Nat) (f:Int→Bool) (h:IsIs w v zs)
  (hf9:∀W,Ext w W→∀z∈zs,Calls Tryz.prog 60 #[Y Z z,N (J ⟨b1,0,M⟩)] W fun e w'=>e = .returned (X (f z))∧Ext W w') :
  Calls Tryz.prog 77 #[v,.func (.func 60) #[] #[N (J ⟨b1,0,M⟩)]] w fun e w'=>e = .returned (Y Z (idxB f zs))∧Ext w w':=by
 obtain⟨a,c,rfl⟩:=h.form;obtain⟨n,hn⟩:=gX zs.length;rw [hn]at h ⊢;have hle:=h.le;unfold maxLen at hle;have hnc:n≤9223372036854775807:=by omega
 have Hn:=hd9 hn;have Hf9:=hd9 hf9;clear hn hle hf9;go_enter Tryz.func77,Tryz.ntmps77;go_wp2
 go_loopg [8] n (IiS w f zs)
 case atStart=>exact⟨0,by omega,rfl,by rw [Hn.out];rfl,eR _,fun j y hj=>by omega⟩
 case round =>
  obtain⟨i,hi,rfl,rfl,hx,hall⟩:=hrel;rw [Hn.out]at hi;have Hall:=hd9 hall;clear hall
  by_cases hlt:i<n
  ·obtain⟨z,hq⟩:∃q,zs[i]?=J q:=⟨zs[i]'(by rw [Hn.out];omega),by simp [Hn.out,hlt]⟩
   obtain⟨b,o,rfl,hb,d0⟩:=(h.ext' hx).at' hq;have Hq:=hd9 hq;have HC:=hd9 (fun W (hW:Ext wr W)=>Hf9.out W (hx.trans hW) z (lM hq));obtain⟨fz,hf⟩:=gX (f z);rw [hf]at HC;have Hf:=hd9 hf;clear hq hf
   cases fz with
   | true =>
    have e:idxB f zs=(i:Int):=zaC Hq.out Hf.out Hall.out;have E:=hd9 e;clear e
    go_wp2_with(((go_at_call 60;(with_reducible refine(HC.out _ ?_).mono ?_);exact eA;rintro e w1 ⟨rfl,hx1⟩)))
    go_ret;exact⟨by rw [E.out];rfl,eA⟩
   | false =>
    go_wp2_with(((go_at_call 60;(with_reducible refine(HC.out _ ?_).mono ?_);exact eA;rintro e w1 ⟨rfl,hx1⟩)))
    go_roundg (n-(i+1))
    case measure=>have:=Hn.out;omega
    case rel =>
     refine⟨i+1,by have:=Hn.out;omega,by go_num,by rw [Hn.out],eA,fun j y hj hy=>?_⟩
     by_cases hji:j=i
     ·subst hji;rw [Hq.out]at hy;cases hy;exact Hf.out
     ·exact Hall.out j y (by omega) hy
  ·obtain rfl:i=n:=by omega
   have e:idxB f zs = -1:=zaB (fun j y hj hy=>Hall.out j y (by rw [Hn.out]at hj;exact hj) hy);have E:=hd9 e;clear e;go_wp2;go_ret;exact⟨by rw [E.out];rfl,hx⟩
theorem zfp (w:V) (v:I) (zs:List Int) (b1:Nat) (f:Int→Bool) (h:IsIs w v zs)
  (hf9:∀W,Ext w W→∀z∈zs,Calls Tryz.prog 60 #[Y Z z,N (J ⟨b1,0,M⟩)] W fun e w'=>e = .returned (X (f z))∧Ext W w') :
  Calls Tryz.prog 42 #[v,.func (.func 60) #[] #[N (J ⟨b1,0,M⟩)]] w fun e w'=>e = .returned (X (zs.any f))∧Ext w w':=by
 rw [←zbo];obtain⟨x,hx⟩:=gX (idxB f zs);have hc:=fun W (hW:Ext w W)=>zjV W v zs b1 f (h.ext' hW) (fun W' hW' z hz=>hf9 W' (hW.trans hW') z hz)
 obtain⟨a,n,c,rfl⟩:=form3 h;simp only [hx]at hc ⊢;have Hc:=hd9 hc;clear hc hx h hf9;go_enter Tryz.func42,Tryz.ntmps42
 go_wp2_with(((go_at_call 77;(with_reducible refine(Hc.out _ ?_).mono ?_);exact eA;rintro e w1 ⟨rfl,hx1⟩)))
 go_ret;exact⟨rfl,eA⟩
end
end Go.Proofs.YteipgejmhfpkaaaGreatDoor.Cop
