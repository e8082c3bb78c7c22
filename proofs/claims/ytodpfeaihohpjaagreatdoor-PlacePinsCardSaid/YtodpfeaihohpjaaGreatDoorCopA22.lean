/- Part 23: contracts of what the law calls. -/
import Derived.Test.YtodpfeaihohpjaaGreatDoorCopA20
import Derived.Test.YtodpfeaihohpjaaGreatDoorCopA21
import Derived.Test.YtodpfeaihohpjaaGreatDoorCopA17
import Derived.Test.YtodpfeaihohpjaaGreatDoorCopA19
set_option maxRecDepth 1000000
set_option maxHeartbeats 16000000
set_option linter.unusedSimpArgs false
set_option linter.unusedVariables false
open Go.Value renaming slice→O,int→Y,bool→I
open Go.IntKind renaming i64→Z
open Option renaming some→V,none→N
open Go renaming World→J,Value→M
namespace Go.Proofs.YtodpfeaihohpjaaGreatDoor.Cop
section
open Go.RowKit Go.Shelf Go.Sort Go.Lib
theorem IsV.keepJ {w w':J} {v:M} {x z:Rat} (h:IsV w v x z) (k:KeepT 2 w w'):IsV w' v x z:=IsV.keep h k
theorem PBe.keep {w w':J} {c:List M} {b:Be} (h:PBe w c b) (k:KeepT 2 w w'):PBe w' c b:=by
 obtain⟨f,t,h1,h2,h3⟩:=h;exact⟨f,t,h1,h2.keep k,h3.keep k⟩
def OwnBe (w:J) (base:Nat) (v:M) (bs:List Be):Prop:=∃cs,OwnC 69 17 w base v cs∧cs.length=bs.length∧∀(i:Nat) c b,cs[i]?=V c→bs[i]?=V b→PBe w c b
theorem OwnBe.ext {w w':J} {base:Nat} {v:M} {bs:List Be} (h:OwnBe w base v bs) (k:Ext w w'):OwnBe w' base v bs:=by
 obtain⟨cs,h1,h2,h3⟩:=h;exact⟨cs,h1.ext k,h2,fun i c b hc hb=>(h3 i c b hc hb).ext k⟩
theorem OwnBe.nil (w:J) (base:Nat):OwnBe w base (O N 0 0) []:=⟨[],OwnC.nil _ _ _ _,rfl,fun i c b hc=>by simp at hc⟩
theorem OwnBe.form3 {w:J} {base:Nat} {v:M} {bs:List Be} (h:OwnBe w base v bs):∃a n c,v=O a n c:=by obtain⟨cs,h1,_⟩:=h;exact h1.form3
theorem OwnBe.app {wr w8:J} {base:Nat} {v':M} {bs:List Be} {cs:List (List M)} {d:List M} {b:Be} (h:OwnC 69 17 w8 base v' (cs++[d])) (hcl:cs.length=bs.length)
  (hcp:∀(i:Nat) c b,cs[i]?=V c→bs[i]?=V b→PBe wr c b) (hk:KeepT 2 wr w8) (hd:PBe w8 d b):OwnBe w8 base v' (bs++[b]):=by
 refine⟨cs++[d],h,by simp [hcl],fun i c b' hc hb=>?_⟩
 by_cases hi:i<cs.length
 ·rw [List.getElem?_append_left hi]at hc
  rw [List.getElem?_append_left (by omega)]at hb;exact(hcp i c b' hc hb).keep hk
 ·rw [List.getElem?_append_right (by omega)]at hc hb
  have hl:=(lS.1 hc).1;simp at hl;have:i-cs.length=0:=by omega
  rw [this]at hc;rw [show i-bs.length=0 by omega]at hb;simp at hc hb;subst hc hb;exact hd
theorem zme:(Tryz.prog.info? 69).map (fun i=>(i.zero,i.size,i.bytes))=V (V (.agg be0),17,264):=by kernel_rfl
def bedAt (g:List (Int×Int)) (ps:List Pl) (a:Nat) (p:Pl) (pin b:Int):Option Be:=
 if (a:Int)=b then N else if b<0 then bedO p g b pin else match ps[b.toNat]? with|none=>N|some q=>if meetB p q=true then bedO p (upP2 q) b pin else N
def bedsN (g:List (Int×Int)) (ps:List Pl) (a:Nat) (p:Pl) (pin:Int) (n:Nat):List Be:=(List.range n).filterMap fun k:Nat=>bedAt g ps a p pin ((k:Int)-1)
theorem zcO (g:List (Int×Int)) (ps:List Pl) (a:Nat) (p:Pl) (pin:Int) (n:Nat):bedsN g ps a p pin (n+1)=bedsN g ps a p pin n++(match bedAt g ps a p pin ((n:Int)-1)with|none=>[]|some b=>[b]):=by
 unfold bedsN;rw [List.range_succ,List.filterMap_append]
 congr 1
 cases h:bedAt g ps a p pin ((n:Int)-1)<;>simp [h]
theorem zds (g:List (Int×Int)) (ps:List Pl) (a:Nat) (p:Pl) (pin:Int) (n:Nat):(bedsN g ps a p pin n).length≤n:=by
 unfold bedsN;have:=List.length_filterMap_le (fun k:Nat=>bedAt g ps a p pin ((k:Int)-1)) (List.range n)
 simpa using this
theorem zlW (w:J) (vg vs:M) (g:List (Int×Int)) (ps:List Pl) (a:Nat) (p:Pl) (b pin:Int) (hg:IsPts w vg g) (hs:IsLas w vs ps) (ha:ps[a]?=V p) (hgr:groundB g=true) (hok:∀q∈ps,placedOk q=true) (hb1 : -1≤b) (hb2:b<ps.length)
  (hp:Bd 104000 pin) :
  Calls Tryz.prog 58 #[.agg #[vg,vs],Y Z a,Y Z b,Y Z pin] w (RetBe w (bedAt g ps a p pin b)):=by
 have hpk:=hok p (lM ha);unfold bedAt
 by_cases h1:(a:Int)=b
 ·rw [if_pos h1,←h1]
  exact zku w vg vs ps a p pin (form3 hg) hs ha
 rw [if_neg h1]
 by_cases h2:b<0
 ·rw [if_pos h2]
  exact zlu w vg vs ps a p b pin g (form3 hg) hs ha (.inl h2) (zam hpk).1 (zbl hgr) (ziZ hgr) (fun W hW=>(zig W vg vs b h2 (form3 hg) (form3 hs)).mono (by rintro e w' ⟨rfl,hx⟩;exact⟨_,rfl,hg.ext' (hW.trans hx),hx⟩)) hp
 rw [if_neg h2];obtain⟨q,hq⟩:∃q,ps[b.toNat]?=V q:=⟨ps[b.toNat]'(by omega),gE _⟩;have hqm:=lM hq;simp only [hq];have hbj:b=((b.toNat:Nat):Int):=by omega
 cases hmt:meetB p q with
 | false =>
  rw [if_neg (by simp)];exact ziy w vg vs ps a p b pin (form3 hg) hs ha b.toNat hbj q hq hmt h1
 | true =>
 rw [if_pos rfl];refine zlu w vg vs ps a p b pin (upP2 q) (form3 hg) hs ha (.inr ⟨b.toNat,q,hbj,hq,hmt,h1⟩) (zam hpk).1 (zam (hok q hqm)).2 (zmF (hok q hqm)) (fun W hW=>?_) hp;have:=zke W vg vs ps b.toNat q (form3 hg) (hs.ext' hW) hq;rw [←hbj]at this;exact this
theorem OwnBe.lt {w:J} {base:Nat} {v:M} {bs:List Be} (h:OwnBe w base v bs):∀j,v.ownBlock=V j→base≤j∧j<w.heap.size:=by obtain⟨cs,h1,_⟩:=h;exact h1.lt
theorem OwnBe.mono {w:J} {base b':Nat} {v:M} {bs:List Be} (h:OwnBe w base v bs) (k:b'≤base):OwnBe w b' v bs:=by obtain⟨cs,h1,h2,h3⟩:=h;exact⟨cs,h1.mono k,h2,h3⟩
def RetBs (w:J) (bs:List Be) (e:Ending) (w':J):Prop:=∃v,e = .returned (.tuple #[v,Y Z 0])∧OwnBe w' w.heap.size v bs∧Ext w w'
def BdS (w:J) (b8:Nat) (vg vs:M) (ps:List Pl) (bsf:Nat→List Be) (gk:Nat) (t10 t11:M) (W:J):Prop:=
 ∃i:Nat,i≤ps.length+1∧t11=Y Z ((i:Int)-1)∧gk=ps.length+1-i∧Ext w W∧b8+1≤W.heap.size∧W.heap[b8]?=V (.cells #[vg,vs] 108 (0,0))∧OwnBe W (b8+1) t10 (bsf i)
theorem PBe.form {w:J} {c:List M} {b:Be} (h:PBe w c b):∃a m c1 s a2 m2 c2 b1 n k t b2 n2 k2 a' m' c' s' a2' m2' c2' b' n' k' t' b2' n2' k2',c=[Y Z b.num,O a m c1,I s,O a2 m2 c2,O b1 n k,I t,O b2 n2 k2,O a' m' c',I s',O a2' m2' c2',O b' n' k',I t',O b2' n2' k2',Y Z b.d1.1,Y Z b.d1.2,Y Z b.d2.1,Y Z b.d2.2]:=by
 obtain⟨f,t,rfl,⟨a,m,c,s,a2,m2,c2,b1,n,k,t1,b2,n2,k2,h1,_,_⟩,a',m',c',s',a2',m2',c2',b',n',k',t',b2',n2',k2',h2,_,_⟩:=h;have e1:f=[O a m c,I s,O a2 m2 c2,O b1 n k,I t1,O b2 n2 k2]:=by simpa using h1
 have e2:t=[O a' m' c',I s',O a2' m2' c2',O b' n' k',I t',O b2' n2' k2']:=by simpa using h2
 subst e1 e2;exact⟨a,m,c,s,a2,m2,c2,b1,n,k,t1,b2,n2,k2,a',m',c',s',a2',m2',c2',b',n',k',t',b2',n2',k2',rfl⟩
theorem bed17 {W w':J} {o:Option Be} {e:Ending} (h:RetBe W o e w'):∃nb a m c1 s a2 m2 c2 b1 n k t b2 n2 k2 a' m' c' s' a2' m2' c2' b' n' k' t' b2' n2' k2' e1 e2 e3 e4 bb,e = .returned (.tuple #[.agg #[Y Z nb,O a m c1,I s,O a2 m2 c2,O b1 n k,I t,O b2 n2 k2,O a' m' c',I s',O a2' m2' c2',O b' n' k',I t',O b2' n2' k2',Y Z e1,Y Z e2,Y Z e3,Y Z e4],I bb])∧(bb=true→∃be,o=V be∧PBe w' [Y Z nb,O a m c1,I s,O a2 m2 c2,O b1 n k,I t,O b2 n2 k2,O a' m' c',I s',O a2' m2' c2',O b' n' k',I t',O b2' n2' k2',Y Z e1,Y Z e2,Y Z e3,Y Z e4] be)∧(bb=false→o=N)∧Ext W w':=by
 obtain⟨h1,⟨h2,h3⟩|⟨b,c,h2,h3,h4⟩⟩:=h
 ·exact⟨0,N,0,0,false,N,0,0,N,0,0,false,N,0,0,N,0,0,false,N,0,0,N,0,0,false,N,0,0,0,0,0,0,false,h3,(fun h=>by cases h),fun _=>h2,h1⟩
 ·obtain⟨a,m,c1,s,a2,m2,c2,b1,n,k,t,b2,n2,k2,a',m',c',s',a2',m2',c2',b',n',k',t',b2',n2',k2',rfl⟩:=h4.form
  exact⟨b.num,a,m,c1,s,a2,m2,c2,b1,n,k,t,b2,n2,k2,a',m',c',s',a2',m2',c2',b',n',k',t',b2',n2',k2',b.d1.1,b.d1.2,b.d2.1,b.d2.2,true,h3,fun _=>⟨b,h2,h4⟩,(fun h=>by cases h),h1⟩
theorem zkw {w3 wr W w9:J} {b8 i:Nat} {vg vs v9:M} {ps:List Pl} {bsf:Nat→List Be} {va:M} {cs:List (List M)} {d:List M} {be:Be} {A:Array M} (hlt:i<ps.length+1) (h38:w3.heap.size=b8) (hx:Ext w3 wr) (hbs:b8+1≤wr.heap.size) (hK:wr.heap[b8]?=V (.cells #[vg,vs] 108 (0,0)))
  (hxA:Ext wr W) (hz:b8+1≤W.heap.size) (hcs:OwnC 69 17 wr (b8+1) va cs) (hcl:cs.length=(bsf i).length) (hcp:∀(j:Nat) c b,cs[j]?=V c→(bsf i)[j]?=V b→PBe wr c b)
  (hown9:OwnC 69 17 w9 (b8+1) v9 (cs++[d])) (hgrow:(W.alloc (.cells A 69)).grownBy w9 va.ownBlock) (hpb:PBe W d be) (hs:bsf (i+1)=bsf i++[be]) :
  BdS w3 b8 vg vs ps bsf (ps.length+1-(i+1)) v9 (Y Z (i:Int)) w9:=by
 have hxB:=hxA.alloc (.cells A 69);have hO2:=hcs.ext hxB;have hb0:b8+1≤(W.alloc (.cells A 69)).heap.size:=by simp only [wZ];omega
 have hbw:=zad (base:=b8+1) hgrow hb0 (fun k hk=>(hO2.lt k hk).1);have hkt:=hO2.keepT (T':=2) (by decide) hgrow;have hXA:=hx.trans hxB;refine⟨i+1,by omega,by go_num,rfl,hXA.thenB hbw (by omega),nT hb0 hbw.size,(hbw.block _ (by omega)).trans (hxB.heapS hK),?_⟩;rw [hs];exact OwnBe.app hown9 hcl hcp (hxB.keep.trans hkt) ((hpb.ext ((eR _).alloc _)).keep hkt)
theorem ziz (w3 w4:J) (b8:Nat) (vg vs:M) (ps:List Pl) (a:Nat) (pin:Int) (bsf:Nat→List Be) (bat:Int→Option Be) (Q:Exit→Act→J→Prop) (x0 x3 x4 x5 x6 x7 x9 x12 x13 x14 x15 x16 x17 x18 x19 x20 x21 x22 x23 x24 x25 x26 x27 x28 x29 x30 x31 x32 x33 x34 x35 x36 x37 x38 x39 x40 x41 x42 x43 x44 x45 x46:M)
  (hg3:∃a n c,vg=O a n c) (hvs:IsLas w3 vs ps) (hn9:ps.length≤120) (hst:∀n,bsf (n+1)=bsf n++(match bat ((n:Int)-1)with|none=>[]|some b=>[b])) (hbl:∀n,(bsf n).length≤n) (hb0:bsf 0=[])
  (hB:∀W,Ext w3 W→∀b:Int,-1≤b→b<ps.length→Calls Tryz.prog 58 #[.agg #[vg,vs],Y Z a,Y Z b,Y Z pin] W (RetBe W (bat b)))
  (X34:Ext w3 w4) (z48:b8+1≤w4.heap.size) (h38:w3.heap.size=b8) (K8:w4.heap[b8]?=V (.cells #[vg,vs] 108 (0,0)))
  (hQ:∀(W:J) (v10 v11 y12 y13 y26 y27 y28 y29 y30 y31 y32 y33 y34 y35 y36 y37 y38 y39 y40 y41 y42 y43 y44 y45 y46:M),Ext w3 W→OwnBe W (b8+1) v10 (bsf (ps.length+1))→(∃a n c,v10=O a n c)→Q (.exit 0) { tmps:=#[x0,Y Z a,Y Z pin,x3,x4,x5,x6,x7,.pointer (V ⟨b8,0,N⟩),x9,v10,v11,y12,y13,x14,x15,x16,x17,x18,x19,x20,x21,x22,x23,x24,x25,y26,y27,y28,y29,y30,y31,y32,y33,y34,y35,y36,y37,y38,y39,y40,y41,y42,y43,y44,y45,y46],defers:=[] } W) :
  (Code.loop (loopAt Tryz.f16 0)).wp Tryz.prog Q { tmps:=#[x0,Y Z a,Y Z pin,x3,x4,x5,x6,x7,.pointer (V ⟨b8,0,N⟩),x9,O N 0 0,Y Z (-1),x12,x13,x14,x15,x16,x17,x18,x19,x20,x21,x22,x23,x24,x25,x26,x27,x28,x29,x30,x31,x32,x33,x34,x35,x36,x37,x38,x39,x40,x41,x42,x43,x44,x45,x46],defers:=[] } w4:=by
 obtain⟨ga,gn,gc,rfl⟩:=hg3;obtain⟨sa,sn,sc,rfl⟩:=form3 hvs;have Hsn:=hd9 (show sn=ps.length from hvs.len);have HB:=hd9 hB;have Hst:=hd9 hst;have Hbl:=hd9 hbl;have Hb0:=hd9 hb0;have H38:=hd9 h38;have HQ:=hd9 hQ;clear hB hst hbl hb0 h38 hQ hvs;unfold loopAt;simp only [Tryz.f16,loopsOf,List.append_nil,List.nil_append,List.singleton_append,List.getD_cons_zero,List.getD_cons_succ]
 go_loopg [10,11] (ps.length+1) (BdS w3 b8 (O ga gn gc) (O sa sn sc) ps bsf)
 case atStart=>exact⟨0,by omega,by go_num,by omega,X34,z48,K8,by rw [Hb0.out];exact OwnBe.nil _ _⟩
 case round =>
  clear K8 X34 z48 Hb0;obtain⟨i,hi,rfl,rfl,hx,hbs,hK,hown⟩:=hrel;obtain⟨va,vn,vc,rfl⟩:=hown.form3;have m0:=qcB hK (i:=0) (u:=O ga gn gc) rfl;have m1:=qcB hK (i:=1) (u:=O sa sn sc) rfl;have HK:=hd9 hK;have Hx:=hd9 hx;have Hown:=hd9 hown;clear hK
  by_cases hlt:i<ps.length+1
  ·have q1 : -1≤(i:Int)-1:=by omega
   have q2:(i:Int)-1<(ps.length:Int):=by omega
   have q3:(i:Int)-1<(sn:Int):=by have:=Hsn.out;omega
   have HBi:=hd9 (fun(W:J) (hW:Ext wr W)=>HB.out W (hx.trans hW) ((i:Int)-1) q1 q2);clear hx HB q1 q2;have HBn:=hd9 (fun(W:J) (hW:Ext wr W)=>(HBi.out W hW).mono (fun e w' h=>bed17 h));obtain⟨cs,hcs,hcl,hcp⟩:=hown;have Hcs:=hd9 hcs;have Hcp:=hd9 hcp;have Hcl:=hd9 hcl;have Hlc:=hd9 (show cs.length≤121 by rw [hcl];exact nT (Hbl.out i) (by omega));clear HBi hcs hcl hcp Hbl HQ hi
   go_wp2_with(first|(go_at_call 58;(with_reducible refine(HBn.out _ ?_).mono ?_);exact eA;rintro e w5 ⟨nb,a,m,c1,s,a2,m2,c2,b1,n,k,t,b2,n2,k2,a',m',c',s',a2',m2',c2',b',n',k',t',b2',n2',k2',e1,e2,e3,e4,bb,rfl,hyes,hno,hx5⟩;(have z5:=hx5.size))|(at_builtin;refine appC (T:=69) (t:=54) (z:=.agg be0) (k:=17) (bytes:=264) (base:=b8+1) (v:=O va vn vc) (cs:=cs) (m:=1) (c:=1) (ad:=⟨w5.heap.size+1,0,N⟩) zme rfl (by decide) (by decide) Tryz.underlying54 rfl _ _ rfl rfl (Hcs.out.ext ((hx5.alloc _).alloc _)) rfl [[Y Z nb,O a m c1,I s,O a2 m2 c2,O b1 n k,I t,O b2 n2 k2,O a' m' c',I s',O a2' m2' c2',O b' n' k',I t',O b2' n2' k2',Y Z e1,Y Z e2,Y Z e3,Y Z e4]] rfl (by simp) (by have:=zca (w5.alloc (.cells #[Y Z nb,O a m c1,I s,O a2 m2 c2,O b1 n k,I t,O b2 n2 k2,O a' m' c',I s',O a2' m2' c2',O b' n' k',I t',O b2' n2' k2',Y Z e1,Y Z e2,Y Z e3,Y Z e4] 69)) #[Y Z nb,O a m c1,I s,O a2 m2 c2,O b1 n k,I t,O b2 n2 k2,O a' m' c',I s',O a2' m2' c2',O b' n' k',I t',O b2' n2' k2',Y Z e1,Y Z e2,Y Z e3,Y Z e4] 69;simpa only [wZ] using this) (by simp [Value.oneCell']) (by have:=Hlc.out;omega) (by simp only [wZ];omega) ?_;intro v' w9 hown9 hgrow hlie;obtain⟨a9,n9,c9,rfl⟩:=hown9.form3))
   ·go_roundg (ps.length+1-(i+1))
    case measure=>omega
    case rel =>
     obtain⟨be,hbt,hpb⟩:=hyes (by assumption);exact zkw hlt H38.out Hx.out hbs HK.out (hx5.alloc _) (by simp only [wZ];omega) Hcs.out Hcl.out Hcp.out hown9 hgrow (hpb.ext ((eR _).alloc _)) (by rw [Hst.out,hbt])
   ·go_roundg (ps.length+1-(i+1))
    case measure=>omega
    case rel =>
     have hbt:=hno (by assumption);exact⟨i+1,by omega,by go_num,rfl,(Hx.out.trans hx5).alloc _,by have:=hx5.size;simp only [wZ];omega,((eR _).alloc _).heapS (hx5.heapS HK.out),by rw [Hst.out,hbt,List.append_nil];exact(Hown.out.ext hx5).ext ((eR _).alloc _)⟩
  ·obtain rfl:i=ps.length+1:=by omega
   have q3:¬(((ps.length+1:Nat):Int)-1<(sn:Int)):=by have:=Hsn.out;omega
   go_wp2;exact HQ.out _ _ _ _ _ _ _ _ _ _ _ _ _ _ _ _ _ _ _ _ _ _ _ _ _ _ Hx.out Hown.out ⟨_,_,_,rfl⟩
theorem zcP (w:J) (vg vp:M) (g:List (Int×Int)) (ps:List Pl) (a:Nat) (p:Pl) (pin:Int) (hg:IsPts w vg g) (hp:IsPls w vp ps) (hgw:Gw w) (h0:laidP g ps=0) (ha:ps[a]?=V p) (hp0:0≤pin) (hp1:pin≤50)
  (hgr:groundB g=true) (hok:∀q∈ps,placedOk q=true) (hn9:ps.length≤120) :
  Calls Tryz.prog 16 #[.agg #[vg,vp],Y Z a,Y Z pin] w (RetBs w (bedsN g ps a p pin (ps.length+1))):=by
 have HL:=hd9 (fun(W:J) (hW:Ext w W)=>(zbE W vg vp g ps (hg.ext' hW) (hp.ext' hW) (hgw.ext hW)).mono (fun e w' h=>h.resolve_left (fun h9=>h9.1 h0)));have HB:=hd9 (fun(W:J) (hW:Ext w W) (vs:M) (hs:IsLas W vs ps) (b:Int) (hb1 : -1≤b) (hb2:b<ps.length)=>zlW W vg vs g ps a p b pin (hg.ext' hW) hs ha hgr hok hb1 hb2 (by unfold Bd;omega));obtain⟨ga,gn,gc,rfl⟩:=form3 hg;obtain⟨pa,pn,pc1,rfl⟩:=form3 hp;have hpl:=hp.len;have Hn:=hd9 hpl;have Hw:=hd9 (fun(sn:Nat) (h:ps.length=sn)=>(show wrongB sn a pin=false by unfold wrongB;have:=(lS.1 ha).1;simp;omega));clear hpl;have hi:=(lS.1 ha).1;obtain⟨bsf,hbsf⟩:=gX (bedsN g ps a p pin);have Hst:=hd9 (hbsf▸zcO g ps a p pin);have Hbl:=hd9 (hbsf▸zds g ps a p pin);have Hb0:=hd9 (show bsf 0=[] by rw [←hbsf];rfl);rw [hbsf];obtain⟨bat,hbat⟩:=gX (bedAt g ps a p pin);rw [hbat]at HB Hst;obtain⟨R,hR⟩:=gX (RetBs w (bsf (ps.length+1)));rw [hR];have HR:=hd9 hR;clear hg hp hgw h0 ha hgr hok hR hbsf hbat;go_enter Tryz.func16,Tryz.ntmps16
 go_wp2_with(first|(go_at_call 44;(with_reducible refine(HL.out _ ?_).mono ?_);exact eA;rintro e w3 ⟨-,vs,rfl,hvs,hx3⟩;obtain⟨sa,sn,sc,rfl⟩:=form3 hvs;obtain⟨hc3,hf3⟩:=hx3.cells;(have z3:=hx3.size);(simp only [wZ]at z3);(have hwr:wrongB sn a pin=false:=Hw.out sn hvs.len.symm);(have Hvs:=hd9 hvs);clear hvs;(have zl3:w.heap.size<w3.heap.size:=(by omega)))|(go_at_call 57;(with_reducible refine(zgb _ (O ga gn gc) sa sn sc a pin ⟨_,_,_,rfl⟩).mono ?_);rw [hwr];rintro e w4 ⟨rfl,hx4⟩;obtain⟨hc4,hf4⟩:=hx4.cells;(have z4:=hx4.size);(simp only [wZ]at z4)))
 have X3:Ext w w3:=((eR w).alloc _).trans hx3;have Hsn:=hd9 (show sn=ps.length from Hvs.out.len);have K8:=hx4.heapS (aN w3 (.cells #[O ga gn gc,O sa sn sc] 108));have X34:Ext w3 w4:=((eR w3).alloc _).trans hx4;obtain⟨b8,hb8⟩:=gX w3.heap.size;have HX3:=hd9 X3;have H38:=hd9 hb8;have hz8:w.heap.size≤b8:=by omega
 have z48:b8+1≤w4.heap.size:=by omega
 rw [hb8]at K8;simp only [hb8];clear hc3 hf3 hc4 hf4 hx3 hx4 X3 hb8 z3 z4 zl3;refine ziz w3 w4 b8 (O ga gn gc) (O sa sn sc) ps a pin bsf bat _ _ _ _ _ _ _ _ _ _ _ _ _ _ _ _ _ _ _ _ _ _ _ _ _ _ _ _ _ _ _ _ _ _ _ _ _ _ _ _ _ _ _ ⟨_,_,_,rfl⟩ Hvs.out hn9 Hst.out Hbl.out Hb0.out (fun W hW b hb1 hb2=>HB.out W (HX3.out.trans hW) _ (Hvs.out.ext' hW) b hb1 hb2) X34 z48 H38.out K8 ?_;intro W v10 v11 y12 y13 y26 y27 y28 y29 y30 y31 y32 y33 y34 y35 y36 y37 y38 y39 y40 y41 y42 y43 y44 y45 y46 hxW hown hform;obtain⟨va,vn,vc,rfl⟩:=hform;have HxW:=hd9 hxW;have Hown:=hd9 hown;clear hxW hown K8 X34 HL HB Hst Hbl Hb0;go_wp2;rw [←HR.out];exact⟨_,rfl,Hown.out.mono (by omega),HX3.out.trans HxW.out⟩
end
section
open Go.RowKit Go.Shelf Go.Sort Go.Lib Go.Maps
def mvQ (d q:Int×Int):Int×Int:=(q.1+d.1,q.2+d.2)
def mvL (d:Int×Int) (l:List (Int×Int)):List (Int×Int):=l.map (mvQ d)
def mvP (d:Int×Int) (p:Pl):Pl:={ p with ax:=p.ax+d.1,az:=p.az+d.2 }
theorem zlH (d q:Int×Int):mvQ (ngP d) (mvQ d q)=q:=by
 unfold mvQ ngP;refine Prod.ext ?_ ?_<;>(dsimp only;omega)
theorem zjv (d q:Int×Int):mvQ d (mvQ (ngP d) q)=q:=by
 unfold mvQ ngP;refine Prod.ext ?_ ?_<;>(dsimp only;omega)
theorem zlG (d:Int×Int) (l:List (Int×Int)):mvL (ngP d) (mvL d l)=l:=by
 unfold mvL;rw [List.map_map,show mvQ (ngP d) ∘ mvQ d=id from funext (zlH d),List.map_id]
theorem zeD (d:Int×Int) (p:Pl):cornersP (mvP d p)=mvL d (cornersP p):=by
 unfold cornersP mvL mvP;rw [List.map_map];refine List.map_congr_left fun q _=>?_
 unfold mvQ;refine Prod.ext ?_ ?_<;>(dsimp only [Function.comp_apply];omega)
theorem LowV.mv {cs:List (Int×Int)} {q:Int×Int} (d:Int×Int) (h:LowV cs q):LowV (mvL d cs) (mvQ d q):=by
 obtain⟨u,v,⟨he,hx⟩,hq⟩:=h;exact⟨mvQ d u,mvQ d v,⟨he.maps _,by unfold mvQ;dsimp only;omega⟩,by rcases hq with rfl|rfl<;>simp⟩
theorem UpV.mv {cs:List (Int×Int)} {q:Int×Int} (d:Int×Int) (h:UpV cs q):UpV (mvL d cs) (mvQ d q):=by
 obtain⟨u,v,⟨he,hx⟩,hq⟩:=h;exact⟨mvQ d u,mvQ d v,⟨he.maps _,by unfold mvQ;dsimp only;omega⟩,by rcases hq with rfl|rfl<;>simp⟩
theorem Rise.eq {l m:List (Int×Int)} (hl:Rise l) (hm:Rise m) (h:∀q,q∈l ↔ q∈m):l=m:=by
 have nd:∀{l:List (Int×Int)},Rise l→l.Nodup:=fun h=>List.Pairwise.imp (fun h e=>by subst e;omega) h
 exact List.Perm.eq_of_pairwise (le:=fun a b:Int×Int=>a.1<b.1) (fun a b _ _ h1 h2=>by omega) hl hm ((List.perm_ext_iff_of_nodup (nd hl) (nd hm)).2 h)
theorem Rise.mv {l:List (Int×Int)} (d:Int×Int) (h:Rise l):Rise (mvL d l):=by
 unfold Rise mvL at *;rw [List.pairwise_map];exact h.imp fun h=>by unfold mvQ;dsimp only;omega
theorem zjq {d q:Int×Int} {l:List (Int×Int)}:q∈mvL d l ↔ mvQ (ngP d) q∈l:=by
 unfold mvL;rw [List.mem_map]
 constructor
 ·rintro ⟨p,hp,rfl⟩
  rwa [zlH]
 ·intro h
  exact⟨_,h,zjv d q⟩
theorem zdc {d:Int×Int} {p:Pl} (h:placedOk p=true) (k:placedOk (mvP d p)=true):lowP2 (mvP d p)=mvL d (lowP2 p):=by
 refine Rise.eq (zar k).1 ((zar h).1.mv d) fun q=>?_
 rw [(zar k).2.1,zjq,(zar h).2.1,zeD]
 constructor
 ·intro h9
  have:=h9.mv (ngP d)
  rwa [zlG]at this
 ·intro h9
  have:=h9.mv d
  rwa [zjv]at this
theorem zkZ {d:Int×Int} {p:Pl} (h:placedOk p=true) (k:placedOk (mvP d p)=true):upP2 (mvP d p)=mvL d (upP2 p):=by
 refine Rise.eq (zaJ k).1 ((zaJ h).1.mv d) fun q=>?_
 rw [(zaJ k).2.1,zjq,(zaJ h).2.1,zeD]
 constructor
 ·intro h9
  have:=h9.mv (ngP d)
  rwa [zlG]at this
 ·intro h9
  have:=h9.mv d
  rwa [zjv]at this
theorem zgt (d:Int×Int) (l:List (Int×Int)) {i:Nat} (h:i<l.length):(mvL d l).getD i (0,0)=mvQ d (l.getD i (0,0)):=by
 unfold mvL;rw [gD,gD,lP,gE h];rfl
theorem zaS (d:Int×Int) {l:List (Int×Int)} (h:l≠[]):lineL (mvL d l)=lineL l+d.1∧lineR (mvL d l)=lineR l+d.1:=by
 have h0:=List.length_pos_iff.2 h;have hl:(mvL d l).length=l.length:=by unfold mvL;rw [lL]
 unfold lineL lineR;rw [hl,zgt d l h0,zgt d l (by omega)];exact⟨rfl,rfl⟩
def mvE (d:Int×Int) (e:Edg):Edg:=(mvQ d e.1,mvQ d e.2)
theorem zm0 (d:Int×Int) (l:List (Int×Int)):eds (mvL d l)=(eds l).map (mvE d):=by
 unfold eds mvL;rw [←List.map_tail,List.zip_map];rfl
theorem znk (d:Int×Int) (x:Rat) (e:Edg):xLe (x+(d.1:Rat)) (mvE d e)=xLe x e:=by
 unfold xLe mvE mvQ;rw [decide_eq_decide,zcC,zcC];dsimp only;rw [Rat.intCast_add]
 grind
theorem zmN (d:Int×Int) (x:Rat) (e:Edg):atE (x+(d.1:Rat)) (mvE d e)=atE x e+(d.2:Rat):=by
 unfold atE mvE mvQ;dsimp only
 rw [show e.2.2+d.2-(e.1.2+d.2)=e.2.2-e.1.2 by omega,show e.2.1+d.1-(e.1.1+d.1)=e.2.1-e.1.1 by omega,Rat.intCast_add e.1.1,Rat.intCast_add e.1.2,
  show x+(d.1:Rat)-((e.1.1:Rat)+(d.1:Rat))=x-(e.1.1:Rat) by grind]
 grind
theorem zgM (d:Int×Int) {l:List (Int×Int)} (h:l≠[]) (x:Rat):atR (mvL d l) (x+(d.1:Rat))=atR l x+(d.2:Rat):=by
 unfold atR;rw [zm0,List.find?_map,show xLe (x+(d.1:Rat)) ∘ mvE d=xLe x from funext fun e=>znk d x e]
 cases (eds l).find? (xLe x)with
 | some e=>exact zmN d x e
 | none =>
  have h0:=List.length_pos_iff.2 h;have hl:(mvL d l).length=l.length:=by unfold mvL;rw [lL]
  show ((((mvL d l).getD ((mvL d l).length-1) (0,0)).2:Int):Rat)=(((l.getD (l.length-1) (0,0)).2:Int):Rat)+(d.2:Rat)
  rw [hl,zgt d l (by omega),←Rat.intCast_add];rfl
def mvS (d:Int×Int) (s:Sp):Sp:=⟨mvL d s.over,mvL d s.under,s.lo+d.1,s.hi+d.1⟩
theorem zlv (d:Int×Int) {a b:List (Int×Int)} (ha:a≠[]) (hb:b≠[]):btw (mvL d a) (mvL d b)=mvS d (btw a b):=by
 unfold btw mvS;rw [(zaS d ha).1,(zaS d ha).2,(zaS d hb).1,(zaS d hb).2];dsimp only;rw [show max (lineL a+d.1) (lineL b+d.1)=max (lineL a) (lineL b)+d.1 by omega,show min (lineR a+d.1) (lineR b+d.1)=min (lineR a) (lineR b)+d.1 by omega]
theorem zl8 (d:Int×Int) {s:Sp} (h1:s.over≠[]) (h2:s.under≠[]) (x:Rat):gapR (mvS d s) (x+(d.1:Rat))=gapR s x:=by
 unfold gapR mvS;rw [zgM d h1,zgM d h2]
 grind
theorem zjh (f:Int→Int) (hf:∀x y,f x=f y→x=y) (l:List Int) {j:Nat} (hj:j<l.length):keeps (l.map f).toArray j=keeps l.toArray j:=by
 unfold keeps;rw [decide_eq_decide]
 have g:∀k,k<l.length→(l.map f).toArray[k]! = f l.toArray[k]!:=fun k hk=>by
  rw [getElem!_pos _ _ (by simpa using hk),getElem!_pos _ _ (by simpa using hk)];simp
 rw [g j hj,g (j-1) (by omega)]
 constructor
 ·rintro (h|h)
  ·exact .inl h
  ·exact .inr fun e=>h (by rw [e])
 ·rintro (h|h)
  ·exact .inl h
  ·exact .inr fun e=>h (hf _ _ e)
theorem zgj (f:Int→Int) (hf:∀x y,f x=f y→x=y) (l:List Int):compact (l.map f)=(compact l).map f:=by
 unfold compact compactUpTo;rw [lL,List.map_map];have e:(List.range l.length).filter (keeps (l.map f).toArray)=(List.range l.length).filter (keeps l.toArray):=List.filter_congr fun j hj=>zjh f hf l (List.mem_range.1 hj)
 rw [e];refine List.map_congr_left fun k hk=>?_
 have hk:=List.mem_range.1 (List.mem_filter.1 hk).1;rw [Function.comp_apply,getElem!_pos _ _ (by simpa using hk),getElem!_pos _ _ (by simpa using hk)];simp
theorem zjd (d:Int) (l:List Int):isort (l.map (·+d))=(isort l).map (·+d):=by
 unfold isort;rw [List.map_mergeSort];intro a _ b _;simp
theorem zlh (d:Int×Int) (s:Sp):stopsR (mvS d s)=(stopsR s).map (·+(d.1:Rat)):=by
 have e:stopsZ (mvS d s)=(stopsZ s).map (·+d.1):=by
  unfold stopsZ;rw [←zgj _ (fun x y h=>by omega),←zjd]
  congr 2
  have e1:∀l:List (Int×Int),(l.map (mvQ d)).map (·.1)=(l.map (·.1)).map (·+d.1):=fun l=>by
   rw [List.map_map,List.map_map];rfl
  have e2:inP (mvS d s) ∘ (·+d.1)=inP s:=funext fun x=>by
   unfold inP mvS;dsimp only [Function.comp_apply]
   congr 1<;>(rw [decide_eq_decide];omega)
  rw [List.map_cons,List.map_cons]
  show (s.lo+d.1)::(s.hi+d.1)::midP (mvS d s) (s.over.map (mvQ d)++s.under.map (mvQ d))=_
  unfold midP;rw [←List.map_append,e1,List.filter_map,e2]
 unfold stopsR;rw [e,List.map_map,List.map_map];refine List.map_congr_left fun z _=>?_
 dsimp only [Function.comp_apply];rw [Rat.intCast_add]
theorem ziA (f g:Rat→Rat) (d:Rat) (h:∀x,g (x+d)=f x) (qs:List Rat) (hq:qs≠[]):bestR g (qs.map (·+d))=((bestR f qs).1+d,(bestR f qs).2):=by
 cases qs with
 | nil=>exact absurd rfl hq
 | cons x xs =>
  show (xs.map (·+d)).foldl (bestStep g) (x+d,g (x+d))=_
  rw [h]
  show _=((xs.foldl (bestStep f) (x,f x)).1+d,(xs.foldl (bestStep f) (x,f x)).2)
  have key:∀(xs:List Rat) (u v:Rat),(xs.map (·+d)).foldl (bestStep g) (u+d,v)=((xs.foldl (bestStep f) (u,v)).1+d,(xs.foldl (bestStep f) (u,v)).2):=by
   intro xs
   induction xs with
   | nil=>intro u v;rfl
   | cons y ys ih =>
    intro u v;rw [List.map_cons,List.foldl_cons,List.foldl_cons]
    have e:bestStep g (u+d,v) (y+d)=((bestStep f (u,v) y).1+d,(bestStep f (u,v) y).2):=by
     unfold bestStep;rw [h];dsimp only
     split<;>rfl
    rw [e,ih]
  exact key xs x (f x)
theorem zg6 (d:Int×Int) {s:Sp} (h1:s.over≠[]) (h2:s.under≠[]):leastR (mvS d s)=((leastR s).1+(d.1:Rat),(leastR s).2):=by
 unfold leastR;rw [zlh];exact ziA _ _ _ (zl8 d h1 h2) _ (zaD s)
theorem zh3 (d:Int×Int) {s:Sp} (h1:s.over≠[]) (h2:s.under≠[]) (pin:Int):reachNo (mvS d s) pin=reachNo s pin:=by
 unfold reachNo;rw [zg6 d h1 h2]
theorem ziw {d:Int×Int} {p:Pl} (h:placedOk p=true) (k:placedOk (mvP d p)=true) {t:List (Int×Int)} (ht:t≠[]) (b pin:Int):(bedO (mvP d p) (mvL d t) b pin).map (·.num)=(bedO p t b pin).map (·.num):=by
 have hn:=(zag h).2.2.2.1;unfold bedO;rw [zdc h k,zlv d hn ht]
 have e:((mvS d (btw (lowP2 p) t)).lo<(mvS d (btw (lowP2 p) t)).hi) ↔ ((btw (lowP2 p) t).lo<(btw (lowP2 p) t).hi):=by
  unfold mvS;dsimp only;omega
 by_cases q:(btw (lowP2 p) t).lo<(btw (lowP2 p) t).hi
 ·rw [if_pos q,if_pos (e.2 q),Option.map_map,Option.map_map]
  unfold reachP;rw [zh3 d (s:=btw (lowP2 p) t) hn ht]
  split<;>rfl
 ·rw [if_neg q,if_neg (fun h9=>q (e.1 h9))]
theorem zkr {d:Int×Int} {g:List (Int×Int)} {ps:List Pl} (hg:g≠[]) (h:∀p∈ps,placedOk p=true) (k:∀p∈ps,placedOk (mvP d p)=true) {p:Pl} (hp:p∈ps) (a:Nat) (pin b:Int) :
  (bedAt (mvL d g) (ps.map (mvP d)) a (mvP d p) pin b).map (·.num)=(bedAt g ps a p pin b).map (·.num):=by
 unfold bedAt
 split
 ·rfl
 ·split
  ·exact ziw (h p hp) (k p hp) hg b pin
  ·rw [lP]
   cases hq:ps[b.toNat]? with
   | none=>rfl
   | some q =>
    have hqm:=lM hq;dsimp only [Option.map_some];rw [show meetB (mvP d p) (mvP d q)=meetB p q from rfl,zkZ (h q hqm) (k q hqm)]
    split
    ·exact ziw (h p hp) (k p hp) (zag (h q hqm)).2.2.2.2 b pin
    ·rfl
theorem znn {d:Int×Int} {g:List (Int×Int)} {ps:List Pl} (hg:g≠[]) (h:∀p∈ps,placedOk p=true) (k:∀p∈ps,placedOk (mvP d p)=true) {p:Pl} (hp:p∈ps) (a:Nat) (pin:Int) (n:Nat) :
  (bedsN (mvL d g) (ps.map (mvP d)) a (mvP d p) pin n).map (·.num)=(bedsN g ps a p pin n).map (·.num):=by
 unfold bedsN;rw [List.map_filterMap,List.map_filterMap];simp only [zkr hg h k hp]
end
section
open Go.RowKit Go.Shelf Go.Sort
def mirB (k:Int):Int:=if k=1 then 2 else if k=2 then 1 else if k=3 then 4 else if k=4 then 3 else 5
theorem zk1 {p q:Pl} (hp:placedOk p=true) (hq:placedOk q=true) (h1:lineL (lowP2 q)<lineR (lowP2 p)) (h2:lineL (lowP2 p)<lineR (lowP2 q)) (f1:freeB (lowP2 p) (upP2 q)=true) (f2:freeB (lowP2 q) (upP2 p)=true):False:=by
 obtain⟨a1,a2,a3,a4,a5⟩:=zag hp;obtain⟨b1,b2,b3,b4,b5⟩:=zag hq;have o1:(btw (lowP2 p) (upP2 q)).lo<(btw (lowP2 p) (upP2 q)).hi:=by unfold btw;dsimp only;omega
 have o2:(btw (lowP2 q) (upP2 p)).lo<(btw (lowP2 q) (upP2 p)).hi:=by unfold btw;dsimp only;omega
 unfold freeB at f1 f2;rw [if_pos o1,decide_eq_true_eq]at f1;rw [if_pos o2,decide_eq_true_eq]at f2;have e1:(btw (lowP2 p) (upP2 q)).lo=max (lineL (lowP2 p)) (lineL (lowP2 q)):=by unfold btw;rw [b1]
 have e2:(btw (lowP2 p) (upP2 q)).hi=min (lineR (lowP2 p)) (lineR (lowP2 q)):=by unfold btw;rw [b2]
 have e3:(btw (lowP2 q) (upP2 p)).lo=max (lineL (lowP2 q)) (lineL (lowP2 p)):=by unfold btw;rw [a1]
 have e4:(btw (lowP2 q) (upP2 p)).hi=min (lineR (lowP2 q)) (lineR (lowP2 p)):=by unfold btw;rw [a2]
 obtain⟨k,hk⟩:=gX (max (lineL (lowP2 p)) (lineL (lowP2 q)));have c1:=zfx (zar hp).1 (zaJ hq).1 a4 b5 f1 (k:=k) (by omega) (by omega);have c2:=zfx (zar hq).1 (zaJ hp).1 b4 a5 f2 (k:=k) (by omega) (by omega);have d1:=zeX hp (k:=k) (by omega) (by omega);have d2:=zeX hq (k:=k) (by omega) (by omega)
 grind
theorem znI (p q:Pl):1≤relP p q∧relP p q≤5:=by
 unfold relP
 repeat' split
 all_goals omega
theorem znD {p q:Pl} (hp:placedOk p=true) (hq:placedOk q=true):relP q p=mirB (relP p q):=by
 have a3:=(zag hp).2.2.1;have b3:=(zag hq).2.2.1;have hb:=zk1 hp hq;unfold relP mirB
 by_cases h1:lineR (lowP2 p)≤lineL (lowP2 q)
 ·simp [h1,show ¬lineR (lowP2 q)≤lineL (lowP2 p) by omega]
 ·by_cases h2:lineR (lowP2 q)≤lineL (lowP2 p)
  ·simp [h1,h2]
  ·by_cases f1:freeB (lowP2 p) (upP2 q)=true
   ·by_cases f2:freeB (lowP2 q) (upP2 p)=true
    ·exact(hb (by omega) (by omega) f1 f2).elim
    ·simp [h1,h2,f1,f2]
   ·by_cases f2:freeB (lowP2 q) (upP2 p)=true<;>simp [h1,h2,f1,f2]
theorem zgZ (d:Int×Int) {a b:List (Int×Int)} (ha:a≠[]) (hb:b≠[]):freeB (mvL d a) (mvL d b)=freeB a b:=by
 unfold freeB;rw [zlv d ha hb,zg6 d (s:=btw a b) ha hb]
 have e:((mvS d (btw a b)).lo<(mvS d (btw a b)).hi) ↔ ((btw a b).lo<(btw a b).hi):=by
  unfold mvS;dsimp only;omega
 by_cases q:(btw a b).lo<(btw a b).hi
 ·rw [if_pos q,if_pos (e.2 q)]
 ·rw [if_neg q,if_neg (fun h9=>q (e.1 h9))]
theorem znJ {d:Int×Int} {p q:Pl} (hp:placedOk p=true) (hq:placedOk q=true) (kp:placedOk (mvP d p)=true) (kq:placedOk (mvP d q)=true):relP (mvP d p) (mvP d q)=relP p q:=by
 obtain⟨_,_,_,a4,a5⟩:=zag hp;obtain⟨_,_,_,b4,b5⟩:=zag hq;unfold relP;rw [zdc hp kp,zdc hq kq,zkZ hp kp,zkZ hq kq,(zaS d a4).1,(zaS d a4).2,(zaS d b4).1,(zaS d b4).2,zgZ d a4 b5,zgZ d b4 a5];have e1:(lineR (lowP2 p)+d.1≤lineL (lowP2 q)+d.1) ↔ (lineR (lowP2 p)≤lineL (lowP2 q)):=by omega
 have e2:(lineR (lowP2 q)+d.1≤lineL (lowP2 p)+d.1) ↔ (lineR (lowP2 q)≤lineL (lowP2 p)):=by omega
 simp only [e1,e2]
end
section
open Go.RowKit Go.Shelf Go.Sort Go.Lib
theorem zfs (zs:List Int) (h:zs.Pairwise (·≤·)):(compact zs).Pairwise (·<·):=by
 have hg:∀j,(hj:j<zs.length)→zs.toArray[j]! = zs[j]:=fun j hj=>by rw [getElem!_pos _ _ (by simpa using hj)];simp
 unfold compact compactUpTo;rw [List.pairwise_map];have h1:((List.range zs.length).filter (keeps zs.toArray)).Pairwise (·<·):=List.Pairwise.filter _ List.pairwise_lt_range;refine List.Pairwise.imp_of_mem (fun {i j} hi hj hij=>?_) h1;have hj':=List.mem_filter.1 hj;have hjl:=List.mem_range.1 hj'.1;have hk:=hj'.2;unfold keeps at hk;rw [decide_eq_true_eq]at hk;rw [hg j hjl,hg (j-1) (by omega)]at hk;rw [hg i (by omega),hg j hjl];have hp:=List.pairwise_iff_getElem.1 h
 have q1:zs[i]≤zs[j-1]:=by
  by_cases e:i=j-1
  ·subst e;exact Int.le_refl _
  ·exact hp i (j-1) (by omega) (by omega) (by omega)
 have q2:=hp (j-1) j (by omega) hjl (by omega)
 rcases hk with hk|hk
 ·omega
 ·omega
theorem zkS (zs:List Int):(isort zs).Pairwise (·≤·):=by
 unfold isort;have:=List.pairwise_mergeSort (le:=fun x y:Int=>decide (x≤y)) (fun a b c h1 h2=>by simp at *;omega) (fun a b=>by simp;omega) zs;exact this.imp fun h=>by simpa using h
theorem zeO (s:Sp):(stopsZ s).Pairwise (·<·):=zfs _ (zkS _)
theorem mem_stopsZ {s:Sp} {z:Int}:z∈stopsZ s ↔ (z=s.lo∨z=s.hi∨(s.lo<z∧z<s.hi∧∃q∈s.over++s.under,q.1=z)):=by
 constructor
 ·intro h
  have h1:=isort_mem.1 (zdb h)
  rcases List.mem_cons.1 h1 with h1|h1
  ·exact .inl h1
  rcases List.mem_cons.1 h1 with h1|h1
  ·exact .inr (.inl h1)
  ·unfold midP at h1
   obtain⟨h2,h3⟩:=List.mem_filter.1 h1;obtain⟨q,hq,rfl⟩:=List.mem_map.1 h2;unfold inP at h3;simp at h3;exact .inr (.inr ⟨h3.1,h3.2,q,hq,rfl⟩)
 ·intro h
  obtain⟨y,hy,e⟩:=List.mem_map.1 (zfh h);have:y=z:=by exact_mod_cast e
  rwa [←this]
theorem zbc {s:Sp} (h:s.lo<s.hi) {z:Int} (hz:z∈stopsZ s):s.lo≤z∧z≤s.hi:=by
 rcases mem_stopsZ.1 hz with e|e|⟨a,b,_⟩<;>omega
theorem zdT {s:Sp} (h:s.lo<s.hi) {i:Nat} {a b:Int} (ha:(stopsZ s)[i]?=V a) (hb:(stopsZ s)[i+1]?=V b):a<b∧∀q∈s.over++s.under,¬(a<q.1∧q.1<b):=by
 have hl:=(lS.1 hb);obtain⟨hb1,hb2⟩:=hl;obtain⟨ha1,ha2⟩:=lS.1 ha;have hp:=List.pairwise_iff_getElem.1 (zeO s);have hab:a<b:=by rw [←ha2,←hb2];exact hp i (i+1) ha1 hb1 (by omega)
 refine⟨hab,fun q hq hx=>?_⟩;have i1:=zbc h (lM ha);have i2:=zbc h (lM hb);have hm:q.1∈stopsZ s:=mem_stopsZ.2 (.inr (.inr ⟨by omega,by omega,q,hq,rfl⟩));obtain⟨j,hj,e⟩:=List.getElem_of_mem hm
 rcases Nat.lt_trichotomy j i with h1|h1|h1
 ·have:=hp j i hj ha1 h1;omega
 ·subst h1;omega
 ·by_cases h2:j=i+1
  ·subst h2;omega
  ·have:=hp (i+1) j hb1 hj (by omega);omega
theorem zcz {l:List (Int×Int)} (rl:Rise l) (nl:l≠[]) {a b:Int} (hab:a<b) (k1:lineL l≤a) (k2:b≤lineR l) (k3:∀q∈l,¬(a<q.1∧q.1<b)) {x:Rat} (h1:(a:Rat)≤x) (h2:x≤(b:Rat)) :
  ((b:Rat)-(a:Rat))*atR l x=((b:Rat)-x)*atR l (a:Rat)+(x-(a:Rat))*atR l (b:Rat):=by
 obtain⟨e,he,a1,a2,_⟩:=zbC nl k1 (k:=a) (by omega);have me:=rl.between he
 have a3:b≤e.2.1:=by
  have:=k3 e.2 me.2.1;omega
 have c1:((e.1.1:Int):Rat)≤(a:Rat):=Rat.intCast_le_intCast.2 a1;have c2:(b:Rat)≤((e.2.1:Int):Rat):=Rat.intCast_le_intCast.2 a3;have c3:(a:Rat)≤(b:Rat):=Rat.intCast_le_intCast.2 (Int.le_of_lt hab);rw [zcL rl he (Rat.le_trans c1 h1) (Rat.le_trans h2 c2),zcL rl he c1 (Rat.le_trans c3 c2),zcL rl he (Rat.le_trans c1 c3) c2];exact za1 e _ _ _
section
variable {L U:List (Int×Int)} (rL:Rise L) (rU:Rise U) (nL:L≠[]) (nU:U≠[])
include rL rU nL nU
theorem zc9 (h:(btw L U).lo<(btw L U).hi) {i:Nat} {a b:Int} (ha:(stopsZ (btw L U))[i]?=V a) (hb:(stopsZ (btw L U))[i+1]?=V b) {x:Rat} (h1:(a:Rat)≤x) (h2:x≤(b:Rat)) :
  ((b:Rat)-(a:Rat))*gapR (btw L U) x=((b:Rat)-x)*gapR (btw L U) (a:Rat)+(x-(a:Rat))*gapR (btw L U) (b:Rat):=by
 obtain⟨hab,hno⟩:=zdT h ha hb;have i1:=zbc h (lM ha);have i2:=zbc h (lM hb);have u1:lineL L≤a∧lineL U≤a:=by unfold btw at i1;dsimp only at i1;omega
 have u2:b≤lineR L∧b≤lineR U:=by unfold btw at i2;dsimp only at i2;omega
 have p1:=zcz rL nL hab u1.1 u2.1 (fun q hq=>hno q (List.mem_append.2 (.inl hq))) h1 h2;have p2:=zcz rU nU hab u1.2 u2.2 (fun q hq=>hno q (List.mem_append.2 (.inr hq))) h1 h2;unfold gapR;unfold btw;dsimp only
 grind
end
theorem znc {s:Sp} (h:s.lo<s.hi) {x:Rat} (h1:((s.lo:Int):Rat)≤x) (h2:x≤((s.hi:Int):Rat)) :
  ∃(i:Nat) (a b:Int),(stopsZ s)[i]?=V a∧(stopsZ s)[i+1]?=V b∧(a:Rat)≤x∧x≤(b:Rat):=by
 have hr:=List.pairwise_iff_getElem.1 (zeO s);have hlo:s.lo∈stopsZ s:=mem_stopsZ.2 (.inl rfl);have hhi:s.hi∈stopsZ s:=mem_stopsZ.2 (.inr (.inl rfl));obtain⟨p,hp,ep⟩:=List.getElem_of_mem hlo;obtain⟨q,hq,eq⟩:=List.getElem_of_mem hhi
 have key:∀(n:Nat),n<(stopsZ s).length→x≤(((stopsZ s).getD n 0:Int):Rat)→n=0∨(∃(i:Nat) (a b:Int),(stopsZ s)[i]?=V a∧(stopsZ s)[i+1]?=V b∧(a:Rat)≤x∧x≤(b:Rat))∨x≤(((stopsZ s).getD 0 0:Int):Rat):=by
  intro n
  induction n with
  | zero=>intro _ _;exact .inl rfl
  | succ n ih =>
   intro hn hx
   right
   by_cases hc:(((stopsZ s).getD n 0:Int):Rat)≤x
   ·refine .inl ⟨n,(stopsZ s).getD n 0,(stopsZ s).getD (n+1) 0,?_,?_,hc,hx⟩
    ·rw [gD,gE (by omega)];rfl
    ·rw [gD,gE hn];rfl
   ·rcases ih (by omega) (Rat.le_of_lt (Rat.not_le.1 hc))with rfl|h9
    ·right
     exact Rat.le_of_lt (Rat.not_le.1 hc)
    ·exact h9
 have h0:(stopsZ s).getD 0 0=s.lo:=by
  have hl:0<(stopsZ s).length:=by omega
  rw [gD,gE hl]
  show (stopsZ s)[0]=s.lo
  have i1:=zbc h (List.getElem_mem hl)
  by_cases e:p=0
  ·subst e;exact ep
  ·have:=hr 0 p hl hp (by omega);omega
 have hq0:q≠0:=by
  rintro rfl;have:(stopsZ s).getD 0 0=s.hi:=by rw [gD,gE hq];exact eq
  omega
 have hxq:x≤(((stopsZ s).getD q 0:Int):Rat):=by
  rw [gD,gE hq]
  show x≤(((stopsZ s)[q]:Int):Rat)
  rw [eq];exact h2
 rcases key q hq hxq with e|h9|h9
 ·exact absurd e hq0
 ·exact h9
 ·rw [h0]at h9
  have ex:x=((s.lo:Int):Rat):=Rat.le_antisymm h9 h1;have hl1:1<(stopsZ s).length:=by omega
  refine⟨0,(stopsZ s)[0],(stopsZ s)[1],gE _,gE _,?_,?_⟩
  ·have:(stopsZ s)[0]=s.lo:=by rw [←h0,gD,gE (by omega)];rfl
   rw [this];exact h1
  ·rw [ex]
   have:=(zbc h (List.getElem_mem hl1)).1;exact Rat.intCast_le_intCast.2 this
end
section
open Go.RowKit Go.Shelf Go.Sort Go.Lib
theorem zms (x y:Rat):rcmp x y = -1 ↔ x<y:=by
 rw [←zbx];unfold rcmp
 rcases Int.lt_trichotomy (x.num*y.den-y.num*x.den) 0 with h|h|h
 ·rw [Int.sign_eq_neg_one_of_neg h];decide
 ·rw [h];decide
 ·rw [Int.sign_eq_one_of_pos h];decide
theorem zmt (x y:Rat):rcmp x y=1 ↔ y<x:=by
 rw [←zcl];unfold rcmp
 rcases Int.lt_trichotomy (x.num*y.den-y.num*x.den) 0 with h|h|h
 ·rw [Int.sign_eq_neg_one_of_neg h];decide
 ·rw [h];decide
 ·rw [Int.sign_eq_one_of_pos h];decide
theorem num_lt0 {q:Rat}:q.num<0 ↔ q<0:=by rw [Rat.lt_iff];simp
theorem num_gt0 {q:Rat}:0<q.num ↔ 0<q:=by rw [Rat.lt_iff];simp
theorem sign_le0 {q:Rat}:q.num.sign≤0 ↔ q≤0:=by
 rw [←Rat.not_lt,←num_gt0,←Int.sign_pos_iff];omega
def EndS (o:Rat×Rat) (S:Rat→Prop):Prop:=S o.1∧S o.2∧∀x,S x→o.1≤x∧x≤o.2
theorem EndS.wid {o:Rat×Rat} {S:Rat→Prop} (h:EndS o S) (y:Rat):EndS (widR o y) fun x=>S x∨x=y:=by
 obtain⟨h1,h2,h3⟩:=h
 have e1:(widR o y).1=if y<o.1 then y else o.1:=by
  show pickR (-1) o.1 y=_
  unfold pickR;simp only [zms]
 have e2:(widR o y).2=if o.2<y then y else o.2:=by
  show pickR 1 o.2 y=_
  unfold pickR;simp only [zmt]
 refine⟨?_,?_,fun x hx=>?_⟩
 ·rw [e1];split
  ·exact .inr rfl
  ·exact .inl h1
 ·rw [e2];split
  ·exact .inr rfl
  ·exact .inl h2
 ·rw [e1,e2]
  rcases hx with hx|rfl
  ·have:=h3 x hx
   constructor<;>split<;>grind
  ·have:=h3 _ h1
   constructor<;>split<;>grind
theorem EndS.of {o:Rat×Rat} {S S':Rat→Prop} (h:EndS o S) (e:∀x,S' x ↔ S x):EndS o S':=by
 obtain⟨h1,h2,h3⟩:=h;exact⟨(e _).2 h1,(e _).2 h2,fun x hx=>h3 x ((e x).1 hx)⟩
def RcS (f:Rat→Rat) (qs:List Rat) (m:Rat):Nat→Rat→Prop
 | 0,x=>x=m
 | i+1,x=>RcS f qs m i x∨(f (qs.getD i 0)≤0∧x=qs.getD i 0)∨(i≠0∧f (qs.getD i 0)*f (qs.getD (i-1) 0)<0∧x=crossR f (qs.getD (i-1) 0) (qs.getD i 0))
theorem zho (x y:Rat):x.num.sign*y.num.sign<0 ↔ x*y<0:=by
 have hx:x.num.sign = -1∧x<0∨x.num.sign=0∧x=0∨x.num.sign=1∧0<x:=by
  rcases Int.lt_trichotomy x.num 0 with h|h|h
  ·exact .inl ⟨Int.sign_eq_neg_one_of_neg h,num_lt0.1 h⟩
  ·exact .inr (.inl ⟨by rw [h];rfl,Rat.num_eq_zero.1 h⟩)
  ·exact .inr (.inr ⟨Int.sign_eq_one_of_pos h,num_gt0.1 h⟩)
 have hy:y.num.sign = -1∧y<0∨y.num.sign=0∧y=0∨y.num.sign=1∧0<y:=by
  rcases Int.lt_trichotomy y.num 0 with h|h|h
  ·exact .inl ⟨Int.sign_eq_neg_one_of_neg h,num_lt0.1 h⟩
  ·exact .inr (.inl ⟨by rw [h];rfl,Rat.num_eq_zero.1 h⟩)
  ·exact .inr (.inr ⟨Int.sign_eq_one_of_pos h,num_gt0.1 h⟩)
 rcases hx with ⟨a,b⟩|⟨a,b⟩|⟨a,b⟩<;>rcases hy with ⟨c,d⟩|⟨c,d⟩|⟨c,d⟩<;>rw [a,c]
 ·have:=Rat.mul_pos (show 0 < -x by grind) (show 0 < -y by grind)
  exact⟨fun h=>absurd h (by decide),fun h=>by grind⟩
 ·rw [d,Rat.mul_zero];decide
 ·have:=Rat.mul_pos (show 0 < -x by grind) d
  exact⟨fun _=>by grind,fun _=>by decide⟩
 ·rw [b,Rat.zero_mul];decide
 ·rw [b,Rat.zero_mul];decide
 ·rw [b,Rat.zero_mul];decide
 ·have:=Rat.mul_pos b (show 0 < -y by grind)
  exact⟨fun _=>by grind,fun _=>by decide⟩
 ·rw [d,Rat.mul_zero];decide
 ·have:=Rat.mul_pos b d
  exact⟨fun h=>absurd h (by decide),fun h=>by grind⟩
theorem zfS (f:Rat→Rat) (qs:List Rat) (m:Rat):∀n,EndS (reachN f qs (m,m) n) (RcS f qs m n)
 | 0=>⟨rfl,rfl,fun x hx=>by cases hx;exact⟨Rat.le_refl,Rat.le_refl⟩⟩
 | i+1=>by
  have ih:=zfS f qs m i
  have h1:EndS (reachStep f (reachN f qs (m,m) i) (qs.getD i 0)) fun x=>RcS f qs m i x∨(f (qs.getD i 0)≤0∧x=qs.getD i 0):=by
   unfold reachStep
   by_cases c:f (qs.getD i 0)≤0
   ·rw [if_pos (sign_le0.2 c)]
    exact(ih.wid _).of fun x=>⟨fun h=>h.imp id fun h=>h.2,fun h=>h.imp id fun h=>⟨c,h⟩⟩
   ·rw [if_neg (fun h=>c (sign_le0.1 h))]
    exact ih.of fun x=>⟨fun h=>h.elim id fun h=>absurd h.1 c,fun h=>.inl h⟩
  unfold reachN
  by_cases c0:i=0
  ·rw [if_pos c0]
   exact h1.of fun x=>⟨fun h=>h.elim .inl fun h=>h.elim .inr fun h=>absurd c0 h.1,fun h=>h.elim .inl fun h=>.inr (.inl h)⟩
  ·rw [if_neg c0]
   unfold reachCross
   by_cases c1:f (qs.getD i 0)*f (qs.getD (i-1) 0)<0
   ·rw [if_pos ((zho _ _).2 c1)]
    exact(h1.wid _).of fun x=>⟨fun h=>h.elim (fun h=>.inl (.inl h)) fun h=>h.elim (fun h=>.inl (.inr h)) fun h=>.inr h.2.2,fun h=>h.elim (fun h=>h.elim .inl fun h=>.inr (.inl h)) fun h=>.inr (.inr ⟨c0,c1,h⟩)⟩
   ·rw [if_neg (fun h=>c1 ((zho _ _).1 h))]
    exact h1.of fun x=>⟨fun h=>h.elim .inl fun h=>h.elim .inr fun h=>absurd h.2.1 c1,fun h=>h.elim .inl fun h=>.inr (.inl h)⟩
theorem RcS.mono {f:Rat→Rat} {qs:List Rat} {m:Rat}:∀{n k:Nat} {x:Rat},RcS f qs m n x→n≤k→RcS f qs m k x
 | n,0,x,h,hk=>by
  obtain rfl:n=0:=by omega
  exact h
 | n,k+1,x,h,hk=>by
  by_cases e:n=k+1
  ·subst e;exact h
  ·exact .inl (RcS.mono h (by omega))
theorem zgO {f:Rat→Rat} {a b:Rat} (hab:a<b) (hs:f b*f a<0) (hl:∀x,a≤x→x≤b→(b-a)*f x=(b-x)*f a+(x-a)*f b):a≤crossR f a b∧crossR f a b≤b∧f (crossR f a b)=0:=by
 have hne:f a-f b≠0:=by
  intro h;have e:f a=f b:=by grind
  rw [e]at hs
  have:0≤f b*f b:=by
   by_cases c:0≤f b
   ·exact Rat.mul_nonneg c c
   ·have:=Rat.mul_nonneg (show 0 ≤ -(f b) by grind) (show 0 ≤ -(f b) by grind)
    grind
  grind
 obtain⟨t,ht⟩:=gX (f a / (f a-f b));have htd:t*(f a-f b)=f a:=by rw [←ht,Rat.div_mul_cancel hne]
 have hc:crossR f a b=a+t*(b-a):=by unfold crossR;rw [ht]
 have t01:0≤t∧t≤1:=by
  by_cases c:0<f a
  ·have hb:f b<0:=by
    refine Rat.not_le.1 fun h=>?_
    have:=Rat.mul_nonneg h (Rat.le_of_lt c)
    grind
   constructor
   ·refine Rat.not_lt.1 fun h=>?_
    have:=Rat.mul_pos (show 0 < -t by grind) (show 0<f a-f b by grind)
    grind
   ·refine Rat.not_lt.1 fun h=>?_
    have:=Rat.mul_pos (show 0<t-1 by grind) (show 0<f a-f b by grind)
    grind
  ·have ha:f a<0:=by
    by_cases h:f a=0
    ·rw [h]at hs;grind
    ·grind
   have hb:0<f b:=by
    refine Rat.not_le.1 fun h=>?_
    have:=Rat.mul_nonneg (show 0 ≤ -(f b) by grind) (show 0 ≤ -(f a) by grind)
    grind
   constructor
   ·refine Rat.not_lt.1 fun h=>?_
    have:=Rat.mul_pos (show 0 < -t by grind) (show 0 < -(f a-f b) by grind)
    grind
   ·refine Rat.not_lt.1 fun h=>?_
    have:=Rat.mul_pos (show 0<t-1 by grind) (show 0 < -(f a-f b) by grind)
    grind
 have hd:0<b-a:=by grind
 have m1:=Rat.mul_nonneg t01.1 (Rat.le_of_lt hd);have m2:=Rat.mul_nonneg (show 0≤1-t by grind) (Rat.le_of_lt hd);have g1:a≤a+t*(b-a):=by grind
 have g2:a+t*(b-a)≤b:=by grind
 refine⟨by rw [hc];exact g1,by rw [hc];exact g2,?_⟩;have:=hl _ g1 g2;rw [hc]
 have e:(b-a)*f (a+t*(b-a))=0:=by
  rw [this]
  grind
 rcases Rat.mul_eq_zero.1 e with h|h
 ·grind
 ·exact h
theorem zaF {s:Sp} {i:Nat} {a:Int} (h:(stopsZ s)[i]?=V a):(stopsR s).getD i 0=(a:Rat):=by
 unfold stopsR;rw [gD,lP,h];rfl
theorem zeN (s:Sp):(stopsZ s).length=(stopsR s).length:=by unfold stopsR;rw [lL]
theorem zcm (s:Sp) (pin:Int):reachNo s pin=false ↔ 0≤(leastR s).2∧(leastR s).2≤(pin:Rat):=by
 unfold reachNo;rw [Bool.or_eq_false_iff,decide_eq_false_iff_not,decide_eq_false_iff_not,Int.sign_neg_iff,num_lt0,zcl,Rat.not_lt,Rat.not_lt]
def reachO (s:Sp) (pin:Int):Rat×Rat:=reachN (pinG s pin) (stopsR s) ((leastR s).1,(leastR s).1) (stopsR s).length
section
variable {L U:List (Int×Int)} (rL:Rise L) (rU:Rise U) (nL:L≠[]) (nU:U≠[]) (h:(btw L U).lo<(btw L U).hi) {pin:Int} (hno:reachNo (btw L U) pin=false)
include rL rU nL nU h hno
theorem zmx:∀n,n≤(stopsR (btw L U)).length→∀x,RcS (pinG (btw L U) pin) (stopsR (btw L U)) (leastR (btw L U)).1 n x →
  (((btw L U).lo:Int):Rat)≤x∧x≤(((btw L U).hi:Int):Rat)∧0≤gapR (btw L U) x∧gapR (btw L U) x≤(pin:Rat):=by
 obtain⟨h0,h1⟩:=(zcm _ _).1 hno
 have hz:∀{i:Nat} {a:Int},(stopsZ (btw L U))[i]?=V a→(((btw L U).lo:Int):Rat)≤(a:Rat)∧(a:Rat)≤(((btw L U).hi:Int):Rat)∧0≤gapR (btw L U) (a:Rat)   := fun {i a} ha=>by
  have hm:=lM ha;have i1:=zbc h hm;refine⟨Rat.intCast_le_intCast.2 i1.1,Rat.intCast_le_intCast.2 i1.2,Rat.le_trans h0 (zdj _ _ ?_)⟩;exact List.mem_map_of_mem hm
 have hi:∀i,i<(stopsR (btw L U)).length→∃a,(stopsZ (btw L U))[i]?=V a:=fun i hi=>⟨_,gE (by rw [zeN];exact hi)⟩
 intro n
 induction n with
 | zero =>
  intro _ x hx
  cases hx
  obtain⟨m1,m2⟩:=zax (gapR (btw L U)) (zaD (btw L U));obtain⟨z,hzm,e⟩:=List.mem_map.1 m1;obtain⟨i,hi9⟩:=List.getElem?_of_mem hzm;have:=hz hi9;have e2:(leastR (btw L U)).1=(z:Rat):=e.symm;have e3:(leastR (btw L U)).2=gapR (btw L U) (leastR (btw L U)).1:=m2;rw [e2]at e3 ⊢;exact⟨this.1,this.2.1,this.2.2,by rw [←e3];exact h1⟩
 | succ i ih =>
  intro hn x hx
  rcases hx with hx|⟨hf,rfl⟩|⟨hi0,hs,rfl⟩
  ·exact ih (by omega) x hx
  ·obtain⟨a,ha⟩:=hi i (by omega)
   rw [zaF ha]at hf ⊢;have:=hz ha;unfold pinG at hf;exact⟨this.1,this.2.1,this.2.2,by grind⟩
  ·obtain⟨j,rfl⟩:∃j,i=j+1:=⟨i-1,by omega⟩
   rw [Nat.add_sub_cancel]at hs ⊢;obtain⟨a,ha⟩:=hi j (by omega);obtain⟨b,hb⟩:=hi (j+1) (by omega);rw [zaF ha,zaF hb]at hs ⊢;have hab:(a:Rat)<(b:Rat):=Rat.intCast_lt_intCast.2 (zdT h ha hb).1
   obtain⟨c1,c2,c3⟩:=zgO (f:=pinG (btw L U) pin) hab hs (fun x k1 k2=>by
    have:=zc9 rL rU nL nU h ha hb k1 k2;unfold pinG
    grind)
   have za:=hz ha;have zb:=hz hb
   generalize crossR (pinG (btw L U) pin) (a:Rat) (b:Rat)=c at *
   have e:gapR (btw L U) c=(pin:Rat):=by unfold pinG at c3;grind
   exact⟨Rat.le_trans za.1 c1,Rat.le_trans c2 zb.2.1,by rw [e];exact Rat.le_trans h0 h1,by rw [e];exact Rat.le_refl⟩
omit hno in
theorem zmw {x:Rat} (k1:(((btw L U).lo:Int):Rat)≤x) (k2:x≤(((btw L U).hi:Int):Rat)) (hx:gapR (btw L U) x≤(pin:Rat)) :
  ∃y z,RcS (pinG (btw L U) pin) (stopsR (btw L U)) (leastR (btw L U)).1 (stopsR (btw L U)).length y∧y≤x∧RcS (pinG (btw L U) pin) (stopsR (btw L U)) (leastR (btw L U)).1 (stopsR (btw L U)).length z∧x≤z:=by
 obtain⟨i,a,b,ha,hb,q1,q2⟩:=znc h k1 k2;have hi:=(lS.1 hb).1;rw [zeN]at hi;have hab:(a:Rat)<(b:Rat):=Rat.intCast_lt_intCast.2 (zdT h ha hb).1;have hs:=fun x k1 k2=>zc9 rL rU nL nU h ha hb (x:=x) k1 k2
 have ga:gapR (btw L U) (a:Rat)≤(pin:Rat)→RcS (pinG (btw L U) pin) (stopsR (btw L U)) (leastR (btw L U)).1 (stopsR (btw L U)).length (a:Rat):=fun hg=>by
  refine RcS.mono (n:=i+1) (.inr (.inl ⟨?_,(zaF ha).symm⟩)) (by omega);rw [zaF ha];unfold pinG
  grind
 have gb:gapR (btw L U) (b:Rat)≤(pin:Rat)→RcS (pinG (btw L U) pin) (stopsR (btw L U)) (leastR (btw L U)).1 (stopsR (btw L U)).length (b:Rat):=fun hg=>by
  refine RcS.mono (n:=i+1+1) (.inr (.inl ⟨?_,(zaF hb).symm⟩)) (by omega);rw [zaF hb];unfold pinG
  grind
 have gc:pinG (btw L U) pin (b:Rat)*pinG (btw L U) pin (a:Rat)<0→RcS (pinG (btw L U) pin) (stopsR (btw L U)) (leastR (btw L U)).1 (stopsR (btw L U)).length (crossR (pinG (btw L U) pin) (a:Rat) (b:Rat)):=fun hg=>by
  refine RcS.mono (n:=i+1+1) (.inr (.inr ⟨by omega,?_,?_⟩)) (by omega)
  ·rw [Nat.add_sub_cancel,zaF ha,zaF hb];exact hg
  ·rw [Nat.add_sub_cancel,zaF ha,zaF hb]
 have hsx:=hs x q1 q2
 have hcr:=fun hg=>zgO (f:=pinG (btw L U) pin) hab hg (fun x k1 k2=>by
  have:=hs x k1 k2;unfold pinG
  grind)
 have hsc:∀c,(a:Rat)≤c→c≤(b:Rat)→pinG (btw L U) pin c=0→((b:Rat)-(a:Rat))*(pin:Rat)=((b:Rat)-c)*gapR (btw L U) (a:Rat)+(c-(a:Rat))*gapR (btw L U) (b:Rat):=fun c c1 c2 c3=>by
  have:=hs c c1 c2;unfold pinG at c3
  grind
 have hcc:pinG (btw L U) pin (b:Rat)*pinG (btw L U) pin (a:Rat)<0→(a:Rat)≤crossR (pinG (btw L U) pin) (a:Rat) (b:Rat)∧crossR (pinG (btw L U) pin) (a:Rat) (b:Rat)≤(b:Rat)∧((b:Rat)-(a:Rat))*(pin:Rat)=((b:Rat)-crossR (pinG (btw L U) pin) (a:Rat) (b:Rat))*gapR (btw L U) (a:Rat)+(crossR (pinG (btw L U) pin) (a:Rat) (b:Rat)-(a:Rat))*gapR (btw L U) (b:Rat):=fun hg=>by
  obtain⟨c1,c2,c3⟩:=hcr hg;exact⟨c1,c2,hsc _ c1 c2 c3⟩
 clear hcr hsc hs
 generalize crossR (pinG (btw L U) pin) (a:Rat) (b:Rat)=c at *
 rw [show pinG (btw L U) pin (b:Rat)=gapR (btw L U) (b:Rat)-(pin:Rat)from rfl,show pinG (btw L U) pin (a:Rat)=gapR (btw L U) (a:Rat)-(pin:Rat)from rfl]at gc hcc
 generalize gapR (btw L U) (a:Rat)=A at *
 generalize gapR (btw L U) (b:Rat)=B at *
 generalize gapR (btw L U) x=X at *
 generalize (pin:Rat)=P at *
 generalize (a:Rat)=a' at *
 generalize (b:Rat)=b' at *
 have hd:0<b'-a':=by grind
 have left:∃y,RcS (pinG (btw L U) pin) (stopsR (btw L U)) (leastR (btw L U)).1 (stopsR (btw L U)).length y∧y≤x:=by
  by_cases cA:A≤P
  ·exact⟨a',ga cA,q1⟩
  ·have hB:B≤P:=by
    refine Rat.not_lt.1 fun hlt=>?_
    have m1:=Rat.mul_nonneg (show 0≤b'-x by grind) (show 0≤A-P by grind);have m2:=Rat.mul_nonneg (show 0≤x-a' by grind) (show 0≤B-P by grind);have m3:=Rat.mul_nonneg (Rat.le_of_lt hd) (show 0≤P-X by grind)
    by_cases hxb:x=b'
    ·subst hxb
     have:=Rat.mul_pos hd (show 0<B-P by grind)
     grind
    ·have:=Rat.mul_pos (show 0<b'-x by grind) (show 0<A-P by grind)
     grind
   by_cases cB:B=P
   ·refine⟨b',gb hB,?_⟩
    refine Rat.not_lt.1 fun hlt=>?_
    have:=Rat.mul_pos (show 0<b'-x by grind) (show 0<A-P by grind);have m3:=Rat.mul_nonneg (Rat.le_of_lt hd) (show 0≤P-X by grind);subst cB
    grind
   ·have hp:(B-P)*(A-P)<0:=by
     have:=Rat.mul_pos (show 0<P-B by grind) (show 0<A-P by grind)
     grind
    obtain⟨c1,c2,c3⟩:=hcc hp;refine⟨c,gc hp,?_⟩;refine Rat.not_lt.1 fun hlt=>?_
    have:=Rat.mul_pos (show 0<c-x by grind) (show 0<A-B by grind);have m3:=Rat.mul_nonneg (Rat.le_of_lt hd) (show 0≤P-X by grind)
    grind
 have right:∃z,RcS (pinG (btw L U) pin) (stopsR (btw L U)) (leastR (btw L U)).1 (stopsR (btw L U)).length z∧x≤z:=by
  by_cases cB:B≤P
  ·exact⟨b',gb cB,q2⟩
  ·have hA:A≤P:=by
    refine Rat.not_lt.1 fun hlt=>?_
    have m1:=Rat.mul_nonneg (show 0≤b'-x by grind) (show 0≤A-P by grind);have m2:=Rat.mul_nonneg (show 0≤x-a' by grind) (show 0≤B-P by grind);have m3:=Rat.mul_nonneg (Rat.le_of_lt hd) (show 0≤P-X by grind)
    by_cases hxa:x=a'
    ·subst hxa
     have:=Rat.mul_pos hd (show 0<A-P by grind)
     grind
    ·have:=Rat.mul_pos (show 0<x-a' by grind) (show 0<B-P by grind)
     grind
   by_cases cA:A=P
   ·refine⟨a',ga hA,?_⟩
    refine Rat.not_lt.1 fun hlt=>?_
    have:=Rat.mul_pos (show 0<x-a' by grind) (show 0<B-P by grind);have m3:=Rat.mul_nonneg (Rat.le_of_lt hd) (show 0≤P-X by grind);subst cA
    grind
   ·have hp:(B-P)*(A-P)<0:=by
     have:=Rat.mul_pos (show 0<B-P by grind) (show 0<P-A by grind)
     grind
    obtain⟨c1,c2,c3⟩:=hcc hp;refine⟨c,gc hp,?_⟩;refine Rat.not_lt.1 fun hlt=>?_
    have:=Rat.mul_pos (show 0<x-c by grind) (show 0<B-A by grind);have m3:=Rat.mul_nonneg (Rat.le_of_lt hd) (show 0≤P-X by grind)
    grind
 obtain⟨y,h1,h2⟩:=left;obtain⟨z,h3,h4⟩:=right;exact⟨y,z,h1,h2,h3,h4⟩
theorem zcX:((((btw L U).lo:Int):Rat)≤(reachO (btw L U) pin).1∧(reachO (btw L U) pin).1≤(((btw L U).hi:Int):Rat)∧0≤gapR (btw L U) (reachO (btw L U) pin).1∧gapR (btw L U) (reachO (btw L U) pin).1≤(pin:Rat)) ∧
  ((((btw L U).lo:Int):Rat)≤(reachO (btw L U) pin).2∧(reachO (btw L U) pin).2≤(((btw L U).hi:Int):Rat)∧0≤gapR (btw L U) (reachO (btw L U) pin).2∧gapR (btw L U) (reachO (btw L U) pin).2≤(pin:Rat)) ∧
  (reachO (btw L U) pin).1≤(reachO (btw L U) pin).2∧∀x:Rat,(((btw L U).lo:Int):Rat)≤x→x≤(((btw L U).hi:Int):Rat)→gapR (btw L U) x≤(pin:Rat)→(reachO (btw L U) pin).1≤x∧x≤(reachO (btw L U) pin).2:=by
 obtain⟨h1,h2,h3⟩:=zfS (pinG (btw L U) pin) (stopsR (btw L U)) (leastR (btw L U)).1 (stopsR (btw L U)).length;have ok:=zmx rL rU nL nU h hno (stopsR (btw L U)).length (nE _);refine⟨ok _ h1,ok _ h2,(h3 _ h1).2,fun x k1 k2 hx=>?_⟩;obtain⟨y,z,hy,hyx,hz,hxz⟩:=zmw rL rU nL nU h k1 k2 hx;exact⟨Rat.le_trans (h3 y hy).1 hyx,Rat.le_trans hxz (h3 z hz).2⟩
end
end
section
open Go.RowKit Go.Shelf Go.Sort Go.Lib
theorem zfe {p:Pl} (h:placedOk p=true):Rise (lowP2 p)∧Rise (upP2 p)∧lowP2 p≠[]∧upP2 p≠[]:=⟨(zar h).1,(zaJ h).1,(zag h).2.2.2.1,(zag h).2.2.2.2⟩
theorem zbf {p:Pl} {t:List (Int×Int)} {b pin:Int} (ho:(btw (lowP2 p) t).lo<(btw (lowP2 p) t).hi) (hno:reachNo (btw (lowP2 p) t) pin=false) :
  bedO p t b pin=V ⟨b,(reachO (btw (lowP2 p) t) pin).1,atR (lowP2 p) (reachO (btw (lowP2 p) t) pin).1,(reachO (btw (lowP2 p) t) pin).2,atR (lowP2 p) (reachO (btw (lowP2 p) t) pin).2,slopeR t (reachO (btw (lowP2 p) t) pin).1 (reachO (btw (lowP2 p) t) pin).2,slopeR t (reachO (btw (lowP2 p) t) pin).2 (reachO (btw (lowP2 p) t) pin).2⟩:=by
 unfold bedO reachP reachO;rw [if_pos ho,hno,if_neg (by decide)];rfl
theorem zdr {p:Pl} {t:List (Int×Int)} {b pin:Int} {be:Be} (h:bedO p t b pin=V be):(btw (lowP2 p) t).lo<(btw (lowP2 p) t).hi∧reachNo (btw (lowP2 p) t) pin=false:=by
 unfold bedO at h
 by_cases ho:(btw (lowP2 p) t).lo<(btw (lowP2 p) t).hi
 ·rw [if_pos ho]at h
  unfold reachP at h
  cases hno:reachNo (btw (lowP2 p) t) pin with
  | true=>rw [hno]at h;cases h
  | false=>exact⟨ho,rfl⟩
 ·rw [if_neg ho]at h
  cases h
structure EndP (p:Pl) (t:List (Int×Int)) (pin:Int) (x:Rat):Prop where
 inL:((lineL (lowP2 p):Int):Rat)≤x∧x≤((lineR (lowP2 p):Int):Rat)
 inT:((lineL t:Int):Rat)≤x∧x≤((lineR t:Int):Rat)
 gap:0≤atR (lowP2 p) x-atR t x∧atR (lowP2 p) x-atR t x≤(pin:Rat)
theorem zfp {p:Pl} {t:List (Int×Int)} {b pin:Int} {be:Be} (hp:placedOk p=true) (ht:Rise t) (nt:t≠[]) (h:bedO p t b pin=V be) :
  be.num=b∧be.fz=atR (lowP2 p) be.fx∧be.tz=atR (lowP2 p) be.tx∧EndP p t pin be.fx∧EndP p t pin be.tx∧be.fx≤be.tx:=by
 obtain⟨rl,_,nl,_⟩:=zfe hp;obtain⟨ho,hno⟩:=zdr h;rw [zbf ho hno]at h;have h:=(Option.some.inj h).symm;obtain⟨⟨a1,a2,a3,a4⟩,⟨b1,b2,b3,b4⟩,c,_⟩:=zcX rl ht nl nt ho hno
 have lo1:((lineL (lowP2 p):Int):Rat)≤(((btw (lowP2 p) t).lo:Int):Rat)∧((lineL t:Int):Rat)≤(((btw (lowP2 p) t).lo:Int):Rat):=by
  unfold btw;exact⟨Rat.intCast_le_intCast.2 (by dsimp only;omega),Rat.intCast_le_intCast.2 (by dsimp only;omega)⟩
 have hi1:(((btw (lowP2 p) t).hi:Int):Rat)≤((lineR (lowP2 p):Int):Rat)∧(((btw (lowP2 p) t).hi:Int):Rat)≤((lineR t:Int):Rat):=by
  unfold btw;exact⟨Rat.intCast_le_intCast.2 (by dsimp only;omega),Rat.intCast_le_intCast.2 (by dsimp only;omega)⟩
 unfold gapR at a3 a4 b3 b4;rw [show (btw (lowP2 p) t).over=lowP2 p from rfl,show (btw (lowP2 p) t).under=t from rfl]at a3 a4 b3 b4
 generalize reachO (btw (lowP2 p) t) pin=o at *
 subst h;dsimp only;refine⟨rfl,rfl,rfl,⟨?_,?_,?_⟩,⟨?_,?_,?_⟩,c⟩
 ·exact⟨Rat.le_trans lo1.1 a1,Rat.le_trans a2 hi1.1⟩
 ·exact⟨Rat.le_trans lo1.2 a1,Rat.le_trans a2 hi1.2⟩
 ·exact⟨a3,a4⟩
 ·exact⟨Rat.le_trans lo1.1 b1,Rat.le_trans b2 hi1.1⟩
 ·exact⟨Rat.le_trans lo1.2 b1,Rat.le_trans b2 hi1.2⟩
 ·exact⟨b3,b4⟩
theorem zfq {p:Pl} {t:List (Int×Int)} {b pin pin':Int} {be:Be} (hp:placedOk p=true) (ht:Rise t) (nt:t≠[]) (hle:pin≤pin') (h:bedO p t b pin=V be) :
  ∃be',bedO p t b pin'=V be'∧be'.num=be.num∧be'.fx≤be.fx∧be.tx≤be'.tx:=by
 obtain⟨rl,_,nl,_⟩:=zfe hp;obtain⟨ho,hno⟩:=zdr h;rw [zbf ho hno]at h;have h:=(Option.some.inj h).symm;have hc:(pin:Rat)≤(pin':Rat):=Rat.intCast_le_intCast.2 hle
 have hno':reachNo (btw (lowP2 p) t) pin'=false:=by
  rw [zcm]at hno ⊢;exact⟨hno.1,Rat.le_trans hno.2 hc⟩
 obtain⟨⟨a1,a2,a3,a4⟩,⟨b1,b2,b3,b4⟩,c,_⟩:=zcX rl ht nl nt ho hno;obtain⟨_,_,_,d⟩:=zcX rl ht nl nt ho hno';have d1:=(d _ a1 a2 (Rat.le_trans a4 hc)).1;have d2:=(d _ b1 b2 (Rat.le_trans b4 hc)).2;refine⟨_,zbf ho hno',?_⟩
 generalize reachO (btw (lowP2 p) t) pin=o at *
 generalize reachO (btw (lowP2 p) t) pin'=o' at *
 subst h;exact⟨rfl,d1,d2⟩
def topN (g:List (Int×Int)) (ps:List Pl) (b:Int):List (Int×Int):=if b<0 then g else match ps[b.toNat]? with|some q=>upP2 q|none=>[]
section
variable {g:List (Int×Int)} {ps:List Pl} (hg:Rise g) (ng:g≠[]) (hok:∀p∈ps,placedOk p=true) {a:Nat} {p:Pl} (hp:ps[a]?=V p)
include hg ng hok hp
theorem zhC {b pin:Int} {be:Be} (h:bedAt g ps a p pin b=V be) :
  be.num=b∧be.fz=atR (lowP2 p) be.fx∧be.tz=atR (lowP2 p) be.tx∧EndP p (topN g ps b) pin be.fx∧EndP p (topN g ps b) pin be.tx∧be.fx≤be.tx∧(0≤b→∃q,ps[b.toNat]?=V q):=by
 have hpk:=hok p (lM hp);unfold bedAt at h;unfold topN
 split at h
 ·cases h
 ·split at h
  ·rename_i hb
   rw [if_pos hb];obtain⟨h1,h2,h3,h4,h5,h6⟩:=zfp hpk hg ng h;exact⟨h1,h2,h3,h4,h5,h6,fun h9=>by omega⟩
  ·rename_i hb
   rw [if_neg hb]
   cases hq:ps[b.toNat]? with
   | none=>rw [hq]at h;cases h
   | some q =>
    rw [hq]at h;dsimp only at h
    split at h
    ·obtain⟨_,ru,_,nu⟩:=zfe (hok q (lM hq))
     obtain⟨h1,h2,h3,h4,h5,h6⟩:=zfp hpk ru nu h;exact⟨h1,h2,h3,h4,h5,h6,fun _=>⟨q,rfl⟩⟩
    ·cases h
theorem zer {b pin pin':Int} {be:Be} (hle:pin≤pin') (h:bedAt g ps a p pin b=V be) :
  ∃be',bedAt g ps a p pin' b=V be'∧be'.num=be.num∧be'.fx≤be.fx∧be.tx≤be'.tx:=by
 have hpk:=hok p (lM hp);unfold bedAt at h ⊢
 split at h
 ·cases h
 ·rename_i h0
  rw [if_neg h0]
  split at h
  ·rename_i hb
   rw [if_pos hb];exact zfq hpk hg ng hle h
  ·rename_i hb
   rw [if_neg hb]
   cases hq:ps[b.toNat]? with
   | none=>rw [hq]at h;cases h
   | some q =>
    rw [hq]at h;dsimp only at h ⊢
    split at h
    ·rename_i hm
     rw [if_pos hm];obtain⟨_,ru,_,nu⟩:=zfe (hok q (lM hq));exact zfq hpk ru nu hle h
    ·cases h
theorem zhD {pin pin':Int} (hle:pin≤pin') (n:Nat):(bedsN g ps a p pin n).length≤(bedsN g ps a p pin' n).length:=by
 induction n with
 | zero =>
  rw [show bedsN g ps a p pin 0=[]from rfl];exact Nat.zero_le _
 | succ n ih =>
  rw [zcO,zcO,lA,lA]
  cases h:bedAt g ps a p pin ((n:Int)-1)with
  | none=>simp;omega
  | some be =>
   obtain⟨be',h',_⟩:=zer hg ng hok hp hle h;rw [h'];simp;omega
end
end
section
open Go.RowKit Go.Shelf Go.Sort
def minG {α:Type} (f:α→Rat):List α→Rat
 | []=>0
 | x::xs=>xs.foldl (fun o y=>if rcmp (f y) o<0 then f y else o) (f x)
theorem zbm {α:Type} (f:α→Rat):∀{l:List α},l≠[]→(∃x∈l,minG f l=f x)∧∀x∈l,minG f l≤f x
 | [],h=>absurd rfl h
 | x::xs,_=>by
  have key:∀(ys:List α) (o:Rat),(ys.foldl (fun o y=>if rcmp (f y) o<0 then f y else o) o=o∨∃y∈ys,ys.foldl (fun o y=>if rcmp (f y) o<0 then f y else o) o=f y)∧ys.foldl (fun o y=>if rcmp (f y) o<0 then f y else o) o≤o∧∀y∈ys,ys.foldl (fun o y=>if rcmp (f y) o<0 then f y else o) o≤f y:=by
   intro ys
   induction ys with
   | nil=>intro o;exact⟨.inl rfl,Rat.le_refl,fun y hy=>by cases hy⟩
   | cons y ys ih =>
    intro o;rw [List.foldl_cons]
    by_cases c:rcmp (f y) o<0
    ·rw [if_pos c]
     have hc:=(zbx _ _).1 c;obtain⟨h1,h2,h3⟩:=ih (f y);refine⟨.inr ?_,Rat.le_trans h2 (Rat.le_of_lt hc),fun z hz=>?_⟩
     ·rcases h1 with h1|⟨z,hz,h1⟩
      ·exact⟨y,by simp,h1⟩
      ·exact⟨z,mC _ hz,h1⟩
     ·rcases List.mem_cons.1 hz with rfl|hz
      ·exact h2
      ·exact h3 z hz
    ·rw [if_neg c]
     have hc:o≤f y:=Rat.not_lt.1 fun h=>c ((zbx _ _).2 h)
     obtain⟨h1,h2,h3⟩:=ih o;refine⟨?_,h2,fun z hz=>?_⟩
     ·rcases h1 with h1|⟨z,hz,h1⟩
      ·exact .inl h1
      ·exact .inr ⟨z,mC _ hz,h1⟩
     ·rcases List.mem_cons.1 hz with rfl|hz
      ·exact Rat.le_trans h2 hc
      ·exact h3 z hz
  obtain⟨h1,h2,h3⟩:=key xs (f x);refine⟨?_,fun z hz=>?_⟩
  ·rcases h1 with h1|⟨z,hz,h1⟩
   ·exact⟨x,by simp,h1⟩
   ·exact⟨z,mC _ hz,h1⟩
  ·rcases List.mem_cons.1 hz with rfl|hz
   ·exact h2
   ·exact h3 z hz
theorem zhW {α:Type} {f h:α→Rat} {c:Rat} (hf:∀x,h x=f x+c) {l:List α} (hl:l≠[]):minG h l=minG f l+c:=by
 obtain⟨⟨x,hx,ex⟩,mx⟩:=zbm h hl;obtain⟨⟨y,hy,ey⟩,my⟩:=zbm f hl;refine Rat.le_antisymm ?_ ?_
 ·rw [ey,←hf]
  exact mx y hy
 ·rw [ex,hf]
  have:=my x hx
  grind
def gapT (l t:List (Int×Int)):Rat:=(leastR (btw l t)).2
def topsP (g:List (Int×Int)) (ps:List Pl) (p:Pl):List (List (Int×Int)):=g::(ps.filter fun o=>meetB p o&&relP p o==3).map upP2
def dropR (g:List (Int×Int)) (ps:List Pl) (p:Pl):Rat:=minG (gapT (lowP2 p)) (topsP g ps p)
theorem zdt {f h:Rat→Rat} {c:Rat} (hf:∀x,h x=f x+c) {qs:List Rat} (hq:qs≠[]):bestR h qs=((bestR f qs).1,(bestR f qs).2+c):=by
 cases qs with
 | nil=>exact absurd rfl hq
 | cons x xs =>
  have key:∀(xs:List Rat) (u v:Rat),xs.foldl (bestStep h) (u,v+c)=((xs.foldl (bestStep f) (u,v)).1,(xs.foldl (bestStep f) (u,v)).2+c):=by
   intro xs
   induction xs with
   | nil=>intro u v;rfl
   | cons y ys ih =>
    intro u v;rw [List.foldl_cons,List.foldl_cons]
    have e:bestStep h (u,v+c) y=((bestStep f (u,v) y).1,(bestStep f (u,v) y).2+c):=by
     unfold bestStep;dsimp only;rw [hf]
     have e2:rcmp (f y+c) (v+c)<0 ↔ rcmp (f y) v<0:=by
      rw [zbx,zbx]
      grind
     by_cases q:rcmp (f y) v<0
     ·rw [if_pos q,if_pos (e2.2 q)]
     ·rw [if_neg q,if_neg (fun h9=>q (e2.1 h9))]
    rw [e,ih]
  show xs.foldl (bestStep h) (x,h x)=((xs.foldl (bestStep f) (x,f x)).1,(xs.foldl (bestStep f) (x,f x)).2+c)
  rw [hf];exact key xs x (f x)
theorem zlz (n:Int) (l:List (Int×Int)):(mvL (0,n) l).map (·.1)=l.map (·.1):=by
 unfold mvL;rw [List.map_map];exact List.map_congr_left fun q _=>by unfold mvQ;dsimp only [Function.comp_apply];omega
theorem zgn {l t:List (Int×Int)} (nl:l≠[]) (n:Int):gapT (mvL (0,n) l) t=gapT l t+(n:Rat):=by
 have el:=zaS (0,n) nl;dsimp only at el;rw [Int.add_zero,Int.add_zero]at el
 have es:stopsR (btw (mvL (0,n) l) t)=stopsR (btw l t):=by
  unfold stopsR stopsZ midP btw;dsimp only;rw [el.1,el.2,List.map_append,List.map_append,zlz];rfl
 have eg:∀x,gapR (btw (mvL (0,n) l) t) x=gapR (btw l t) x+(n:Rat):=fun x=>by
  have h:=zgM (0,n) nl x;dsimp only at h;rw [show x+((0:Int):Rat)=x by rw [Rat.intCast_zero,Rat.add_zero]]at h;unfold gapR btw;dsimp only;rw [h]
  grind
 unfold gapT leastR;rw [es,zdt eg (zaD _)]
theorem zkF {l t:List (Int×Int)} (nt:t≠[]) (n:Int):gapT l (mvL (0,n) t)=gapT l t + -(n:Rat):=by
 have et:=zaS (0,n) nt;dsimp only at et;rw [Int.add_zero,Int.add_zero]at et
 have es:stopsR (btw l (mvL (0,n) t))=stopsR (btw l t):=by
  unfold stopsR stopsZ midP btw;dsimp only;rw [et.1,et.2,List.map_append,List.map_append,zlz];rfl
 have eg:∀x,gapR (btw l (mvL (0,n) t)) x=gapR (btw l t) x + -(n:Rat):=fun x=>by
  have h:=zgM (0,n) nt x;dsimp only at h;rw [show x+((0:Int):Rat)=x by rw [Rat.intCast_zero,Rat.add_zero]]at h;unfold gapR btw;dsimp only;rw [h]
  grind
 unfold gapT leastR;rw [es,zdt eg (zaD _)]
theorem zbq {l t:List (Int×Int)} (h:(btw l t).lo<(btw l t).hi):freeB l t=true ↔ 0≤gapT l t:=by
 unfold freeB gapT;rw [if_pos h,decide_eq_true_eq];exact⟨zj9,fun h=>Int.sign_nonneg_iff.2 (Rat.num_nonneg.2 h)⟩
section
variable {p o:Pl} (hp:placedOk p=true) (ho:placedOk o=true)
include hp ho
theorem zfb (h1:¬lineR (lowP2 p)≤lineL (lowP2 o)) (h2:¬lineR (lowP2 o)≤lineL (lowP2 p)):(btw (lowP2 p) (upP2 o)).lo<(btw (lowP2 p) (upP2 o)).hi:=by
 have a:=zag hp;have b:=zag ho;unfold btw;dsimp only;omega
theorem zd1 (h:relP p o=3):(btw (lowP2 p) (upP2 o)).lo<(btw (lowP2 p) (upP2 o)).hi∧0≤gapT (lowP2 p) (upP2 o):=by
 unfold relP at h
 split at h
 ·omega
 ·rename_i h1
  split at h
  ·omega
  ·rename_i h2
   have hl:=zfb hp ho h1 h2
   split at h
   ·rename_i h3
    exact⟨hl,(zbq hl).1 h3⟩
   ·split at h<;>omega
theorem zm7 {n:Int} (kp:placedOk (mvP (0,-n) p)=true) (hn:0≤n) (h5:relP p o≠5) (hg:relP p o=3→(n:Rat)≤gapT (lowP2 p) (upP2 o)):relP (mvP (0,-n) p) o=relP p o:=by
 obtain⟨a1,a2,a3,a4,a5⟩:=zag hp;obtain⟨b1,b2,b3,b4,b5⟩:=zag ho;have el:=zaS (0,-n) a4;dsimp only at el;rw [Int.add_zero,Int.add_zero]at el;have e1:=zgn (t:=upP2 o) a4 (-n);have e2:=zkF (l:=lowP2 o) a5 (-n);rw [Rat.intCast_neg]at e1 e2;have hn':(0:Rat)≤(n:Rat):=by exact_mod_cast hn
 unfold relP at h5 hg ⊢;rw [zdc hp kp,zkZ hp kp,el.1,el.2]
 by_cases h1:lineR (lowP2 p)≤lineL (lowP2 o)
 ·rw [if_pos h1,if_pos h1]
 ·by_cases h2:lineR (lowP2 o)≤lineL (lowP2 p)
  ·rw [if_neg h1,if_pos h2,if_neg h1,if_pos h2]
  ·rw [if_neg h1,if_neg h2]at h5 hg ⊢
   rw [if_neg h1,if_neg h2];have l1:(btw (lowP2 p) (upP2 o)).lo<(btw (lowP2 p) (upP2 o)).hi:=zfb hp ho h1 h2;have l2:(btw (lowP2 o) (upP2 p)).lo<(btw (lowP2 o) (upP2 p)).hi:=zfb ho hp h2 h1
   have l1':(btw (mvL (0,-n) (lowP2 p)) (upP2 o)).lo<(btw (mvL (0,-n) (lowP2 p)) (upP2 o)).hi:=by
    unfold btw at l1 ⊢;dsimp only at l1 ⊢;rw [el.1,el.2];exact l1
   have l2':(btw (lowP2 o) (mvL (0,-n) (upP2 p))).lo<(btw (lowP2 o) (mvL (0,-n) (upP2 p))).hi:=by
    have eu:=zaS (0,-n) a5;dsimp only at eu;rw [Int.add_zero,Int.add_zero]at eu;unfold btw at l2 ⊢;dsimp only at l2 ⊢;rw [eu.1,eu.2];exact l2
   by_cases f1:freeB (lowP2 p) (upP2 o)=true
   ·rw [if_pos f1]at hg ⊢
    have hgn:=hg rfl;have f1':freeB (mvL (0,-n) (lowP2 p)) (upP2 o)=true:=(zbq l1').2 (by rw [e1];grind);rw [if_pos f1']
   ·have f1':¬freeB (mvL (0,-n) (lowP2 p)) (upP2 o)=true:=fun h=>by
     have h9:=(zbq l1').1 h;rw [e1]at h9;exact f1 ((zbq l1).2 (by grind))
    rw [if_neg f1]at h5 ⊢;rw [if_neg f1']
    by_cases f2:freeB (lowP2 o) (upP2 p)=true
    ·have f2':freeB (lowP2 o) (mvL (0,-n) (upP2 p))=true:=(zbq l2').2 (by rw [e2];have:=(zbq l2).1 f2;grind)
     rw [if_pos f2,if_pos f2']
    ·rw [if_neg f2]at h5
     exact absurd rfl h5
end
theorem zfC {g:List (Int×Int)} {p:Pl}:∀{ps done:List Pl},laid1 g done ps=0→addE g (done++ps) p=0→laid1 g done (ps++[p])=0
 | [],done,_,h=>by
  rw [List.append_nil]at h
  show laid1 g done [p]=0
  rw [laid1,if_pos h];rfl
 | q::r,done,h0,h=>by
  rw [List.cons_append];unfold laid1 at h0 ⊢
  by_cases c:addE g done q=0
  ·rw [if_pos c]at h0 ⊢
   exact zfC h0 (by rw [List.append_assoc];exact h)
  ·rw [if_neg c]at h0
   exact absurd h0 c
theorem zfD {g:List (Int×Int)} {p:Pl}:∀{ps done:List Pl},laid2 g done ps=0→clearB g (done++ps) p=true→laid2 g done (ps++[p])=0
 | [],done,_,h=>by
  rw [List.append_nil]at h
  show laid2 g done [p]=0
  rw [laid2,if_pos h];rfl
 | q::r,done,h0,h=>by
  rw [List.cons_append];unfold laid2 at h0 ⊢
  by_cases c:clearB g done q=true
  ·rw [if_pos c]at h0 ⊢
   exact zfD h0 (by rw [List.append_assoc];exact h)
  ·rw [if_neg c]at h0
   cases h0
theorem zjk {g:List (Int×Int)} {ps:List Pl} {p:Pl} (h:laidP g ps=0) (hl:ps.length<120) (hp:placedOk p=true) (hh:holdsB g p=true) (hn:ps.any (nameB p.name)=false) (hc:clearB g ps p=true):laidP g (ps++[p])=0:=by
 unfold laidP at h ⊢
 by_cases hg:groundB g=true
 ·rw [if_pos hg]at h ⊢
  rw [if_neg (by omega)]at h;rw [if_neg (by rw [lA,List.length_singleton];omega)]
  by_cases h1:laid1 g [] ps=0
  ·rw [if_pos h1]at h
   have ha:addE g ([]++ps) p=0:=by
    unfold addE;rw [List.nil_append,if_pos hp,if_pos hh,if_neg (by rw [hn];decide)]
   rw [if_pos (zfC h1 ha)];exact zfD h (by rw [List.nil_append];exact hc)
  ·rw [if_neg h1]at h
   exact absurd h h1
 ·rw [if_neg hg]at h
  cases h
def dropP (g:List (Int×Int)) (ps:List Pl) (p:Pl):Int:=(dropR g ps p).floor
set_option linter.unusedSectionVars false
section
variable {g:List (Int×Int)} {ps:List Pl} {p:Pl} (h0:laidP g ps=0) (hp:placedOk p=true) (hh:holdsB g p=true) (hc:clearB g ps p=true)
include h0 hp hh hc
theorem zbI:(btw (lowP2 p) g).lo<(btw (lowP2 p) g).hi:=by
 have a:=zag hp;unfold holdsB at hh;simp only [Bool.and_eq_true,decide_eq_true_eq]at hh;unfold btw;dsimp only;omega
theorem zhb {o:Pl} (ho:o∈ps) (hm:meetB p o=true):relP p o≠5:=by
 unfold clearB at hc;rw [Bool.and_eq_true,Bool.not_eq_true',List.any_eq_false]at hc;intro e;refine hc.2 o ho ?_;unfold clashB;rw [hm,e];rfl
theorem zf3:∀t∈topsP g ps p,0≤gapT (lowP2 p) t:=by
 intro t ht;unfold topsP at ht
 rcases List.mem_cons.1 ht with rfl|ht
 ·refine(zbq (zbI h0 hp hh hc)).1 ?_
  unfold clearB at hc;rw [Bool.and_eq_true]at hc;exact hc.1
 ·obtain⟨o,ho,rfl⟩:=List.mem_map.1 ht
  obtain⟨ho1,ho2⟩:=List.mem_filter.1 ho;rw [Bool.and_eq_true,beq_iff_eq]at ho2;exact(zd1 hp ((zaH h0).1 o ho1) ho2.2).2
theorem ziO:0≤dropP g ps p:=by
 unfold dropP;rw [Rat.le_floor_iff];obtain⟨⟨t,ht,e⟩,_⟩:=zbm (gapT (lowP2 p)) (l:=topsP g ps p) (by unfold topsP;simp);unfold dropR;rw [e,Rat.intCast_zero];exact zf3 h0 hp hh hc t ht
theorem zkf:∀t∈topsP g ps p,((dropP g ps p:Int):Rat)≤gapT (lowP2 p) t:=fun t ht =>
 Rat.le_trans (Rat.floor_le _) ((zbm (gapT (lowP2 p)) (l:=topsP g ps p) (by unfold topsP;simp)).2 t ht)
theorem zgE (kp:placedOk (mvP (0,-dropP g ps p) p)=true):topsP g ps (mvP (0,-dropP g ps p) p)=topsP g ps p∧∀o∈ps,meetB p o=true→relP (mvP (0,-dropP g ps p) p) o=relP p o:=by
 have hn:=ziO h0 hp hh hc;have hle:=zkf h0 hp hh hc;obtain⟨n,en⟩:=gX (dropP g ps p);rw [en]at kp hn hle ⊢;have hm9:∀o,meetB (mvP (0,-n) p) o=meetB p o:=fun o=>rfl
 have key:∀o∈ps,meetB p o=true→relP (mvP (0,-n) p) o=relP p o:=fun o ho hm=>by
  refine zm7 hp ((zaH h0).1 o ho) kp hn (zhb h0 hp hh hc ho hm) fun h3=>?_
  refine hle _ ?_;unfold topsP;refine mC _ (List.mem_map_of_mem (List.mem_filter.2 ⟨ho,?_⟩));rw [hm,h3];rfl
 refine⟨?_,key⟩;unfold topsP;refine congrArg (fun l:List Pl=>g::l.map upP2) (List.filter_congr fun o ho=>?_);rw [hm9]
 by_cases hm:meetB p o=true
 ·exact congrArg (fun z:Int=>meetB p o&&(z==3)) (key o ho hm)
 ·rw [Bool.not_eq_true]at hm
  rw [hm,Bool.false_and,Bool.false_and]
theorem zcQ (kp:placedOk (mvP (0,-dropP g ps p) p)=true):dropP g ps (mvP (0,-dropP g ps p) p)=0∧dropR g ps (mvP (0,-dropP g ps p) p)=dropR g ps p + -((dropP g ps p:Int):Rat):=by
 obtain⟨_,_,_,nl,_⟩:=zag hp
 have e:dropR g ps (mvP (0,-dropP g ps p) p)=dropR g ps p+((-dropP g ps p:Int):Rat):=by
  unfold dropR;rw [(zgE h0 hp hh hc kp).1];refine zhW (fun t=>?_) (by unfold topsP;simp);rw [zdc hp kp,zgn nl]
 refine⟨?_,by rw [e,Rat.intCast_neg]⟩;have e2:dropP g ps (mvP (0,-dropP g ps p) p)=(dropR g ps (mvP (0,-dropP g ps p) p)).floor:=rfl;rw [e2,e,Rat.floor_add_intCast];unfold dropP;omega
theorem zkI (kp:placedOk (mvP (0,-dropP g ps p) p)=true):bedsN g (ps++[mvP (0,-dropP g ps p) p]) ps.length (mvP (0,-dropP g ps p) p) 1 (ps.length+2)≠[]:=by
 obtain⟨_,_,_,nl,_⟩:=zag hp;obtain⟨m,hm⟩:=gX (mvP (0,-dropP g ps p) p);obtain⟨d1,d2⟩:=zcQ h0 hp hh hc kp;obtain⟨t1,t2⟩:=zgE h0 hp hh hc kp;rw [hm]at kp d1 d2 t1 t2 ⊢;have hmm:∀o,meetB m o=meetB p o:=fun o=>by rw [←hm];rfl
 obtain⟨⟨t,ht,e⟩,_⟩:=zbm (gapT (lowP2 m)) (l:=topsP g ps m) (by unfold topsP;simp);have hge:dropR g ps m=gapT (lowP2 m) t:=e;have hf:=Rat.floor_le (dropR g ps m);have hl:=Rat.lt_floor (x:=dropR g ps m);have hfl:(dropR g ps m).floor=0:=d1;rw [hfl,hge]at hf;rw [hfl,hge]at hl
 have hno:reachNo (btw (lowP2 m) t) 1=false:=by
  rw [zcm];refine⟨?_,?_⟩
  ·have:((0:Int):Rat)≤gapT (lowP2 m) t:=hf
   rw [Rat.intCast_zero]at this;exact this
  ·have h9:(leastR (btw (lowP2 m) t)).2=gapT (lowP2 m) t:=rfl
   rw [h9];have:((1:Int):Rat)=1:=rfl
   grind
 have key:∃b:Int,-1≤b∧b<ps.length∧∃be,bedAt g (ps++[m]) ps.length m 1 b=V be:=by
  rw [t1]at ht;unfold topsP at ht
  rcases List.mem_cons.1 ht with e9|ht
  ·rw [e9]at hno
   refine⟨-1,by omega,by omega,?_⟩;unfold bedAt;rw [if_neg (by omega),if_pos (by omega)];refine⟨_,zbf ?_ hno⟩;have a1:=zbI h0 hp hh hc;have el:=zaS (0,-dropP g ps p) nl;rw [←hm,zdc hp (by rw [hm];exact kp)];dsimp only at el;rw [Int.add_zero,Int.add_zero]at el;unfold btw at a1 ⊢;dsimp only at a1 ⊢;rw [el.1,el.2];exact a1
  ·obtain⟨o,ho,rfl⟩:=List.mem_map.1 ht
   obtain⟨ho1,ho2⟩:=List.mem_filter.1 ho;rw [Bool.and_eq_true,beq_iff_eq]at ho2;obtain⟨k,hk,hko⟩:=List.getElem_of_mem ho1;refine⟨(k:Int),by omega,by omega,?_⟩;unfold bedAt;rw [if_neg (by omega),if_neg (by omega),Int.toNat_natCast,List.getElem?_append_left hk,gE hk,hko];dsimp only;rw [if_pos (by rw [hmm];exact ho2.1)];have h3:relP m o=3:=by rw [t2 o ho1 ho2.1];exact ho2.2
   exact⟨_,zbf (zd1 kp ((zaH h0).1 o ho1) h3).1 hno⟩
 obtain⟨b,hb1,hb2,be,hbe⟩:=key;intro h9;unfold bedsN at h9;rw [List.filterMap_eq_nil_iff]at h9;have:=h9 (b+1).toNat (List.mem_range.2 (by omega));rw [show (((b+1).toNat:Nat):Int)-1=b by omega,hbe]at this
 cases this
theorem ziP (hl:ps.length<120) (hn:ps.any (nameB p.name)=false) (kp:placedOk (mvP (0,-dropP g ps p) p)=true):laidP g (ps++[mvP (0,-dropP g ps p) p])=0∧holdsB g (mvP (0,-dropP g ps p) p)=true∧clearB g ps (mvP (0,-dropP g ps p) p)=true:=by
 obtain⟨_,_,_,nl,_⟩:=zag hp;have el:=zaS (0,-dropP g ps p) nl;dsimp only at el;rw [Int.add_zero,Int.add_zero]at el
 have q1:holdsB g (mvP (0,-dropP g ps p) p)=true:=by
  unfold holdsB at hh ⊢;rw [zdc hp kp,el.1,el.2];exact hh
 have q2:clearB g ps (mvP (0,-dropP g ps p) p)=true:=by
  have d:=zcQ h0 hp hh hc kp;have t:=zgE h0 hp hh hc kp;unfold clearB;rw [Bool.and_eq_true,Bool.not_eq_true',List.any_eq_false];refine⟨?_,fun o ho=>?_⟩
  ·have hm2:g∈topsP g ps p:=by unfold topsP;simp
   have h3:=zkf h0 hp hh hc g hm2;have h4:=zgn (t:=g) nl (-dropP g ps p);rw [Rat.intCast_neg]at h4;have a1:=zbI h0 hp hh hc;rw [zdc hp kp];refine(zbq ?_).2 (by rw [h4];grind);unfold btw at a1 ⊢;dsimp only at a1 ⊢;rw [el.1,el.2];exact a1
  ·unfold clashB
   by_cases hm:meetB p o=true
   ·rw [t.2 o ho hm]
    have:=zhb h0 hp hh hc ho hm;rw [Bool.and_eq_true,beq_iff_eq];exact fun h=>this h.2
   ·rw [show meetB (mvP (0,-dropP g ps p) p) o=meetB p o from rfl]
    rw [Bool.and_eq_true];exact fun h=>hm h.1
 exact⟨zjk h0 hl kp q1 hn q2,q1,q2⟩
end
end
end Go.Proofs.YtodpfeaihohpjaaGreatDoor.Cop
