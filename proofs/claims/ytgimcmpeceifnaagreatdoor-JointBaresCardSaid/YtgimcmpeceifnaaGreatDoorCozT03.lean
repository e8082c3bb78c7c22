import Derived.Test.YtgimcmpeceifnaaGreatDoorCozT02
set_option maxRecDepth 1000000
set_option maxHeartbeats 16000000
set_option linter.all false
open Go.Value renaming int->O,slice->I,pointer->J,agg->N,bool->C
open Go.IntKind renaming i64->Y,u8->F
open Go renaming Value->Z,World->X
open Option renaming some->V,none->M
namespace Go.Proofs.YtgimcmpeceifnaaGreatDoor.Cop
section
open Go.RowKit Go.Shelf Go.Sort Go.Lib
def ZX(w:X)(base g n c:Nat)(f:JS->Bool)(js:List (JS×Z))(b:Nat)(t5 d:Z)(W:X):Prop:=
 ∃(m e:Nat)(a:List (JS×Z)),d=O Y (m:Int)/\t5=O Y (e:Int)/\b=js.length-m/\Sn (fun j:JS×Z=>f j.1) js m e a/\Fa 113 15 W base (I (V ⟨g,0,M⟩) n c) (a.map jc)/\Below base w W
def AW(w:X)(base:Nat)(js:List (JS×Z))(e:Ending)(w':X):Prop:=∃v',e=.returned v'/\Fa 113 15 w' base v' (js.map jc)/\Below base w w'
def LX(w:X)(base:Nat)(v:Z)(js:List (JS×Z))(b1 b2:Nat)(f:JS->Bool)(h:Fa 113 15 w base v (js.map jc))(ac:base<=w.heap.size)(aG:js.length<=1000000)(hv:∀j∈js,∃a n c,j.2=I a n c)(hf:∀W,Below base w W->∀j∈js,Calls Tryz.prog 52 #[N (qh j),J (V ⟨b1,0,M⟩),J (V ⟨b2,0,M⟩)] W fun e w'=>e=.returned (C (f j.1))/\Ba W w'):Calls Tryz.prog 51 #[v,.func (.func 52) #[] #[J (V ⟨b1,0,M⟩),J (V ⟨b2,0,M⟩)]] w (AW w base (js.filter fun j=>!f j.1)):=by
 have HI:=Aa (fun W (hW:Ba w W)=>yX W v js b1 b2 f ((h.ext hW).js) (fun W' au j hj=>hf W' ((hW.trans au).belowB ac) j hj));obtain⟨a,n,c,rfl⟩:=h.i;have hl:=h.len;rw[lL]at hl;subst hl;obtain⟨n,hn⟩:=gX js.length;rw[hn]at h HI aG ⊢;have Hn:=Aa hn;have Hf:=Aa hf;obtain⟨R,hR⟩:=gX (AW w base (js.filter fun j=>!f j.1));rw[hR];have HR:=Aa hR;obtain⟨x,hx⟩:=gX (Lc (fun j:JS×Z=>f j.1) js);simp only[hx]at HI;have H:=Aa h;clear hn hf hR;cases hfi:js.findIdx? (fun j:JS×Z=>f j.1)with
 |none=>
  have ex:x = -1:=by rw[<-hx];unfold Lc;rw[hfi]
  subst ex;have ae:js.filter (fun j=>!f j.1)=js:=by
   rw[List.findIdx?_eq_none_iff]at hfi;rw[List.filter_eq_self];intro j hj;simp[hfi j hj]
  rw[ae]at HR;clear hfi hx ae h;go_in;go_wp2_with(go_at_call 88;refine cM (HI.o _ eA) ?_;rintro e w1 ⟨rfl,ab⟩);rw[<-HR.o];exact⟨_,rfl,H.o.ext ab,ab.belowB ac⟩
 | some i0 =>
  have ex:x=(i0:Int):=by rw[<-hx];unfold Lc;rw[hfi]
  subst ex;rw[List.findIdx?_eq_some_iff_getElem]at hfi;obtain⟨ak,ai,ah⟩:=hfi;have an:Sn (fun j:JS×Z=>f j.1) js (i0+1) i0 js:=Sn.start (gE ak) ai (fun j y hj hy=>by
   have:=ah j hj;rw[gE oM]at hy;cases hy;simpa using this)
  have ap:=Aa an;rw[Hn.o]at ak;obtain⟨g,rfl,aj,bs⟩:=h.blk (by rw[lL,Hn.o];omega);have ag:n<=c/\c<=9223372036854775807:=by
   rcases h.2.2 with ⟨h9,_⟩|⟨g',cap,cur,hv,_,_,aH,ay,_⟩
   ·cases h9
   ·cases hv;rw[lL,Hn.o]at aH;unfold maxLen at ay;omega
  obtain⟨av,aw⟩:=ag;have u0:((i0:Int) == -1)=false:=sM;clear ai ah an hx h;go_in;go_wp2_with(go_at_call 88;refine cM (HI.o _ eA) ?_;rintro e w1 ⟨rfl,ab⟩);go_loopg [5,6] (n-(i0+1)) (ZX w base g n c f js)
  case atStart=>exact⟨i0+1,i0,js,by go_num,rfl,by rw[Hn.o],ap.o,H.o.ext ab,ab.belowB ac⟩
  case round =>
   clear ab;obtain⟨m,q,ys,rfl,rfl,rfl,hL,b,hB⟩:=hrel;have aE:=hL.2.1;have aF:=hL.2.2.1;rw[Hn.o]at aF;have HL:=Aa hL;have r:=Aa b;have HB:=Aa hB;have ad:=hB.size;by_cases bt:m<n
   ·obtain⟨⟨⟨⟨nm,sh,d,de,gx,gz,wy,ax,az,sk⟩,k,⟨xl,xh⟩,zl,zh⟩,v⟩,hq⟩:∃q,js[m]?=V q:=⟨js[m]'(by rw[Hn.o];omega),by simp⟩;obtain⟨va,vn,vc,ao⟩:=hv _ (lM hq);dsimp only at ao;subst ao;have s:=hL.2.2.2.2 m (nE _);rw[hq]at s;have aq:=b.cell (i:=m) (j:=0) (u:=.string nm) (by rw[lP,s];rfl) rfl;have aZ:=b.cell (i:=m) (j:=1) (u:=I va vn vc) (by rw[lP,s];rfl) rfl;have a0:=b.cell (i:=m) (j:=2) (u:=O Y d) (by rw[lP,s];rfl) rfl;have a1:=b.cell (i:=m) (j:=3) (u:=O Y de) (by rw[lP,s];rfl) rfl;have a2:=b.cell (i:=m) (j:=4) (u:=O Y gx) (by rw[lP,s];rfl) rfl;have a3:=b.cell (i:=m) (j:=5) (u:=O Y gz) (by rw[lP,s];rfl) rfl;have a4:=b.cell (i:=m) (j:=6) (u:=O Y wy) (by rw[lP,s];rfl) rfl;have a5:=b.cell (i:=m) (j:=7) (u:=O Y ax) (by rw[lP,s];rfl) rfl;have a6:=b.cell (i:=m) (j:=8) (u:=O Y az) (by rw[lP,s];rfl) rfl;have a7:=b.cell (i:=m) (j:=9) (u:=O F sk) (by rw[lP,s];rfl) rfl;have aI:=b.cell (i:=m) (j:=10) (u:=O Y k) (by rw[lP,s];rfl) rfl;have aJ:=b.cell (i:=m) (j:=11) (u:=O Y xl) (by rw[lP,s];rfl) rfl;have aK:=b.cell (i:=m) (j:=12) (u:=O Y xh) (by rw[lP,s];rfl) rfl;have aL:=b.cell (i:=m) (j:=13) (u:=O Y zl) (by rw[lP,s];rfl) rfl;have aM:=b.cell (i:=m) (j:=14) (u:=O Y zh) (by rw[lP,s];rfl) rfl;simp only[Nat.add_zero]at aq;have HC:=Aa (fun W (hW:Ba wr W)=>Hf.o W (Below.trans hB (hW.belowB (nT ac ad))) _ (lM hq));obtain⟨fp,f7⟩:=gX (f ⟨⟨nm,sh,d,de,gx,gz,wy,ax,az,sk⟩,k,⟨xl,xh⟩,zl,zh⟩);rw[f7]at HC;have F7:=Aa f7;unfold qh at HC;dsimp only at HC;have Hq:=Aa hq;have zg:=(b.lt g rfl).2;have p0:(0:Int)<=(q:Int):=oM;have p1:(q:Int)<(n:Int):=oM;clear hq s f7 hL b hB;cases fp with
    |true=>
     go_wp2_with(((go_at_call 52;refine cM (HC.o _ eA) ?_;rintro e w1 ⟨rfl,ab⟩)));go_roundg (n-(m+1))
     case measure=>have:=Hn.o;omega
     case rel =>
      have X1:Ba wr w1:=((eR wr).alloc _).trans ab;exact⟨m+1,q,ys,by go_num,rfl,by rw[Hn.o],HL.o.drop Hq.o F7.o,r.o.ext X1,Below.trans HB.o (X1.belowB (nT ac ad))⟩
    |false=>
     obtain⟨jq,al⟩:∃jq,ys[q]?=V jq:=⟨_,gE (by rw[HL.o.1,Hn.o];omega)⟩;have aa:=Aa al;clear al;go_wp2_with(((go_at_call 52;refine cM (HC.o _ eA) ?_;rintro e w1 ⟨rfl,ab⟩;(have X1:Ba wr w1:=((eR wr).alloc _).trans ab);have K1:=ab.e (aN wr (.cells #[.string nm,I va vn vc,O Y d,O Y de,O Y gx,O Y gz,O Y wy,O Y ax,O Y az,O F sk,O Y k,O Y xl,O Y xh,O Y zl,O Y zh] 113));have gf:=(r.o.ext X1).frozen;have bi:=Da K1 (i:=0) (u:=.string nm) rfl;have bj:=Da K1 (i:=1) (u:=I va vn vc) rfl;have bk:=Da K1 (i:=2) (u:=O Y d) rfl;have bl:=Da K1 (i:=3) (u:=O Y de) rfl;have bm:=Da K1 (i:=4) (u:=O Y gx) rfl;have bn:=Da K1 (i:=5) (u:=O Y gz) rfl;have bo:=Da K1 (i:=6) (u:=O Y wy) rfl;have bp:=Da K1 (i:=7) (u:=O Y ax) rfl;have bq:=Da K1 (i:=8) (u:=O Y az) rfl;have br:=Da K1 (i:=9) (u:=O F sk) rfl;have aT:=Da K1 (i:=10) (u:=O Y k) rfl;have aU:=Da K1 (i:=11) (u:=O Y xl) rfl;have aV:=Da K1 (i:=12) (u:=O Y xh) rfl;have aW:=Da K1 (i:=13) (u:=O Y zl) rfl;have aX:=Da K1 (i:=14) (u:=O Y zh) rfl;have ar:=(r.o.ext X1).cell (i:=q) (j:=0) (d:=jc jq) (u:=.string jq.1.p.name) (by rw[lP,aa.o];rfl) rfl;have a8:=(r.o.ext X1).cell (i:=q) (j:=1) (d:=jc jq) (u:=jq.2) (by rw[lP,aa.o];rfl) rfl;have a9:=(r.o.ext X1).cell (i:=q) (j:=2) (d:=jc jq) (u:=O Y jq.1.p.depth) (by rw[lP,aa.o];rfl) rfl;have ba:=(r.o.ext X1).cell (i:=q) (j:=3) (d:=jc jq) (u:=O Y jq.1.p.density) (by rw[lP,aa.o];rfl) rfl;have bb:=(r.o.ext X1).cell (i:=q) (j:=4) (d:=jc jq) (u:=O Y jq.1.p.gx) (by rw[lP,aa.o];rfl) rfl;have bc:=(r.o.ext X1).cell (i:=q) (j:=5) (d:=jc jq) (u:=O Y jq.1.p.gz) (by rw[lP,aa.o];rfl) rfl;have be:=(r.o.ext X1).cell (i:=q) (j:=6) (d:=jc jq) (u:=O Y jq.1.p.way) (by rw[lP,aa.o];rfl) rfl;have bf:=(r.o.ext X1).cell (i:=q) (j:=7) (d:=jc jq) (u:=O Y jq.1.p.ax) (by rw[lP,aa.o];rfl) rfl;have bg:=(r.o.ext X1).cell (i:=q) (j:=8) (d:=jc jq) (u:=O Y jq.1.p.az) (by rw[lP,aa.o];rfl) rfl;have bh:=(r.o.ext X1).cell (i:=q) (j:=9) (d:=jc jq) (u:=O F jq.1.p.skin) (by rw[lP,aa.o];rfl) rfl;have aO:=(r.o.ext X1).cell (i:=q) (j:=10) (d:=jc jq) (u:=O Y jq.1.k) (by rw[lP,aa.o];rfl) rfl;have aP:=(r.o.ext X1).cell (i:=q) (j:=11) (d:=jc jq) (u:=O Y jq.1.x.1) (by rw[lP,aa.o];rfl) rfl;have aQ:=(r.o.ext X1).cell (i:=q) (j:=12) (d:=jc jq) (u:=O Y jq.1.x.2) (by rw[lP,aa.o];rfl) rfl;have aR:=(r.o.ext X1).cell (i:=q) (j:=13) (d:=jc jq) (u:=O Y jq.1.z.1) (by rw[lP,aa.o];rfl) rfl;have aS:=(r.o.ext X1).cell (i:=q) (j:=14) (d:=jc jq) (u:=O Y jq.1.z.2) (by rw[lP,aa.o];rfl) rfl;simp only[Nat.add_zero]at ar)));go_roundg (n-(m+1))
     case measure=>have:=Hn.o;omega
     case rel =>
      have hd:∃d,(ys.map jc)[q]?=V d:=⟨_,gE (by rw[lL,HL.o.1,Hn.o];omega)⟩;obtain⟨d0,aA⟩:=hd;have hp:=Fa.putAll (j:=0) (us:=[.string nm,I va vn vc,O Y d,O Y de,O Y gx,O Y gz,O Y wy,O Y ax,O Y az,O F sk,O Y k,O Y xl,O Y xh,O Y zl,O Y zh]) (r.o.ext X1) aA rfl;(have hm:(ys.set q (⟨⟨nm,sh,d,de,gx,gz,wy,ax,az,sk⟩,k,⟨xl,xh⟩,zl,zh⟩,I va vn vc)).map jc=(ys.map jc).set q [.string nm,I va vn vc,O Y d,O Y de,O Y gx,O Y gz,O Y wy,O Y ax,O Y az,O F sk,O Y k,O Y xl,O Y xh,O Y zl,O Y zh]:=by rw[List.map_set];rfl);rw[List.take_zero,List.nil_append,<-hm]at hp;have aD:=lX (g:=g) (us:=[.string nm,I va vn vc,O Y d,O Y de,O Y gx,O Y gz,O Y wy,O Y ax,O Y az,O F sk,O Y k,O Y xl,O Y xh,O Y zl,O Y zh]) (o:=q*15+0) (World.grownBy.refl w1 (V g));have af:=Yg (base:=base) aD (nT ac (nT ad X1.size)) (fun k hk=>by cases hk;exact aj);exact⟨m+1,q+1,_,by go_num,by go_num,by rw[Hn.o],HL.o.keep Hq.o F7.o,hp,Below.trans (Below.trans HB.o (X1.belowB (nT ac ad))) af⟩
   ·obtain rfl:m=n:=oM;have aB:ys.take q=js.filter (fun j:JS×Z=>!f j.1):=by
     have h2:=hL.2.2.2.1;rw[lT (l:=js) (by rw[Hn.o];exact nE _)]at h2;exact h2
    obtain⟨wc,aY,am,aC⟩:=UE (P:=Tryz.prog) (t:=87) (z:=N iq) (w:=wr) (o:=q*15) (c2:=c-q) (fun w=>Tryz.zeroValue113 w) rfl (by simp[Value.cells,iq];decide) Tryz.underlying87 b aE rfl;have c1:(0:Int)<=(q:Int):=oM;have c2:(q:Int)<=(m:Int):=oM;have c3:(m:Int)<=(c:Int):=oM;have c4:(q:Int)<(c:Int):=oM;have c5:q<c:=oM;have af:=Yg (base:=base) aC (nT ac ad) (fun k hk=>by cases hk;exact aj);clear hL;go_wp2;rw[<-HR.o];refine⟨_,rfl,?_,Below.trans HB.o af⟩;rw[<-List.map_take,aB]at am;exact am
end
section
open Go.RowKit Go.Shelf Go.Sort
def CW(p q:JS×Z):Int:=p.1.x.1-q.1.x.1
instance:Inhabited {j // BJ j}:=⟨⟨(⟨⟨⟨#[]⟩,[],0,0,0,0,0,0,0,0⟩,0,(0,0),(0,0)⟩,I M 0 0),⟨by unfold Bd;decide,_,_,_,rfl⟩⟩⟩
def GW(x y:{j // BJ j}):ltOf (fun x y:{j // BJ j}=>CW x.1 y.1) x y=decide (x.1.1.x.1<y.1.1.x.1):=by unfold ltOf CW;rw[decide_eq_decide];dsimp only;omega
def IW:SWO (ltOf fun x y:{j // BJ j}=>CW x.1 y.1) where
 irrefl x:=by rw[GW];simp
 trans x y z h1 h2:=by rw[GW]at *;simp only[decide_eq_true_eq]at *;omega
 ntrans x y z h1 h2:=by rw[GW]at *;simp only[decide_eq_false_iff_not]at *;omega
def BX(x y:{j // BJ j})(W:X):Calls Tryz.prog 55 #[N (qh x.1),N (qh y.1)] W fun e w'=>e=.returned (O Y (CW x.1 y.1))/\∃q os',w'=grow (W.drewN q) os':=by obtain⟨⟨⟨⟨nm,sh,d,de,gx,gz,wy,ax,az,sk⟩,k,⟨l,xh⟩,zl,zh⟩,v⟩,⟨b,c⟩,va,vn,vc,hv⟩:=x;obtain⟨⟨⟨⟨s,t,d',o,p,r,aa,m,n,u⟩,k',⟨a,ab⟩,ad,ac⟩,v'⟩,⟨f,g⟩,w,R,z,i⟩:=y;dsimp only at hv i ⊢;subst hv i;replace b:-1000000<=l:=b;replace c:l<=1000000:=c;replace f:-1000000<=a:=f;replace g:a<=1000000:=g;unfold CW qh;dsimp only;have d1:-9223372036854775808<=l-a:=oM;have d2:l-a<=9223372036854775807:=oM;clear b c f g;go_in;go_wp2;go_ret;exact⟨rfl,0,_,by rw[alloc_eq_grow,alloc_eq_grow,grow_grow];rfl⟩
def xW(blk a size:Nat)(w:X):CmpLays Tryz.prog 55 #[] (fun x:{j // BJ j}=>jc x.1) 15 (fun x y=>CW x.1 y.1) blk a size w:=
 fun _ _ _ _ x y=>BX x y _
def FW(w:X)(base g n c:Nat)(js:List (JS×Z))(e:Ending)(w':X):Prop:=
 e=.returned (.tuple #[])/\∃js':List (JS×Z),js'.Perm js/\js'.Pairwise (fun a b=>a.1.x.1<=b.1.x.1)/\Fa 113 15 w' base (I (V ⟨g,0,M⟩) n c) (js'.map jc)/\w.grownBy w' (V g)
def PX(w:X)(base g n c:Nat)(js:List (JS×Z))(h:Fa 113 15 w base (I (V ⟨g,0,M⟩) n c) (js.map jc))(r:∀j∈js,BJ j)(aa:js.length<=1000000):Calls Tryz.prog 54 #[I (V ⟨g,0,M⟩) n c,.func (.func 55) #[] #[]] w (FW w base g n c js):=by
 have R:=h.len;rw[lL]at R;obtain⟨d,s⟩:=gX ((js.attachWith BJ r).toArray);have b:d.size=n:=by rw[<-s,R,List.size_toArray];exact List.length_attachWith
 have f:d.toList.map (·.1)=js:=by rw[<-s];exact At r
 have l:d.toList.map (fun x=>jc x.1)=js.map jc:=by
  rw[show (fun x:{j // BJ j}=>jc x.1)=jc ∘ (·.1)from rfl,<-List.map_map,f]
 have hg:=(h.lt g rfl).2;have eg:∀args w,(callFunc 55 args).run Tryz.prog w = .ok (.enter 55 args) w:=enters_of Tryz.func55 kM rfl;have q:Fa 113 15 w base (I (V ⟨g,0,M⟩) n c) (d.toList.map fun x=>jc x.1):=by rw[l];exact h
 have hH:=VF (enc:=fun x:{j // BJ j}=>jc x.1) (fun _=>rfl) q;have hO:∀x:{j // BJ j},∀v∈jc x.1,v.oneCell'=true:=fun x v hv=>by
  obtain⟨⟨j,u⟩,_,a,n,c,hu⟩:=x;dsimp only at hu;subst hu;simp[jc,qh]at hv;rcases hv with rfl|rfl|rfl|rfl|rfl|rfl|rfl|rfl|rfl|rfl|rfl|rfl|rfl|rfl|rfl<;>rfl
 have W:=AnyQ.slices_SortFunc (P:=Tryz.prog) (ρ:=Tryz.sortStone_ren) Tryz.sortStone 15 Tryz.isAgg113 Tryz.sizeOf113 (fun x:{j // BJ j}=>jc x.1) (fun _=>rfl) hO (fun x y=>CW x.1 y.1) IW 55 #[] g 0 c d w eg (xW g 0 d.size w) hH hg oM;rw[b]at W;refine W.mono ?_;rintro e w' ⟨rfl,d',m,os,⟨q1,_,p⟩,hs,rfl⟩;rw[<-b]at p hs;have q4:d'.toList.Perm d.toList:=by
  have e1:d'.extract 0 d.size=d':=by rw[<-q1];exact Array.extract_size
  rw[e1,Array.extract_size]at p;exact p
 refine⟨rfl,d'.toList.map (·.1),?_,?_,?_,WC _⟩
 ·rw[<-f];exact q4.map _
 ·rw[List.pairwise_map,List.pairwise_iff_getElem];intro i j t z o;simp at t z;have k:=hs i j (Nat.zero_le _) o oM;rw[GW,getElem!_pos d' i t,getElem!_pos d' j z]at k;simp at k;simpa using k
 ·have:=OF (m:=m) (os:=os) (enc:=fun x:{j // BJ j}=>jc x.1) (fun _=>rfl) (d':=d') q q1;rw[List.map_map];exact this
def CR(hi:Int)(o:Int×Int)(j:JS):Int×Int:=(max o.1 (min j.x.1 hi-o.2),max o.2 j.x.2)
def FJ(lo hi:Int)(js:List JS):Int:=max (js.foldl (CR hi) (0,lo)).1 (hi-(js.foldl (CR hi) (0,lo)).2)
def uX(hi:Int)(o:Int×Int)(js:List JS)(j:JS):(js++[j]).foldl (CR hi) o=CR hi (js.foldl (CR hi) o) j:=sM
def mn(b t lo hi:Int)(g:LP)(ps:List Pl):Int:=
 if Fb g ps=0 then (if t<=b\/hi<=lo\/[b,t,lo,hi].any Uc=true then 2 else 0)else Fb g ps
def xb(b t:Int)(ps:List Pl):List JS:=(Me ps).filter fun j=>!uW b t j
def vW(w:X)(b t lo hi:Int)(g:LP)(ps:List Pl)(e:Ending)(w':X):Prop:=
 (mn b t lo hi g ps≠0/\e=.returned (.tuple #[O Y 0,O Y (mn b t lo hi g ps)])/\Ba w w') \/
 (mn b t lo hi g ps=0/\∃js:List JS,js.Perm (xb b t ps)/\js.Pairwise (fun x y=>x.x.1<=y.x.1)/\e=.returned (.tuple #[O Y (FJ lo hi js),O Y 0])/\Ba w w')
def oX{k hi:Int}{js:List JS}(d:Bd k hi)(h:∀j∈js,Bd k j.x.1/\Bd k j.x.2){o:Int×Int}(a:Bd (2*k) o.1/\Bd k o.2):Bd (2*k) (js.foldl (CR hi) o).1/\Bd k (js.foldl (CR hi) o).2:=by
 induction js generalizing o with
 | nil=>exact a
 | cons j js c =>
  refine c (fun z b=>h z (mC _ b)) ?_;have:=h j sM;unfold CR;unfold Bd at *;dsimp only;omega
def WW(W:X){k:Nat}(b:k=W.heap.size)(x y z u:Int):Ae (W.alloc (.cells #[O Y x,O Y y,O Y z,O Y u] 3)) (I (V ⟨k,0,M⟩) 4 4) [x,y,z,u]:=by
 subst b;refine⟨[[O Y x],[O Y y],[O Y z],[O Y u]],rfl,by simp,⟨by simp,V ⟨W.heap.size,0,M⟩,4,rfl,nE _,by unfold maxLen;omega,.inr ⟨W.heap.size,0,_,(0,0),rfl,aN _ _,?_⟩⟩,?_⟩
 ·intro i v hv;simpa using hv
 ·intro i c v a hv
  match i,a,hv with
  | 0,a,hv=>simp at a hv;subst a hv;rfl
  | 1,a,hv=>simp at a hv;subst a hv;rfl
  | 2,a,hv=>simp at a hv;subst a hv;rfl
  | 3,a,hv=>simp at a hv;subst a hv;rfl
  | i+4,a,hv=>simp at a
def CX(w:X)(n o:Z)(g:LP)(ps:List Pl)(b t lo hi:Int)(l:Ja w n g)(m:Jd w o ps)(c:Gw w)(a:Fb g ps≠0):Calls Tryz.prog 20 #[N #[n,o],O Y b,O Y t,O Y lo,O Y hi] w (vW w b t lo hi g ps):=by
 have p:=Aa (fun W (i:Ba w W)=>My W n o g ps (l.f i) (m.f i) (c.ext i));obtain⟨x,z,y,rfl⟩:=Ma l;obtain⟨pa,pn,v,rfl⟩:=Ma m;obtain⟨R,f⟩:=gX (vW w b t lo hi g ps);rw[f];have s:=Aa f;have j:mn b t lo hi g ps=Fb g ps:=by unfold mn;rw[if_neg a]
 obtain⟨k,r⟩:=gX (Fb g ps);rw[r]at j a p;have q:=Aa j;have d:=Aa a;have u0:(k != 0)=true:=by simpa using a
 clear l m c f j a r;go_in;go_wp2_with(go_at_call 48;refine cM (p.o _ eA) ?_;rintro e w3 ⟨rfl,u⟩);rw[<-s.o];exact .inl ⟨by rw[q.o];exact d.o,by rw[q.o];rfl,eA⟩
def DX(w:X)(r s:Z)(g:LP)(ps:List Pl)(b t lo hi:Int)(p:Ja w r g)(q:Jd w s ps)(j:Gw w)(m:Fb g ps=0)(a:t<=b\/hi<=lo\/[b,t,lo,hi].any Uc=true):Calls Tryz.prog 20 #[N #[r,s],O Y b,O Y t,O Y lo,O Y hi] w (vW w b t lo hi g ps):=by
 have k:=Aa (fun W (o:Ba w W)=>My W r s g ps (p.f o) (q.f o) (j.ext o));obtain⟨ga,gn,gc,rfl⟩:=Ma p;obtain⟨pa,pn,ab,rfl⟩:=Ma q;obtain⟨R,n⟩:=gX (vW w b t lo hi g ps);rw[n];have l:=Aa n;have v:mn b t lo hi g ps=2:=by unfold mn;rw[if_pos m,if_pos a]
 rw[m]at k;have d:=Aa v;clear p q j n v m;by_cases z:t<=b
 ·clear a;go_in;go_wp2_with(go_at_call 48;refine cM (k.o _ eA) ?_;rintro e x ⟨rfl,c⟩;obtain⟨f,i⟩:=c.cells);rw[<-l.o];exact .inl ⟨by rw[d.o];decide,by rw[d.o];rfl,eA⟩
 by_cases c2:hi<=lo
 ·clear a;go_in;go_wp2_with(go_at_call 48;refine cM (k.o _ eA) ?_;rintro e x ⟨rfl,c⟩;obtain⟨f,i⟩:=c.cells);rw[<-l.o];exact .inl ⟨by rw[d.o];decide,by rw[d.o];rfl,eA⟩
 ·have u:[b,t,lo,hi].any Uc=true:=by
   rcases a with h|h|h
   ·exact absurd h z
   ·exact absurd h c2
   ·exact h
  have y:=Aa u;clear a u;go_in;go_wp2_with(first|(go_at_call 48;refine cM (k.o _ eA) ?_;rintro e x ⟨rfl,c⟩;obtain⟨f,i⟩:=c.cells)|(go_at_call 37;(with_reducible refine(iX _ _ [b,t,lo,hi] (WW _ rfl b t lo hi)).mono ?_);rw[y.o];rintro e w4 ⟨rfl,aa⟩));rw[<-l.o];exact .inl ⟨by rw[d.o];decide,by rw[d.o];rfl,eA⟩
def iY(w:X)(v:Z)(lo hi:Int)(js:List (JS×Z))(c:Nat)(a b t51:Z)(W:X):Prop:=
 ∃i:Nat,i<=js.length/\t51=O Y i/\c=js.length-i/\a=O Y (((js.take i).map Prod.fst).foldl (CR hi) (0,lo)).1/\b=O Y (((js.take i).map Prod.fst).foldl (CR hi) (0,lo)).2/\Ba w W/\Fe W v js
def VW(S:List JS)(lo hi:Int):∀(rest:List JS)(o:Int×Int),(∀y∈S,y∈rest\/y.x.2<=o.2)->(∀y∈rest,y∈S)->rest.Pairwise (fun x y=>x.x.1<=y.x.1)->lo<=o.2->0<=o.1 ->(∀u v,lo<=u->v<=hi->u<=v->Tn S u v->v-u<=o.1\/o.2<=u)->(o.1=0\/∃u v,lo<=u/\v<=hi/\u<=v/\Tn S u v/\o.1=v-u)->lo<=hi ->Zc lo hi S (max (rest.foldl (CR hi) o).1 (hi-(rest.foldl (CR hi) o).2))
 | [],o,b,d,m,e,q,h6,f,n=>by
  simp only[List.foldl_nil];refine⟨by omega,fun u v k hv a c=>?_,?_⟩
  ·rcases h6 u v k hv a c with h|h<;>omega
  ·by_cases g:hi-o.2<=o.1
   ·rw[Int.max_eq_left g];exact f
   ·rw[Int.max_eq_right (by omega)];refine .inr ⟨o.2,hi,e,Int.le_refl _,by omega,fun j i=>?_,rfl⟩;rcases b j i with h|h
    ·cases h
    ·exact .inl h
 | x::rest,o,b,d,m,e,q,h6,f,n=>by
  rw[List.foldl_cons];have p:=List.pairwise_cons.1 m;refine VW S lo hi rest (CR hi o x) ?_ (fun y l=>d y (mC _ l)) p.2 (by unfold CR;dsimp only;omega) (by unfold CR;dsimp only;omega) ?_ ?_ n
  ·intro y l;rcases b y l with h|h
   ·rcases List.mem_cons.1 h with rfl|h
    ·exact .inr (by unfold CR;dsimp only;omega)
    ·exact .inl h
   ·exact .inr (by unfold CR;dsimp only;omega)
  ·intro u v k hv a c;have r:=c x (d x sM);unfold CR;dsimp only;rcases h6 u v k hv a c with h|h<;>omega
  ·unfold CR;dsimp only;by_cases g:min x.x.1 hi-o.2<=o.1
   ·rw[Int.max_eq_left g];exact f
   ·rw[Int.max_eq_right oM];refine .inr ⟨o.2,min x.x.1 hi,e,by omega,by omega,fun j i=>?_,rfl⟩;rcases b j i with h|h
    ·rcases List.mem_cons.1 h with rfl|h
     ·exact .inr oM
     ·have:=p.1 j h;exact .inr oM
    ·exact .inl h
def OX{lo hi:Int}{js:List JS}(h:js.Pairwise (fun x y=>x.x.1<=y.x.1))(a:lo<=hi):Zc lo hi js (FJ lo hi js):=by unfold FJ;refine VW js lo hi js (0,lo) (fun y c=>.inl c) (fun _ h=>h) h (Int.le_refl _) (Int.le_refl _) (fun u v b _ _ _=>.inr b) (.inl rfl) a
