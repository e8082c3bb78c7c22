/- Part 30: contracts of what the law calls. -/
import Derived.Test.YteipgejmhfpkaaaGreatDoorCopA28
import Derived.Test.YteipgejmhfpkaaaGreatDoorCopA18
import Derived.Test.YteipgejmhfpkaaaGreatDoorCopA16
set_option maxRecDepth 1000000
set_option maxHeartbeats 16000000
set_option linter.unusedSimpArgs false
set_option linter.unusedVariables false
open Go.Value renaming slice→O,int→Y,agg→E
open Go.IntKind renaming i64→Z
open Option renaming none→X,some→V
open Go renaming World→I,Value→J
open Go.Obj renaming cells→M
namespace Go.Proofs.YteipgejmhfpkaaaGreatDoor.Cop
section
open Go.RowKit Go.Shelf Go.Sort Go.Lib

theorem IsJs.rdd {w:I} {v:J} {js:List (JS×J)} (h:IsJs w v js):Rd w 127 15 v (js.map jc).length (js.map jc).flatten:=by
 obtain⟨cs,h1,h2,h3,h4⟩:=h
 have e:cs=js.map jc:=by
  apply List.ext_getElem?
  intro i;rw [lP]
  cases hc:cs[i]? with
  | none =>
   rw [List.getElem?_eq_none_iff]at hc;rw [List.getElem?_eq_none (by omega)];rfl
  | some c =>
   have hi:=(lS.1 hc).1;have hj:js[i]?=V (js[i]'(by omega)):=gE _;have:=h4 i c _ hc hj;rw [hj,Option.map_some,this]
 rw [←e,h1];exact h3
theorem zfH (W:I) (T:TypeId) (k:Nat) (base:Nat) (h:base≤W.heap.size):OwnC T k (W.alloc (M #[] T)) base (O (V ⟨W.heap.size,0,X⟩) 0 0) []:=
 ⟨fun c hc=>by simp at hc,by simp,.inr ⟨W.heap.size,0,_,rfl,h,aN _ _,by simp,by unfold maxLen;omega,by simp,by simp⟩⟩
theorem zi4 (w:I) (v:J) (js:List (JS×J)) (h:IsJs w v js) (hne:0<js.length) (hv:∀j∈js,∃a n c,j.2=O a n c) (hn9:js.length≤1000000) :
  Calls Tryz.prog 56 #[v] w fun e w'=>∃v',e = .returned v'∧OwnC 127 15 w' w.heap.size v' (js.map jc)∧Ext w w':=by
 have hrd:=h.rdd;obtain⟨a,c,rfl⟩:=h.form;obtain⟨b,o,rfl,hb,-⟩:=h.at' (i:=0) (j:=js[0]'hne) (gE hne)
 have hl:∀c∈js.map jc,c.length=15:=fun c hc=>by
  obtain⟨j,_,rfl⟩:=List.mem_map.1 hc;simp [jc,jca]
 have h1:∀u∈(js.map jc).flatten,u.oneCell'=true:=fun u hu=>by
  obtain⟨l,hl,hu⟩:=List.mem_flatten.1 hu;obtain⟨j,hj,rfl⟩:=List.mem_map.1 hl;exact zoN (hv j hj) u hu
 obtain⟨n,hn⟩:=gX js.length;rw [hn]at hrd hn9 ⊢;have hl9:([]:List (List J)).length+(js.map jc).length≤100000000000:=by rw [lL,hn];simp;omega
 clear h hv;go_enter Tryz.func56,Tryz.ntmps56;have hrd2:Rd (w.alloc (M #[] 127)) 127 15 (O (V ⟨b,o,X⟩) n c) (js.map jc).length (js.map jc).flatten:=Rd.ext hrd ((eR w).alloc _);have hnl:=fun W=>Lib.run_eql_slice_nil (P:=Tryz.prog) W 111 127 (V ⟨b,o,X⟩) n c 0 0 Tryz.underlying111
 go_wp2_with(at_builtin;refine appS (T:=127) (t:=111) (z:=E js0) (k:=15) (bytes:=144) (base:=w.heap.size) (v:=O (V ⟨w.heap.size,0,X⟩) 0 0) (cs:=[]) zdK rfl (by decide) (by decide) Tryz.underlying111 rfl _ _ rfl rfl (zfH w _ 15 w.heap.size (nE _)) rfl (js.map jc) hl hrd2 h1 hl9 (by simp) ?_;intro v' w1 hown hgrow hlie;obtain⟨a3,n3,c3,rfl⟩:=hown.form3)
 go_ret;refine⟨_,rfl,hown,?_⟩;exact zdh ((eR w).alloc _) hgrow (nE _)
theorem zlu (w:I) (x:JS×J) (b:Nat) (z:Int) (cs:Array J) (hv:∃a n c,x.2=O a n c) (hb:w.heap[b]?=V (M cs 60 (0,0))) (h0:cs[0]?=V (Y Z z)) :
  Calls Tryz.prog 58 #[E (jca x),.pointer (V ⟨b,0,X⟩)] w fun e w'=>e = .returned (.bool ((x.1.k:Int)==z))∧Ext w w':=by
 obtain⟨⟨⟨nm,sh,d,de,gx,gz,wy,ax,az,sk⟩,k,⟨xl,xh⟩,zl,zh⟩,v⟩:=x;obtain⟨va,vn,vc,rfl⟩:=hv;have c0:=qcB hb (i:=0) (u:=Y Z z) h0;have zb:=zab hb;have zb1:b<w.heap.size+1:=by omega
 clear hb;unfold jca;dsimp only;go_enter Tryz.func58,Tryz.ntmps58;go_wp2;go_ret;exact⟨rfl,eA⟩
end
section
open Go.RowKit Go.Shelf Go.Maps Go.Sort Go.Lib
attribute [local go_sem] Oper.semAt_some
theorem zhq (w:I) (b g n:Nat) (os:List Int) (z:Int) (hb:w.heap[b]?=V (M #[O (V ⟨g,0,X⟩) n n] 36 (0,0))) (hos:IsIs w (O (V ⟨g,0,X⟩) n n) os) (h0:0≤z) (h1:z<n) :
  Calls Tryz.prog 60 #[Y Z z,.pointer (V ⟨b,0,X⟩)] w fun e w'=>e = .returned (.bool (os.getD z.toNat 0==0))∧Ext w w':=by
 have hl:=hos.len;obtain⟨i,rfl⟩:∃i:Nat,z=(i:Int):=⟨z.toNat,by omega⟩;obtain⟨y,hy⟩:∃y,os[i]?=V y:=⟨os[i]'(by omega),gE _⟩;obtain⟨b',o',e,hb',d0⟩:=hos.at' hy
 cases e
 have c0:=qcB hb (i:=0) (u:=O (V ⟨g,0,X⟩) n n) rfl;have ey:os.getD ((i:Int)).toNat 0=y:=by rw [gD,Int.toNat_natCast,hy];rfl
 rw [ey];have hi3:i<n:=by omega
 clear hos hl hy ey hb;simp only [Nat.zero_add]at d0;go_enter Tryz.func60,Tryz.ntmps60;go_wp2;go_ret;exact⟨rfl,eR _⟩
theorem OwnC.put1 {w:I} {base g n c i:Nat} {os:List Int} (h:OwnC 3 1 w base (O (V ⟨g,0,X⟩) n c) (os.map ic)) (hi:i<os.length) (z:Int) :
  OwnC 3 1 (w.setCell ⟨g,i,X⟩ (Y Z z)) base (O (V ⟨g,0,X⟩) n c) ((os.set i z).map ic):=by
 have h2:=OwnC.putAll (j:=0) (us:=[Y Z z]) h (i:=i) (d:=ic (os[i])) (by rw [lP,gE hi];rfl) rfl;rw [List.map_set]
 simpa [setL,ic] using h2
theorem OwnC.frz {T:TypeId} {k:Nat} {w:I} {base g n c:Nat} {cs:List (List J)} (h:OwnC T k w base (O (V ⟨g,0,X⟩) n c) cs):∃cur,w.heap[g]?=V (M cur T (0,0)):=by
 rcases h.2.2 with ⟨h9,_⟩|⟨g',cap,cur,hv,_,hh,_⟩
 ·cases h9
 ·cases hv;exact⟨cur,hh⟩
def topC (os:List Int) (L:List Int):Int:=L.foldl (fun o z=>max o (os.getD z.toNat 0)) 0
theorem zkT (os L:List Int) (z:Int):topC os (L++[z])=max (topC os L) (os.getD z.toNat 0):=by unfold topC;rw [List.foldl_append];rfl
theorem znO {os:List Int} (hb:∀v∈os,0≤v∧v≤1000) (L:List Int):0≤topC os L∧topC os L≤1000:=by
 unfold topC
 have:∀(L:List Int) (o:Int),0≤o∧o≤1000→0≤L.foldl (fun o z=>max o (os.getD z.toNat 0)) o∧L.foldl (fun o z=>max o (os.getD z.toNat 0)) o≤1000:=by
  intro L
  induction L with
  | nil=>intro o h;exact h
  | cons z L ih =>
   intro o h;refine ih _ ?_;dsimp only
   have hz:0≤os.getD z.toNat 0∧os.getD z.toNat 0≤1000:=by
    rw [gD]
    cases h9:os[z.toNat]? with
    | none=>simp
    | some v=>exact hb v (lM h9)
   omega
 exact this L 0 (by decide)
def GoS (W2:I) (base' go n k:Nat) (os L:List Int) (gk:Nat) (t18:J) (W:I):Prop:=
 ∃i:Nat,i≤L.length∧t18=Y Z i∧gk=L.length-i∧W2.grownBy W (V go)∧OwnC 3 1 W base' (O (V ⟨go,0,X⟩) n n) ((os.set k (topC os (L.take i))).map ic)
theorem zhr (w:I) (x:JS×J) (b1 b2 B base base' N go n:Nat) (f:Nat→List Int) (os:List Int) (k:Nat) (hkn:x.1.k=(k:Int)) (hv:∃a n c,x.2=O a n c)
  (hm:w.heap[b1]?=V (M #[.map (V B)] 140 (0,0))) (ho:w.heap[b2]?=V (M #[O (V ⟨go,0,X⟩) n n] 36 (0,0))) (hG:Gm w base B N f) (hN:N<1000000)
  (hos:OwnC 3 1 w base' (O (V ⟨go,0,X⟩) n n) (os.map ic)) (hgo:go<base) (hBg:B≠go) (hk:k<n) (hn:n≤120) (hob:∀v∈os,0≤v∧v≤1000) (hk0:os.getD k 0=0)
  (hf:∀z∈f k,0≤z∧z<n∧os.getD z.toNat 0≠0) (h12:b1≠go∧b2≠go) :
  Calls Tryz.prog 59 #[E (jca x),.pointer (V ⟨b1,0,X⟩),.pointer (V ⟨b2,0,X⟩)] w
   fun e w'=>e = .returned (.bool true)∧w.grownBy w' (V go)∧OwnC 3 1 w' base' (O (V ⟨go,0,X⟩) n n) ((os.set k (topC os (f k)+1)).map ic):=by
 obtain⟨⟨⟨nm,sh,d,de,gx,gz,wy,ax,az,sk⟩,kk,⟨xl,xh⟩,zl,zh⟩,v⟩:=x;obtain⟨va,vn,vc,rfl⟩:=hv;dsimp only at *;subst hkn;obtain⟨L,hL⟩:=gX (f k);rw [hL]at hf ⊢;have hmf:∀(fn:Fn) (first cap:Array J) (w:I),(Instr.makeFunc fn first cap).run Tryz.prog w = .ok (.func fn first cap) w:=fun _ _ _ _=>rfl
 have hol:=hos.len;rw [lL]at hol;have Hol:=hd9 hol.symm;clear hol;unfold jca;dsimp only;obtain⟨R,hR⟩:∃R:Ending→I→Prop,(fun e w'=>e = .returned (.bool true)∧w.grownBy w' (V go)∧OwnC 3 1 w' base' (O (V ⟨go,0,X⟩) n n) ((os.set k (topC os L+1)).map ic))=R:=⟨_,rfl⟩;rw [hR];have HR:=hd9 hR;have hA:w.grownBy (w.alloc (M #[.string nm,O va vn vc,Y Z d,Y Z de,Y Z gx,Y Z gz,Y Z wy,Y Z ax,Y Z az,Y .u8 sk,Y Z k,Y Z xl,Y Z xh,Y Z zl,Y Z zh] 127)) X:=World.grownBy_alloc _ _ _;obtain⟨v1,hrun1,hoi1,hzl1,-⟩:=(hG.keptLow hA (by simp) (fun j h=>by cases h)).at (by unfold maxLen;omega) (k:=k) (by omega);rw [hL]at hoi1 hzl1;have hC:=hd9 (fun(W:I) (hW:Ext w W) (b':Nat) (v:J) (h:IsIs W v L)=>zfp W v L b2 (fun z=>os.getD z.toNat 0==0) h (fun W' hW' z hz=>zhq W' b2 go n os z ((hW.trans hW').heapS ho) ((hos.ext (hW.trans hW')).is) (hf z hz).1 (hf z hz).2.1))
 have hany:(L.any fun z=>os.getD z.toNat 0==0)=false:=by
  rw [List.any_eq_false];intro z hz
  simpa using (hf z hz).2.2
 rw [hany]at hC;have m0:=qcB hm (i:=0) (u:=.map (V B)) rfl;have o0:=qcB ho (i:=0) (u:=O (V ⟨go,0,X⟩) n n) rfl;have zm:=zab hm;have zo:=zab ho;have zm1:b1<w.heap.size+1:=by omega
 have zo1:b2<w.heap.size+1:=by omega
 have HG:=hd9 hG;have Hos:=hd9 hos;have Hho:=hd9 ho;have Hhm:=hd9 hm;have HL:=hd9 hL;have Hf:=hd9 hf;have Hob:=hd9 hob;have Hk0:=hd9 hk0;have His1:=hd9 ((zaH hoi1).is);clear hG hos ho hm hL hf hR hany hob hoi1 hzl1 hk0;go_enter Tryz.func59,Tryz.ntmps59
 go_wp2_with(go_at_call 42;(with_reducible refine(hC.out _ ?_ b1 _ His1.out).mono ?_);exact eA;rintro e w2 ⟨rfl,hx2⟩;obtain⟨v2,hrun2,hoi2,hzl2,-⟩:=((HG.out.keptLow hA (by simp) (fun j h=>by cases h)).keptLow (zau (zbk _ X) (hx2.belowB (nE _))) (by simp) (fun j h=>by cases h)).at (by unfold maxLen;omega) (k:=k) (by omega);rw [HL.out]at hoi2 hzl2;obtain⟨la,ln,lc,rfl⟩:=(zaH hoi2).form3;obtain⟨hc2,hf2⟩:=hx2.cells;have z2:=hx2.size;simp only [wZ]at z2;have zm2:b1<w2.heap.size:=(by omega);have zo2:b2<w2.heap.size:=(by omega);have zb2:w.heap.size<w2.heap.size:=(by omega))
 have hg2:w.grownBy w2 (V go):=zau (zbk w (V go)) ((((eR w).alloc _).trans hx2).belowB (nE _));have X2:Ext w w2:=((eR w).alloc _).trans hx2;have K3:=hx2.heapS (aN w (M #[.string nm,O va vn vc,Y Z d,Y Z de,Y Z gx,Y Z gz,Y Z wy,Y Z ax,Y Z az,Y .u8 sk,Y Z k,Y Z xl,Y Z xh,Y Z zl,Y Z zh] 127));have Ho2:=hd9 (X2.heapS Hho.out);have Hos2:=hd9 (Hos.out.ext X2);have Hln:=hd9 (show ln=L.length by have:=(zaH hoi2).len;rw [lL]at this;exact this);have Hoi2:=hd9 hoi2;have HK3:=hd9 K3;have Hg2:=hd9 hg2;have hlnb:ln≤1000000:=by have:=Hln.out;omega
 have hbase:w.heap.size≠go:=by
  intro e;have:=(Hos.out.lt go rfl).2;omega
 clear hc2 hf2 hx2 X2 hA hoi2 K3 hg2 HG hC His1 hrun1 Hos Hho Hhm HL hzl2 m0 o0
 go_loopg [18] ln (GoS w2 base' go n k os L)
 case atStart =>
  refine⟨0,by omega,rfl,by rw [Hln.out];rfl,zbk _ _,?_⟩;rw [List.take_zero,show topC os []=0 from rfl]
  have e:os.set k 0=os:=by
   apply List.ext_getElem?
   intro j;rw [List.getElem?_set]
   split
   ·rename_i h
    subst h;have:=Hk0.out;rw [gD]at this
    split
    ·rename_i h2
     rw [gE h2]at this ⊢
     simpa using this.symm
    ·rw [List.getElem?_eq_none (by omega)]
   ·rfl
  rw [e];exact Hos2.out
 case round =>
  obtain⟨i,hi,rfl,rfl,hg,hown⟩:=hrel;rw [←Hln.out]at hi;have hsz:=hg.size;have hbox:=(hg.block w.heap.size (by omega) (by simp;omega)).trans HK3.out;have hobx:=(hg.block b2 (by omega) (by simp;omega)).trans Ho2.out;have c10:=qcB hbox (i:=10) (u:=Y Z k) rfl;have c0:=qcB hobx (i:=0) (u:=O (V ⟨go,0,X⟩) n n) rfl;obtain⟨cur,hcur⟩:=hown.frz;have hfz:=qfB hcur;obtain⟨mx,hmx⟩:=gX (topC os (L.take i));rw [hmx]at hown;have hmb:=znO Hob.out (L.take i);rw [hmx]at hmb;have hkl:k<os.length:=by rw [Hol.out];exact hk
  have ck:=hown.cell (i:=k) (j:=0) (u:=Y Z mx) (by rw [lP,List.getElem?_set_self hkl];rfl) rfl;rw [Nat.mul_one,Nat.add_zero]at ck;have zgo:=(hown.lt go rfl).2;have Hown:=hd9 hown;have Hg:=hd9 hg;have Hmx:=hd9 hmx;have zr0:w.heap.size<wr.heap.size:=by omega
  have zr1:b2<wr.heap.size:=by omega
  have kn0:(0:Int)≤(k:Int):=by omega
  have kn1:(k:Int)<(n:Int):=by omega
  clear hbox hobx hcur hown hmx
  by_cases hlt:i<ln
  ·obtain⟨z,hz⟩:∃z,L[i]?=V z:=⟨L[i]'(by rw [←Hln.out];exact hlt),gE _⟩
   obtain⟨z0,z1,z2'⟩:=Hf.out z (lM hz);obtain⟨zi,rfl⟩:∃zi:Nat,z=(zi:Int):=⟨z.toNat,by omega⟩;obtain⟨y,hy⟩:∃y,os[zi]?=V y:=⟨os[zi]'(by rw [Hol.out];omega),gE _⟩;have hyd:os.getD zi 0=y:=by rw [gD,hy];rfl
   rw [Int.toNat_natCast,hyd]at z2';have hzk:k≠zi:=by intro e;subst e;exact z2' (hyd.symm.trans Hk0.out)
   have hyb:=Hob.out y (lM hy);have his:=(zaH (Hoi2.out.kept hg (.inr (by intro e;have:=(Hoi2.out.1.lt _ e).1;omega)))).is;obtain⟨b',o',rfl,hb',d0⟩:=his.at' hz;have cz:=Hown.out.cell (i:=zi) (j:=0) (u:=Y Z y) (by rw [lP,List.getElem?_set_ne hzk,hy];rfl) rfl;rw [Nat.mul_one,Nat.add_zero]at cz;have Hst:=hd9 (show topC os (L.take (i+1))=max mx y by rw [zaa _ _ _ hz,zkT,Hmx.out,Int.toNat_natCast,hyd]);have zn1:zi<n:=by omega
   have ein:((zi:Int)).toNat=zi:=Int.toNat_natCast _;clear hz his hy hg z2' hyd;go_wp2;refine zap (fun i=>decide (13<i)) (CellL [(⟨b2,0,X⟩,O (V ⟨go,0,X⟩) n n),(⟨w.heap.size,10,X⟩,Y Z k),(⟨go,k,X⟩,Y Z mx),(⟨go,zi,X⟩,Y Z y)]) (by kernel_rfl) ?_ (fun h9H=>?_)
   ·exact cA
   refine sN 0 ?_
   iterate 12
    refine tun ?_
   refine oN ?_;refine cu1 (i:=12) fun K hK=>?_
   go_simp;refine kO hK (fun _=>h9H) (fun h9H=>?_);clear hK K;have h9H:=h9H rfl;refine tu1 (i:=13) ?_;refine cu1 (i:=14) fun K hK=>?_
   go_simp;refine kO hK (fun h=>nomatch h) (fun h9H=>?_);clear hK K;refine doneHU (by kernel_rfl) ?_ _;clear h9H;go_wp2
   go_roundg (ln-(i+1))
   case measure=>have:=Hln.out;omega
   case rel =>
    have h1:=Hown.out.put1 (i:=k) (by rw [List.length_set];exact hkl) (max mx y);rw [List.set_set]at h1;have h2:=zaK Hg.out k (Y Z (max mx y));refine⟨i+1,by rw [←Hln.out];omega,by go_num,by rw [←Hln.out],zau h2 ((eR _).drew.belowB h2.size),?_⟩;rw [Hst.out];exact h1.ext (eR _).drew
  ·obtain rfl:i=ln:=by omega
   have hall:L.take i=L:=lT (by rw [←Hln.out];exact nE _);have Hmx2:=hd9 (show topC os L=mx by rw [←Hmx.out,hall]);have hw1:IntKind.i64.wrap (mx+1)=mx+1:=iW _ ⟨by omega,by omega⟩;have hw2:wrap64 (mx+1)=mx+1:=IntWalk.wrap64_in _ ⟨by omega,by omega⟩;clear hall;go_wp2;rw [←HR.out];have h1:=Hown.out.put1 (i:=k) (by rw [List.length_set];exact hkl) (mx+1);rw [List.set_set]at h1;exact⟨rfl,zaK (Hg2.out.trans Hg.out) k (Y Z (mx+1)),by rw [Hmx2.out];exact h1⟩
end
section
open Go.RowKit Go.Shelf Go.Sort
def IsPr (w:I) (v:J) (ps:List (Int×Int)):Prop:=∃T,Sl T 2 PP w v ps
theorem IsPr.ext' {w w':I} {v:J} {ps:List (Int×Int)} (h:IsPr w v ps) (k:Ext w w'):IsPr w' v ps:=by obtain⟨T,h⟩:=h;exact⟨T,Sl.ext (w:=w) (w':=w') h (fun _ _ h=>h) k⟩
theorem IsPr.form {w:I} {v:J} {ps:List (Int×Int)} (h:IsPr w v ps):∃a c,v=O a ps.length c:=h.elim fun _ h=>Sl.form h
theorem IsPr.form3 {w:I} {v:J} {ps:List (Int×Int)} (h:IsPr w v ps):∃a n c,v=O a n c:=h.elim fun _ h=>Cop.form3 h
theorem IsPr.len {w:I} {a:Option Addr} {n c:Nat} {ps:List (Int×Int)} (h:IsPr w (O a n c) ps):n=ps.length:=h.elim fun _ h=>Sl.len h
theorem IsPr.le {w:I} {a:Option Addr} {n c:Nat} {ps:List (Int×Int)} (h:IsPr w (O a n c) ps):ps.length≤c∧c≤maxLen:=h.elim fun _ h=>Sl.le h
theorem IsPr.at' {w:I} {a:Option Addr} {n c:Nat} {ps:List (Int×Int)} (h:IsPr w (O a n c) ps) {i:Nat} {p:Int×Int} (hp:ps[i]?=V p) :
  ∃b o,a=V ⟨b,o,X⟩∧b<w.heap.size∧w.cell? ⟨b,o+i*2,X⟩=V (Y Z p.1)∧w.cell? ⟨b,o+i*2+1,X⟩=V (Y Z p.2):=by
 obtain⟨T,h⟩:=h;obtain⟨b,o,d,rfl,hb,hl,hP,hc⟩:=Sl.at h hp;have hP':d=[Y Z p.1,Y Z p.2]:=hP;subst hP';exact⟨b,o,rfl,hb,hc 0 _ rfl,hc 1 _ rfl⟩
def PPr (w:I) (c:List J) (p:Pl):Prop:=∃v,c=(plc p v).toList∧IsPr w v p.shape∧0≤p.skin
def IsWr (w:I) (v:J) (ps:List Pl):Prop:=∃T,Sl T 10 PPr w v ps
theorem IsWr.ext' {w w':I} {v:J} {ps:List Pl} (h:IsWr w v ps) (k:Ext w w'):IsWr w' v ps:=by obtain⟨T,h⟩:=h;exact⟨T,Sl.ext (w:=w) (w':=w') h (fun _ _ ⟨v,h1,h2,h3⟩=>⟨v,h1,h2.ext' k,h3⟩) k⟩
theorem IsWr.form {w:I} {v:J} {ps:List Pl} (h:IsWr w v ps):∃a c,v=O a ps.length c:=h.elim fun _ h=>Sl.form h
theorem IsWr.form3 {w:I} {v:J} {ps:List Pl} (h:IsWr w v ps):∃a n c,v=O a n c:=h.elim fun _ h=>Cop.form3 h
theorem IsWr.len {w:I} {a:Option Addr} {n c:Nat} {ps:List Pl} (h:IsWr w (O a n c) ps):n=ps.length:=h.elim fun _ h=>Sl.len h
theorem IsWr.le {w:I} {a:Option Addr} {n c:Nat} {ps:List Pl} (h:IsWr w (O a n c) ps):ps.length≤c∧c≤maxLen:=h.elim fun _ h=>Sl.le h
theorem IsWr.at' {w:I} {a:Option Addr} {n c:Nat} {ps:List Pl} (h:IsWr w (O a n c) ps) {i:Nat} {p:Pl} (hp:ps[i]?=V p) :
  ∃b o v,a=V ⟨b,o,X⟩∧b<w.heap.size∧IsPr w v p.shape∧0≤p.skin∧∀(j:Nat) u,(plc p v)[j]?=V u→w.cell? ⟨b,o+i*10+j,X⟩=V u:=by
 obtain⟨T,h⟩:=h;obtain⟨b,o,d,rfl,hb,hl,⟨v,rfl,h1,h2⟩,hc⟩:=Sl.at h hp;exact⟨b,o,v,rfl,hb,h1,h2,fun j u hj=>hc j u (by rw [Array.getElem?_toList];exact hj)⟩
def longB (p:Pl):Bool:=decide (20<p.shape.length) || decide (40<p.name.size)
theorem zlT (w:I) (nm:ByteArray) (v:J) (sh:List (Int×Int)) (d de gx gz:Int) (h:IsPr w v sh) :
  Calls Tryz.prog 25 #[E #[.string nm,v,Y Z d,Y Z de,Y Z gx,Y Z gz]] w fun e w'=>e = .returned (.bool (decide (20<sh.length) || decide (40<nm.size)))∧Ext w w':=by
 obtain⟨a,c,rfl⟩:=h.form;obtain⟨n,hn⟩:=gX sh.length;rw [hn];obtain⟨m,hm⟩:=gX nm.size
 by_cases h1:20<n
 ·have h1':(20:Int)<(n:Int):=by omega
  have e:(decide (20<n) || decide (40<nm.size))=true:=by simp [h1]
  rw [e];clear h1 e hm;go_enter Tryz.func25,Tryz.ntmps25;go_wp2;go_ret;exact⟨rfl,eA⟩
 ·have h1':¬(20:Int)<(n:Int):=by omega
  have e:(decide (20<n) || decide (40<nm.size))=decide (40<m):=by simp [h1,hm]
  rw [e];clear h1 e;go_enter Tryz.func25,Tryz.ntmps25;go_wp2;go_ret;exact⟨by simp;omega,eA⟩
def fewB (g:List (Int×Int)) (ps:List Pl):Bool:=!ps.any longB&&(decide (ps.length≤8)&&decide (g.length≤50))
def FwS (w:I) (vg vp:J) (ps:List Pl) (g:Nat) (t3:J) (W:I):Prop:=
 ∃i:Nat,i≤ps.length∧t3=Y Z (i:Nat)∧g=ps.length-i∧Ext w W∧W.heap[w.heap.size]?=V (M #[vg,vp] 25 (0,0))∧∀j y,j<i→ps[j]?=V y→longB y=false
theorem znj (w:I) (vg vp:J) (g:List (Int×Int)) (ps:List Pl) (hg:IsPr w vg g) (hp:IsWr w vp ps) :
  Calls Tryz.prog 8 #[E #[vg,vp]] w fun e w'=>e = .returned (.bool (fewB g ps))∧Ext w w':=by
 obtain⟨ga,gc,rfl⟩:=hg.form;obtain⟨pa,pc,rfl⟩:=hp.form;obtain⟨n,hn⟩:=gX ps.length;obtain⟨m,hm⟩:=gX g.length;have hle:=hp.le;rw [hm];rw [hn]at hp hle ⊢;unfold maxLen at hle;have hnc:n≤9223372036854775807:=by omega
 have Hn:=hd9 hn;have Hm:=hd9 hm;have Hp:=hd9 hp;obtain⟨fb,hfb⟩:=gX (fewB g ps);rw [hfb];have Hfb:=hd9 hfb;clear hn hle hg hp hm hfb;go_enter Tryz.func8,Tryz.ntmps8;go_wp2
 go_loopg [3] n (FwS w (O ga m gc) (O pa n pc) ps)
 case atStart=>exact⟨0,by omega,rfl,by rw [Hn.out];rfl,eA,aN w _,fun j y hj=>by omega⟩
 case round =>
  obtain⟨i,hi,rfl,rfl,hx,hb0,hall⟩:=hrel;rw [Hn.out]at hi;have w0:=qcB hb0 (i:=0) (u:=O ga m gc) rfl;have w1:=qcB hb0 (i:=1) (u:=O pa n pc) rfl;have Hall:=hd9 hall;have Hx:=hd9 hx;have Hb0:=hd9 hb0;clear hall
  by_cases hlt:i<n
  ·obtain⟨p,hq⟩:∃q,ps[i]?=V q:=⟨ps[i]'(by rw [Hn.out];omega),by simp [Hn.out,hlt]⟩
   obtain⟨b,o,v,rfl,hb,hv,_,hc⟩:=(Hp.out.ext' hx).at' hq;have HL:=hd9 (fun W (hW:Ext wr W)=>zlT W p.name v p.shape p.depth p.density p.gx p.gz (hv.ext' hW));obtain⟨lb,hlb⟩:=gX (longB p);rw [show (decide (20<p.shape.length) || decide (40<p.name.size))=lb from hlb]at HL;have Hlb:=hd9 hlb;obtain⟨va,vn,vc,rfl⟩:=hv.form3;have cc0:=hc 0 (.string p.name) rfl;have cc1:=hc 1 (O va vn vc) rfl;have cc2:=hc 2 (Y Z p.depth) rfl;have cc3:=hc 3 (Y Z p.density) rfl;have cc4:=hc 4 (Y Z p.gx) rfl;have cc5:=hc 5 (Y Z p.gz) rfl;simp only [Nat.add_zero]at cc0;have Hq:=hd9 hq;have p1:(0:Int)≤(i:Int):=by omega
   have p2:(i:Int)<(n:Int):=by omega
   clear hc hq hv hlb hx hb0
   cases lb with
   | true =>
    have e:fb=false:=by
     rw [←Hfb.out];unfold fewB;rw [show ps.any longB=true from List.any_eq_true.2 ⟨p,lM Hq.out,Hlb.out⟩];rfl
    subst e
    go_wp2_with(go_at_call 25;(with_reducible refine(HL.out _ (eR _)).mono ?_);rintro e w1 ⟨rfl,hx1⟩)
    go_ret;exact⟨rfl,Hx.out.trans hx1⟩
   | false =>
    go_wp2_with(go_at_call 25;(with_reducible refine(HL.out _ (eR _)).mono ?_);rintro e w1 ⟨rfl,hx1⟩)
    go_roundg (n-(i+1))
    case measure=>have:=Hn.out;omega
    case rel =>
     refine⟨i+1,by have:=Hn.out;omega,by go_num,by rw [Hn.out],Hx.out.trans hx1,hx1.heapS Hb0.out,fun j y hj hy=>?_⟩
     by_cases hji:j=i
     ·subst hji;rw [Hq.out]at hy;cases hy;exact Hlb.out
     ·exact Hall.out j y (by omega) hy
  ·obtain rfl:n=i:=by omega
   have e:fb=(decide (n≤8)&&decide (m≤50)):=by
    rw [←Hfb.out];unfold fewB
    rw [show ps.any longB=false from by
     rw [List.any_eq_false];intro p hp;obtain⟨j,hj⟩:=List.mem_iff_getElem?.1 hp;rw [Hall.out j p (by have:=(lS.1 hj).1;rw [Hn.out]at this;exact this) hj]
     decide,Hn.out,Hm.out]
    rfl
   subst e
   by_cases h8:n≤8
   ·have h8':(n:Int)≤8:=by omega
    go_wp2;go_ret;exact⟨by simp [h8];try omega,Hx.out⟩
   ·have h8':¬(n:Int)≤8:=by omega
    go_wp2;go_ret;exact⟨by simp [h8],Hx.out⟩
def IntS (w:I) (xs ys:List Int) (g:Nat) (t5:J) (W:I):Prop:=
 ∃i:Nat,i≤xs.length∧t5=Y Z (i:Nat)∧g=xs.length-i∧Ext w W∧∀j,j<i→xs[j]?=ys[j]?
theorem zeU {g:List (Int×Int)} {ps:List Pl} (h:fewB g ps=true):g.length≤1000∧ps.length≤8∧∀p∈ps,p.shape.length≤1000:=by
 unfold fewB at h;simp only [Bool.and_eq_true,Bool.not_eq_true',List.any_eq_false,decide_eq_true_eq]at h;obtain⟨h1,h2,h3⟩:=h;refine⟨by omega,h2,fun p hp=>?_⟩;have:=h1 p hp;unfold longB at this;simp only [Bool.or_eq_true,decide_eq_true_eq,not_or]at this;omega
theorem zh1 {xs ys:List Int} (hl:xs.length=ys.length) (h:∀j,j<xs.length→xs[j]?=ys[j]?):xs=ys:=by
 apply List.ext_getElem?
 intro i
 by_cases hi:i<xs.length
 ·exact h i hi
 ·rw [List.getElem?_eq_none (by omega),List.getElem?_eq_none (by omega)]
theorem zg8 (w:I) (va vb:J) (xs ys:List Int) (ha:IsIs w va xs) (hb:IsIs w vb ys) :
  Calls Tryz.prog 22 #[va,vb] w fun e w'=>e = .returned (.bool (decide (xs=ys)))∧Ext w w':=by
 obtain⟨a,c,rfl⟩:=ha.form;obtain⟨a',c',rfl⟩:=hb.form;obtain⟨n,hn⟩:=gX xs.length;obtain⟨m,hm⟩:=gX ys.length;have hle:=ha.le;rw [hn]at ha hle ⊢;rw [hm]at hb ⊢;unfold maxLen at hle;have hnc:n≤9223372036854775807:=by omega
 have Hn:=hd9 hn;have Hm:=hd9 hm;obtain⟨r,hr⟩:=gX (decide (xs=ys));rw [hr];have Hr:=hd9 hr;have Ha:=hd9 ha;have Hb:=hd9 hb;clear hn hm hle ha hb hr
 by_cases hnm:n=m
 rotate_left 1
 ·have e:r=false:=by
   rw [←Hr.out,decide_eq_false_iff_not];intro h
   apply hnm
   rw [←Hn.out,←Hm.out,h]
  subst e;have h1:¬(n:Int)=(m:Int):=by omega
  have h2:((n:Int) != (m:Int))=true:=by simpa using h1
  go_enter Tryz.func22,Tryz.ntmps22;go_wp2;go_ret;exact⟨rfl,eA⟩
 subst hnm;go_enter Tryz.func22,Tryz.ntmps22;go_wp2
 go_loopg [5] n (IntS w xs ys)
 case atStart=>exact⟨0,by omega,rfl,by rw [Hn.out];rfl,eR _,fun j hj=>by omega⟩
 case round =>
  obtain⟨i,hi,rfl,rfl,hx,hall⟩:=hrel;rw [Hn.out]at hi;have Hall:=hd9 hall;have Hx:=hd9 hx;clear hall
  by_cases hlt:i<n
  ·obtain⟨x,hq⟩:∃q,xs[i]?=V q:=⟨xs[i]'(by rw [Hn.out];omega),by simp [Hn.out,hlt]⟩
   obtain⟨y,hq'⟩:∃q,ys[i]?=V q:=⟨ys[i]'(by rw [Hm.out];omega),by simp [Hm.out,hlt]⟩;obtain⟨b,o,rfl,hb,d0⟩:=(Ha.out.ext' hx).at' hq;obtain⟨b',o',rfl,hb',d0'⟩:=(Hb.out.ext' hx).at' hq';have Hq:=hd9 hq;have Hq':=hd9 hq';have p1:(0:Int)≤(i:Int):=by omega
   have p2:(i:Int)<(n:Int):=by omega
   clear hq hq'
   by_cases hxy:x=y
   ·have Hxy:=hd9 hxy
    have h3:(x != y)=false:=by simp [hxy]
    clear hxy;go_wp2
    go_quiet (fail)
    go_wp2
    go_roundg (n-(i+1))
    case measure=>have:=Hn.out;omega
    case rel =>
     refine⟨i+1,by have:=Hn.out;omega,by go_num,by rw [Hn.out],eA,fun j hj=>?_⟩
     by_cases hji:j=i
     ·subst hji;rw [Hq.out,Hq'.out,Hxy.out]
     ·exact Hall.out j (by omega)
   ·have h3:(x != y)=true:=by simpa using hxy
    have e:r=false:=by
     rw [←Hr.out,decide_eq_false_iff_not];intro h;have:=Hq.out;rw [h,Hq'.out]at this
     cases this
     exact hxy rfl
    subst e;go_wp2
    go_quiet (fail)
    go_wp2;go_ret;exact⟨rfl,eA⟩
  ·obtain rfl:n=i:=by omega
   have e:r=true:=by
    rw [←Hr.out,decide_eq_true_eq];exact zh1 (by rw [Hn.out,Hm.out]) (fun j hj=>Hall.out j (by rw [Hn.out]at hj;exact hj))
   subst e;go_wp2;go_ret;exact⟨rfl,hx⟩
def exR:Ru:=⟨1,0,20,50,10,100,5⟩
theorem zcr (w:I):Calls Tryz.prog 21 #[] w fun e w'=>e = .returned (E (ruc exR))∧Ext w w':=by
 go_enter Tryz.func21,Tryz.ntmps21;go_wp2;refine bR (v:=E (ruc exR)) (by simp [results,Tryz.results21,go_sem,ruc,exR]) rfl ⟨rfl,eA⟩
theorem zkx (W:I) {k:Nat} (hk:k=W.heap.size) (ps:List (Int×Int)) (hl:ps.length≤1000) :
  IsPts (W.alloc (M (ps.map pc).flatten.toArray 42)) (O (V ⟨k,0,X⟩) ps.length ps.length) ps:=by
 subst hk
 exact⟨ps.map pc,by simp,zfJ,⟨by rw [zaj zfJ];simp,V ⟨W.heap.size,0,X⟩,ps.length,rfl,nE _,by unfold maxLen;omega,.inr ⟨W.heap.size,0,_,(0,0),rfl,aN _ _,fun i x hx=>by simpa using hx⟩⟩,
  fun i c x hc hx=>by rw [lP,hx]at hc;cases hc;rfl⟩
def OwnPl (w:I) (base:Nat) (v:J) (ps:List Pl):Prop:=∃cs,OwnC 46 10 w base v cs∧cs.length=ps.length∧∀(i:Nat) c p,cs[i]?=V c→ps[i]?=V p→PPl w c p
theorem OwnPl.pls {w:I} {base:Nat} {v:J} {ps:List Pl} (h:OwnPl w base v ps):IsPls w v ps:=by
 obtain⟨cs,h1,h2,h3⟩:=h;exact h1.sl h2 h3
theorem zkt (W:I) {k base:Nat} (hk:k=W.heap.size) (hb:base≤W.heap.size) (qs:List (Pl×J)) (hq:∀q∈qs,IsPts W q.2 q.1.shape∧0≤q.1.skin) (hl:qs.length≤1000) :
  OwnPl (W.alloc (M (qs.map fun q=>(plc q.1 q.2).toList).flatten.toArray 46)) base (O (V ⟨k,0,X⟩) qs.length qs.length) (qs.map Prod.fst):=by
 subst hk
 have h10:∀c∈(qs.map fun q=>(plc q.1 q.2).toList),c.length=10:=fun c hc=>by
  obtain⟨q,_,rfl⟩:=List.mem_map.1 hc;rfl
 have hfl:=zaj h10;rw [lL]at hfl;refine⟨qs.map fun q=>(plc q.1 q.2).toList,⟨h10,by rw [hfl,lL],.inr ⟨W.heap.size,qs.length,_,by rw [lL],hb,aN _ _,by rw [lL];exact nE _,by unfold maxLen;omega,by rw [List.size_toArray,hfl],by rw [lL,←hfl];exact List.take_length⟩⟩,by simp,?_⟩;intro i c x hc hx;rw [lP,Option.map_eq_some_iff]at hc hx;obtain⟨q,hq1,rfl⟩:=hc;obtain⟨q',hq2,rfl⟩:=hx;rw [hq1]at hq2
 cases hq2
 have:=hq q (lM hq1);exact⟨q.2,rfl,this.1.ext' ((eR W).alloc _),this.2⟩
def brickS:List (Int×Int):=[(0,0),(200,0),(200,80),(0,80)]
theorem zhG (w:I):Calls Tryz.prog 49 #[] w fun e w'=>∃v,e = .returned (E #[.string ⟨#[98,114,105,99,107]⟩,v,Y Z 100,Y Z 2400,Y Z 1,Y Z 0])∧IsPts w' v brickS∧Ext w w':=by
 go_enter Tryz.func49,Tryz.ntmps49;go_wp2;refine bR (v:=E #[.string ⟨#[98,114,105,99,107]⟩,O (V ⟨w.heap.size+1,0,X⟩) 4 4,Y Z 100,Y Z 2400,Y Z 1,Y Z 0]) (by simp [results,Tryz.results49,go_sem]) rfl ⟨_,rfl,?_,eA⟩;exact zkx _ (by simp) brickS (by decide)
def brickP (nm:ByteArray) (x z:Int):Pl:=⟨nm,brickS,100,2400,1,0,0,x,z,1⟩
theorem zbS (w:I) (nm:ByteArray) (x z:Int):Calls Tryz.prog 24 #[.string nm,Y Z x,Y Z z] w fun e w'=>∃v,e = .returned (E (plc (brickP nm x z) v))∧IsPts w' v brickS∧Ext w w':=by
 go_enter Tryz.func24,Tryz.ntmps24
 go_wp2_with(go_at_call 49;(with_reducible refine(zhG _).mono ?_);rintro e w3 ⟨v3,rfl,hv3,hx3⟩;obtain⟨a3,n3,c3,rfl⟩:=form3 hv3;obtain⟨hc3,hf3⟩:=hx3.cells;(have z3:=hx3.size);(simp only [wZ]at z3);(have y0:w.heap.size<w3.heap.size:=(by omega));(have y1:¬w.heap.size=w3.heap.size:=(by omega)))
 refine bR (v:=E (plc (brickP nm x z) (O a3 n3 c3))) (by simp [results,Tryz.results24,go_sem,plc,brickP,hc3,hf3,y0,y1]) rfl ⟨_,rfl,?_,eA⟩;exact hv3.keep' kA
def exG:List (Int×Int):=[(-1000,0),(1000,0)]
def exP:List Pl:=[brickP ⟨#[97]⟩ 0 0,brickP ⟨#[98]⟩ 200 0,brickP ⟨#[99]⟩ 0 80,brickP ⟨#[100]⟩ 200 80,brickP ⟨#[101]⟩ 100 160]
theorem zah {W:I} {b:Nat} {cs:Array J} {T:TypeId} {fr:Nat×Nat} (h:W.heap[b]?=V (M cs T fr)) (i:Nat) (u:J):(W.setCell ⟨b,i,X⟩ u).heap[b]?=V (M (cs.setIfInBounds i u) T fr):=by
 simp [World.setCell,Array.getElem?_modify,h]
theorem zhp (w:I) (o o':Obj):((w.alloc o).alloc o').heap[w.heap.size]?=V o:=by
 rw [zae,if_neg (by simp)];exact aN w o
theorem zej (w:I) (o o':Obj):((w.alloc o).alloc o').heap[w.heap.size+1]?=V o':=qhA _ _ _ (by simp)
theorem zlI (w:I):Calls Tryz.prog 20 #[] w fun e w'=>∃vg vp,e = .returned (E #[vg,vp])∧IsPts w' vg exG∧OwnPl w' w.heap.size vp exP∧Ext w w':=by
 go_enter Tryz.func20,Tryz.ntmps20
 go_wp2_with(go_at_call 24;(with_reducible refine(zbS _ ⟨#[97]⟩ 0 0).mono ?_);rintro e w1 ⟨v1,rfl,hv1,hx1⟩;obtain⟨a1,n1,c1,rfl⟩:=form3 hv1;(unfold plc brickP);dsimp only)
 go_wp2_with(go_at_call 24;(with_reducible refine(zbS _ ⟨#[98]⟩ 200 0).mono ?_);rintro e w2 ⟨v2,rfl,hv2,hx2⟩;obtain⟨a2,n2,c2,rfl⟩:=form3 hv2;(unfold plc brickP);dsimp only)
 go_wp2_with(go_at_call 24;(with_reducible refine(zbS _ ⟨#[99]⟩ 0 80).mono ?_);rintro e w3 ⟨v3,rfl,hv3,hx3⟩;obtain⟨a3,n3,c3,rfl⟩:=form3 hv3;(unfold plc brickP);dsimp only)
 go_wp2_with(go_at_call 24;(with_reducible refine(zbS _ ⟨#[100]⟩ 200 80).mono ?_);rintro e w4 ⟨v4,rfl,hv4,hx4⟩;obtain⟨a4,n4,c4,rfl⟩:=form3 hv4;(unfold plc brickP);dsimp only)
 have G1:IsPts w1 (O (V ⟨w.heap.size+1,0,X⟩) 2 2) exG:=(zkx (w.alloc (M #[O X 0 0,O X 0 0] 33)) (by simp) exG (by decide)).ext' hx1;have K1:=hx1.heapS (zhp w (M #[O X 0 0,O X 0 0] 33) (M #[Y Z (-1000),Y Z 0,Y Z 1000,Y Z 0] 42));have K4:=hx4.heapS (hx3.heapS (hx2.heapS K1));have HG1:=hd9 G1;clear K1 G1
 go_wp2_with(go_at_call 24;(with_reducible refine(zbS _ ⟨#[101]⟩ 100 160).mono ?_);rintro e w5 ⟨v5,rfl,hv5,hx5⟩;obtain⟨a5,n5,c5,rfl⟩:=form3 hv5;(unfold plc brickP);dsimp only;(have K5:=hx5.heapS K4);(have k0:=qcB K5 (i:=0) (u:=O X 0 0) rfl);(have k1:=qcB K5 (i:=1) (u:=O X 0 0) rfl);(have kf:=qfB K5);(have kz:=zab K5);(have kn:¬w.heap.size=w5.heap.size:=(by omega)))
 obtain⟨W5,hW5⟩:=gX ((w5.setCell ⟨w.heap.size,0,X⟩ (O (V ⟨w.heap.size+1,0,X⟩) 2 2)).setCell ⟨w.heap.size,1,X⟩ (O (V ⟨w5.heap.size,0,X⟩) 5 5))
 have hk:KeepT 42 w5 W5:=by
  rw [←hW5];have h1:=(KeepT.refl 42 w5).set (p:=⟨w.heap.size,0,X⟩) K5 (by decide) (O (V ⟨w.heap.size+1,0,X⟩) 2 2);exact h1.set (p:=⟨w.heap.size,1,X⟩) (zah K5 0 _) (by decide) _
 have hz:W5.heap.size=w5.heap.size:=by rw [←hW5];simp only [qcZ]
 have hb:W5.heap[w.heap.size]?=V (M #[O (V ⟨w.heap.size+1,0,X⟩) 2 2,O (V ⟨w5.heap.size,0,X⟩) 5 5] 33 (0,0)):=by
  rw [←hW5];exact zah (zah K5 0 _) 1 _
 have hX:Ext w W5:=by
  rw [←hW5];exact(Ext.set (Ext.set (((((((eR w).alloc _).alloc _).trans hx1).trans hx2).trans hx3).trans hx4 |>.trans hx5) (nE _) _) (nE _) _)
 rw [hW5];clear hW5;have b0:=qcB hb (i:=0) (u:=O (V ⟨w.heap.size+1,0,X⟩) 2 2) rfl;have b1:=qcB hb (i:=1) (u:=O (V ⟨w5.heap.size,0,X⟩) 5 5) rfl;have bz:=zab hb
 have hq:=zkt W5 (k:=w5.heap.size) (base:=w.heap.size) hz.symm (by omega) [(brickP ⟨#[97]⟩ 0 0,O a1 n1 c1),(brickP ⟨#[98]⟩ 200 0,O a2 n2 c2),(brickP ⟨#[99]⟩ 0 80,O a3 n3 c3),(brickP ⟨#[100]⟩ 200 80,O a4 n4 c4),(brickP ⟨#[101]⟩ 100 160,O a5 n5 c5)] (by
  intro q hq;simp only [List.mem_cons,List.not_mem_nil,or_false]at hq
  rcases hq with rfl|rfl|rfl|rfl|rfl
  ·exact⟨(((((hv1.ext' hx2).ext' hx3).ext' hx4).ext' hx5)).keep' hk,by unfold brickP;dsimp only;omega⟩
  ·exact⟨((((hv2.ext' hx3).ext' hx4).ext' hx5)).keep' hk,by unfold brickP;dsimp only;omega⟩
  ·exact⟨(((hv3.ext' hx4).ext' hx5)).keep' hk,by unfold brickP;dsimp only;omega⟩
  ·exact⟨((hv4.ext' hx5)).keep' hk,by unfold brickP;dsimp only;omega⟩
  ·exact⟨hv5.keep' hk,by unfold brickP;dsimp only;omega⟩) (by simp)
 refine bR (v:=E #[O (V ⟨w.heap.size+1,0,X⟩) 2 2,O (V ⟨w5.heap.size,0,X⟩) 5 5]) (by simp [results,Tryz.results20,go_sem,b0,b1,bz]) rfl ⟨_,_,rfl,?_,?_,hX.alloc _⟩
 ·exact((((((HG1.out.ext' hx2).ext' hx3).ext' hx4).ext' hx5)).keep' hk).ext' ((eR _).alloc _)
 ·exact hq
theorem zeV (w:I):Calls Tryz.prog 20 #[] w fun e w'=>∃vg vp,e = .returned (E #[vg,vp])∧IsPts w' vg exG∧IsPls w' vp exP∧Ext w w':=
 (zlI w).mono fun _ _ ⟨vg,vp,he,h1,h2,hx⟩=>⟨vg,vp,he,h1,h2.pls,hx⟩
def PtS (w:I) (ps:List (Int×Int)) (g:Nat) (t3 t4:J) (W:I):Prop:=
 ∃i:Nat,i≤ps.length∧t4=Y Z (i:Nat)∧g=ps.length-i∧Ext w W∧OwnC 42 2 W w.heap.size t3 ((ps.take i).map pc)
theorem zeF (w:I) (v:J) (ps:List (Int×Int)) (h:IsPr w v ps) (hn9:ps.length≤1000) :
  Calls Tryz.prog 26 #[v] w fun e w'=>∃v',e = .returned v'∧OwnC 42 2 w' w.heap.size v' (ps.map pc)∧Ext w w':=by
 obtain⟨a,c,rfl⟩:=h.form;obtain⟨n,hn⟩:=gX ps.length;rw [hn]at h hn9 ⊢;have Hn:=hd9 hn;have H:=hd9 h;obtain⟨R,hR⟩:∃R:Ending→I→Prop,(fun e w'=>∃v',e = .returned v'∧OwnC 42 2 w' w.heap.size v' (ps.map pc)∧Ext w w')=R:=⟨_,rfl⟩;rw [hR];have HR:=hd9 hR;clear hn h hR;go_enter Tryz.func26,Tryz.ntmps26;go_wp2
 go_loopg [3,4] n (PtS w ps)
 case atStart=>exact⟨0,by omega,rfl,by rw [Hn.out];rfl,eR _,by simpa using OwnC.nil _ _ _ _⟩
 case round =>
  obtain⟨i,hi,rfl,rfl,hx,hown⟩:=hrel;rw [Hn.out]at hi;obtain⟨va,vn,vc,rfl⟩:=hown.form3;have Hown:=hd9 hown;have Hx:=hd9 hx
  by_cases hlt:i<n
  ·obtain⟨⟨x,z⟩,hq⟩:∃q,ps[i]?=V q:=⟨ps[i]'(by rw [Hn.out];omega),by simp [Hn.out,hlt]⟩
   obtain⟨b,o,rfl,hb,d0,d1⟩:=(H.out.ext' hx).at' hq;obtain⟨b0,o0,e0,hb0,_⟩:=H.out.at' hq
   cases e0
   dsimp only at d0 d1;have Hq:=hd9 hq;have p1:(0:Int)≤(i:Int):=by omega
   have p2:(i:Int)<(n:Int):=by omega
   clear hq hx hown;go_wp2;refine wp_region_held_drew (S:=CellL [(⟨b,o+i*2,X⟩,Y Z x),(⟨b,o+i*2+1,X⟩,Y Z z)]) (by kernel_rfl) ⟨d0,d1,trivial⟩ (fun h9H=>?_);refine sN 0 ?_
   iterate 12
    refine tkn ?_
   refine oN ?_;refine cl1 (i:=12) fun K hK=>?_
   go_simp;refine kO hK (cE h9H ((eR _).alloc _)) (fun h9H=>?_);clear hK K;have hA:Ext wr ((wr.alloc (M #[Y Z x,Y Z z] 42)).drew):=((eR wr).alloc _).drew;refine cl1 (i:=13) fun K hK=>?_
   refine zbl (T:=42) (t:=30) (z:=E #[Y Z 0,Y Z 0]) (k:=2) (bytes:=16) (v:=O va vn vc) (base:=w.heap.size) zbB rfl (by decide) (by decide) Tryz.underlying30 rfl _ _ rfl rfl (Hown.out.ext hA) (ad:=⟨wr.heap.size,0,X⟩) (m:=1) (c:=1) rfl [pc (x,z)] rfl (by simp [pc]) (by exact zkg wr x z 42) (zmO x z) (by rw [lL,List.length_take];omega) (by have:=hA.size;have:=Hx.out.size;omega) ?_;intro v' w9 hown9 hgrow hlie;obtain⟨a9,n9,c9,rfl⟩:=hown9.form3;have zb:b<wr.heap.size:=hb;refine kO hK (CellL.grown h9H hgrow (fun q hq e=>?_)) (fun h9H=>?_)
   ·have h9:=(Hown.out.lt _ e.symm).1
    simp at hq
    rcases hq with rfl|rfl<;>(dsimp only at h9;omega)
   clear hK K;refine tk1 (i:=14) ?_;refine wpAnyH_done (by kernel_rfl) ?_ _;go_wp2
   go_roundg (n-(i+1))
   case measure=>have:=Hn.out;omega
   case rel =>
    refine⟨i+1,by have:=Hn.out;omega,by go_num,by rw [Hn.out],(Hx.out.trans hA).thenB (zad (base:=w.heap.size) hgrow (by have:=hA.size;have:=Hx.out.size;omega) (fun k hk=>(Hown.out.lt k hk).1)) (nE _),?_⟩;rw [zaa _ _ _ Hq.out,List.map_append];exact hown9
  ·obtain rfl:n=i:=by omega
   have e:ps.take n=ps:=lT (by rw [Hn.out];exact nE _);rw [e]at hown;go_wp2;rw [←HR.out];exact⟨_,rfl,hown,hx⟩
theorem zkP (w:I) (nm:ByteArray) (v:J) (sh:List (Int×Int)) (d de gx gz:Int) (h:IsPr w v sh) (hn9:sh.length≤1000) :
  Calls Tryz.prog 50 #[E #[.string nm,v,Y Z d,Y Z de,Y Z gx,Y Z gz]] w fun e w'=>∃v',e = .returned (E #[.string nm,v',Y Z d,Y Z de,Y Z gx,Y Z gz])∧IsPts w' v' sh∧Ext w w'∧∀j,v'.ownBlock=V j→w.heap.size≤j:=by
 have HP:=hd9 (fun W (hW:Ext w W)=>zeF W v sh (h.ext' hW) hn9);obtain⟨a,n,c,rfl⟩:=h.form3;clear h;go_enter Tryz.func50,Tryz.ntmps50;go_wp2;refine wp_region_held_drew (S:=CellL [(⟨w.heap.size,0,X⟩,.string nm),(⟨w.heap.size,1,X⟩,O a n c),(⟨w.heap.size,2,X⟩,Y Z d),(⟨w.heap.size,3,X⟩,Y Z de),(⟨w.heap.size,4,X⟩,Y Z gx),(⟨w.heap.size,5,X⟩,Y Z gz)]) (by kernel_rfl) cA (fun h9H=>?_);refine sN 0 ?_
 iterate 4
  refine tkn ?_
 refine oN ?_;refine sN 5 ?_
 iterate 11
  refine tkn ?_
 refine oN ?_;refine cl1 (i:=4) fun K hK=>?_
 go_simp
 (with_reducible refine cM (HP.out _ eA) ?_)
 rintro e w3 ⟨v3,rfl,hown3,hx3⟩;obtain⟨a3,n3,c3,rfl⟩:=hown3.form3
 go_wp2_with fail
 refine kO hK (cE h9H hx3) (fun h9H=>?_);clear hK K;refine tk1 (i:=16) ?_;have hv3:=hown3.pts;have K3:=hx3.heapS (zej w (M #[.string nm,O a n c,Y Z d,Y Z de,Y Z gx,Y Z gz] 90) (M #[.string ⟨#[]⟩,O X 0 0,Y Z 0,Y Z 0,Y Z 0,Y Z 0] 44));have k0:=qcB K3 (i:=0) (u:=.string ⟨#[]⟩) rfl;have k1:=qcB K3 (i:=1) (u:=O X 0 0) rfl;have k2:=qcB K3 (i:=2) (u:=Y Z 0) rfl;have k3:=qcB K3 (i:=3) (u:=Y Z 0) rfl;have k4:=qcB K3 (i:=4) (u:=Y Z 0) rfl;have k5:=qcB K3 (i:=5) (u:=Y Z 0) rfl;have kf:=qfB K3
 have Hne:=hd9 (show ∀q∈[((⟨w.heap.size,0,X⟩:Addr),Value.string nm),(⟨w.heap.size,1,X⟩,O a n c),(⟨w.heap.size,2,X⟩,Y Z d),(⟨w.heap.size,3,X⟩,Y Z de),(⟨w.heap.size,4,X⟩,Y Z gx),(⟨w.heap.size,5,X⟩,Y Z gz)],w.heap.size+1≠q.1.block from fun q hq h=>by
  simp at hq
  rcases hq with rfl|rfl|rfl|rfl|rfl|rfl<;>(dsimp only at h;omega))
 have hX3:Ext w w3:=((((eR w).alloc _).alloc _).drew).trans hx3;have HK3:=hd9 K3;clear K3;refine cl1 (i:=17) fun K hK=>?_
 go_simp;refine kO hK (CellL.set (p:=⟨w.heap.size+1,5,X⟩) (CellL.set (p:=⟨w.heap.size+1,4,X⟩) (CellL.set (p:=⟨w.heap.size+1,3,X⟩) (CellL.set (p:=⟨w.heap.size+1,2,X⟩) (CellL.set (p:=⟨w.heap.size+1,1,X⟩) (CellL.set (p:=⟨w.heap.size+1,0,X⟩) h9H Hne.out _) Hne.out _) Hne.out _) Hne.out _) Hne.out _) Hne.out _) (fun h9H=>?_);clear hK K;refine wpAnyH_done (by kernel_rfl) ?_ _;go_wp2;obtain⟨W5,hW5⟩:=gX (((((((w3.setCell ⟨w.heap.size+1,0,X⟩ (.string nm)).setCell ⟨w.heap.size+1,1,X⟩ (O a3 n3 c3)).setCell ⟨w.heap.size+1,2,X⟩ (Y Z d)).setCell ⟨w.heap.size+1,3,X⟩ (Y Z de)).setCell ⟨w.heap.size+1,4,X⟩ (Y Z gx)).setCell ⟨w.heap.size+1,5,X⟩ (Y Z gz)))
 have hb:W5.heap[w.heap.size+1]?=V (M #[.string nm,O a3 n3 c3,Y Z d,Y Z de,Y Z gx,Y Z gz] 44 (0,0)):=by
  rw [←hW5];exact zah (zah (zah (zah (zah (zah HK3.out 0 _) 1 _) 2 _) 3 _) 4 _) 5 _
 have hk:KeepT 42 w3 W5:=by
  rw [←hW5];exact(((((KeepT.refl 42 w3).set (p:=⟨w.heap.size+1,0,X⟩) HK3.out (by decide) _).set (p:=⟨w.heap.size+1,1,X⟩) (zah HK3.out 0 _) (by decide) _).set (p:=⟨w.heap.size+1,2,X⟩) (zah (zah HK3.out 0 _) 1 _) (by decide) _).set (p:=⟨w.heap.size+1,3,X⟩) (zah (zah (zah HK3.out 0 _) 1 _) 2 _) (by decide) _).set (p:=⟨w.heap.size+1,4,X⟩) (zah (zah (zah (zah HK3.out 0 _) 1 _) 2 _) 3 _) (by decide) _ |>.set (p:=⟨w.heap.size+1,5,X⟩) (zah (zah (zah (zah (zah HK3.out 0 _) 1 _) 2 _) 3 _) 4 _) (by decide) _
 have hX5:Ext w W5:=by
  rw [←hW5];exact((((((hX3.set (by dsimp only;omega) _).set (by dsimp only;omega) _).set (by dsimp only;omega) _).set (by dsimp only;omega) _).set (by dsimp only;omega) _).set (by dsimp only;omega) _)
 rw [hW5];have b0:=qcB hb (i:=0) (u:=.string nm) rfl;have b1:=qcB hb (i:=1) (u:=O a3 n3 c3) rfl;have b2:=qcB hb (i:=2) (u:=Y Z d) rfl;have b3:=qcB hb (i:=3) (u:=Y Z de) rfl;have b4:=qcB hb (i:=4) (u:=Y Z gx) rfl;have b5:=qcB hb (i:=5) (u:=Y Z gz) rfl;exact bR (v:=E #[.string nm,O a3 n3 c3,Y Z d,Y Z de,Y Z gx,Y Z gz]) (by simp [results,Tryz.results50,go_sem,b0,b1,b2,b3,b4,b5]) rfl ⟨_,rfl,hv3.keep' hk,hX5,fun j hj=>by have:=(hown3.lt j hj).1;simp only [wZ,qdZ]at this;omega⟩
end
end Go.Proofs.YteipgejmhfpkaaaGreatDoor.Cop
