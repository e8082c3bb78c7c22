/- Part 20: contracts of what the law calls. -/
import Derived.Test.YteipgejmhfpkaaaGreatDoorCopA18
import Derived.Test.YteipgejmhfpkaaaGreatDoorCopA17
import Derived.Test.YteipgejmhfpkaaaGreatDoorCopA13
import Derived.Test.YteipgejmhfpkaaaGreatDoorCopA14
set_option maxRecDepth 1000000
set_option maxHeartbeats 16000000
set_option linter.unusedSimpArgs false
set_option linter.unusedVariables false
open Go renaming World→O,Value→X,Act→U
open Go.Value renaming int→Y,pointer→M,slice→N,tuple→Oa
open Go.IntKind renaming i64→Z
open Option renaming some→V,none→I
open Go.Obj renaming cells→F
namespace Go.Proofs.YteipgejmhfpkaaaGreatDoor.Cop
section
open Go.RowKit Go.Shelf Go.Sort
theorem zjK (w:O) (p:Option Addr) (c:Nat) (fv:X):Calls Tryz.prog 116 #[N p 0 c,Y Z 0,Y Z 0,fv] w fun e w'=>e = .returned (Oa #[])∧w'=w:=by
 go_enter Tryz.func116,Tryz.ntmps116;go_wp2;refine wp_loop_rounds 1 ?_;rw [rounds_succ];go_wp2
 go_end0
 exact⟨rfl,rfl⟩
theorem zic (w:O) (p:Option Addr) (c:Nat) (lim:Int) (fv:X):Calls Tryz.prog 83 #[N p 0 c,Y Z 0,Y Z 0,Y Z lim,fv] w fun e w'=>e = .returned (Oa #[])∧w'=w:=by
 go_enter Tryz.func83,Tryz.ntmps83;go_wp2;refine wp_loop_rounds 1 ?_;rw [rounds_succ]
 go_wp2_with(go_at_call 116;refine(zjK _ _ _ _).mono ?_;rintro e w' ⟨rfl,rfl⟩)
 (try simp only [Exit.inBlock,Exit.then]);refine bR (results_none rfl _ _ _) rfl ?_
 exact⟨rfl,rfl⟩
theorem zgH (w:O) (p:Option Addr) (c:Nat) (fv:X):Calls Tryz.prog 47 #[N p 0 c,fv] w fun e w'=>e = .returned (Oa #[])∧w'=w:=by
 have hl:∀W,Calls Tryz.prog 84 #[Y .u64 0] W fun e w'=>e = .returned (Y Z (Lib.bitLen 0:Nat))∧w'=W:=fun W=>Tryz.bits_Len 0 W (by omega) (by omega)
 go_enter Tryz.func47,Tryz.ntmps47
 go_wp2_with(first|(go_at_call 84;refine(hl _).mono ?_;rintro e w' ⟨rfl,rfl⟩)|(go_at_call 83;refine(zic _ _ _ _ _).mono ?_;rintro e w' ⟨rfl,rfl⟩))
 go_end0
 exact⟨rfl,rfl⟩
theorem zjL (w:O) (p:Option Addr) (c:Nat) (fv:X):Calls Tryz.prog 126 #[N p 0 c,Y Z 0,Y Z 0,fv] w fun e w'=>e = .returned (Oa #[])∧w'=w:=by
 go_enter Tryz.func126,Tryz.ntmps126;go_wp2;refine wp_loop_rounds 1 ?_;rw [rounds_succ];go_wp2
 go_end0
 exact⟨rfl,rfl⟩
theorem zid (w:O) (p:Option Addr) (c:Nat) (lim:Int) (fv:X):Calls Tryz.prog 87 #[N p 0 c,Y Z 0,Y Z 0,Y Z lim,fv] w fun e w'=>e = .returned (Oa #[])∧w'=w:=by
 go_enter Tryz.func87,Tryz.ntmps87;go_wp2;refine wp_loop_rounds 1 ?_;rw [rounds_succ]
 go_wp2_with(go_at_call 126;refine(zjL _ _ _ _).mono ?_;rintro e w' ⟨rfl,rfl⟩)
 (try simp only [Exit.inBlock,Exit.then]);refine bR (results_none rfl _ _ _) rfl ?_
 exact⟨rfl,rfl⟩
theorem zgI (w:O) (p:Option Addr) (c:Nat) (fv:X):Calls Tryz.prog 53 #[N p 0 c,fv] w fun e w'=>e = .returned (Oa #[])∧w'=w:=by
 have hl:∀W,Calls Tryz.prog 84 #[Y .u64 0] W fun e w'=>e = .returned (Y Z (Lib.bitLen 0:Nat))∧w'=W:=fun W=>Tryz.bits_Len 0 W (by omega) (by omega)
 go_enter Tryz.func53,Tryz.ntmps53
 go_wp2_with(first|(go_at_call 84;refine(hl _).mono ?_;rintro e w' ⟨rfl,rfl⟩)|(go_at_call 87;refine(zid _ _ _ _ _).mono ?_;rintro e w' ⟨rfl,rfl⟩))
 go_end0
 exact⟨rfl,rfl⟩
def RetSn (w:O) (base:Nat) (v:X) (js:List (JS×X)) (e:Ending) (w':O):Prop:=
 e = .returned (Oa #[])∧∃js':List (JS×X),js'.Perm js∧js'.Pairwise (fun a b=>a.1.x.1≤b.1.x.1)∧OwnC 127 15 w' base v (js'.map jc)∧w.grownBy w' v.ownBlock
theorem zir (w:O) (base:Nat) (v:X) (js:List (JS×X)) (h:OwnC 127 15 w base v (js.map jc)) (hb:∀j∈js,BJ j) (hn9:js.length≤1000000) :
  Calls Tryz.prog 47 #[v,.func (.func 48) #[] #[]] w (RetSn w base v js):=by
 obtain⟨a,n,c,rfl⟩:=h.form3;have hn:=h.len;rw [lL]at hn
 by_cases h0:js=[]
 ·subst h0
  simp at hn;subst hn;refine(zgH w a c _).mono ?_;rintro e w' ⟨rfl,rfl⟩;exact⟨rfl,[],List.Perm.refl _,List.Pairwise.nil,h,⟨rfl,rfl,rfl,nE _,fun _ _ _=>rfl⟩⟩
 ·obtain⟨g,rfl,_⟩:=h.blk (by rw [lL];exact List.length_pos_iff.2 h0)
  refine(zis w base g n c js h hb hn9).mono ?_;rintro e w' ⟨rfl,js',h1,h2,h3,h4⟩;exact⟨rfl,js',h1,h2,h3,h4⟩
theorem zpd {ps:List Pl} {js:List (JS×X)} (hok:∀p∈ps,placedOk p=true) (hjs:js.map Prod.fst=jsP ps) {w:O} (hjv:∀j∈js,IsPts w j.2 j.1.p.shape):∀j∈js,BJ j:=by
 intro j hj;have h1:j.1∈jsP ps:=by rw [←hjs];exact List.mem_map_of_mem hj
 have h2:=(zdP hok h1).1.1;obtain⟨a,n,c,h⟩:=form3 (hjv j hj);refine⟨?_,a,n,c,h⟩;unfold Bd at *;omega
theorem zk8 {ps:List Pl} {js ks:List (JS×X)} {b t:Int} (hjs:js.map Prod.fst=jsP ps) (hp:ks.Perm (js.filter fun j=>!outB b t j.1)):(ks.map Prod.fst).Perm (bareJ b t ps):=by
 have h:=hp.map Prod.fst
 have e:(js.filter fun j=>!outB b t j.1).map Prod.fst=bareJ b t ps:=by
  unfold bareJ;rw [←hjs,List.filter_map];rfl
 rwa [e]at h
theorem zmZ (w:O) (vg vp:X) (g:List (Int×Int)) (ps:List Pl) (b t lo hi:Int) (hg:IsPts w vg g) (hp:IsPls w vp ps) (hgw:Gw w) (h0:laidP g ps=0) (c1:b<t) (c2:lo<hi) (c3:[b,t,lo,hi].any pfarB=false) :
  Calls Tryz.prog 23 #[.agg #[vg,vp],Y Z b,Y Z t,Y Z lo,Y Z hi] w (RetBa w b t lo hi g ps):=by
 obtain⟨hok,hn9,hgb⟩:=zal h0;have HC:=hd9 (fun W (hW:Ext w W)=>zbf W vg vp g ps (hg.ext' hW) (hp.ext' hW) (hgw.ext hW));have HS:=hd9 (fun W (hW:Ext w W)=>zeM W vg vp ps (form3 hg) (hp.ext' hW) (hgw.ext hW) hok hn9);obtain⟨ga,gn,gc,rfl⟩:=form3 hg;obtain⟨pa,pn,pc1,rfl⟩:=form3 hp;obtain⟨R,hR⟩:=gX (RetBa w b t lo hi g ps);rw [hR];have HR:=hd9 hR;have he:bareE b t lo hi g ps=0:=by unfold bareE;rw [if_pos h0,if_neg (by rw [c3];simp;omega)]
 rw [h0]at HC;have HE:=hd9 he;have C3:=hd9 c3;have Hok:=hd9 hok;have Hn9:=hd9 hn9
 have hfar:Bd 104000 lo∧Bd 104000 hi:=by
  unfold pfarB at c3;simp at c3;unfold Bd;omega
 have Hfar:=hd9 hfar;have Hlh:=hd9 c2;clear hg hp hgw hR he h0 c3 hok hgb hfar hn9;have hmf:∀(fn:Fn) (first cap:Array X) (w:O),(Instr.makeFunc fn first cap).run Tryz.prog w = .ok (.func fn first cap) w:=fun _ _ _ _=>rfl
 go_enter Tryz.func23,Tryz.ntmps23
 go_wp2_with(first|(go_at_call 40;(with_reducible refine(HC.out _ ?_).mono ?_);exact eA;rintro e w3 ⟨rfl,hx3⟩;obtain⟨hc3,hf3⟩:=hx3.cells;(have z3:=hx3.size);(simp only [wZ]at z3);(have y0:w.heap.size<w3.heap.size:=(by omega));(have y1:w.heap.size+1<w3.heap.size:=(by omega));(have y2:w.heap.size+1+1<w3.heap.size:=(by omega));(have y3:w.heap.size<w3.heap.size+1:=(by omega)))|(go_at_call 42;(with_reducible refine(zfo _ _ [b,t,lo,hi] (zjJ _ rfl b t lo hi)).mono ?_);rw [C3.out];rintro e w4 ⟨rfl,hx4⟩;obtain⟨hc4,hf4⟩:=hx4.cells)|(go_at_call 43;(with_reducible refine(HS.out _ ?_).mono ?_);exact eA;rintro e w5 ⟨v5,js,rfl,hown5,hjs,hjv,hx5⟩;obtain⟨a5,n5,k5,rfl⟩:=hown5.form3;have z4:=hx4.size;have z5:=hx5.size;(simp only [wZ]at z4);(have K1:=hx5.heapS (hx4.heapS (((eR w3).alloc (F #[Y Z b,Y Z t,Y Z lo,Y Z hi] 3)).heapS (hx3.heapS (zlM w b (F #[N ga gn gc,N pa pn pc1] 33) (F #[Y Z t] 3))))));(have K2:=hx5.heapS (hx4.heapS (((eR w3).alloc (F #[Y Z b,Y Z t,Y Z lo,Y Z hi] 3)).heapS (hx3.heapS (aN _ (F #[Y Z t] 3))))))))
 simp only [wZ]at K2;have HB:=hd9 (zpd Hok.out hjs hjv)
 have Hl9:js.length≤1000000:=by
  have h9:=congrArg List.length hjs;have h8:=Hn9.out;rw [lL,zbC]at h9;omega
 with_reducible refine(zjl _ _ _ js (w.heap.size+1) (w.heap.size+1+1) (outB b t) hown5 z5 Hl9 ?_ ?_).mono ?_
 ·intro j hj;obtain⟨a,n,c,h⟩:=form3 (hjv j hj);exact⟨a,n,c,h⟩
 ·intro W hW j hj;exact ziQ W j b t _ _ (qcB ((hW.block _ (by omega)).trans K1) rfl) (qcB ((hW.block _ (by omega)).trans K2) rfl)
 rintro e w6 ⟨v6,rfl,hown6,hB6⟩;obtain⟨a6,n6,k6,rfl⟩:=hown6.form3;have Hlf:(js.filter fun j=>!outB b t j.1).length≤1000000:=nT (List.length_filter_le _ _) Hl9
 go_wp2_with(go_at_call 47;(with_reducible refine(zir _ _ _ _ hown6 ?_ Hlf).mono ?_);(intro j hj;exact HB.out j (List.mem_filter.1 hj).1);rintro e w7 ⟨rfl,ks,hks,hpw,hown7,hg7⟩)
 have X5:Ext w w5:=eA;have zz5:=X5.size;have z60:=hB6.size;have X4:Ext w w4:=eA;have X6:Ext w w6:=X5.thenB hB6 X4.size;have X7:Ext w w7:=X6.thenB (zad (base:=w4.heap.size) hg7 (by omega) (fun k hk=>(hown6.lt k hk).1)) X4.size;have hj7:=hown7.js;have hn7:=hown7.len;rw [lL]at hn7
 have hmem:∀j∈ks,(Bd 104000 j.1.x.1∧Bd 104000 j.1.x.2):=fun j hj=>by
  have h1:j∈js:=(List.mem_filter.1 (hks.mem_iff.1 hj)).1;have h2:j.1∈jsP ps:=by rw [←hjs];exact List.mem_map_of_mem h1
  exact(zdP Hok.out h2).1
 have Hmem:=hd9 hmem
 have hsl:∀j∈ks,∃a n c,j.2=N a n c:=fun j hj=>by
  obtain⟨a,n,c,h⟩:=form3 (hjv j (List.mem_filter.1 (hks.mem_iff.1 hj)).1);exact⟨a,n,c,h⟩
 have Hsl:=hd9 hsl;have hres:=zk8 (b:=b) (t:=t) hjs hks;have Hres:=hd9 hres;have Hpw:=hd9 hpw;have Hn:=hd9 hn7.symm;have hn6:n6≤9223372036854775807:=by have:=hj7.le;unfold maxLen at this;omega
 clear hmem hsl hres hpw hks hown7 hown6 hown5 hjs hjv K1 K2 HB hc3 hf3 hc4 hf4 hB6 hg7 hx3 hx4 hx5 hmf hn7
 go_loopg [15,16,51] n6 (BaS w (N a6 n6 k6) lo hi ks)
 case atStart=>exact⟨0,by omega,rfl,by rw [Hn.out];rfl,by simp,by simp,X7,hj7⟩
 case round =>
  obtain⟨i,hi',rfl,rfl,rfl,rfl,hx,hjw⟩:=hrel;rw [Hn.out]at hi';obtain⟨o1,ho1⟩:=gX ((((ks.take i).map Prod.fst).foldl (swP hi) (0,lo)).1);obtain⟨o2,ho2⟩:=gX ((((ks.take i).map Prod.fst).foldl (swP hi) (0,lo)).2);have hbd:=zo3 (k:=104000) (hi:=hi) (js:=(ks.take i).map Prod.fst) Hfar.out.2 (fun j hj=>by obtain⟨q,hq,rfl⟩:=List.mem_map.1 hj;exact Hmem.out q (List.mem_of_mem_take hq)) (o:=(0,lo)) ⟨by unfold Bd;omega,Hfar.out.1⟩;rw [ho1,ho2]at hbd;rw [ho1,ho2];have hfh:=Hfar.out.2;unfold Bd at hbd hfh
  by_cases hlt:i<n6
  ·obtain⟨⟨⟨⟨nm,sh,d,de,gx,gz,wy,ax,az,sk⟩,k,⟨xl,xh⟩,zl,zh⟩,v⟩,hq⟩:∃q,ks[i]?=V q:=⟨ks[i]'(by rw [Hn.out];omega),by simp [Hn.out,hlt]⟩
   obtain⟨va,vn,vc,hvv⟩:=Hsl.out _ (lM hq);dsimp only at hvv;subst hvv;obtain⟨bk,o,rfl,hb,hc⟩:=hjw.at' hq;have hxb:=Hmem.out _ (lM hq);dsimp only [Bd]at hxb
   have e9:((ks.take (i+1)).map Prod.fst).foldl (swP hi) (0,lo)=(max o1 (min xl hi-o2),max o2 xh):=by
    rw [zaa _ _ _ hq,List.map_append,List.map_cons,List.map_nil,zml,show ((ks.take i).map Prod.fst).foldl (swP hi) (0,lo)=(o1,o2)from Prod.ext ho1 ho2];rfl
   have E9:=hd9 e9;have d1 : -9223372036854775808≤min xl hi-o2:=by omega
   have d2:min xl hi-o2≤9223372036854775807:=by omega
   unfold jca at hc;dsimp only at hc;have cc0:=hc 0 (.string nm) rfl;have cc1:=hc 1 (N va vn vc) rfl;have cc2:=hc 2 (Y Z d) rfl;have cc3:=hc 3 (Y Z de) rfl;have cc4:=hc 4 (Y Z gx) rfl;have cc5:=hc 5 (Y Z gz) rfl;have cc6:=hc 6 (Y Z wy) rfl;have cc7:=hc 7 (Y Z ax) rfl;have cc8:=hc 8 (Y Z az) rfl;have cc9:=hc 9 (Y .u8 sk) rfl;have cc10:=hc 10 (Y Z k) rfl;have cc11:=hc 11 (Y Z xl) rfl;have cc12:=hc 12 (Y Z xh) rfl;have cc13:=hc 13 (Y Z zl) rfl;have cc14:=hc 14 (Y Z zh) rfl;simp only [Nat.add_zero]at cc0;have Hx:=hd9 hx;have Hjw:=hd9 hjw;clear hq hc hbd hfh hxb ho1 ho2 hx hjw e9;go_wp2
   all_goals go_roundg (n6-(i+1))
   case measure=>have:=Hn.out;omega
   case rel =>
    refine⟨i+1,by have:=Hn.out;omega,by go_num,by rw [Hn.out],?_,?_,Hx.out.alloc _,Hjw.out.ext' ((eR _).alloc _)⟩
    ·rw [E9.out]
    ·rw [E9.out]
  ·obtain rfl:i=n6:=by omega
   have e:ks.take i=ks:=lT (by rw [Hn.out];exact nE _);rw [e]at ho1 ho2;have e2:sweepP lo hi (ks.map Prod.fst)=max o1 (hi-o2):=by unfold sweepP;rw [ho1,ho2]
   have E2:=hd9 e2;have d1 : -9223372036854775808≤hi-o2:=by omega
   have d2:hi-o2≤9223372036854775807:=by omega
   clear e e2 ho1 ho2 hbd hfh;go_wp2
   all_goals rw [←HR.out]
   refine .inr ⟨HE.out,ks.map Prod.fst,Hres.out,?_,by rw [E2.out];rfl,hx⟩;rw [List.pairwise_map];exact Hpw.out
theorem zpc (w:O) (vg vp:X) (g:List (Int×Int)) (ps:List Pl) (b t lo hi:Int) (hg:IsPts w vg g) (hp:IsPls w vp ps) (hgw:Gw w) :
  Calls Tryz.prog 23 #[.agg #[vg,vp],Y Z b,Y Z t,Y Z lo,Y Z hi] w (RetBa w b t lo hi g ps):=by
 by_cases h0:laidP g ps=0
 ·by_cases h1:t≤b∨hi≤lo∨[b,t,lo,hi].any pfarB=true
  ·exact zk9 w vg vp g ps b t lo hi hg hp hgw h0 h1
  ·have h2:¬t≤b:=fun h=>h1 (.inl h)
   have h3:¬hi≤lo:=fun h=>h1 (.inr (.inl h))
   have h4:¬[b,t,lo,hi].any pfarB=true:=fun h=>h1 (.inr (.inr h))
   exact zmZ w vg vp g ps b t lo hi hg hp hgw h0 (by omega) (by omega) (by simpa using h4)
 ·exact zla w vg vp g ps b t lo hi hg hp hgw h0
def OrW (w:O) (xs:List Int) (g:Nat) (t8:X) (W:O):Prop:=
 ∃i:Nat,i≤xs.length∧t8=Y Z i∧g=xs.length-i∧W=w∧∀j y,j<i→xs[j]?=V y→y=0
theorem znA (w:O) (v:X) (xs:List Int) (h:Ints 3 w v xs) :
  Calls Tryz.prog 88 #[v] w fun e w'=>e = .returned (Y Z (orL xs))∧w'=w:=by
 obtain⟨a,c,rfl⟩:=h.form;obtain⟨n,hn⟩:=gX xs.length;rw [hn]at h ⊢;have hle:=h.le;unfold maxLen at hle;have hnc:n≤9223372036854775807:=by omega
 have Hn:=hd9 hn;clear hn hle;go_enter Tryz.func88,Tryz.ntmps88;go_wp2
 go_loopg [8] n (OrW w xs)
 case atStart=>exact⟨0,by omega,rfl,by rw [Hn.out];rfl,rfl,fun j y hj=>by omega⟩
 case round =>
  obtain⟨i,hi,rfl,rfl,rfl,hall⟩:=hrel;rw [Hn.out]at hi;have Hall:=hd9 hall;clear hall
  by_cases hlt:i<n
  ·obtain⟨x,hq⟩:∃x,xs[i]?=V x:=⟨xs[i]'(by rw [Hn.out];omega),by simp [Hn.out,hlt]⟩
   obtain⟨b,o,rfl,hb,hc⟩:=h.open (by rw [Hn.out];omega);have hcx:=hc i x hq;have Hq:=hd9 hq;clear hq hc
   by_cases h0:x=0
   ·subst h0
    go_wp2
    go_roundg (n-(i+1))
    case measure=>have:=Hn.out;omega
    case rel =>
     refine⟨i+1,by have:=Hn.out;omega,by go_num,by rw [Hn.out],rfl,fun j y hj hy=>?_⟩
     by_cases hji:j=i
     ·subst hji;rw [Hq.out]at hy;cases hy;rfl
     ·exact Hall.out j y (by omega) hy
   ·have e:orL xs=x:=zkk Hq.out h0 Hall.out
    have E:=hd9 e;have hb1:(x != 0)=true:=by simpa using h0
    have hb2:(x==0)=false:=by simpa using h0
    clear e h0;go_wp2;go_ret;exact⟨by rw [E.out];rfl,rfl⟩
  ·obtain rfl:i=n:=by omega
   have e:orL xs=0:=ze8 (fun j y hy=>Hall.out j y (by have:=(lS.1 hy).1;rw [Hn.out]at this;exact this) hy);have E:=hd9 e;clear e;go_wp2;go_ret;exact⟨by rw [E.out];rfl,rfl⟩
theorem zh9 (w:O) (v:X) (xs:List Int) (h:Ints 3 w v xs) :
  Calls Tryz.prog 55 #[v] w fun e w'=>e = .returned (Y Z (orL xs))∧w'=w:=by
 obtain⟨x,hx⟩:=gX (orL xs);have hc:=znA w v xs h;rw [hx]at *;have Hc:=hd9 hc;obtain⟨a,c,rfl⟩:=h.form;clear hc hx;go_enter Tryz.func55,Tryz.ntmps55
 go_wp2_with(((go_at_call 88;(with_reducible refine Hc.out.mono ?_);rintro e w1 ⟨rfl,rfl⟩)))
 go_ret;exact⟨rfl,rfl⟩
theorem ints4 (W:O) {k:Nat} (hk:k=W.heap.size) (x y z u:Int):Ints 3 (W.alloc (F #[Y Z x,Y Z y,Y Z z,Y Z u] 3)) (N (V ⟨k,0,I⟩) 4 4) [x,y,z,u]:=by
 subst hk;refine⟨rfl,_,_,rfl,nE _,by unfold maxLen;omega,.inr ⟨W.heap.size,0,_,_,rfl,aN W _,?_⟩⟩;intro i v hv
 match i,hv with
 | 0,hv=>simpa [lits] using hv
 | 1,hv=>simpa [lits] using hv
 | 2,hv=>simpa [lits] using hv
 | 3,hv=>simpa [lits] using hv
 | i+4,hv=>simp [lits]at hv
def cfT (p q:Jt):Int:=orL [p.fr-q.fr,p.left-q.left,p.a-q.a,p.b-q.b]
instance:Inhabited {j // BJt j}:=⟨⟨⟨0,0,0,0,0,0⟩,by unfold BJt Bd;decide⟩⟩
theorem zgU (p q:Jt):cfT p q<0 ↔ (p.fr<q.fr∨(p.fr=q.fr∧(p.left<q.left∨(p.left=q.left∧(p.a<q.a∨(p.a=q.a∧p.b<q.b)))))):=by
 unfold cfT orL orL orL orL orL
 repeat' split
 all_goals omega
theorem ltT (x y:{j // BJt j}):ltOf (fun x y:{j // BJt j}=>cfT x.1 y.1) x y=decide (cfT x.1 y.1<0):=rfl
theorem swoT:SWO (ltOf fun x y:{j // BJt j}=>cfT x.1 y.1) where
 irrefl x:=by rw [ltT,decide_eq_false_iff_not,zgU];omega
 trans x y z h1 h2:=by rw [ltT,decide_eq_true_eq,zgU]at *;omega
 ntrans x y z h1 h2:=by rw [ltT,decide_eq_false_iff_not,zgU]at *;omega
theorem zls (x y:{j // BJt j}) (W:O):Calls Tryz.prog 54 #[.agg (jta x.1),.agg (jta y.1)] W fun e w'=>e = .returned (Y Z (cfT x.1 y.1))∧∃q os',w'=grow (W.drewN q) os':=by
 obtain⟨⟨a,b,l,r,f,t⟩,hx1,hx2,hx3,hx4,hx5,hx6⟩:=x;obtain⟨⟨a',b',l',r',f',t'⟩,hy1,hy2,hy3,hy4,hy5,hy6⟩:=y;unfold cfT jta;dsimp only [Bd]at hx1 hx2 hx3 hx4 hx5 hx6 hy1 hy2 hy3 hy4 hy5 hy6 ⊢;have d1 : -9223372036854775808≤f-f':=by omega
 have d2:f-f'≤9223372036854775807:=by omega
 have d3 : -9223372036854775808≤l-l':=by omega
 have d4:l-l'≤9223372036854775807:=by omega
 have d5 : -9223372036854775808≤a-a':=by omega
 have d6:a-a'≤9223372036854775807:=by omega
 have d7 : -9223372036854775808≤b-b':=by omega
 have d8:b-b'≤9223372036854775807:=by omega
 clear hx1 hx2 hx3 hx4 hx5 hx6 hy1 hy2 hy3 hy4 hy5 hy6;obtain⟨x,hx⟩:=gX (orL [f-f',l-l',a-a',b-b']);rw [hx];have HX:=hd9 hx;clear hx;go_enter Tryz.func54,Tryz.ntmps54
 go_wp2_with(go_at_call 55;(with_reducible refine(zh9 _ (N (V ⟨W.heap.size+1+1,0,I⟩) 4 4) [f-f',l-l',a-a',b-b'] (ints4 _ (by simp) _ _ _ _)).mono ?_);rw [HX.out];rintro e w3 ⟨rfl,rfl⟩)
 go_ret;exact⟨rfl,0,_,by rw [alloc_eq_grow,alloc_eq_grow,grow_grow,alloc_eq_grow,grow_grow];rfl⟩
theorem cmpLaysT (blk off size:Nat) (w:O):CmpLays Tryz.prog 54 #[] (fun x:{j // BJt j}=>jtc x.1) 6 (fun x y=>cfT x.1 y.1) blk off size w:=
 fun _ _ _ _ x y=>zls x y _
def RetTt (w:O) (base:Nat) (v:X) (l:List Jt) (e:Ending) (w':O):Prop:=
 e = .returned (Oa #[])∧∃l':List Jt,l'.Perm l∧l'.Pairwise (fun a b=>¬cfT b a<0)∧OwnC 75 6 w' base v (l'.map jtc)∧w.grownBy w' v.ownBlock
theorem zkM (w:O) (base:Nat) (v:X) (l:List Jt) (h:OwnC 75 6 w base v (l.map jtc)) (hb:∀j∈l,BJt j) (hn9:l.length≤1000000) :
  Calls Tryz.prog 53 #[v,.func (.func 54) #[] #[]] w (RetTt w base v l):=by
 obtain⟨a,n,c,rfl⟩:=h.form3;have hn:=h.len;rw [lL]at hn
 by_cases h0:l=[]
 ·subst h0
  simp at hn;subst hn;refine(zgI w a c _).mono ?_;rintro e w' ⟨rfl,rfl⟩;exact⟨rfl,[],List.Perm.refl _,List.Pairwise.nil,h,⟨rfl,rfl,rfl,nE _,fun _ _ _=>rfl⟩⟩
 obtain⟨g,rfl,_⟩:=h.blk (by rw [lL];exact List.length_pos_iff.2 h0);obtain⟨d,hd⟩:=gX ((l.attachWith BJt hb).toArray);have hds:d.size=n:=by rw [←hd,hn,List.size_toArray];exact List.length_attachWith
 have hdv:d.toList.map (·.1)=l:=by rw [←hd];exact zat hb
 have hdl:d.toList.map (fun x=>jtc x.1)=l.map jtc:=by
  rw [show (fun x:{j // BJt j}=>jtc x.1)=jtc ∘ (·.1)from rfl,←List.map_map,hdv]
 have hg:=(h.lt g rfl).2;have eg:∀args w,(callFunc 54 args).run Tryz.prog w = .ok (.enter 54 args) w:=enters_of Tryz.func54 (by kernel_rfl) rfl;have h':OwnC 75 6 w base (N (V ⟨g,0,I⟩) n c) (d.toList.map fun x=>jtc x.1):=by rw [hdl];exact h
 have hH:=zcZ (enc:=fun x:{j // BJt j}=>jtc x.1) (fun _=>rfl) h'
 have hO:∀x:{j // BJt j},∀v∈jtc x.1,v.oneCell'=true:=fun x v hv=>by
  simp [jtc,jta]at hv
  rcases hv with rfl|rfl|rfl|rfl|rfl|rfl<;>rfl
 have hp:=AnyQ.slices_SortFunc (P:=Tryz.prog) (ρ:=Tryz.sortJoint_ren) Tryz.sortJoint 6 Tryz.isAgg75 Tryz.sizeOf75 (fun x:{j // BJt j}=>jtc x.1) (fun _=>rfl) hO (fun x y=>cfT x.1 y.1) swoT 54 #[] g 0 c d w eg (cmpLaysT g 0 d.size w) hH hg (by omega);rw [hds]at hp;refine hp.mono ?_;rintro e w' ⟨rfl,d',m,os,⟨q1,_,q3⟩,hs,rfl⟩;rw [←hds]at q3 hs
 have q4:d'.toList.Perm d.toList:=by
  have e1:d'.extract 0 d.size=d':=by rw [←q1];exact Array.extract_size
  rw [e1,Array.extract_size]at q3;exact q3
 refine⟨rfl,d'.toList.map (·.1),?_,?_,?_,zfe _⟩
 ·rw [←hdv];exact q4.map _
 ·rw [List.pairwise_map,List.pairwise_iff_getElem]
  intro i j hi hj hij;simp at hi hj;have h9:=hs i j (Nat.zero_le _) hij (by omega);rw [ltT,getElem!_pos d' i hi,getElem!_pos d' j hj,decide_eq_false_iff_not]at h9
  simpa using h9
 ·have:=zcu (m:=m) (os:=os) (enc:=fun x:{j // BJt j}=>jtc x.1) (fun _=>rfl) (d':=d') h' q1
  rw [List.map_map];exact this
end
section
open Go.RowKit Go.Shelf
def preds (md:Region.Mode) (ops:Array Oper) (j:Nat):List Nat:=match ops[j]? with|some o=>(o.after.toList.filter (Region.binds md)).map (·.on)|none=>[]
def reach (md:Region.Mode) (ops:Array Oper):Nat→Nat→List Nat
 | 0,j=>preds md ops j
 | n+1,j=>preds md ops j++(preds md ops j).flatMap (reach md ops n)
def gated (md:Region.Mode) (ops:Array Oper) (late:Nat→Bool) (n:Nat):Bool:=
 (List.range ops.size).all fun j=>!late j || ((List.range ops.size).all fun i=>late i || (reach md ops n j).contains i)
def Cl (md:Region.Mode) (ops:Array Oper) (listed:Array Bool):Prop:=∀k o,ops[k]?=V o→listed.getD k false=true→∀e∈o.after,Region.binds md e=true→listed.getD e.on false=true
section
variable {n:Nat} {P:Program} {ops:Array Oper} {Q:Exit→U→O→Prop} {md:Region.Mode} {S:O→Prop} {late:Nat→Bool}
theorem zbY {listed:Array Bool} {j:Nat} (h:∀o,ops[j]?=V o→∀e∈o.after,Region.binds md e=true→listed.getD e.on false=true):∀k∈preds md ops j,listed.getD k false=true:=by
 intro k hk;unfold preds at hk
 cases ho:ops[j]? with
 | none=>rw [ho]at hk;cases hk
 | some o =>
  rw [ho]at hk;obtain⟨e,he,rfl⟩:=List.mem_map.1 hk;obtain⟨h1,h2⟩:=List.mem_filter.1 he;exact h o ho e (by simpa using h1) h2
theorem zdk {listed:Array Bool} (hc:Cl md ops listed):∀(n j:Nat),(∀o,ops[j]?=V o→∀e∈o.after,Region.binds md e=true→listed.getD e.on false=true)→∀k∈reach md ops n j,listed.getD k false=true
 | 0,j,h=>zbY h
 | n+1,j,h=>by
  intro k hk
  rcases List.mem_append.1 hk with hk|hk
  ·exact zbY h k hk
  ·obtain⟨i,hi,hk⟩:=List.mem_flatMap.1 hk
   have h1:=zbY h i hi;exact zdk hc n i (fun o ho=>hc i o ho h1) k hk
theorem zd2 {listed:Array Bool} {m i j:Nat} (hg:gated md ops late m=true) (hc:Cl md ops listed) (hi:i∈Region.ready md ops listed) (hl:late i=false) (hj:j∈Region.ready md ops listed):late j=false:=by
 cases hlj:late j with
 | false=>rfl
 | true =>
  exfalso
  obtain⟨hjun,oj,hoj,hall⟩:=mem_ready.1 hj;obtain⟨hiun,oi,hoi,_⟩:=mem_ready.1 hi;unfold gated at hg;rw [List.all_eq_true]at hg;have h1:=hg j (List.mem_range.2 (Array.getElem?_eq_some_iff.1 hoj).1);rw [hlj]at h1;simp only [Bool.not_true,Bool.false_or,List.all_eq_true]at h1;have h2:=h1 i (List.mem_range.2 (Array.getElem?_eq_some_iff.1 hoi).1);rw [hl]at h2;simp only [Bool.false_or,List.contains_eq_mem,decide_eq_true_eq]at h2;have h3:=zdk hc m j (fun o ho=>by rw [hoj]at ho;cases ho;exact hall) i h2
  rcases Nat.lt_or_ge i listed.size with h' | h'
  ·simp [h']at h3 hiun;rw [h3]at hiun;cases hiun
  ·simp [Array.getElem?_eq_none h']at h3
theorem Cl.step {listed:Array Bool} (hc:Cl md ops listed) {j:Nat} (hj:j∈Region.ready md ops listed):Cl md ops (listed.setIfInBounds j true):=by
 intro k o ho hk e he hb
 have key:listed.getD e.on false=true→(listed.setIfInBounds j true).getD e.on false=true:=by
  intro h
  by_cases h0:e.on=j
  ·subst h0
   rcases Nat.lt_or_ge e.on listed.size with h' | h'
   ·simp [h']
   ·simp [Array.getElem?_eq_none h']at h
  ·rw [getD_set_ne false (Ne.symm h0)];exact h
 by_cases hkj:k=j
 ·subst hkj
  obtain⟨_,oj,hoj,hall⟩:=mem_ready.1 hj;rw [ho]at hoj;cases hoj;exact key (hall e he hb)
 ·rw [getD_set_ne false (Ne.symm hkj)]at hk
  exact key (hc k o ho hk e he hb)
theorem Cl.start (m:Nat):Cl md ops (Array.replicate m false):=by
 intro k o _ hk;simp [Array.getD_eq_getD_getElem?,Array.getElem?_replicate]at hk
 split at hk<;>simp at hk
theorem zcc {i:Nat} {o:Oper} {v:X} {a:U} (hi:ops[i]?=V o) (hy:YieldsIf P ops S o v a)
  {K:U→O→Prop} {w:O} (hS:S w) (h:K (a.put o.dst v) w):wpOpIn Fence.wide n P ops Q i K a w:=by
 unfold Go.wpOpIn;simp only [hi];have hro:Fence.wide.round=I:=rfl
 rcases hy with ⟨hw,hv⟩|⟨hw,rfl⟩
 ·simp only [hw,if_true,Oper.wpIn,hro,Oper.semAt_none,hv w hS,Oper.uponIn];exact⟨fun _ _=>trivial,h⟩
 ·simp only [hw,Bool.false_eq_true,if_false];exact⟨fun _ _=>trivial,h⟩
theorem zfY {j:Nat} {oi oj:Oper} {v:X} (hj:ops[j]?=V oj) (hap:oi.apart ops oj=true)
  (hsi:∀cs b,oi.op ≠ .select cs b) (hsj:∀cs b,oj.op ≠ .select cs b)
  (hQ:∀c a w,Q (.panic c) (a.put oi.dst v) w→Q (.panic c) a w) {K:U→O→Prop} {a:U} {w:O}
  (hy:YieldsIf P ops S oi v a) (h:wpOpIn Fence.wide n P ops Q j K (a.put oi.dst v) w) :
  wpOpIn Fence.wide n P ops Q j (fun a' w'=>YieldsIf P ops S oi v a'∧K (a'.put oi.dst v) w') a w:=by
 obtain⟨h1,h2,h3⟩:=Oper.apart_spec hap;have hro:Fence.wide.round=I:=rfl
 have keep:∀(a:U),YieldsIf P ops S oi v a→∀u,YieldsIf P ops S oi v (a.put oj.dst u):=fun a hy u =>
  hy.of_same (execOp_put oi hsi a oj.dst u h3) (wanted_put oi a oj.dst u h3)
 have keepD:∀d,YieldsIf P ops S oi v { a with defers:=d::a.defers }:=fun d=>hy.of_same rfl rfl
 unfold wpOpIn at *;simp only [hj]at *;rw [wanted_put oj a oi.dst v h1]at h
 split
 ·rename_i hw
  simp only [hw,if_true]at h;unfold Oper.wpIn at *;refine⟨fun _ _=>trivial,?_⟩;have h:=h.2;rw [hro,Oper.semAt_none,execOp_put oj hsj a oi.dst v h1]at h;rw [hro,Oper.semAt_none]
  generalize (execOp a.eval oj).run P w=r at *
  cases r with
  | ok x w' =>
   cases x<;>simp only [Oper.uponIn]at h ⊢
   case value u=>exact⟨keep a hy u,by rw [←Act.put_comm a v u h2];exact h⟩
   case skip=>exact⟨keep a hy _,by rw [←Act.put_comm a v undef h2];exact h⟩
   case defer d =>
    refine⟨keep _ (keepD d) _,?_⟩;rw [←Act.put_comm _ v undef h2,←Act.put_defers];exact h
   case enter f args =>
    refine⟨h.1,CallsIn.mono h.2 fun e w'' he=>?_⟩
    cases e with
    | returned u=>exact⟨keep a hy u,by rw [←Act.put_comm a v u h2];exact he⟩
    | panicked c=>exact hQ _ _ _ he
    | outgrown=>exact he
   case row row args=>exact⟨h.1,RowsIn.mono h.2 fun u w'' he=>⟨keep a hy u,by rw [←Act.put_comm a v u h2];exact he⟩⟩
   case round l f tmps assign body =>
    refine⟨h.1,RoundIn.mono h.2 fun e w'' he=>?_⟩
    cases e with
    | returned u=>exact⟨keep a hy u,by rw [←Act.put_comm a v u h2];exact he⟩
    | panicked c=>exact hQ _ _ _ he
    | outgrown=>exact he
  | halt x w' =>
   cases x<;>simp only [Oper.uponIn]at h ⊢
   case panic u=>exact hQ _ _ _ h
 ·rename_i hw
  simp only [hw]at h;exact⟨fun _ _=>trivial,keep a hy _,by rw [←Act.put_comm a v undef h2];exact h.2⟩
def HI (n:Nat) (P:Program) (md:Region.Mode) (ops:Array Oper) (Q:Exit→U→O→Prop) (S:O→Prop) (late:Nat→Bool):Nat→Array Bool→U→O→Prop
 | 0,listed,a,w=>Region.ready md ops listed=[]∧Q .normal a w
 | fuel+1,listed,a,w =>
  (Region.ready md ops listed=[]→Q .normal a w) ∧
  ∀i∈Region.ready md ops listed,wpOpIn Fence.wide n P ops Q i (fun a' w'=>(late i=false→S w')∧HI n P md ops Q S late fuel (listed.setIfInBounds i true) a' w') a w
theorem zcU:∀(fuel:Nat) (listed:Array Bool) (a:U) (w:O),HI n P md ops Q S late fuel listed a w→wpAnyIn Fence.wide n P md ops Q fuel listed a w
 | 0,_,_,_,h=>h
 | fuel+1,_,_,_,h=>⟨h.1,fun i hi=>wpOpIn_mono (fun a' w' h'=>zcU fuel _ a' w' h'.2) (h.2 i hi)⟩
theorem zk3 {m i:Nat} {oi:Oper} {v:X} (hg:gated md ops late m=true) (hli:late i=false) (hi:ops[i]?=V oi) (hsel:∀(j:Nat) (o:Oper) cs b,ops[j]?=V o→o.op ≠ .select cs b)
  (hQ:∀c a w,Q (.panic c) (a.put oi.dst v) w→Q (.panic c) a w) :
  ∀(fuel:Nat) (listed:Array Bool) (a:U) (w:O),Cl md ops listed →
   (∀j oj,ops[j]?=V oj→j≠i→listed.getD j true=false→(∀e∈oj.after,Region.binds md e=true→e.on≠i)→oi.apart ops oj=true) →
   i∈Region.ready md ops listed→YieldsIf P ops S oi v a→S w →
   HI n P md ops Q S late fuel (listed.setIfInBounds i true) (a.put oi.dst v) w→HI n P md ops Q S late (fuel+1) listed a w:=by
 intro fuel
 induction fuel with
 | zero =>
  intro listed a w hc _ hr hy hS H;refine⟨fun h=>(by rw [h]at hr;cases hr),fun j hj=>?_⟩
  by_cases hji:j=i
  ·subst hji;exact zcc hi hy hS ⟨fun _=>hS,H⟩
  ·have:=ready_mono hj hji
   rw [H.1]at this
   cases this
 | succ fuel ih =>
  intro listed a w hc hfree hr hy hS H;refine⟨fun h=>(by rw [h]at hr;cases hr),fun j hj=>?_⟩
  by_cases hji:j=i
  ·subst hji;exact zcc hi hy hS ⟨fun _=>hS,H⟩
  ·have h1:=H.2 j (ready_mono hj hji)
   have hlj:=zd2 hg hc hr hli hj;obtain⟨hjun,oj,hoj,hall⟩:=mem_ready.1 hj
   have hnot:∀e∈oj.after,Region.binds md e=true→e.on≠i:=fun e he hb heq=>by
    have h1:=hall e he hb;have h0:=(mem_ready.1 hr).1;rw [heq]at h1
    rcases Nat.lt_or_ge i listed.size with h' | h'
    ·simp [h']at h0 h1;rw [h0]at h1;cases h1
    ·simp [Array.getElem?_eq_none h']at h1
   have h2:=zfY hoj (hfree j oj hoj hji hjun hnot) (fun cs b=>hsel i oi cs b hi) (fun cs b=>hsel j oj cs b hoj) hQ hy h1
   have hfree':∀k ok,ops[k]?=V ok→k≠i→(listed.setIfInBounds j true).getD k true=false →
     (∀e∈ok.after,Region.binds md e=true→e.on≠i)→oi.apart ops ok=true:=fun k ok hk hki hun hno=>by
    refine hfree k ok hk hki ?_ hno
    by_cases hjk:j=k
    ·subst hjk;exact hjun
    ·rw [getD_set_ne true hjk]at hun;exact hun
   refine wpOpIn_mono (fun a' w' h3=>⟨h3.2.1,ih (listed.setIfInBounds j true) a' w' (hc.step hj) hfree' (ready_mono hr (Ne.symm hji)) h3.1 (h3.2.1 hlj) ?_⟩) h2;rw [Array.setIfInBounds_comm _ _ hji];exact h3.2.2
def HIc (n:Nat) (P:Program) (md:Region.Mode) (ops:Array Oper) (Q:Exit→U→O→Prop) (S:O→Prop) (late:Nat→Bool) (fuel:Nat) (listed:Array Bool) (a:U) (w:O):Prop:=Cl md ops listed→HI n P md ops Q S late fuel listed a w
def TakeHI (n:Nat) (P:Program) (md:Region.Mode) (ops:Array Oper) (Q:Exit→U→O→Prop) (S:O→Prop) (late:Nat→Bool) (fuel:Nat) (listed:Array Bool) (a:U) (w:O) (i:Nat) (oi:Oper):Prop:=
 ∃v,late i=false∧Region.noSelect ops=true∧Region.free md ops listed i=true∧(Region.ready md ops listed).contains i=true∧(∀c a w,Q (.panic c) (a.put oi.dst v) w→Q (.panic c) a w)∧YieldsIf P ops S oi v a∧S w ∧
  HIc n P md ops Q S late fuel (listed.setIfInBounds i true) (a.put oi.dst v) w
theorem takeHI {m:Nat} (hg:gated md ops late m=true) {i:Nat} {oi:Oper} {fuel:Nat} {listed:Array Bool} {a:U} {w:O} (hi:ops[i]?=V oi) (h:TakeHI n P md ops Q S late fuel listed a w i oi):HIc n P md ops Q S late (fuel+1) listed a w:=by
 obtain⟨v,h0,h1,h2,h3,h4,h5,h6,h7⟩:=h;intro hc;have hr:i∈Region.ready md ops listed:=by simpa using h3
 exact zk3 hg h0 hi (Region.noSelect_spec h1) h4 fuel listed a w hc (Region.free_spec hi h2) hr h5 h6 (h7 (hc.step hr))
def CallHI (n:Nat) (P:Program) (md:Region.Mode) (ops:Array Oper) (Q:Exit→U→O→Prop) (S:O→Prop) (late:Nat→Bool) (fuel:Nat) (listed:Array Bool) (a:U) (w:O) (i:Nat) (o:Oper):Prop:=
 Region.ready md ops listed=[i]∧∀K':U→O→Prop,Shut (∀a w,(late i=false→S w)→((late i=false→S w)→HIc n P md ops Q S late fuel (listed.setIfInBounds i true) a w)→K' a w) →
  if Region.wanted o (yielded ops a.tmps)=true then Oper.wpIn Fence.wide n P o a w K' Q else K' (a.put o.dst undef) w
theorem callHI {i:Nat} {o:Oper} {fuel:Nat} {listed:Array Bool} {a:U} {w:O} (hi:ops[i]?=V o) (h:CallHI n P md ops Q S late fuel listed a w i o):HIc n P md ops Q S late (fuel+1) listed a w:=by
 obtain⟨hr,h⟩:=h;intro hc;refine⟨fun h0=>absurd (hr▸h0) (by simp),fun j hj=>?_⟩;have hj':=hj;rw [hr]at hj
 cases List.mem_singleton.1 hj
 refine wpOpIn_step hi (fun K' hK=>?_);have h9:=h K' (fun a w hS hW=>hK a w ⟨hS,hW hS (hc.step hj')⟩)
 split
 ·rename_i hw;rw [if_pos hw]at h9;exact h9
 ·rename_i hw;rw [if_neg hw]at h9;exact⟨fun _ _=>trivial,h9⟩
theorem tin {v:X} {i:Nat} {oi:Oper} {fuel:Nat} {listed:Array Bool} {a:U} {w:O} {G:Prop} (h:G) (hg:gated md ops late 12=true:=by kernel_rfl) (hi:ops[i]?=V oi:=by(simp only [gA,gS,gZ];rfl)) (h0:late i=false:=by rfl) (h1:Region.noSelect ops=true:=by kernel_rfl) (h2:Region.free md ops listed i=true:=by kernel_rfl) (h3:(Region.ready md ops listed).contains i=true:=by kernel_rfl) (h4:∀c a w,Q (.panic c) (a.put oi.dst v) w→Q (.panic c) a w:=by exact fun _ _ _ h=>h) (hw:Region.wanted oi (yielded ops a.tmps)=true:=by rfl) (hy:∀w,S w→(execOp a.eval oi).run P w = .ok (.value v) w:=by(intro w hSw;simp only [CellL,and_true]at hSw;go_simp;try(with_reducible rfl))) (h6:S w:=by(with_reducible assumption)) (hG:wpN (i+1) (HIc n P md ops Q S late fuel (listed.setIfInBounds i true) (a.put oi.dst v) w)=G:=by((try simp only [Act.put,sA,sZ,sS,Nat.reduceAdd]);rfl)):wpN i (HIc n P md ops Q S late (fuel+1) listed a w):=by
 subst hG;exact takeHI hg hi ⟨v,h0,h1,h2,h3,h4,Or.inl ⟨hw,hy⟩,h6,h⟩
theorem tign {i:Nat} {oi:Oper} {fuel:Nat} {listed:Array Bool} {a:U} {w:O} {G:Prop} (h:G) (hg:gated md ops late 12=true:=by kernel_rfl) (hi:ops[i]?=V oi:=by(simp only [gA,gS,gZ];rfl)) (h0:late i=false:=by rfl) (h1:Region.noSelect ops=true:=by kernel_rfl) (h2:Region.free md ops listed i=true:=by kernel_rfl) (h3:(Region.ready md ops listed).contains i=true:=by kernel_rfl) (h4:∀c a w,Q (.panic c) (a.put oi.dst undef) w→Q (.panic c) a w:=by exact fun _ _ _ h=>h) (hw:Region.wanted oi (yielded ops a.tmps)=false:=by rfl)  (h6:S w:=by(with_reducible assumption)) (hG:wpN (i+1) (HIc n P md ops Q S late fuel (listed.setIfInBounds i true) (a.put oi.dst undef) w)=G:=by((try simp only [Act.put,sA,sZ,sS,Nat.reduceAdd]);rfl)):wpN i (HIc n P md ops Q S late (fuel+1) listed a w):=by
 subst hG;exact takeHI hg hi ⟨undef,h0,h1,h2,h3,h4,Or.inr ⟨hw,rfl⟩,h6,h⟩
theorem ci1 {i:Nat} {o:Oper} {fuel:Nat} {listed:Array Bool} {a:U} {w:O} (h:∀K':U→O→Prop,Shut (∀a w,(late i=false→S w)→((late i=false→S w)→HIc n P md ops Q S late fuel (listed.setIfInBounds i true) a w)→K' a w) →
  if Region.wanted o (yielded ops a.tmps)=true then Oper.wpIn Fence.wide n P o a w K' Q else K' (a.put o.dst undef) w) (hi:ops[i]?=V o:=by(simp only [gA,gS,gZ];rfl)) (hr:Region.ready md ops listed=[i]:=by kernel_rfl):HIc n P md ops Q S late (fuel+1) listed a w:=callHI hi ⟨hr,h⟩
theorem doneHI {listed:Array Bool} {a:U} {w:O} (hr:Region.ready md ops listed=[]) (h:Q .normal a w):∀fuel,HIc n P md ops Q S late fuel listed a w
 | 0=>fun _=>⟨hr,h⟩
 | _+1=>fun _=>⟨fun _=>h,by rw [hr];simp⟩
theorem zco {id:Nat} {a:U} {w:O} (late:Nat→Bool) (S:O→Prop) (hm:P.follows .mixedOrders=true) (hS:S w.drew)
  (h:S w.drew→HIc n P .any ops Q S late ops.size (Array.replicate ops.size false) a w.drew):(Code.region id ops true).wpIn Fence.wide n P Q a w:=
 wpIn_region_any hm (zcU _ _ _ _ (h hS (Cl.start _)))
end
end
section
open Go.RowKit Go.Shelf
theorem zii {n:Nat} {P:Program} {row:String} {args:Array X} {w:O} {R:X→O→Prop} (h:Rows P row args w R):RowsIn Fence.wide n P row args w R:=by
 intro c cs _;obtain⟨v,w',r,s⟩:=h c cs;exact⟨v,w',r,stepsIn_wide.2 s⟩
theorem zfF {n:Nat} {P:Program} {o:Oper} {a:U} {w:O} {K:U→O→Prop} {Q:Exit→U→O→Prop} (hd:∀c,o.op ≠ .defer c) (h:o.wp P a w K (NQ Q)):o.wpIn Fence.wide n P a w K Q:=by
 refine⟨fun _ _=>trivial,?_⟩;rw [Oper.semAt_plain _ _ _ hd];unfold Oper.wp at h
 generalize (execOp a.eval o).run P w=r at *
 have hdep:Fence.wide.depth.isSome=true→1≤n:=fun h=>by cases h
 cases r with
 | ok x w' =>
  cases x with
  | value u=>exact h
  | skip=>exact h
  | defer d=>exact h
  | enter f args =>
   refine⟨hdep,callsIn_wide.2 (cM h fun e w'' he=>?_)⟩
   cases e with
   | returned u=>exact he
   | panicked c=>exact he.elim
   | outgrown=>exact(zgL he).elim
  | row row args=>exact⟨hdep,zii h⟩
  | _=>exact h.elim
 | halt x w' =>
  cases x<;>first|exact h.elim|skip
theorem zdp {n:Nat} {P:Program} {md:Region.Mode} {ops:Array Oper} {Q:Exit→U→O→Prop} (hd:noDefer ops=true):∀(fuel:Nat) (listed:Array Bool) (a:U) (w:O),
  wpAny P md ops (NQ Q) fuel listed a w→wpAnyIn Fence.wide n P md ops Q fuel listed a w
 | 0,_,_,_,h=>h
 | fuel+1,listed,a,w,h=>by
  refine⟨h.1,fun i hi=>?_⟩;have h1:=h.2 i hi;unfold wpOp at h1;unfold wpOpIn
  cases ho:ops[i]? with
  | none=>rw [ho]at h1;exact zdp hd fuel _ a w h1
  | some o =>
   rw [ho]at h1;dsimp only at h1 ⊢
   split
   ·rename_i hw
    rw [if_pos hw]at h1
    rcases h1 with h1|⟨_,h1⟩
    ·exact Oper.wpIn_mono (fun a' w' h2=>zdp hd fuel _ a' w' h2) (zfF (zeC hd ho) h1)
    ·exact(zgL h1).elim
   ·rename_i hw
    rw [if_neg hw]at h1;exact⟨fun _ _=>trivial,zdp hd fuel _ _ w h1⟩
theorem ziL {n:Nat} {P:Program} {ops:Array Oper} {Q:Exit→U→O→Prop} {S:O→Prop} {id:Nat} {a:U} {w:O} (hm:P.follows .mixedOrders=true) (hd:noDefer ops=true) (hS:S w.drew)
  (h:S w.drew→wpAnyH P .any ops (NQ Q) S ops.size (Array.replicate ops.size false) a w.drew):(Code.region id ops true).wpIn Fence.wide n P Q a w:=
 wpIn_region_any hm (zdp hd _ _ _ _ (wpAny_of_held _ _ _ _ (h hS)))
theorem zaQ {n:Nat} {P:Program} {ops:Array Oper} {Q:Exit→U→O→Prop} {id:Nat} {a:U} {w:O} (late:Nat→Bool) (S:O→Prop) (hm:P.follows .mixedOrders=true) (hS:S w.drew)
  (h:S w.drew→HIc n P .any ops (NQ Q) S late ops.size (Array.replicate ops.size false) a w.drew):(Code.region id ops true).wpIn Fence.wide n P Q a w:=
 wpIn_mono (zco late S hm hS h) (fun e a w hq=>by cases e<;>first|exact hq|exact hq.elim)
def marks (Ds:List Nat):List Deferred:=Ds.map fun D=>{ target:=.collected D,args:=#[] }
def Marked (W:O) (Ds:List Nat):Prop:=Ds.Nodup∧∀D∈Ds,W.heap[D]?=V (.deferred (V []))
theorem Marked.ext {W W':O} {Ds:List Nat} (h:Marked W Ds) (k:Ext W W'):Marked W' Ds:=⟨h.1,fun D hD=>k.heapS (h.2 D hD)⟩
theorem Marked.nil (W:O):Marked W []:=⟨List.nodup_nil,fun D hD=>by cases hD⟩
theorem Marked.cons {W:O} {Ds:List Nat} {D:Nat} (h:Marked W Ds) (hD:W.heap[D]?=V (.deferred (V []))) (hn:D ∉ Ds):Marked W (D::Ds):=
 ⟨List.nodup_cons.2 ⟨hn,h.1⟩,fun E hE=>by rcases List.mem_cons.1 hE with rfl|hE;exact hD;exact h.2 E hE⟩
theorem Marked.set {W:O} {Ds:List Nat} (h:Marked W Ds) {p:Addr} {cs:Array X} {T:TypeId} {fr:Nat×Nat} (hp:W.heap[p.block]?=V (F cs T fr)) (u:X):Marked (W.setCell p u) Ds:=
 ⟨h.1,fun D hD=>by rw [bS _ _ _ _ (by intro e;have:=h.2 D hD;rw [e,hp]at this;cases this)];exact h.2 D hD⟩
theorem Marked.grown {W W':O} {Ds:List Nat} {row:Option Nat} (h:Marked W Ds) (hg:W.grownBy W' row) (hr:∀r,row=V r→∃cs T fr,W.heap[r]?=V (F cs T fr)):Marked W' Ds:=
 ⟨h.1,fun D hD=>by
  have hk:=h.2 D hD;rw [hg.block D (zab hk) (fun e=>by obtain⟨cs,T,fr,hr⟩:=hr D e.symm;rw [hr]at hk;cases hk)];exact hk⟩
theorem zbp {n:Nat} {P:Program} {fn:Func} {tmps:Array X} {R:Ending→O→Prop}:∀(Ds:List Nat) (W:O),Marked W Ds →
  (∀W':O,(∀B,(∀D∈Ds,B≤D)→Sim B W W')→LeavesInM Fence.wide n P fn tmps R [] .returning W')→LeavesInM Fence.wide n P fn tmps R (marks Ds) .returning W
 | [],W,_,h=>h W (fun B _=>⟨Below.refl _ _,fun _ _ h _=>h⟩)
 | D::Ds,W,hm,h=>by
  have hD:=hm.2 D (by simp);have hs:=zgE hD (.deferred I);refine⟨by simp,.inl ⟨D,_,rfl,run_takeDeferred hD,?_⟩⟩;refine zbp Ds _ ⟨(List.nodup_cons.1 hm.1).2,fun E hE=>?_⟩ (fun W' hW'=>h W' (fun B hB=>?_))
  ·have hne:E≠D:=fun e=>(List.nodup_cons.1 hm.1).1 (e▸hE)
   rw [World.putObj_heap_other hne];exact hm.2 E (mC _ hE)
  ·have h2:=hW' B (fun E hE=>hB E (mC _ hE))
   exact⟨(Below.mono hs.1 (hB D (by simp))).trans h2.1,fun k o hk ho=>h2.2 k o (hs.2 k o hk ho) ho⟩
end
section
open Go.RowKit Go.Shelf Go.Sort
attribute [local go_sem] Oper.semAt_some
def PJt (_:O) (c:List X) (j:Jt):Prop:=c=jtc j
abbrev IsJts (w:O) (v:X) (l:List Jt):Prop:=Sl 75 6 PJt w v l
theorem IsJts.ext' {w w':O} {v:X} {l:List Jt} (h:IsJts w v l) (k:Ext w w'):IsJts w' v l:=Sl.ext h (fun _ _ h=>h) k
theorem IsJts.at' {w:O} {a:Option Addr} {n c:Nat} {l:List Jt} (h:IsJts w (N a n c) l) {i:Nat} {j:Jt} (hj:l[i]?=V j) :
  ∃b o,a=V ⟨b,o,I⟩∧b<w.heap.size∧∀(m:Nat) u,(jta j)[m]?=V u→w.cell? ⟨b,o+i*6+m,I⟩=V u:=by
 obtain⟨b,o,d,rfl,hb,hl,rfl,hc⟩:=Sl.at h hj;exact⟨b,o,rfl,hb,fun m u hm=>hc m u (by unfold jtc;rw [Array.getElem?_toList];exact hm)⟩
theorem OwnC.jts {w:O} {base:Nat} {v:X} {l:List Jt} (h:OwnC 75 6 w base v (l.map jtc)):IsJts w v l:=
 OwnC.sl h (by simp) (fun i c x hc hx=>by
  rw [lP,hx]at hc
  cases hc;rfl)
def KpQ (w:O) (bx:Nat) (W W':O):Prop:=Below w.heap.size W W'∧W'.heap[bx]?=W.heap[bx]?∧W'.heap[bx+1]?=W.heap[bx+1]?
theorem KpQ.refl (w:O) (bx:Nat) (W:O):KpQ w bx W W:=⟨Below.refl _ _,rfl,rfl⟩
theorem KpQ.trans {w:O} {bx:Nat} {A B C:O} (h:KpQ w bx A B) (k:KpQ w bx B C):KpQ w bx A C:=⟨h.1.trans k.1,k.2.1.trans h.2.1,k.2.2.trans h.2.2⟩
theorem KpQ.put {w:O} {bx:Nat} {w0:O} (hw:w.heap.size≤w0.heap.size) (hb:bx+1<w0.heap.size) (W:O) (l:Nat) (o o':Obj) (hl:w0.heap.size≤l) (h:W.heap[l]?=V o) (h1:o.isCells=false) (h2:o.isWalk=false):KpQ w bx W (W.putObj l o'):=
 ⟨(KpW.put hw (show bx<w0.heap.size by omega) W l o o' hl h h1 h2).1,(KpW.put hw (show bx<w0.heap.size by omega) W l o o' hl h h1 h2).2,(KpW.put hw hb W l o o' hl h h1 h2).2⟩
theorem KpQ.set {w:O} {bx:Nat} {A B:O} (h:KpQ w bx A B) {p:Addr} (hp:w.heap.size≤p.block) (hb:p.block≠bx) (hb2:p.block≠bx+1) (u:X):KpQ w bx A (B.setCell p u):=
 ⟨(KpW.set ⟨h.1,h.2.1⟩ hp hb u).1,(KpW.set ⟨h.1,h.2.1⟩ hp hb u).2,(KpW.set ⟨h.1,h.2.2⟩ hp hb2 u).2⟩
theorem KpQ.ext {w:O} {bx:Nat} {A B C:O} (h:KpQ w bx A B) (k:Ext B C) (hw:w.heap.size≤B.heap.size) (hb:bx+1<B.heap.size):KpQ w bx A C:=
 ⟨h.1.trans (Below.mono k hw),(k.block (show bx<B.heap.size by omega)).trans h.2.1,(k.block hb).trans h.2.2⟩
theorem KpQ.blk {w:O} {bx:Nat} {A B:O} (h:KpQ w bx A B) {o:Obj} (k:A.heap[bx]?=V o):B.heap[bx]?=V o:=h.2.1.trans k
theorem KpQ.blk1 {w:O} {bx:Nat} {A B:O} (h:KpQ w bx A B) {o:Obj} (k:A.heap[bx+1]?=V o):B.heap[bx+1]?=V o:=h.2.2.trans k
def folB (r:Ru) (L:List Jt) (k i:Nat):Bool:=match L[i]?,L[k]? with|some a,V b=>followsB r a b|_,_=>false
def befL (r:Ru) (L:List Jt) (k:Nat):List Nat:=(List.range k).filter (folB r L k)
theorem zhE (w:O) (sb k:Nat) :
  Calls Tryz.prog 37 #[M (V ⟨sb,0,I⟩),Y Z k] w fun e w'=>e = .returned (.func (.func 75) #[] #[M (V ⟨w.heap.size+1,0,I⟩),M (V ⟨w.heap.size,0,I⟩)]) ∧
   (w.alloc (F #[M (V ⟨sb,0,I⟩)] 95)).alloc (F #[Y Z k] 3)=w':=by
 have hmf:∀(fn:Fn) (first cap:Array X) (w:O),(Instr.makeFunc fn first cap).run Tryz.prog w = .ok (.func fn first cap) w:=fun _ _ _ _=>rfl
 go_enter Tryz.func37,Tryz.ntmps37;go_wp2;go_ret;exact⟨rfl,rfl⟩
theorem ziY {r:Ru} {L:List Jt} {k j:Nat} (h:folB r L k j=true):(List.range (j+1)).filter (folB r L k)=(List.range j).filter (folB r L k)++[j]:=by
 rw [List.range_succ,List.filter_append];simp [h]
theorem ziX {r:Ru} {L:List Jt} {k j:Nat} (h:folB r L k j=false):(List.range (j+1)).filter (folB r L k)=(List.range j).filter (folB r L k):=by
 rw [List.range_succ,List.filter_append];simp [h]
theorem zli {r:Ru} {L:List Jt} {k j:Nat} (h:j≤k):(List.range j).filter (folB r L k) <+: befL r L k:=by
 unfold befL;refine List.IsPrefix.filter _ ?_;have:(List.range k).take j=List.range j:=by rw [List.take_range,Nat.min_eq_left h]
 rw [←this];exact List.take_prefix _ _
theorem zm4 {r:Ru} {L:List Jt} {k j:Nat} (h:j<k):((List.range j).filter (folB r L k)).length<k:=by
 have:=List.length_filter_le (folB r L k) (List.range j);rw [List.length_range]at this;omega
theorem zm3 (n:Nat) (hn:1≤n) (l bx:Nat) (w w0:O) (sb:Nat) (r:Ru) (vg vp vs vj vr:X) (L:List Jt) (k:Nat) (hk:k<L.length) (hbd:∀j∈L,BJt j) (J Jx:List Nat→O→Prop)
  (hY:∀pre x W,J pre W→pre.length<k→x<k→YieldAt Fence.wide (n-1) Tryz.prog l #[Y Z (x:Nat)] W fun e W' =>
   (e = .returned (.bool true)∧J (pre++[x]) W'∧KpQ w bx W W')∨(e = .returned (.bool false)∧Jx (pre++[x]) W'))
  (hJd:∀pre W W',J pre W→Ext W W'→J pre W') (hsv:w.heap[sb]?=V (F (svc r vg vp vs vj vr) 113 (0,0))) (hjs:IsJts w vj L)
  (hbx:w0.heap[bx]?=V (F #[M (V ⟨sb,0,I⟩)] 95 (0,0))) (hbk:w0.heap[bx+1]?=V (F #[Y Z k] 3 (0,0))) (hw:Ext w w0) (W:O) (hW:KpQ w bx w0 W) (h0:J [] W) :
  CallsIn Fence.wide n Tryz.prog 75 #[.func (.yield l) #[] #[],M (V ⟨bx+1,0,I⟩),M (V ⟨bx,0,I⟩)] W fun e W'=>(∃v,e = .returned v) ∧
   ((∃ys,ys=befL r L k∧J ys W')∨(∃pre,pre <+: befL r L k∧Jx pre W')):=by
 obtain⟨a,m,c,rfl⟩:=form3 hjs;have hm:=hjs.len;have hle:=hjs.le;unfold maxLen at hle;obtain⟨kj,hkj⟩:∃q,L[k]?=V q:=⟨L[k]'hk,by simp⟩;rw [←hm]at hk;have hmm:m≤9223372036854775807:=by omega
 have hkm:k≤9223372036854775807:=by omega
 have Hk:=hd9 hk;have Hm:=hd9 hm;have Hbd:=hd9 hbd;have hbl:=zab hbk;obtain⟨sk,pin,wide,lap,step,run,level⟩:=r;have c1:=qcB (hW.blk1 hbk) (i:=0) (u:=Y Z k) rfl;clear hbd hle hk hm;refine callsIn_of_wp Tryz.func75 rfl trivial ?_ rfl;simp only [Tryz.ntmps75,List.size_toArray,List.length_cons,List.length_nil,Nat.reduceAdd,Nat.reduceSub,Array.replicate_succ,Array.replicate_zero,List.push_toArray,List.append_toArray,List.nil_append,List.cons_append]
 gi_wp2
 gi_loopw [6] (fun t6 wr=>∃j:Nat,j≤k∧t6=Y Z (j:Nat)∧J ((List.range j).filter (folB ⟨sk,pin,wide,lap,step,run,level⟩ L k)) wr∧KpQ w bx w0 wr)
  (fun t6 _=>(k-intOf t6).toNat)
 case atStart=>exact⟨0,by omega,rfl,by simpa using h0,hW⟩
 case round =>
  obtain⟨j,hj,rfl,hJ,hx⟩:=hrel;have Hw1:Ext w wr:=hw.thenB hx.1 (nE _)
  by_cases hlt:j<k
  ·obtain⟨⟨ja,jb,jl,jr,jf,jt⟩,hq⟩:∃q,L[j]?=V q:=⟨L[j]'(by have:=Hk.out;have:=Hm.out;omega),by simp⟩
   obtain⟨ka,kb,kl,kr,kf,kt⟩:=kj;obtain⟨b,o,rfl,hb,hcj⟩:=(hjs.ext' Hw1).at' hq;obtain⟨b',o',e',_,hck⟩:=(hjs.ext' Hw1).at' hkj
   cases e'
   have HF:=hd9 (fun W=>zgh W sk pin wide lap step run level ja jb jl jr jf jt ka kb kl kr kf kt (Hbd.out _ (lM hq)) (Hbd.out _ (lM hkj)));obtain⟨fb,hfb⟩:=gX (followsB ⟨sk,pin,wide,lap,step,run,level⟩ ⟨ja,jb,jl,jr,jf,jt⟩ ⟨ka,kb,kl,kr,kf,kt⟩);rw [hfb]at HF;have hfo:folB ⟨sk,pin,wide,lap,step,run,level⟩ L k j=fb:=by unfold folB;rw [hq,hkj];exact hfb
   have hs:=Hw1.heapS hsv;unfold svc at hs;dsimp only at hs;have s0:=qcB hs (i:=0) (u:=Y .u8 sk) rfl;have s1:=qcB hs (i:=1) (u:=Y Z pin) rfl;have s2:=qcB hs (i:=2) (u:=Y Z wide) rfl;have s3:=qcB hs (i:=3) (u:=Y Z lap) rfl;have s4:=qcB hs (i:=4) (u:=Y Z step) rfl;have s5:=qcB hs (i:=5) (u:=Y Z run) rfl;have s6:=qcB hs (i:=6) (u:=Y Z level) rfl;have s10:=qcB hs (i:=10) (u:=N (V ⟨b,o,I⟩) m c) rfl;have bx0:=qcB (hx.blk hbx) (i:=0) (u:=M (V ⟨sb,0,I⟩)) rfl;have bx1:=qcB (hx.blk1 hbk) (i:=0) (u:=Y Z k) rfl;unfold jta at hcj hck;dsimp only at hcj hck;have a0:=hcj 0 (Y Z ja) rfl;have a1:=hcj 1 (Y Z jb) rfl;have a2:=hcj 2 (Y Z jl) rfl;have a3:=hcj 3 (Y Z jr) rfl;have a4:=hcj 4 (Y Z jf) rfl;have a5:=hcj 5 (Y Z jt) rfl;have k0:=hck 0 (Y Z ka) rfl;have k1:=hck 1 (Y Z kb) rfl;have k2:=hck 2 (Y Z kl) rfl;have k3:=hck 3 (Y Z kr) rfl;have k4:=hck 4 (Y Z kf) rfl;have k5:=hck 5 (Y Z kt) rfl;simp only [Nat.add_zero]at a0 k0;have p1:(0:Int)≤(j:Int):=by omega
   have p2:(j:Int)<(m:Int):=by have:=Hk.out;omega
   have p3:(0:Int)≤(k:Int):=by omega
   have p4:(k:Int)<(m:Int):=by have:=Hk.out;omega
   have p5:(j:Int)<(k:Int):=by omega
   have p6:j<m:=by have:=Hk.out;omega
   have p7:k<m:=Hk.out;have HJ:=hd9 hJ;have HX:=hd9 hx;have Hfo:=hd9 hfo;have Hlt:=hd9 hlt;have HY:=hd9 hY;have HJd:=hd9 hJd;clear hcj hck hq hkj hfb hs hfo hJ hx hsv hY hJd hjs
   gi_wp2
   refine zco (fun i=>decide (21<i)) (CellL [(⟨bx,0,I⟩,M (V ⟨sb,0,I⟩)),(⟨bx+1,0,I⟩,Y Z k),(⟨sb,0,I⟩,Y .u8 sk),(⟨sb,1,I⟩,Y Z pin),(⟨sb,2,I⟩,Y Z wide),(⟨sb,3,I⟩,Y Z lap),(⟨sb,4,I⟩,Y Z step),(⟨sb,5,I⟩,Y Z run),(⟨sb,6,I⟩,Y Z level),(⟨sb,10,I⟩,N (V ⟨b,o,I⟩) m c),
    (⟨b,o+j*6,I⟩,Y Z ja),(⟨b,o+j*6+1,I⟩,Y Z jb),(⟨b,o+j*6+2,I⟩,Y Z jl),(⟨b,o+j*6+3,I⟩,Y Z jr),(⟨b,o+j*6+4,I⟩,Y Z jf),(⟨b,o+j*6+5,I⟩,Y Z jt),
    (⟨b,o+k*6,I⟩,Y Z ka),(⟨b,o+k*6+1,I⟩,Y Z kb),(⟨b,o+k*6+2,I⟩,Y Z kl),(⟨b,o+k*6+3,I⟩,Y Z kr),(⟨b,o+k*6+4,I⟩,Y Z kf),(⟨b,o+k*6+5,I⟩,Y Z kt)]) (by kernel_rfl) ?_ (fun h9H=>?_)
   ·exact cA
   clear s0 s1 s2 s3 s4 s5 s6 s10 bx0 bx1 a0 a1 a2 a3 a4 a5 k0 k1 k2 k3 k4 k5;refine sN 0 ?_
   iterate 18
    refine tin ?_
   refine oN ?_;refine ci1 (i:=18) fun K hK=>?_
   go_simp;refine⟨trivial,(callsIn_wide.2 (HF.out _)).mono ?_⟩;rintro e w4 ⟨rfl,hx4⟩;dsimp only;refine kO hK (fun _=>cE h9H hx4) (fun h9H=>?_);clear hK K;have h9H:=h9H rfl;have X4:Ext wr w4:=((eR wr).drew).trans hx4;have hJ4:=HJd.out _ _ _ HJ.out X4;have hK4:=HX.out.ext X4 (nT hw.size HX.out.1.size) (zab (HX.out.blk1 hbk));have HJ4:=hd9 hJ4;have HK4:=hd9 hK4
   cases fb with
   | false =>
    clear hJ4 hK4;refine sN 19 ?_;refine tin ?_
    iterate 2
     refine tign ?_
    refine oN ?_;refine ci1 (i:=22) fun K hK=>?_
    go_simp;refine kO hK (fun h=>nomatch h) (fun _=>?_);clear hK K;refine ci1 (i:=23) fun K hK=>?_
    go_simp;refine kO hK (fun h=>nomatch h) (fun _=>?_);clear hK K;refine ci1 (i:=24) fun K hK=>?_
    go_simp;refine kO hK (fun h=>nomatch h) (fun _=>?_);clear hK K;refine doneHI (by kernel_rfl) ?_ _
    gi_wp2
    go_roundw
    case rel=>exact⟨j+1,by have:=Hlt.out;omega,by go_num,by rw [ziX Hfo.out];exact HJ4.out,HK4.out⟩
    case measure=>simp [intOf];omega
   | true =>
    obtain⟨fn,tmps,assign,body,hy,hR⟩:=HY.out _ j w4 hJ4 (zm4 Hlt.out) Hlt.out;rw [←ziY Hfo.out]at hR;have hR':=zkj hR;have HR:=hd9 hR';clear hJ4 hK4 hR hR';refine sN 19 ?_
    iterate 3
     refine tin ?_
    refine oN ?_;refine ci1 (i:=22) fun K hK=>?_
    go_simp;refine RoundIn.mono HR.out ?_;rintro e W3 ⟨bb,rfl,hA,hB⟩;dsimp only;refine kO hK (fun h=>nomatch h) (fun _=>?_);clear hK K
    cases bb
    ·have hJx:=hB rfl
     clear hA hB;refine ci1 (i:=23) fun K hK=>?_
     go_simp;refine kO hK (fun h=>nomatch h) (fun _=>?_);clear hK K;refine ci1 (i:=24) fun K hK=>?_
     go_simp;refine kO hK (fun h=>nomatch h) (fun _=>?_);clear hK K;refine doneHI (by kernel_rfl) ?_ _
     gi_wp2
     refine bR (results_none rfl _ _ _) rfl ?_;exact⟨⟨_,rfl⟩,.inr ⟨_,zli (by have:=Hlt.out;omega),hJx⟩⟩
    ·obtain⟨hJ3,hk3⟩:=hA rfl
     clear hA hB;refine ci1 (i:=23) fun K hK=>?_
     go_simp;refine kO hK (fun h=>nomatch h) (fun _=>?_);clear hK K;refine ci1 (i:=24) fun K hK=>?_
     go_simp;refine kO hK (fun h=>nomatch h) (fun _=>?_);clear hK K;refine doneHI (by kernel_rfl) ?_ _
     gi_wp2
     go_roundw
     case rel=>exact⟨j+1,by have:=Hlt.out;omega,by go_num,hJ3,HK4.out.trans hk3⟩
     case measure=>simp [intOf];omega
  ·obtain rfl:j=k:=by omega
   gi_wp2
   go_end0
   exact⟨⟨_,rfl⟩,.inl ⟨_,rfl,hJ⟩⟩
theorem ziZ (n:Nat) (hn:1≤n) (bx:Nat) (w w0:O) (sb:Nat) (r:Ru) (vg vp vs vj vr:X) (L:List Jt) (k:Nat) (hk:k<L.length) (hbd:∀j∈L,BJt j)
  (hsv:w.heap[sb]?=V (F (svc r vg vp vs vj vr) 113 (0,0))) (hjs:IsJts w vj L)
  (hbx:w0.heap[bx]?=V (F #[M (V ⟨sb,0,I⟩)] 95 (0,0))) (hbk:w0.heap[bx+1]?=V (F #[Y Z k] 3 (0,0))) (hw:Ext w w0) :
  SeqStopsK Fence.wide n Tryz.prog 75 #[M (V ⟨bx+1,0,I⟩),M (V ⟨bx,0,I⟩)] (fun x:{x:Nat // x<k}=>#[Y Z (x.1:Nat)]) (KpQ w bx) (fun ys=>ys.map (·.1)=befL r L k) (fun pre=>pre.map (·.1) <+: befL r L k) k w0:=
 fun l J Jx W hW hJ _ hY h0=>by
  have h:=zm3 n hn l bx w w0 sb r vg vp vs vj vr L k hk hbd (fun pre W=>∃p:List {x:Nat // x<k},p.map (·.1)=pre∧J p W) (fun pre W=>∃p:List {x:Nat // x<k},p.map (·.1)=pre∧Jx p W)
   (fun pre x W ⟨p,hp,hj⟩ hl hx=>(hY p ⟨x,hx⟩ W hj (by rw [←hp,lL]at hl;exact hl)).mono (fun e W' h=>by
    rcases h with ⟨h1,h2,h3⟩|⟨h1,h2⟩
    ·exact .inl ⟨h1,⟨_,by rw [List.map_append,hp];rfl,h2⟩,h3⟩
    ·exact .inr ⟨h1,⟨_,by rw [List.map_append,hp];rfl,h2⟩⟩))
   (fun pre A A' ⟨p,hp,h⟩ hA=>⟨p,hp,hJ _ _ _ I h ⟨hA.os,hA.tape,hA.output,hA.size,fun i hi _=>hA.block hi⟩ (fun r e=>by cases e)⟩) hsv hjs hbx hbk hw W ((KpQ.refl w bx w0).ext hW hw.size (zab hbk)) ⟨[],rfl,h0⟩
  refine h.mono ?_;rintro e W' ⟨hv,h⟩;refine⟨hv,?_⟩
  rcases h with ⟨ys,h1,p,h2,h3⟩|⟨pre,h1,p,h2,h3⟩
  ·exact .inl ⟨p,h2.trans h1,h3⟩
  ·exact .inr ⟨p,by rw [←h2]at h1;exact h1,h3⟩
end
section
open Go.RowKit Go.Shelf Go.Sort
def inB (r:Ru) (j:JS):Bool:=j.p.skin==r.skin || j.p.skin==3
def skinP (r:Ru) (ps:List Pl):List JS:=(jsP ps).filter (inB r)
def jtOf (a b:JS):Jt:=⟨a.k,b.k,a.x.2,b.x.1,max a.z.1 b.z.1,min a.z.2 b.z.2⟩
def openB (r:Ru) (sk:List JS) (a b:JS):Bool:=(a.k != b.k)&&(decide ((jtOf a b).left≤(jtOf a b).right)&&(decide ((jtOf a b).right-(jtOf a b).left≤r.wide)&&(decide ((jtOf a b).fr<(jtOf a b).til)&&!filledB sk (jtOf a b))))
def rowP (r:Ru) (sk:List JS) (a:JS):List Jt:=(sk.filter (openB r sk a)).map (jtOf a)
def rawP (r:Ru) (sk:List JS):List Jt:=sk.flatMap (rowP r sk)
def rootP (r:Ru) (L:List Jt) (rs:List Int) (k:Nat) (fr:Int):Int:=(befL r L k).foldl (fun o i=>min o (rs.getD i 0)) fr
def rootsP (r:Ru) (L:List Jt):Nat→List Int
 | 0=>[]
 | k+1=>rootsP r L k++[match L[k]? with|some j=>rootP r L (rootsP r L k) k j.fr|none=>0]
theorem zaT (r:Ru) (L:List Jt):∀k,(rootsP r L k).length=k
 | 0=>rfl
 | k+1=>by rw [rootsP,lA,zaT r L k];rfl
structure Sv (w:O) (sb:Nat) (r:Ru) (vg vp vs vj vr:X) (ks:List (JS×X)) (L:List Jt) (rs:List Int):Prop where
 blk:w.heap[sb]?=V (F (svc r vg vp vs vj vr) 113 (0,0))
 skin:IsJs w vs ks
 pts:∀j∈ks,IsPts w j.2 j.1.p.shape
 joints:IsJts w vj L
 roots:IsIs w vr rs
theorem Sv.ext {w w':O} {sb:Nat} {r:Ru} {vg vp vs vj vr:X} {ks:List (JS×X)} {L:List Jt} {rs:List Int} (h:Sv w sb r vg vp vs vj vr ks L rs) (k:Ext w w'):Sv w' sb r vg vp vs vj vr ks L rs:=
 ⟨k.heapS h.blk,h.skin.ext' k,fun j hj=>(h.pts j hj).ext' k,h.joints.ext' k,h.roots.ext' k⟩
def byE (g:List (Int×Int)) (ps:List Pl) (r:Ru):Int:=if laidP g ps=0 then rulesE r else laidP g ps
structure SvP (r:Ru) (ps:List Pl) (ks:List (JS×X)) (L:List Jt) (rs:List Int):Prop where
 skin:ks.map Prod.fst=skinP r ps
 perm:L.Perm (rawP r (skinP r ps))
 ord:L.Pairwise (fun a b=>¬cfT b a<0)
 roots:rs=rootsP r L L.length
def RetBy (w:O) (vg vp:X) (g:List (Int×Int)) (ps:List Pl) (r:Ru) (e:Ending) (w':O):Prop:=
 (byE g ps r≠0∧e = .returned (Oa #[.pointer I,Y Z (byE g ps r)])∧Ext w w') ∨
 (byE g ps r=0∧∃sb vs vj vr ks L rs,e = .returned (Oa #[M (V ⟨sb,0,I⟩),Y Z 0])∧Sv w' sb r vg vp vs vj vr ks L rs∧SvP r ps ks L rs∧Ext w w')
theorem zdh {a b c:O} {k:Nat} (h:Ext a b) (g:b.grownBy c (V k)) (hk:a.heap.size≤k):Ext a c:=
 ⟨g.os.trans h.os,g.tape.trans h.tape,g.output.trans h.output,nT h.size g.size,fun i hi=>(g.block i (Nat.lt_of_lt_of_le hi h.size) (by simp;omega)).trans (h.block hi)⟩
theorem zau {a b c:O} {row:Option Nat} (h:a.grownBy b row) (k:Below a.heap.size b c):a.grownBy c row:=
 ⟨k.os.trans h.os,k.tape.trans h.tape,k.output.trans h.output,nT h.size k.size,fun i hi hne=>(k.block i hi).trans (h.block i hi hne)⟩
theorem zbk (a:O) (row:Option Nat):a.grownBy a row:=⟨rfl,rfl,rfl,nE _,fun _ _ _=>rfl⟩
theorem zaM {a b:O} {k:Nat} {T T':TypeId} {cs:Array X} {fr:Nat×Nat} (g:a.grownBy b (V k)) (hk:a.heap[k]?=V (F cs T' fr)) (hT:T'≠T):KeepT T a b:=
 fun x c f hx=>(g.block x (zab hx) (fun e=>by cases e;rw [hx]at hk;cases hk;exact hT rfl)).trans hx
theorem IsJs.keep {w w':O} {v:X} {js:List (JS×X)} (h:IsJs w v js) (k:KeepT 127 w w'):IsJs w' v js:=by
 obtain⟨cs,h1,h2,h3,h4⟩:=h;exact⟨cs,h1,h2,h3.keep k,fun i c x hc hx=>h4 i c x hc hx⟩
theorem IsJts.keep {w w':O} {v:X} {l:List Jt} (h:IsJts w v l) (k:KeepT 75 w w'):IsJts w' v l:=by
 obtain⟨cs,h1,h2,h3,h4⟩:=h;exact⟨cs,h1,h2,h3.keep k,fun i c x hc hx=>h4 i c x hc hx⟩
theorem IsIs.keep {w w':O} {v:X} {l:List Int} (h:IsIs w v l) (k:KeepT 3 w w'):IsIs w' v l:=by
 obtain⟨cs,h1,h2,h3,h4⟩:=h;exact⟨cs,h1,h2,h3.keep k,fun i c x hc hx=>h4 i c x hc hx⟩
theorem zoN {j:JS×X} (h:∃a n c,j.2=N a n c):∀u∈jc j,u.oneCell'=true:=by
 obtain⟨j,v⟩:=j;obtain⟨a,n,c,rfl⟩:=h;intro u hu;simp [jc,jca]at hu
 rcases hu with rfl|rfl|rfl|rfl|rfl|rfl|rfl|rfl|rfl|rfl|rfl|rfl|rfl|rfl|rfl<;>rfl
theorem znr:(Tryz.prog.info? 75).map (fun i=>(i.zero,i.size,i.bytes))=V (V (.agg #[Y Z 0,Y Z 0,Y Z 0,Y Z 0,Y Z 0,Y Z 0]),6,48):=by kernel_rfl
theorem zcO:(Tryz.prog.info? 3).map (fun i=>(i.zero,i.size,i.bytes))=V (V (Y Z 0),1,8):=by kernel_rfl
theorem zjX {ps:List Pl} (hok:∀p∈ps,placedOk p=true) (hn:ps.length≤120) {a b:JS} (ha:a∈jsP ps) (hb:b∈jsP ps):BJt (jtOf a b):=by
 have h1:=zdP hok ha;have h2:=zdP hok hb
 have hk:∀{j:JS},j∈jsP ps→0≤j.k∧j.k≤120:=fun {j} hj=>by
  obtain⟨i,hi⟩:=List.mem_iff_getElem?.1 hj;unfold jsP at hi;rw [List.getElem?_mapIdx]at hi
  cases hp:ps[i]? with
  | none=>rw [hp]at hi;cases hi
  | some p =>
   have:=(lS.1 hp).1;rw [hp]at hi;cases hi;exact⟨Int.natCast_nonneg _,by show ((i:Nat):Int)≤120;omega⟩
 have h3:=hk ha;have h4:=hk hb;unfold BJt jtOf Bd;unfold Bd at h1 h2;dsimp only;omega
end
section
open Go.RowKit Go.Shelf Go.Sort
attribute [local go_sem] Oper.semAt_some
theorem zoA (w:O) (vg vp:X) (g:List (Int×Int)) (ps:List Pl) (r:Ru) (hg:IsPts w vg g) (hp:IsPls w vp ps) (hgw:Gw w) (hne:laidP g ps≠0) :
  Calls Tryz.prog 28 #[.agg #[vg,vp],.agg (ruc r)] w (RetBy w vg vp g ps r):=by
 have HC:=hd9 (fun W (hW:Ext w W)=>zbf W vg vp g ps (hg.ext' hW) (hp.ext' hW) (hgw.ext hW));obtain⟨ga,gn,gc,rfl⟩:=form3 hg;obtain⟨pa,pn,pc1,rfl⟩:=form3 hp;obtain⟨R,hR⟩:=gX (RetBy w (N ga gn gc) (N pa pn pc1) g ps r);rw [hR];have HR:=hd9 hR;have he:byE g ps r=laidP g ps:=by unfold byE;rw [if_neg hne]
 obtain⟨k,hk⟩:=gX (laidP g ps);rw [hk]at he hne HC;have HE:=hd9 he;have Hne:=hd9 hne;have u0:(k != 0)=true:=by simpa using hne
 obtain⟨sk,pin,wide,lap,step,run,level⟩:=r;unfold ruc;clear hg hp hgw hR he hne hk;go_enter Tryz.func28,Tryz.ntmps28
 go_wp2_with(go_at_call 40;(with_reducible refine(HC.out _ ?_).mono ?_);exact eA;rintro e w3 ⟨rfl,hx3⟩)
 rw [←HR.out];exact .inl ⟨by rw [HE.out];exact Hne.out,by rw [HE.out];rfl,eA⟩
theorem zoB (w:O) (vg vp:X) (g:List (Int×Int)) (ps:List Pl) (r:Ru) (hg:IsPts w vg g) (hp:IsPls w vp ps) (hgw:Gw w) (h0:laidP g ps=0) (hne:rulesE r≠0) :
  Calls Tryz.prog 28 #[.agg #[vg,vp],.agg (ruc r)] w (RetBy w vg vp g ps r):=by
 have HC:=hd9 (fun W (hW:Ext w W)=>zbf W vg vp g ps (hg.ext' hW) (hp.ext' hW) (hgw.ext hW));have HU:=hd9 (fun W=>zfQ W r);obtain⟨ga,gn,gc,rfl⟩:=form3 hg;obtain⟨pa,pn,pc1,rfl⟩:=form3 hp;obtain⟨R,hR⟩:=gX (RetBy w (N ga gn gc) (N pa pn pc1) g ps r);rw [hR];have HR:=hd9 hR;have he:byE g ps r=rulesE r:=by unfold byE;rw [if_pos h0]
 rw [h0]at HC;obtain⟨k,hk⟩:=gX (rulesE r);rw [hk]at he hne HU;have HE:=hd9 he;have Hne:=hd9 hne;have u0:(k != 0)=true:=by simpa using hne
 obtain⟨sk,pin,wide,lap,step,run,level⟩:=r;unfold ruc at HU ⊢;dsimp only at HU;clear hg hp hgw hR he hne hk h0;go_enter Tryz.func28,Tryz.ntmps28
 go_wp2_with(first|(go_at_call 40;(with_reducible refine(HC.out _ ?_).mono ?_);exact eA;rintro e w3 ⟨rfl,hx3⟩;obtain⟨hc3,hf3⟩:=hx3.cells;(have z3:=hx3.size);(simp only [wZ]at z3);(have y0:w.heap.size<w3.heap.size:=(by omega));(have y1:w.heap.size+1<w3.heap.size:=(by omega)))|(go_at_call 51;(with_reducible refine(HU.out _).mono ?_);rintro e w4 ⟨rfl,hx4⟩))
 rw [←HR.out];exact .inl ⟨by rw [HE.out];exact Hne.out,by rw [HE.out];rfl,eA⟩
theorem zcj {P:Program} {n:Nat} {T t:TypeId} {k bytes:Nat} {z:X} {w:O} {base:Nat} {v:X} {cs:List (List X)} {ops:Array Oper} {o:Oper} {a:U} {K:U→O→Prop} {Q:Exit→U→O→Prop} {E:Prop}
  (hinfo:(P.info? T).map (fun i=>(i.zero,i.size,i.bytes))=V (V z,k,bytes)) (hzs:z.cells.size=k) (hk:0<k) (hby:bytes≤1000) (ht:P.underlying t=V (.slice T)) (hgd:o.guard=I) (s x:Operand)
  (ho:o.op = .call { callee:=.builtin .append,args:=#[s,x],argTypes:=#[t,t] }) (hs:a.eval s=v) (hown:OwnC T k w base v cs) {ad:Addr} {m c:Nat} (hx:a.eval x=N (V ad) m c)
  (ds:List (List X)) (hm:ds.length=m) (hd:∀c∈ds,c.length=k) (hnews:∀(j:Nat) u,ds.flatten[j]?=V u→w.cell? (ad.add j)=V u) (h1:∀u∈ds.flatten,u.oneCell'=true) (hlen:cs.length+m≤100000000000) (hbase:base≤w.heap.size)
  (h:∀v' w',OwnC T k w' base v' (cs++ds)→w.grownBy w' v.ownBlock→(v'.ownBlock=v.ownBlock∨v'.ownBlock=V w.heap.size)→K (a.put o.dst v') w') :
  if Region.wanted o (yielded ops a.tmps)=true then Oper.wpIn Fence.wide n P o a w K Q else E:=by
 have h2:=zbl (ops:=ops) (Q:=NQ Q) (E:=E) hinfo hzs hk hby ht hgd s x ho hs hown hx ds hm hd hnews h1 hlen hbase h;have hw:Region.wanted o (yielded ops a.tmps)=true:=by simp [Region.wanted,hgd]
 rw [if_pos hw]at h2 ⊢;exact zfF (fun c hc=>by rw [ho]at hc;cases hc) h2
theorem zbh {W:O} {b:Nat} {cs:Array X} {T:TypeId} {fr:Nat×Nat} (h:W.heap[b]?=V (F cs T fr)) (i:Nat) (u:X):(W.setCell ⟨b,i,I⟩ u).heap[b]?=V (F (cs.setIfInBounds i u) T fr):=by
 simp [World.setCell,Array.getElem?_modify,h]
theorem zfv (w:O) (o o':Obj):((w.alloc o).alloc o').heap[w.heap.size]?=V o:=by
 rw [zae,if_neg (by simp)];exact aN w o
theorem zbT (w:O) (o o':Obj):((w.alloc o).alloc o').heap[w.heap.size+1]?=V o':=qhA _ _ _ (by simp)
theorem zgg {α:Type} (f:α→Bool) {xs:List α} {i:Nat} {x:α} (h:xs[i]?=V x):(xs.take (i+1)).filter f=(xs.take i).filter f++(if f x=true then [x]else []):=by
 rw [zaa _ _ _ h,List.filter_append]
 congr 1
 by_cases hx:f x=true<;>simp [hx]
def By1 (w4 w5:O) (sb:Nat) (r:Ru) (vg vp v5:X) (js:List (JS×X)) (gk:Nat) (t37:X) (W:O):Prop:=
 ∃(i:Nat) (vs:X),i≤js.length∧t37=Y Z (i:Nat)∧gk=js.length-i∧w5.grownBy W (V sb)∧W.heap[sb]?=V (F (svc r vg vp vs (N I 0 0) (N I 0 0)) 113 (0,0)) ∧
  OwnC 127 15 W w5.heap.size vs (((js.take i).filter fun j=>inB r j.1).map jc)
def By2 (w6:O) (sb:Nat) (r:Ru) (vg vp vs:X) (ks:List (JS×X)) (gk:Nat) (t69:X) (W:O):Prop:=
 ∃(i:Nat) (vj:X),i≤ks.length∧t69=Y Z (i:Nat)∧gk=ks.length-i∧w6.grownBy W (V sb)∧W.heap[sb]?=V (F (svc r vg vp vs vj (N I 0 0)) 113 (0,0)) ∧
  OwnC 75 6 W w6.heap.size vj ((((ks.take i).map Prod.fst).flatMap (rowP r (ks.map Prod.fst))).map jtc)
def By3 (w6:O) (sb:Nat) (r:Ru) (vg vp vs:X) (ks:List (JS×X)) (pre:List Jt) (a:JS×X) (ba:Nat) (gk:Nat) (t78:X) (W:O):Prop:=
 ∃(j:Nat) (vj:X),j≤ks.length∧t78=Y Z (j:Nat)∧gk=ks.length-j∧w6.grownBy W (V sb)∧W.heap[sb]?=V (F (svc r vg vp vs vj (N I 0 0)) 113 (0,0))∧W.heap[ba]?=V (F (jca a) 127 (0,0)) ∧
  OwnC 75 6 W w6.heap.size vj ((pre++(((ks.take j).map Prod.fst).filter (openB r (ks.map Prod.fst) a.1)).map (jtOf a.1)).map jtc)
theorem IsPts.keepT {w w':O} {v:X} {l:List (Int×Int)} (h:IsPts w v l) (k:KeepT 42 w w'):IsPts w' v l:=by
 obtain⟨cs,h1,h2,h3,h4⟩:=h;exact⟨cs,h1,h2,h3.keep k,fun i c x hc hx=>h4 i c x hc hx⟩
theorem OwnC.ne_blk {T T':TypeId} {k:Nat} {w:O} {base:Nat} {v:X} {cs:List (List X)} (h:OwnC T k w base v cs) {b:Nat} {c:Array X} {fr:Nat×Nat} (hk:w.heap[b]?=V (F c T' fr)) (hT:T'≠T):v.ownBlock≠V b:=by
 intro e
 rcases h.2.2 with ⟨h1,_⟩|⟨g,cap,cur,hv,_,hh,_⟩
 ·rw [h1]at e;cases e
 ·rw [hv]at e;cases e;rw [hh]at hk;cases hk;exact hT rfl
theorem zhm (r:Ru) (sk:List JS) (a:JS):(rowP r sk a).length≤sk.length:=by
 unfold rowP;rw [lL];exact List.length_filter_le _ _
theorem zeW {α β:Type} {f:α→List β} {n:Nat} (h:∀a,(f a).length≤n):∀xs:List α,(xs.flatMap f).length≤xs.length*n
 | []=>by simp
 | x::xs=>by
  rw [List.flatMap_cons,lA,List.length_cons,Nat.add_mul];have:=h x;have:=zeW h xs;omega
def By4 (w7:O) (sb:Nat) (r:Ru) (vg vp vs vj:X) (L:List Jt) (gk:Nat) (t164:X) (ds:List Deferred) (W:O):Prop:=
 ∃(i:Nat) (vr:X) (Ds:List Nat),i≤L.length∧t164=Y Z (i:Nat)∧gk=L.length-i∧w7.grownBy W (V sb)∧W.heap[sb]?=V (F (svc r vg vp vs vj vr) 113 (0,0)) ∧
  OwnC 3 1 W w7.heap.size vr ((rootsP r L i).map ic)∧ds=marks Ds∧Marked W Ds∧∀D∈Ds,w7.heap.size≤D
def loopsOf:Code→List Code
 | .seq a b=>loopsOf a++loopsOf b
 | .cond _ a b=>loopsOf a++loopsOf b
 | .block _ b=>loopsOf b
 | .loop b=>b::loopsOf b
 | .rangeFunc _ _ a b=>loopsOf a++loopsOf b
 | .scope b=>loopsOf b
 | _=>[]
def loopAt (f:Func) (k:Nat):Code:=match f.body with|some c=>(loopsOf c).getD k .skip|none=>.skip
def Fr1 (wz sb:Nat) (a5:Option Addr) (n5 k5:Nat) (a:U):Prop:=a.tmps.size=196∧a.tmps.getD 3 undef=M (V ⟨wz,0,I⟩)∧a.tmps.getD 8 undef=M (V ⟨sb+1,0,I⟩)∧a.tmps.getD 35 undef=N a5 n5 k5∧a.tmps.getD 36 undef=Y Z n5∧a.defers=[]
def Fr2 (wz sb:Nat) (a6:Option Addr) (n6 k6:Nat) (a:U):Prop:=a.tmps.size=196∧a.tmps.getD 3 undef=M (V ⟨wz,0,I⟩)∧a.tmps.getD 8 undef=M (V ⟨sb+1,0,I⟩)∧a.tmps.getD 67 undef=N a6 n6 k6∧a.tmps.getD 68 undef=Y Z n6∧a.defers=[]
def Fr3 (wz sb ba:Nat) (p67 p68 p69:X) (a6:Option Addr) (n6 k6:Nat) (a:U):Prop:=a.tmps.size=196∧a.tmps.getD 3 undef=M (V ⟨wz,0,I⟩)∧a.tmps.getD 8 undef=M (V ⟨sb+1,0,I⟩)∧a.tmps.getD 12 undef=M (V ⟨ba,0,I⟩) ∧
 a.tmps.getD 67 undef=p67∧a.tmps.getD 68 undef=p68∧a.tmps.getD 69 undef=p69∧a.tmps.getD 76 undef=N a6 n6 k6∧a.tmps.getD 77 undef=Y Z n6∧a.defers=[]
def By4I (w7:O) (sb:Nat) (r:Ru) (vg vp vs vj:X) (qa:Option Addr) (qn qc:Nat) (L:List Jt) (gk:Nat) (a:U) (W:O):Prop:=
 By4 w7 sb r vg vp vs vj L gk (a.tmps.getD 164 undef) a.defers W∧a.tmps.size=196∧a.tmps.getD 8 undef=M (V ⟨sb+1,0,I⟩)∧a.tmps.getD 162 undef=N qa qn qc∧a.tmps.getD 163 undef=Y Z qn
def By4A (sb rz:Nat) (x:Nat) (a:U):Prop:=a.tmps.size=196∧a.tmps.getD 8 undef=M (V ⟨sb+1,0,I⟩)∧a.tmps.getD 18 undef=M (V ⟨rz+1,0,I⟩)∧a.tmps.getD 19 undef=Y Z (x:Nat)∧a.defers=[]
theorem zmY (t:Array X) (n:Nat) (h:t.size=n):t=((List.range n).map fun k=>t.getD k undef).toArray:=by
 apply Array.ext
 ·simp [h]
 ·intro i h1 h2
  simp [Array.getD,h1]
theorem arrU (t:Array X) (n:Nat) (h:t.size=n):∃u:Nat→X,(∀k,t.getD k undef=u k)∧t=((List.range n).map u).toArray:=⟨fun k=>t.getD k undef,fun _=>rfl,zmY t n h⟩
def ByI (wr:O) (rs:List Int) (fr:Int) (i:Nat) (pre:List {x:Nat // x<i}) (W:O):Prop:=
 Ext wr W∧wr.heap.size+1+1+1+1≤W.heap.size∧W.heap[wr.heap.size+1]?=V (F #[Y Z ((pre.map (·.1)).foldl (fun o i=>min o (rs.getD i 0)) fr)] 3 (0,0))
end
end Go.Proofs.YteipgejmhfpkaaaGreatDoor.Cop
