/- Part 36 of 44: contracts of what the law calls. -/
import Derived.Test.YteipgejmhfpkaaaGreatDoorCopA34
import Derived.Maps.GroupsBeside
import Derived.Maps.Views
import Derived.Test.YteipgejmhfpkaaaGreatDoorCopA27
import Derived.Test.YteipgejmhfpkaaaGreatDoorCopA23
set_option maxRecDepth 1000000
set_option maxHeartbeats 16000000
set_option linter.unusedSimpArgs false
set_option linter.unusedVariables false
namespace Go.Proofs.YteipgejmhfpkaaaGreatDoor.Cop
open Go.RowKit Go.Shelf Go.Maps
theorem key3:Keyed Tryz.prog 3:=int_keyed Tryz.underlying3
theorem zero_ints (w:World):(zeroValue 36).run Tryz.prog w = .ok (.slice none 0 0) w:=by kernel_rfl
def Gm (W:World) (base B n:Nat) (f:Nat→List Int):Prop:=
 ∃D:DataW Unit,W.ownsGroups Tryz.prog 3 base 3 .i64 B n D∧∀k:Nat,k<1000→(D.atKey (.int .i64 (k:Int)) .nil = .nil∧f k=[])∨D.atKey (.int .i64 (k:Int)) .nil = .slice (ChangeShapes.lits .i64 (f k)) []
theorem Gm.made (w:World):Gm (w.alloc (.map #[] 0)) (w.heap.size+1) w.heap.size 0 (fun _=>[]):=
 ⟨.map [],World.ownsGroups_made _ _ _ _ _,fun k _=>.inl ⟨rfl,rfl⟩⟩
theorem Gm.keptLow {W W':World} {base B n:Nat} {f:Nat→List Int} {row:Option Nat} (h:Gm W base B n f) (hg:W.grownBy W' row) (hb:some B≠row) (hr:∀j,row=some j→j<base):Gm W' base B n f:=by
 obtain⟨D,h1,h2⟩:=h;exact⟨D,h1.kept hg hb (h1.rowsAbove hr),h2⟩
theorem wf_k {k:Nat} (h:k<1000):(Lit.int .i64 (k:Int)).wf=true:=WalkArith.wf_i64 (by omega)
theorem lits_inj {xs ys:List Int} (h:(ChangeShapes.lits (H:=Unit) .i64 xs)=ChangeShapes.lits .i64 ys):xs=ys:=by
 unfold ChangeShapes.lits at h;exact(List.map_inj_right (fun a b hab=>by simpa using hab)).1 h
theorem Gm.at {W:World} {base B n:Nat} {f:Nat→List Int} (h:Gm W base B n f) (hn:n<maxLen) {k:Nat} (hk:k<1000) :
  ∃v,(Instr.lookup 140 (.map (some B)) (.int .i64 (k:Int)) false).run Tryz.prog W = .ok v W∧W.ownsInts base 3 .i64 v (f k)∧(f k).length≤n ∧
   ∀w1 v' x,W.grownBy w1 v.ownBlock→w1.ownsInts base 3 .i64 v' (f k++[x])→(v'.ownBlock=v.ownBlock∨∃g,v'.ownBlock=some g∧W.heap.size≤g) →
    ∃w2,(Instr.mapUpdate 140 (.map (some B)) (.int .i64 (k:Int)) v').run Tryz.prog w1 = .ok () w2∧Gm w2 base B (n+1) (fun j=>if j=k then f k++[x]else f j)∧w1.grownBy w2 (some B):=by
 obtain⟨D,h1,h2⟩:=h;obtain⟨v,zs,hrun,hat,hoi,hzl,hback⟩:=h1.at key3 Tryz.underlying140 (zero_ints _) hn (keyOf_int_mk Tryz.underlying3 (wf_k hk))
 have e:f k=zs:=by
  rcases h2 k hk with ⟨a1,a2⟩|a1
  ·rw [a1]at hat
   rcases hoi.datum (H:=Unit)with ⟨b1,b2⟩|b1
   ·rw [a2,b2]
   ·rw [b1]at hat;cases hat
  ·rw [a1]at hat
   rcases hoi.datum (H:=Unit)with ⟨b1,b2⟩|b1
   ·rw [b1]at hat;cases hat
   ·rw [b1]at hat;exact lits_inj (by simpa using hat)
 subst e;refine⟨v,hrun,hoi,hzl,fun w1 v' x hg ho hl=>?_⟩;obtain⟨w2,r1,r2,r3⟩:=hback w1 v' _ hg ho (by simp;omega) hl;refine⟨w2,r1,⟨_,r2,fun j hj=>?_⟩,r3⟩
 have hD:IsMap D:=by
  obtain⟨es,clock,_,_,_,hD,_⟩:=h1;exact⟨_,hD⟩
 by_cases hjk:j=k
 ·subst hjk
  right
  dsimp only;rw [if_pos rfl,atKey_put_same hD (by first|trivial|exact True.intro|simp [WideAt.IsKeyLit])];exact ho.datum_pos (by simp)
 ·dsimp only
  rw [if_neg hjk,atKey_put_other (by simp;omega)];exact h2 j hj
theorem ownsInts_is {W:World} {base:Nat} {v:Value} {zs:List Int} (h:W.ownsInts base 3 .i64 v zs):OwnC 3 1 W base v (zs.map ic):=by
 refine⟨ic_len,?_⟩
 have e:(zs.map ic).flatten=zs.map (Value.int .i64):=by
  clear h
  induction zs with
  | nil=>rfl
  | cons z zs ih=>rw [List.map_cons,List.flatten_cons,ih];rfl
 rw [e,lL];exact h.1
end Go.Proofs.YteipgejmhfpkaaaGreatDoor.Cop
namespace Go.Proofs.YteipgejmhfpkaaaGreatDoor.Cop
open Go.RowKit Go.Shelf
theorem ixund_any (w:World) (v:Value) (zs:List Int) (b1:Nat) (f:Int→Bool) (h:IsIs w v zs)
  (hf9:∀W,Ext w W→∀z∈zs,Calls Tryz.prog 60 #[.int .i64 z,.pointer (some ⟨b1,0,none⟩)] W fun e w'=>e = .returned (.bool (f z))∧Ext W w') :
  Calls Tryz.prog 77 #[v,.func (.func 60) #[] #[.pointer (some ⟨b1,0,none⟩)]] w fun e w'=>e = .returned (.int .i64 (idxB f zs))∧Ext w w':=by
 obtain⟨a,c,rfl⟩:=h.form;obtain⟨n,hn⟩:∃n,zs.length=n:=⟨_,rfl⟩;rw [hn]at h ⊢;have hle:=h.le;unfold maxLen at hle;have hnc:n≤9223372036854775807:=by omega
 have Hn:=hd9 hn;have Hf9:=hd9 hf9;clear hn hle hf9;go_enter Tryz.func77,Tryz.ntmps77;go_wp2
 go_loopg [8] n (IiS w f zs)
 case atStart=>exact⟨0,by omega,rfl,by rw [Hn.out];rfl,Ext.refl _,fun j y hj=>by omega⟩
 case round =>
  obtain⟨i,hi,rfl,rfl,hx,hall⟩:=hrel;rw [Hn.out]at hi;have Hall:=hd9 hall;clear hall
  by_cases hlt:i<n
  ·obtain⟨z,hq⟩:∃q,zs[i]?=some q:=⟨zs[i]'(by rw [Hn.out];omega),by simp [Hn.out,hlt]⟩
   obtain⟨b,o,rfl,hb,d0⟩:=(h.ext' hx).at' hq;have Hq:=hd9 hq;have HC:=hd9 (fun W (hW:Ext wr W)=>Hf9.out W (hx.trans hW) z (lM hq));obtain⟨fz,hf⟩:∃x,f z=x:=⟨_,rfl⟩;rw [hf]at HC;have Hf:=hd9 hf;clear hq hf
   cases fz with
   | true =>
    have e:idxB f zs=(i:Int):=idxB_some Hq.out Hf.out Hall.out;have E:=hd9 e;clear e
    go_wp2_with(((go_at_call 60;(with_reducible refine(HC.out _ ?_).mono ?_);exact eA;rintro e w1 ⟨rfl,hx1⟩)))
    go_ret;exact⟨by rw [E.out];rfl,eA⟩
   | false =>
    go_wp2_with(((go_at_call 60;(with_reducible refine(HC.out _ ?_).mono ?_);exact eA;rintro e w1 ⟨rfl,hx1⟩)))
    go_roundg (n-(i+1))
    case measure=>have:=Hn.out;omega
    case rel =>
     refine⟨i+1,by have:=Hn.out;omega,by go_num,by rw [Hn.out],eA,fun j y hj hy=>?_⟩
     by_cases hji:j=i
     ·subst hji;rw [Hq.out]at hy;cases hy;exact Hf.out
     ·exact Hall.out j y (by omega) hy
  ·obtain rfl:i=n:=by omega
   have e:idxB f zs = -1:=idxB_none (fun j y hj hy=>Hall.out j y (by rw [Hn.out]at hj;exact hj) hy);have E:=hd9 e;clear e;go_wp2;go_ret;exact⟨by rw [E.out];rfl,hx⟩
theorem ctund_any (w:World) (v:Value) (zs:List Int) (b1:Nat) (f:Int→Bool) (h:IsIs w v zs)
  (hf9:∀W,Ext w W→∀z∈zs,Calls Tryz.prog 60 #[.int .i64 z,.pointer (some ⟨b1,0,none⟩)] W fun e w'=>e = .returned (.bool (f z))∧Ext W w') :
  Calls Tryz.prog 42 #[v,.func (.func 60) #[] #[.pointer (some ⟨b1,0,none⟩)]] w fun e w'=>e = .returned (.bool (zs.any f))∧Ext w w':=by
 rw [←idxB_any];obtain⟨x,hx⟩:∃x,idxB f zs=x:=⟨_,rfl⟩;have hc:=fun W (hW:Ext w W)=>ixund_any W v zs b1 f (h.ext' hW) (fun W' hW' z hz=>hf9 W' (hW.trans hW') z hz)
 obtain⟨a,n,c,rfl⟩:=form3 h;simp only [hx]at hc ⊢;have Hc:=hd9 hc;clear hc hx h hf9;go_enter Tryz.func42,Tryz.ntmps42
 go_wp2_with(((go_at_call 77;(with_reducible refine(Hc.out _ ?_).mono ?_);exact eA;rintro e w1 ⟨rfl,hx1⟩)))
 go_ret;exact⟨rfl,eA⟩
end Go.Proofs.YteipgejmhfpkaaaGreatDoor.Cop
namespace Go.Proofs.YteipgejmhfpkaaaGreatDoor.Cop
open Go.RowKit Go.Shelf Go.Sort Go.Lib

theorem IsJs.rdd {w:World} {v:Value} {js:List (JS×Value)} (h:IsJs w v js):Rd w 127 15 v (js.map jc).length (js.map jc).flatten:=by
 obtain⟨cs,h1,h2,h3,h4⟩:=h
 have e:cs=js.map jc:=by
  apply List.ext_getElem?
  intro i;rw [lP]
  cases hc:cs[i]? with
  | none =>
   rw [List.getElem?_eq_none_iff]at hc;rw [List.getElem?_eq_none (by omega)];rfl
  | some c =>
   have hi:=(lS.1 hc).1;have hj:js[i]?=some (js[i]'(by omega)):=List.getElem?_eq_getElem _;have:=h4 i c _ hc hj;rw [hj,Option.map_some,this]
 rw [←e,h1];exact h3
theorem own_empty (W:World) (T:TypeId) (k:Nat) (base:Nat) (h:base≤W.heap.size):OwnC T k (W.alloc (.cells #[] T)) base (.slice (some ⟨W.heap.size,0,none⟩) 0 0) []:=
 ⟨fun c hc=>by simp at hc,by simp,.inr ⟨W.heap.size,0,_,rfl,h,heap_alloc_new _ _,by simp,by unfold maxLen;omega,by simp,by simp⟩⟩
theorem clone_any (w:World) (v:Value) (js:List (JS×Value)) (h:IsJs w v js) (hne:0<js.length) (hv:∀j∈js,∃a n c,j.2 = .slice a n c) (hn9:js.length≤1000000) :
  Calls Tryz.prog 56 #[v] w fun e w'=>∃v',e = .returned v'∧OwnC 127 15 w' w.heap.size v' (js.map jc)∧Ext w w':=by
 have hrd:=h.rdd;obtain⟨a,c,rfl⟩:=h.form;obtain⟨b,o,rfl,hb,-⟩:=h.at' (i:=0) (j:=js[0]'hne) (List.getElem?_eq_getElem hne)
 have hl:∀c∈js.map jc,c.length=15:=fun c hc=>by
  obtain⟨j,_,rfl⟩:=List.mem_map.1 hc;simp [jc,jca]
 have h1:∀u∈(js.map jc).flatten,u.oneCell'=true:=fun u hu=>by
  obtain⟨l,hl,hu⟩:=List.mem_flatten.1 hu;obtain⟨j,hj,rfl⟩:=List.mem_map.1 hl;exact jc_one (hv j hj) u hu
 obtain⟨n,hn⟩:∃n,js.length=n:=⟨_,rfl⟩;rw [hn]at hrd hn9 ⊢;have hl9:([]:List (List Value)).length+(js.map jc).length≤100000000000:=by rw [lL,hn];simp;omega
 clear h hv;go_enter Tryz.func56,Tryz.ntmps56;have hrd2:Rd (w.alloc (.cells #[] 127)) 127 15 (.slice (some ⟨b,o,none⟩) n c) (js.map jc).length (js.map jc).flatten:=Rd.ext hrd ((Ext.refl w).alloc _);have hnl:=fun W=>Lib.run_eql_slice_nil (P:=Tryz.prog) W 111 127 (some ⟨b,o,none⟩) n c 0 0 Tryz.underlying111
 go_wp2_with(at_builtin;refine appS (T:=127) (t:=111) (z:=.agg js0) (k:=15) (bytes:=144) (base:=w.heap.size) (v:=.slice (some ⟨w.heap.size,0,none⟩) 0 0) (cs:=[]) info_js rfl (by decide) (by decide) Tryz.underlying111 rfl _ _ rfl rfl (own_empty w _ 15 w.heap.size (Nat.le_refl _)) rfl (js.map jc) hl hrd2 h1 hl9 (by simp) ?_;intro v' w1 hown hgrow hlie;obtain⟨a3,n3,c3,rfl⟩:=hown.form3)
 go_ret;refine⟨_,rfl,hown,?_⟩;exact gb_Ext ((Ext.refl w).alloc _) hgrow (Nat.le_refl _)
theorem cou1_any (w:World) (x:JS×Value) (b:Nat) (z:Int) (cs:Array Value) (hv:∃a n c,x.2 = .slice a n c) (hb:w.heap[b]?=some (.cells cs 60 (0,0))) (h0:cs[0]?=some (.int .i64 z)) :
  Calls Tryz.prog 58 #[.agg (jca x),.pointer (some ⟨b,0,none⟩)] w fun e w'=>e = .returned (.bool ((x.1.k:Int)==z))∧Ext w w':=by
 obtain⟨⟨⟨nm,sh,d,de,gx,gz,wy,ax,az,sk⟩,k,⟨xl,xh⟩,zl,zh⟩,v⟩:=x;obtain⟨va,vn,vc,rfl⟩:=hv;have c0:=qcB hb (i:=0) (u:=.int .i64 z) h0;have zb:=heap_lt hb;have zb1:b<w.heap.size+1:=by omega
 clear hb;unfold jca;dsimp only;go_enter Tryz.func58,Tryz.ntmps58;go_wp2;go_ret;exact⟨rfl,eA⟩
end Go.Proofs.YteipgejmhfpkaaaGreatDoor.Cop
namespace Go.Proofs.YteipgejmhfpkaaaGreatDoor.Cop
open Go.RowKit Go.Shelf Go.Maps Go.Sort Go.Lib
attribute [local go_sem] Oper.semAt_some
theorem und1_any (w:World) (b g n:Nat) (os:List Int) (z:Int) (hb:w.heap[b]?=some (.cells #[.slice (some ⟨g,0,none⟩) n n] 36 (0,0))) (hos:IsIs w (.slice (some ⟨g,0,none⟩) n n) os) (h0:0≤z) (h1:z<n) :
  Calls Tryz.prog 60 #[.int .i64 z,.pointer (some ⟨b,0,none⟩)] w fun e w'=>e = .returned (.bool (os.getD z.toNat 0==0))∧Ext w w':=by
 have hl:=hos.len;obtain⟨i,rfl⟩:∃i:Nat,z=(i:Int):=⟨z.toNat,by omega⟩;obtain⟨y,hy⟩:∃y,os[i]?=some y:=⟨os[i]'(by omega),List.getElem?_eq_getElem _⟩;obtain⟨b',o',e,hb',d0⟩:=hos.at' hy
 cases e
 have c0:=qcB hb (i:=0) (u:=.slice (some ⟨g,0,none⟩) n n) rfl;have ey:os.getD ((i:Int)).toNat 0=y:=by rw [List.getD_eq_getElem?_getD,Int.toNat_natCast,hy];rfl
 rw [ey];have hi3:i<n:=by omega
 clear hos hl hy ey hb;simp only [Nat.zero_add]at d0;go_enter Tryz.func60,Tryz.ntmps60;go_wp2;go_ret;exact⟨rfl,Ext.refl _⟩
theorem OwnC.put1 {w:World} {base g n c i:Nat} {os:List Int} (h:OwnC 3 1 w base (.slice (some ⟨g,0,none⟩) n c) (os.map ic)) (hi:i<os.length) (z:Int) :
  OwnC 3 1 (w.setCell ⟨g,i,none⟩ (.int .i64 z)) base (.slice (some ⟨g,0,none⟩) n c) ((os.set i z).map ic):=by
 have h2:=OwnC.putAll (j:=0) (us:=[.int .i64 z]) h (i:=i) (d:=ic (os[i])) (by rw [lP,List.getElem?_eq_getElem hi];rfl) rfl;rw [List.map_set]
 simpa [setL,ic] using h2
theorem OwnC.frz {T:TypeId} {k:Nat} {w:World} {base g n c:Nat} {cs:List (List Value)} (h:OwnC T k w base (.slice (some ⟨g,0,none⟩) n c) cs):∃cur,w.heap[g]?=some (.cells cur T (0,0)):=by
 rcases h.2.2 with ⟨h9,_⟩|⟨g',cap,cur,hv,_,hh,_⟩
 ·cases h9
 ·cases hv;exact⟨cur,hh⟩
def topC (os:List Int) (L:List Int):Int:=L.foldl (fun o z=>max o (os.getD z.toNat 0)) 0
theorem topC_snoc (os L:List Int) (z:Int):topC os (L++[z])=max (topC os L) (os.getD z.toNat 0):=by unfold topC;rw [List.foldl_append];rfl
theorem topC_bd {os:List Int} (hb:∀v∈os,0≤v∧v≤1000) (L:List Int):0≤topC os L∧topC os L≤1000:=by
 unfold topC
 have:∀(L:List Int) (o:Int),0≤o∧o≤1000→0≤L.foldl (fun o z=>max o (os.getD z.toNat 0)) o∧L.foldl (fun o z=>max o (os.getD z.toNat 0)) o≤1000:=by
  intro L
  induction L with
  | nil=>intro o h;exact h
  | cons z L ih =>
   intro o h;refine ih _ ?_;dsimp only
   have hz:0≤os.getD z.toNat 0∧os.getD z.toNat 0≤1000:=by
    rw [List.getD_eq_getElem?_getD]
    cases h9:os[z.toNat]? with
    | none=>simp
    | some v=>exact hb v (lM h9)
   omega
 exact this L 0 (by decide)
def GoS (W2:World) (base' go n k:Nat) (os L:List Int) (gk:Nat) (t18:Value) (W:World):Prop:=
 ∃i:Nat,i≤L.length∧t18 = .int .i64 i∧gk=L.length-i∧W2.grownBy W (some go)∧OwnC 3 1 W base' (.slice (some ⟨go,0,none⟩) n n) ((os.set k (topC os (L.take i))).map ic)
theorem und2_any (w:World) (x:JS×Value) (b1 b2 B base base' N go n:Nat) (f:Nat→List Int) (os:List Int) (k:Nat) (hkn:x.1.k=(k:Int)) (hv:∃a n c,x.2 = .slice a n c)
  (hm:w.heap[b1]?=some (.cells #[.map (some B)] 140 (0,0))) (ho:w.heap[b2]?=some (.cells #[.slice (some ⟨go,0,none⟩) n n] 36 (0,0))) (hG:Gm w base B N f) (hN:N<1000000)
  (hos:OwnC 3 1 w base' (.slice (some ⟨go,0,none⟩) n n) (os.map ic)) (hgo:go<base) (hBg:B≠go) (hk:k<n) (hn:n≤120) (hob:∀v∈os,0≤v∧v≤1000) (hk0:os.getD k 0=0)
  (hf:∀z∈f k,0≤z∧z<n∧os.getD z.toNat 0≠0) (h12:b1≠go∧b2≠go) :
  Calls Tryz.prog 59 #[.agg (jca x),.pointer (some ⟨b1,0,none⟩),.pointer (some ⟨b2,0,none⟩)] w
   fun e w'=>e = .returned (.bool true)∧w.grownBy w' (some go)∧OwnC 3 1 w' base' (.slice (some ⟨go,0,none⟩) n n) ((os.set k (topC os (f k)+1)).map ic):=by
 obtain⟨⟨⟨nm,sh,d,de,gx,gz,wy,ax,az,sk⟩,kk,⟨xl,xh⟩,zl,zh⟩,v⟩:=x;obtain⟨va,vn,vc,rfl⟩:=hv;dsimp only at *;subst hkn;obtain⟨L,hL⟩:∃L,f k=L:=⟨_,rfl⟩;rw [hL]at hf ⊢;have hmf:∀(fn:Fn) (first cap:Array Value) (w:World),(Instr.makeFunc fn first cap).run Tryz.prog w = .ok (.func fn first cap) w:=fun _ _ _ _=>rfl
 have hol:=hos.len;rw [lL]at hol;have Hol:=hd9 hol.symm;clear hol;unfold jca;dsimp only;obtain⟨R,hR⟩:∃R:Ending→World→Prop,(fun e w'=>e = .returned (.bool true)∧w.grownBy w' (some go)∧OwnC 3 1 w' base' (.slice (some ⟨go,0,none⟩) n n) ((os.set k (topC os L+1)).map ic))=R:=⟨_,rfl⟩;rw [hR];have HR:=hd9 hR;have hA:w.grownBy (w.alloc (.cells #[.string nm,.slice va vn vc,.int .i64 d,.int .i64 de,.int .i64 gx,.int .i64 gz,.int .i64 wy,.int .i64 ax,.int .i64 az,.int .u8 sk,.int .i64 k,.int .i64 xl,.int .i64 xh,.int .i64 zl,.int .i64 zh] 127)) none:=World.grownBy_alloc _ _ _;obtain⟨v1,hrun1,hoi1,hzl1,-⟩:=(hG.keptLow hA (by simp) (fun j h=>by cases h)).at (by unfold maxLen;omega) (k:=k) (by omega);rw [hL]at hoi1 hzl1;have hC:=hd9 (fun(W:World) (hW:Ext w W) (b':Nat) (v:Value) (h:IsIs W v L)=>ctund_any W v L b2 (fun z=>os.getD z.toNat 0==0) h (fun W' hW' z hz=>und1_any W' b2 go n os z ((hW.trans hW').heapS ho) ((hos.ext (hW.trans hW')).is) (hf z hz).1 (hf z hz).2.1))
 have hany:(L.any fun z=>os.getD z.toNat 0==0)=false:=by
  rw [List.any_eq_false];intro z hz
  simpa using (hf z hz).2.2
 rw [hany]at hC;have m0:=qcB hm (i:=0) (u:=.map (some B)) rfl;have o0:=qcB ho (i:=0) (u:=.slice (some ⟨go,0,none⟩) n n) rfl;have zm:=heap_lt hm;have zo:=heap_lt ho;have zm1:b1<w.heap.size+1:=by omega
 have zo1:b2<w.heap.size+1:=by omega
 have HG:=hd9 hG;have Hos:=hd9 hos;have Hho:=hd9 ho;have Hhm:=hd9 hm;have HL:=hd9 hL;have Hf:=hd9 hf;have Hob:=hd9 hob;have Hk0:=hd9 hk0;have His1:=hd9 ((ownsInts_is hoi1).is);clear hG hos ho hm hL hf hR hany hob hoi1 hzl1 hk0;go_enter Tryz.func59,Tryz.ntmps59
 go_wp2_with(go_at_call 42;(with_reducible refine(hC.out _ ?_ b1 _ His1.out).mono ?_);exact eA;rintro e w2 ⟨rfl,hx2⟩;obtain⟨v2,hrun2,hoi2,hzl2,-⟩:=((HG.out.keptLow hA (by simp) (fun j h=>by cases h)).keptLow (gb_below (gb_refl _ none) (hx2.belowB (Nat.le_refl _))) (by simp) (fun j h=>by cases h)).at (by unfold maxLen;omega) (k:=k) (by omega);rw [HL.out]at hoi2 hzl2;obtain⟨la,ln,lc,rfl⟩:=(ownsInts_is hoi2).form3;obtain⟨hc2,hf2⟩:=hx2.cells;have z2:=hx2.size;simp only [wZ]at z2;have zm2:b1<w2.heap.size:=(by omega);have zo2:b2<w2.heap.size:=(by omega);have zb2:w.heap.size<w2.heap.size:=(by omega))
 have hg2:w.grownBy w2 (some go):=gb_below (gb_refl w (some go)) ((((Ext.refl w).alloc _).trans hx2).belowB (Nat.le_refl _));have X2:Ext w w2:=((Ext.refl w).alloc _).trans hx2;have K3:=hx2.heapS (heap_alloc_new w (.cells #[.string nm,.slice va vn vc,.int .i64 d,.int .i64 de,.int .i64 gx,.int .i64 gz,.int .i64 wy,.int .i64 ax,.int .i64 az,.int .u8 sk,.int .i64 k,.int .i64 xl,.int .i64 xh,.int .i64 zl,.int .i64 zh] 127));have Ho2:=hd9 (X2.heapS Hho.out);have Hos2:=hd9 (Hos.out.ext X2);have Hln:=hd9 (show ln=L.length by have:=(ownsInts_is hoi2).len;rw [lL]at this;exact this);have Hoi2:=hd9 hoi2;have HK3:=hd9 K3;have Hg2:=hd9 hg2;have hlnb:ln≤1000000:=by have:=Hln.out;omega
 have hbase:w.heap.size≠go:=by
  intro e;have:=(Hos.out.lt go rfl).2;omega
 clear hc2 hf2 hx2 X2 hA hoi2 K3 hg2 HG hC His1 hrun1 Hos Hho Hhm HL hzl2 m0 o0
 go_loopg [18] ln (GoS w2 base' go n k os L)
 case atStart =>
  refine⟨0,by omega,rfl,by rw [Hln.out];rfl,gb_refl _ _,?_⟩;rw [List.take_zero,show topC os []=0 from rfl]
  have e:os.set k 0=os:=by
   apply List.ext_getElem?
   intro j;rw [List.getElem?_set]
   split
   ·rename_i h
    subst h;have:=Hk0.out;rw [List.getD_eq_getElem?_getD]at this
    split
    ·rename_i h2
     rw [List.getElem?_eq_getElem h2]at this ⊢
     simpa using this.symm
    ·rw [List.getElem?_eq_none (by omega)]
   ·rfl
  rw [e];exact Hos2.out
 case round =>
  obtain⟨i,hi,rfl,rfl,hg,hown⟩:=hrel;rw [←Hln.out]at hi;have hsz:=hg.size;have hbox:=(hg.block w.heap.size (by omega) (by simp;omega)).trans HK3.out;have hobx:=(hg.block b2 (by omega) (by simp;omega)).trans Ho2.out;have c10:=qcB hbox (i:=10) (u:=.int .i64 k) rfl;have c0:=qcB hobx (i:=0) (u:=.slice (some ⟨go,0,none⟩) n n) rfl;obtain⟨cur,hcur⟩:=hown.frz;have hfz:=qfB hcur;obtain⟨mx,hmx⟩:∃m,topC os (L.take i)=m:=⟨_,rfl⟩;rw [hmx]at hown;have hmb:=topC_bd Hob.out (L.take i);rw [hmx]at hmb;have hkl:k<os.length:=by rw [Hol.out];exact hk
  have ck:=hown.cell (i:=k) (j:=0) (u:=.int .i64 mx) (by rw [lP,List.getElem?_set_self hkl];rfl) rfl;rw [Nat.mul_one,Nat.add_zero]at ck;have zgo:=(hown.lt go rfl).2;have Hown:=hd9 hown;have Hg:=hd9 hg;have Hmx:=hd9 hmx;have zr0:w.heap.size<wr.heap.size:=by omega
  have zr1:b2<wr.heap.size:=by omega
  have kn0:(0:Int)≤(k:Int):=by omega
  have kn1:(k:Int)<(n:Int):=by omega
  clear hbox hobx hcur hown hmx
  by_cases hlt:i<ln
  ·obtain⟨z,hz⟩:∃z,L[i]?=some z:=⟨L[i]'(by rw [←Hln.out];exact hlt),List.getElem?_eq_getElem _⟩
   obtain⟨z0,z1,z2'⟩:=Hf.out z (lM hz);obtain⟨zi,rfl⟩:∃zi:Nat,z=(zi:Int):=⟨z.toNat,by omega⟩;obtain⟨y,hy⟩:∃y,os[zi]?=some y:=⟨os[zi]'(by rw [Hol.out];omega),List.getElem?_eq_getElem _⟩;have hyd:os.getD zi 0=y:=by rw [List.getD_eq_getElem?_getD,hy];rfl
   rw [Int.toNat_natCast,hyd]at z2';have hzk:k≠zi:=by intro e;subst e;exact z2' (hyd.symm.trans Hk0.out)
   have hyb:=Hob.out y (lM hy);have his:=(ownsInts_is (Hoi2.out.kept hg (.inr (by intro e;have:=(Hoi2.out.1.lt _ e).1;omega)))).is;obtain⟨b',o',rfl,hb',d0⟩:=his.at' hz;have cz:=Hown.out.cell (i:=zi) (j:=0) (u:=.int .i64 y) (by rw [lP,List.getElem?_set_ne hzk,hy];rfl) rfl;rw [Nat.mul_one,Nat.add_zero]at cz;have Hst:=hd9 (show topC os (L.take (i+1))=max mx y by rw [take_add_one' _ _ _ hz,topC_snoc,Hmx.out,Int.toNat_natCast,hyd]);have zn1:zi<n:=by omega
   have ein:((zi:Int)).toNat=zi:=Int.toNat_natCast _;clear hz his hy hg z2' hyd;go_wp2;refine wp_region_HU (fun i=>decide (13<i)) (CellL [(⟨b2,0,none⟩,.slice (some ⟨go,0,none⟩) n n),(⟨w.heap.size,10,none⟩,.int .i64 k),(⟨go,k,none⟩,.int .i64 mx),(⟨go,zi,none⟩,.int .i64 y)]) (by kernel_rfl) ?_ (fun hHeld=>?_)
   ·refine⟨?_,?_,?_,?_,trivial⟩<;>go_simp
   refine sN 0 ?_
   iterate 12
    refine tun ?_
   refine oN ?_;refine cu1 (i:=12) fun K hK=>?_
   go_simp;refine kO hK (fun _=>hHeld) (fun hHeld=>?_);clear hK K;have hHeld:=hHeld rfl;refine tu1 (i:=13) ?_;refine cu1 (i:=14) fun K hK=>?_
   go_simp;refine kO hK (fun h=>nomatch h) (fun hHeld=>?_);clear hK K;refine doneHU (by kernel_rfl) ?_ _;clear hHeld;go_wp2
   go_roundg (ln-(i+1))
   case measure=>have:=Hln.out;omega
   case rel =>
    have h1:=Hown.out.put1 (i:=k) (by rw [List.length_set];exact hkl) (max mx y);rw [List.set_set]at h1;have h2:=gb_set Hg.out k (.int .i64 (max mx y));refine⟨i+1,by rw [←Hln.out];omega,by go_num,by rw [←Hln.out],gb_below h2 ((Ext.refl _).drew.belowB h2.size),?_⟩;rw [Hst.out];exact h1.ext (Ext.refl _).drew
  ·obtain rfl:i=ln:=by omega
   have hall:L.take i=L:=lT (by rw [←Hln.out];exact Nat.le_refl _);have Hmx2:=hd9 (show topC os L=mx by rw [←Hmx.out,hall]);have hw1:IntKind.i64.wrap (mx+1)=mx+1:=IntWalk.i64_in _ ⟨by omega,by omega⟩;have hw2:wrap64 (mx+1)=mx+1:=IntWalk.wrap64_in _ ⟨by omega,by omega⟩;clear hall;go_wp2;rw [←HR.out];have h1:=Hown.out.put1 (i:=k) (by rw [List.length_set];exact hkl) (mx+1);rw [List.set_set]at h1;exact⟨rfl,gb_set (Hg2.out.trans Hg.out) k (.int .i64 (mx+1)),by rw [Hmx2.out];exact h1⟩
end Go.Proofs.YteipgejmhfpkaaaGreatDoor.Cop
namespace Go.Proofs.YteipgejmhfpkaaaGreatDoor.Cop
open Go.RowKit Go.Shelf Go.Sort
def IsPr (w:World) (v:Value) (ps:List (Int×Int)):Prop:=∃T,Sl T 2 PP w v ps
theorem IsPr.ext' {w w':World} {v:Value} {ps:List (Int×Int)} (h:IsPr w v ps) (k:Ext w w'):IsPr w' v ps:=by obtain⟨T,h⟩:=h;exact⟨T,Sl.ext (w:=w) (w':=w') h (fun _ _ h=>h) k⟩
theorem IsPr.form {w:World} {v:Value} {ps:List (Int×Int)} (h:IsPr w v ps):∃a c,v = .slice a ps.length c:=h.elim fun _ h=>Sl.form h
theorem IsPr.form3 {w:World} {v:Value} {ps:List (Int×Int)} (h:IsPr w v ps):∃a n c,v = .slice a n c:=h.elim fun _ h=>Cop.form3 h
theorem IsPr.at' {w:World} {a:Option Addr} {n c:Nat} {ps:List (Int×Int)} (h:IsPr w (.slice a n c) ps) {i:Nat} {p:Int×Int} (hp:ps[i]?=some p) :
  ∃b o,a=some ⟨b,o,none⟩∧b<w.heap.size∧w.cell? ⟨b,o+i*2,none⟩=some (.int .i64 p.1)∧w.cell? ⟨b,o+i*2+1,none⟩=some (.int .i64 p.2):=by
 obtain⟨T,h⟩:=h;obtain⟨b,o,d,rfl,hb,hl,hP,hc⟩:=Sl.at h hp;have hP':d=[.int .i64 p.1,.int .i64 p.2]:=hP;subst hP';exact⟨b,o,rfl,hb,hc 0 _ rfl,hc 1 _ rfl⟩
def PPr (w:World) (c:List Value) (p:Pl):Prop:=∃v,c=(plc p v).toList∧IsPr w v p.shape∧0≤p.skin
def IsWr (w:World) (v:Value) (ps:List Pl):Prop:=∃T,Sl T 10 PPr w v ps
theorem IsWr.ext' {w w':World} {v:Value} {ps:List Pl} (h:IsWr w v ps) (k:Ext w w'):IsWr w' v ps:=by obtain⟨T,h⟩:=h;exact⟨T,Sl.ext (w:=w) (w':=w') h (fun _ _ ⟨v,h1,h2,h3⟩=>⟨v,h1,h2.ext' k,h3⟩) k⟩
theorem IsWr.form {w:World} {v:Value} {ps:List Pl} (h:IsWr w v ps):∃a c,v = .slice a ps.length c:=h.elim fun _ h=>Sl.form h
theorem IsWr.form3 {w:World} {v:Value} {ps:List Pl} (h:IsWr w v ps):∃a n c,v = .slice a n c:=h.elim fun _ h=>Cop.form3 h
theorem IsWr.len {w:World} {a:Option Addr} {n c:Nat} {ps:List Pl} (h:IsWr w (.slice a n c) ps):n=ps.length:=h.elim fun _ h=>Sl.len h
theorem IsWr.le {w:World} {a:Option Addr} {n c:Nat} {ps:List Pl} (h:IsWr w (.slice a n c) ps):ps.length≤c∧c≤maxLen:=h.elim fun _ h=>Sl.le h
theorem IsWr.at' {w:World} {a:Option Addr} {n c:Nat} {ps:List Pl} (h:IsWr w (.slice a n c) ps) {i:Nat} {p:Pl} (hp:ps[i]?=some p) :
  ∃b o v,a=some ⟨b,o,none⟩∧b<w.heap.size∧IsPr w v p.shape∧0≤p.skin∧∀(j:Nat) u,(plc p v)[j]?=some u→w.cell? ⟨b,o+i*10+j,none⟩=some u:=by
 obtain⟨T,h⟩:=h;obtain⟨b,o,d,rfl,hb,hl,⟨v,rfl,h1,h2⟩,hc⟩:=Sl.at h hp;exact⟨b,o,v,rfl,hb,h1,h2,fun j u hj=>hc j u (by rw [Array.getElem?_toList];exact hj)⟩
def longB (p:Pl):Bool:=decide (20<p.shape.length) || decide (40<p.name.size)
theorem long_any (w:World) (nm:ByteArray) (v:Value) (sh:List (Int×Int)) (d de gx gz:Int) (h:IsPr w v sh) :
  Calls Tryz.prog 25 #[.agg #[.string nm,v,.int .i64 d,.int .i64 de,.int .i64 gx,.int .i64 gz]] w fun e w'=>e = .returned (.bool (decide (20<sh.length) || decide (40<nm.size)))∧Ext w w':=by
 obtain⟨a,c,rfl⟩:=h.form;obtain⟨n,hn⟩:∃n,sh.length=n:=⟨_,rfl⟩;rw [hn];obtain⟨m,hm⟩:∃m,nm.size=m:=⟨_,rfl⟩
 by_cases h1:20<n
 ·have h1':(20:Int)<(n:Int):=by omega
  have e:(decide (20<n) || decide (40<nm.size))=true:=by simp [h1]
  rw [e];clear h1 e hm;go_enter Tryz.func25,Tryz.ntmps25;go_wp2;go_ret;exact⟨rfl,eA⟩
 ·have h1':¬(20:Int)<(n:Int):=by omega
  have e:(decide (20<n) || decide (40<nm.size))=decide (40<m):=by simp [h1,hm]
  rw [e];clear h1 e;go_enter Tryz.func25,Tryz.ntmps25;go_wp2;go_ret;exact⟨by simp;omega,eA⟩
def fewB (g:List (Int×Int)) (ps:List Pl):Bool:=!ps.any longB&&(decide (ps.length≤8)&&decide (g.length≤50))
def FwS (w:World) (vg vp:Value) (ps:List Pl) (g:Nat) (t3:Value) (W:World):Prop:=
 ∃i:Nat,i≤ps.length∧t3 = .int .i64 (i:Nat)∧g=ps.length-i∧Ext w W∧W.heap[w.heap.size]?=some (.cells #[vg,vp] 25 (0,0))∧∀j y,j<i→ps[j]?=some y→longB y=false
theorem few_any (w:World) (vg vp:Value) (g:List (Int×Int)) (ps:List Pl) (hg:IsPr w vg g) (hp:IsWr w vp ps) :
  Calls Tryz.prog 8 #[.agg #[vg,vp]] w fun e w'=>e = .returned (.bool (fewB g ps))∧Ext w w':=by
 obtain⟨ga,gc,rfl⟩:=hg.form;obtain⟨pa,pc,rfl⟩:=hp.form;obtain⟨n,hn⟩:∃n,ps.length=n:=⟨_,rfl⟩;obtain⟨m,hm⟩:∃m,g.length=m:=⟨_,rfl⟩;have hle:=hp.le;rw [hm];rw [hn]at hp hle ⊢;unfold maxLen at hle;have hnc:n≤9223372036854775807:=by omega
 have Hn:=hd9 hn;have Hm:=hd9 hm;have Hp:=hd9 hp;obtain⟨fb,hfb⟩:∃b,fewB g ps=b:=⟨_,rfl⟩;rw [hfb];have Hfb:=hd9 hfb;clear hn hle hg hp hm hfb;go_enter Tryz.func8,Tryz.ntmps8;go_wp2
 go_loopg [3] n (FwS w (.slice ga m gc) (.slice pa n pc) ps)
 case atStart=>exact⟨0,by omega,rfl,by rw [Hn.out];rfl,eA,heap_alloc_new w _,fun j y hj=>by omega⟩
 case round =>
  obtain⟨i,hi,rfl,rfl,hx,hb0,hall⟩:=hrel;rw [Hn.out]at hi;have w0:=qcB hb0 (i:=0) (u:=.slice ga m gc) rfl;have w1:=qcB hb0 (i:=1) (u:=.slice pa n pc) rfl;have Hall:=hd9 hall;have Hx:=hd9 hx;have Hb0:=hd9 hb0;clear hall
  by_cases hlt:i<n
  ·obtain⟨p,hq⟩:∃q,ps[i]?=some q:=⟨ps[i]'(by rw [Hn.out];omega),by simp [Hn.out,hlt]⟩
   obtain⟨b,o,v,rfl,hb,hv,_,hc⟩:=(Hp.out.ext' hx).at' hq;have HL:=hd9 (fun W (hW:Ext wr W)=>long_any W p.name v p.shape p.depth p.density p.gx p.gz (hv.ext' hW));obtain⟨lb,hlb⟩:∃b,longB p=b:=⟨_,rfl⟩;rw [show (decide (20<p.shape.length) || decide (40<p.name.size))=lb from hlb]at HL;have Hlb:=hd9 hlb;obtain⟨va,vn,vc,rfl⟩:=hv.form3;have cc0:=hc 0 (.string p.name) rfl;have cc1:=hc 1 (.slice va vn vc) rfl;have cc2:=hc 2 (.int .i64 p.depth) rfl;have cc3:=hc 3 (.int .i64 p.density) rfl;have cc4:=hc 4 (.int .i64 p.gx) rfl;have cc5:=hc 5 (.int .i64 p.gz) rfl;simp only [Nat.add_zero]at cc0;have Hq:=hd9 hq;have p1:(0:Int)≤(i:Int):=by omega
   have p2:(i:Int)<(n:Int):=by omega
   clear hc hq hv hlb hx hb0
   cases lb with
   | true =>
    have e:fb=false:=by
     rw [←Hfb.out];unfold fewB;rw [show ps.any longB=true from List.any_eq_true.2 ⟨p,lM Hq.out,Hlb.out⟩];rfl
    subst e
    go_wp2_with(go_at_call 25;(with_reducible refine(HL.out _ (Ext.refl _)).mono ?_);rintro e w1 ⟨rfl,hx1⟩)
    go_ret;exact⟨rfl,Hx.out.trans hx1⟩
   | false =>
    go_wp2_with(go_at_call 25;(with_reducible refine(HL.out _ (Ext.refl _)).mono ?_);rintro e w1 ⟨rfl,hx1⟩)
    go_roundg (n-(i+1))
    case measure=>have:=Hn.out;omega
    case rel =>
     refine⟨i+1,by have:=Hn.out;omega,by go_num,by rw [Hn.out],Hx.out.trans hx1,hx1.heapS Hb0.out,fun j y hj hy=>?_⟩
     by_cases hji:j=i
     ·subst hji;rw [Hq.out]at hy;cases hy;exact Hlb.out
     ·exact Hall.out j y (by omega) hy
  ·obtain rfl:n=i:=by omega
   have e:fb=(decide (n≤8)&&decide (m≤50)):=by
    rw [←Hfb.out];unfold fewB
    rw [show ps.any longB=false from by
     rw [List.any_eq_false];intro p hp;obtain⟨j,hj⟩:=List.mem_iff_getElem?.1 hp;rw [Hall.out j p (by have:=(lS.1 hj).1;rw [Hn.out]at this;exact this) hj]
     decide,Hn.out,Hm.out]
    rfl
   subst e
   by_cases h8:n≤8
   ·have h8':(n:Int)≤8:=by omega
    go_wp2;go_ret;exact⟨by simp [h8];try omega,Hx.out⟩
   ·have h8':¬(n:Int)≤8:=by omega
    go_wp2;go_ret;exact⟨by simp [h8],Hx.out⟩
def IntS (w:World) (xs ys:List Int) (g:Nat) (t5:Value) (W:World):Prop:=
 ∃i:Nat,i≤xs.length∧t5 = .int .i64 (i:Nat)∧g=xs.length-i∧Ext w W∧∀j,j<i→xs[j]?=ys[j]?
theorem few_len {g:List (Int×Int)} {ps:List Pl} (h:fewB g ps=true):g.length≤1000∧ps.length≤8∧∀p∈ps,p.shape.length≤1000:=by
 unfold fewB at h;simp only [Bool.and_eq_true,Bool.not_eq_true',List.any_eq_false,decide_eq_true_eq]at h;obtain⟨h1,h2,h3⟩:=h;refine⟨by omega,h2,fun p hp=>?_⟩;have:=h1 p hp;unfold longB at this;simp only [Bool.or_eq_true,decide_eq_true_eq,not_or]at this;omega
theorem list_eq_of {xs ys:List Int} (hl:xs.length=ys.length) (h:∀j,j<xs.length→xs[j]?=ys[j]?):xs=ys:=by
 apply List.ext_getElem?
 intro i
 by_cases hi:i<xs.length
 ·exact h i hi
 ·rw [List.getElem?_eq_none (by omega),List.getElem?_eq_none (by omega)]
theorem ints_any (w:World) (va vb:Value) (xs ys:List Int) (ha:IsIs w va xs) (hb:IsIs w vb ys) :
  Calls Tryz.prog 22 #[va,vb] w fun e w'=>e = .returned (.bool (decide (xs=ys)))∧Ext w w':=by
 obtain⟨a,c,rfl⟩:=ha.form;obtain⟨a',c',rfl⟩:=hb.form;obtain⟨n,hn⟩:∃n,xs.length=n:=⟨_,rfl⟩;obtain⟨m,hm⟩:∃m,ys.length=m:=⟨_,rfl⟩;have hle:=ha.le;rw [hn]at ha hle ⊢;rw [hm]at hb ⊢;unfold maxLen at hle;have hnc:n≤9223372036854775807:=by omega
 have Hn:=hd9 hn;have Hm:=hd9 hm;obtain⟨r,hr⟩:∃r,decide (xs=ys)=r:=⟨_,rfl⟩;rw [hr];have Hr:=hd9 hr;have Ha:=hd9 ha;have Hb:=hd9 hb;clear hn hm hle ha hb hr
 by_cases hnm:n=m
 rotate_left 1
 ·have e:r=false:=by
   rw [←Hr.out,decide_eq_false_iff_not];intro h
   apply hnm
   rw [←Hn.out,←Hm.out,h]
  subst e;have h1:¬(n:Int)=(m:Int):=by omega
  have h2:((n:Int) != (m:Int))=true:=by simpa using h1
  go_enter Tryz.func22,Tryz.ntmps22;go_wp2;go_ret;exact⟨rfl,eA⟩
 subst hnm;go_enter Tryz.func22,Tryz.ntmps22;go_wp2
 go_loopg [5] n (IntS w xs ys)
 case atStart=>exact⟨0,by omega,rfl,by rw [Hn.out];rfl,Ext.refl _,fun j hj=>by omega⟩
 case round =>
  obtain⟨i,hi,rfl,rfl,hx,hall⟩:=hrel;rw [Hn.out]at hi;have Hall:=hd9 hall;have Hx:=hd9 hx;clear hall
  by_cases hlt:i<n
  ·obtain⟨x,hq⟩:∃q,xs[i]?=some q:=⟨xs[i]'(by rw [Hn.out];omega),by simp [Hn.out,hlt]⟩
   obtain⟨y,hq'⟩:∃q,ys[i]?=some q:=⟨ys[i]'(by rw [Hm.out];omega),by simp [Hm.out,hlt]⟩;obtain⟨b,o,rfl,hb,d0⟩:=(Ha.out.ext' hx).at' hq;obtain⟨b',o',rfl,hb',d0'⟩:=(Hb.out.ext' hx).at' hq';have Hq:=hd9 hq;have Hq':=hd9 hq';have p1:(0:Int)≤(i:Int):=by omega
   have p2:(i:Int)<(n:Int):=by omega
   clear hq hq'
   by_cases hxy:x=y
   ·have Hxy:=hd9 hxy
    have h3:(x != y)=false:=by simp [hxy]
    clear hxy;go_wp2
    go_quiet (fail)
    go_wp2
    go_roundg (n-(i+1))
    case measure=>have:=Hn.out;omega
    case rel =>
     refine⟨i+1,by have:=Hn.out;omega,by go_num,by rw [Hn.out],eA,fun j hj=>?_⟩
     by_cases hji:j=i
     ·subst hji;rw [Hq.out,Hq'.out,Hxy.out]
     ·exact Hall.out j (by omega)
   ·have h3:(x != y)=true:=by simpa using hxy
    have e:r=false:=by
     rw [←Hr.out,decide_eq_false_iff_not];intro h;have:=Hq.out;rw [h,Hq'.out]at this
     cases this
     exact hxy rfl
    subst e;go_wp2
    go_quiet (fail)
    go_wp2;go_ret;exact⟨rfl,eA⟩
  ·obtain rfl:n=i:=by omega
   have e:r=true:=by
    rw [←Hr.out,decide_eq_true_eq];exact list_eq_of (by rw [Hn.out,Hm.out]) (fun j hj=>Hall.out j (by rw [Hn.out]at hj;exact hj))
   subst e;go_wp2;go_ret;exact⟨rfl,hx⟩
end Go.Proofs.YteipgejmhfpkaaaGreatDoor.Cop
