/- Part 39: contracts of what the law calls. -/
import Derived.Test.YteipgejmhfpkaaaGreatDoorCopA37
import Derived.Test.YteipgejmhfpkaaaGreatDoorCopA36
import Derived.Test.YteipgejmhfpkaaaGreatDoorCopA30
import Derived.Test.YteipgejmhfpkaaaGreatDoorCopA16
import Derived.Test.YteipgejmhfpkaaaGreatDoorCopA22
set_option maxRecDepth 1000000
set_option maxHeartbeats 16000000
set_option linter.unusedSimpArgs false
set_option linter.unusedVariables false
open Go renaming World→O,Value→Y,Act→M
open Option renaming some→Z,none→I
open Go.Value renaming int→X
open Go.IntKind renaming i64→J
namespace Go.Proofs.YteipgejmhfpkaaaGreatDoor.Cop
section
open Go.RowKit Go.Shelf Go.Sort
attribute [local go_sem] Oper.semAt_some
theorem zi1 {g:List (Int×Int)} {ps:List Pl} {r:Ru} (h:byE g ps r=0):laidP g ps=0∧0≤r.run∧r.run≤10000:=by
 unfold byE at h
 by_cases h0:laidP g ps=0
 ·rw [if_pos h0]at h
  unfold rulesE at h
  repeat(first|(split at h;(focus(cases h;done))))
  simp [oddR]at *;omega
 ·rw [if_neg h0]at h
  exact absurd h h0
end
section
open Go.RowKit Go.Shelf Go.Sort Go.Lib
attribute [local go_sem] Oper.semAt_some
structure ChP (r:Ru) (L:List Jt) (rs:List Int) (last:Nat) (cn:List Nat) (k:Nat):Prop where
 top:cn.head?=Z last
 low:cn.getLast?=Z k
 fol:∀i a b,cn[i]?=Z a→cn[i+1]?=Z b→folB r L a b=true
 all:∀x∈cn,x<L.length∧rs.getD x 0=rs.getD last 0
theorem ChP.snoc {r:Ru} {L:List Jt} {rs:List Int} {last:Nat} {cn:List Nat} {k i:Nat} (h:ChP r L rs last cn k) (hf:folB r L k i=true) (hi:i<L.length) (hr:rs.getD i 0=rs.getD k 0):ChP r L rs last (cn++[i]) i:=by
 have hk:=h.all k (List.mem_of_getLast? h.low);refine⟨by rw [List.head?_append,h.top];rfl,by simp,fun j a b ha hb=>?_,fun x hx=>?_⟩
 ·have hj:=(lS.1 hb).1
  rw [lA,List.length_singleton]at hj
  by_cases hjl:j+1<cn.length
  ·rw [List.getElem?_append_left hjl]at hb
   rw [List.getElem?_append_left (by omega)]at ha;exact h.fol j a b ha hb
  ·have e:cn.length=j+1:=by omega
   rw [List.getElem?_append_right (by omega),e,Nat.sub_self]at hb;rw [List.getElem?_append_left (by omega)]at ha;have hl:=h.low;rw [List.getLast?_eq_getElem?,e,Nat.add_sub_cancel,ha]at hl
   cases hl
   cases hb
   exact hf
 ·rcases List.mem_append.1 hx with hx|hx
  ·exact h.all x hx
  ·rw [List.mem_singleton.1 hx]
   exact⟨hi,hr.trans hk.2⟩
def iN (cn:List Nat):List Int:=cn.map fun x:Nat=>(x:Int)
end
section
open Go.RowKit Go.Shelf Go.Sort Go.Lib
abbrev IsU8s (w:O) (v:Y) (kd:List Int):Prop:=Sl 5 1 (fun _ c k=>c=[X .u8 k]) w v kd
theorem IsU8s.ext' {w w':O} {v:Y} {kd:List Int} (h:IsU8s w v kd) (k:Ext w w'):IsU8s w' v kd:=Sl.ext h (fun _ _ h=>h) k
def RetSu (w:O) (g:List (Int×Int)) (ps:List Pl) (r:Ru) (e:Ending) (w':O):Prop:=
 ∃v l,e = .returned (.tuple #[v,X J (byE g ps r)])∧IsFds w' v l∧l.length≤2000000∧(byE g ps r=0→FdsOf g ps r l)∧Ext w w'
theorem zni (w:O):IsFds w (.slice I 0 0) []:=(OwnC.nil 73 4 w 0).fds
theorem zit (w:O) (vg vp:Y) (g:List (Int×Int)) (ps:List Pl) (r:Ru) (hg:IsPts w vg g) (hp:IsPls w vp ps) (hgw:Gw w) :
  Calls Tryz.prog 13 #[.agg #[vg,vp],.agg (ruc r)] w (RetSu w g ps r):=by
 by_cases h0:byE g ps r=0
 ·refine(ziu w vg vp g ps r hg hp hgw h0).mono ?_
  rintro e w' ⟨v,ks,L,rs,o,rfl,sv,sb,co,hf,hx⟩;refine⟨v,_,by rw [h0],hf,?_,fun _=>⟨ks,L,rs,o,sv,co,rfl⟩,hx⟩;have h1:=zdu L rs r.run L.length;have h2:=nT (zfd r ks L L.length) (Nat.mul_le_mul sb.len sb.few);have h3:=zfh ks ks.length;have h4:=zfi o (levP o ks ks.length) r.level ks ks.length;have h5:=sb.len;have h6:=sb.few;simp only [lA];omega
 ·refine(zkQ w vg vp g ps r hg hp hgw h0).mono ?_
  rintro e w' ⟨rfl,hx⟩;exact⟨_,[],rfl,zni _,by simp,fun h=>absurd h h0,hx⟩
theorem ChP.up {r:Ru} {L:List Jt} {rs:List Int} {last:Nat} {cn:List Nat} {k:Nat} (h:ChP r L rs last cn k) :
  (iN cn).reverse.length=cn.length∧(iN cn).reverse[0]?=Z (k:Int)∧(iN cn).reverse[cn.length-1]?=Z (last:Int)∧0<cn.length:=by
 have hne:cn≠[]:=fun e=>by have:=h.top;rw [e]at this;cases this
 have hp:=List.length_pos_iff.2 hne;refine⟨by simp [iN],?_,?_,hp⟩
 ·rw [List.getElem?_reverse (by simpa [iN] using hp)]
  have:=h.low;rw [List.getLast?_eq_getElem?]at this;simp only [iN,lL,lP];rw [show cn.length-1-0=cn.length-1 by omega,this];rfl
 ·rw [List.getElem?_reverse (by simp only [iN,lL];omega)]
  have:=h.top;rw [List.head?_eq_getElem?]at this;simp only [iN,lL,lP];rw [show cn.length-1-(cn.length-1)=0 by omega,this];rfl
theorem ChP.at {r:Ru} {L:List Jt} {rs:List Int} {last:Nat} {cn:List Nat} {k:Nat} (h:ChP r L rs last cn k) {i:Nat} (hi:i<cn.length) :
  ∃x:Nat,(iN cn).reverse[i]?=Z (x:Int)∧x<L.length∧(0<i→∃y:Nat,(iN cn).reverse[i-1]?=Z (y:Int)∧y<L.length∧folB r L x y=true):=by
 have e:∀j,j<cn.length→(iN cn).reverse[j]?=(cn[cn.length-1-j]?).map fun x:Nat=>(x:Int):=fun j hj=>by
  rw [List.getElem?_reverse (by simpa [iN] using hj)];simp only [iN,lL,lP]
 obtain⟨x,hx⟩:∃x,cn[cn.length-1-i]?=Z x:=⟨_,gE (by omega)⟩;refine⟨x,by rw [e i hi,hx];rfl,(h.all x (lM hx)).1,fun h0=>?_⟩;obtain⟨y,hy⟩:∃y,cn[cn.length-1-(i-1)]?=Z y:=⟨_,gE (by omega)⟩;refine⟨y,by rw [e (i-1) (by omega),hy];rfl,(h.all y (lM hy)).1,h.fol (cn.length-1-i) x y hx (by rw [show cn.length-1-i+1=cn.length-1-(i-1) by omega];exact hy)⟩
end
section
open Go.RowKit Go.Shelf Go.Sort Go.Lib Go.Maps
def mvQ (d q:Int×Int):Int×Int:=(q.1+d.1,q.2+d.2)
def mvL (d:Int×Int) (l:List (Int×Int)):List (Int×Int):=l.map (mvQ d)
def mvP (d:Int×Int) (p:Pl):Pl:={ p with ax:=p.ax+d.1,az:=p.az+d.2 }
theorem zmN (d q:Int×Int):mvQ (ngP d) (mvQ d q)=q:=by
 unfold mvQ ngP;refine Prod.ext ?_ ?_<;>(dsimp only;omega)
theorem zke (d q:Int×Int):mvQ d (mvQ (ngP d) q)=q:=by
 unfold mvQ ngP;refine Prod.ext ?_ ?_<;>(dsimp only;omega)
theorem zmM (d:Int×Int) (l:List (Int×Int)):mvL (ngP d) (mvL d l)=l:=by
 unfold mvL;rw [List.map_map,show mvQ (ngP d) ∘ mvQ d=id from funext (zmN d),List.map_id]
theorem zc9 (d:Int×Int) (p:Pl):cornersP (mvP d p)=mvL d (cornersP p):=by
 unfold cornersP mvL mvP;rw [List.map_map];refine List.map_congr_left fun q _=>?_
 unfold mvQ;refine Prod.ext ?_ ?_<;>(dsimp only [Function.comp_apply];omega)
theorem LowV.mv {cs:List (Int×Int)} {q:Int×Int} (d:Int×Int) (h:LowV cs q):LowV (mvL d cs) (mvQ d q):=by
 obtain⟨u,v,⟨he,hx⟩,hq⟩:=h;exact⟨mvQ d u,mvQ d v,⟨he.maps _,by unfold mvQ;dsimp only;omega⟩,by rcases hq with rfl|rfl<;>simp⟩
theorem UpV.mv {cs:List (Int×Int)} {q:Int×Int} (d:Int×Int) (h:UpV cs q):UpV (mvL d cs) (mvQ d q):=by
 obtain⟨u,v,⟨he,hx⟩,hq⟩:=h;exact⟨mvQ d u,mvQ d v,⟨he.maps _,by unfold mvQ;dsimp only;omega⟩,by rcases hq with rfl|rfl<;>simp⟩
theorem Rise.eq {l m:List (Int×Int)} (hl:Rise l) (hm:Rise m) (h:∀q,q∈l ↔ q∈m):l=m:=by
 have nd:∀{l:List (Int×Int)},Rise l→l.Nodup:=fun h=>List.Pairwise.imp (fun h e=>by subst e;omega) h
 exact List.Perm.eq_of_pairwise (le:=fun a b:Int×Int=>a.1<b.1) (fun a b _ _ h1 h2=>by omega) hl hm ((List.perm_ext_iff_of_nodup (nd hl) (nd hm)).2 h)
theorem Rise.mv {l:List (Int×Int)} (d:Int×Int) (h:Rise l):Rise (mvL d l):=by
 unfold Rise mvL at *;rw [List.pairwise_map];exact h.imp fun h=>by unfold mvQ;dsimp only;omega
theorem zj9 {d q:Int×Int} {l:List (Int×Int)}:q∈mvL d l ↔ mvQ (ngP d) q∈l:=by
 unfold mvL;rw [List.mem_map]
 constructor
 ·rintro ⟨p,hp,rfl⟩
  rwa [zmN]
 ·intro h
  exact⟨_,h,zke d q⟩
theorem zoU {d:Int×Int} {p:Pl} (h:placedOk p=true) (k:placedOk (mvP d p)=true):lowP2 (mvP d p)=mvL d (lowP2 p):=by
 refine Rise.eq (zbI k).1 ((zbI h).1.mv d) fun q=>?_
 rw [(zbI k).2.1,zj9,(zbI h).2.1,zc9]
 constructor
 ·intro h9
  have:=h9.mv (ngP d)
  rwa [zmM]at this
 ·intro h9
  have:=h9.mv d
  rwa [zke]at this
theorem zpi {d:Int×Int} {p:Pl} (h:placedOk p=true) (k:placedOk (mvP d p)=true):upP2 (mvP d p)=mvL d (upP2 p):=by
 refine Rise.eq (zcw k).1 ((zcw h).1.mv d) fun q=>?_
 rw [(zcw k).2.1,zj9,(zcw h).2.1,zc9]
 constructor
 ·intro h9
  have:=h9.mv (ngP d)
  rwa [zmM]at this
 ·intro h9
  have:=h9.mv d
  rwa [zke]at this
theorem zgt (d:Int×Int) (l:List (Int×Int)) {i:Nat} (h:i<l.length):(mvL d l).getD i (0,0)=mvQ d (l.getD i (0,0)):=by
 unfold mvL;rw [gD,gD,lP,gE h];rfl
theorem ze3 (d:Int×Int) {l:List (Int×Int)} (h:l≠[]):lineL (mvL d l)=lineL l+d.1∧lineR (mvL d l)=lineR l+d.1:=by
 have h0:=List.length_pos_iff.2 h;have hl:(mvL d l).length=l.length:=by unfold mvL;rw [lL]
 unfold lineL lineR;rw [hl,zgt d l h0,zgt d l (by omega)];exact⟨rfl,rfl⟩
def mvE (d:Int×Int) (e:Edg):Edg:=(mvQ d e.1,mvQ d e.2)
theorem zoT (d:Int×Int) (l:List (Int×Int)):eds (mvL d l)=(eds l).map (mvE d):=by
 unfold eds mvL;rw [←List.map_tail,List.zip_map];rfl
theorem zo9 (d:Int×Int) (x:Rat) (e:Edg):xLe (x+(d.1:Rat)) (mvE d e)=xLe x e:=by
 unfold xLe mvE mvQ;rw [decide_eq_decide,zdt,zdt];dsimp only;rw [Rat.intCast_add]
 grind
theorem znZ (d:Int×Int) (x:Rat) (e:Edg):atE (x+(d.1:Rat)) (mvE d e)=atE x e+(d.2:Rat):=by
 unfold atE mvE mvQ;dsimp only
 rw [show e.2.2+d.2-(e.1.2+d.2)=e.2.2-e.1.2 by omega,show e.2.1+d.1-(e.1.1+d.1)=e.2.1-e.1.1 by omega,Rat.intCast_add e.1.1,Rat.intCast_add e.1.2,
  show x+(d.1:Rat)-((e.1.1:Rat)+(d.1:Rat))=x-(e.1.1:Rat) by grind]
 grind
theorem zmC (d:Int×Int) {l:List (Int×Int)} (h:l≠[]) (x:Rat):atR (mvL d l) (x+(d.1:Rat))=atR l x+(d.2:Rat):=by
 unfold atR;rw [zoT,List.find?_map,show xLe (x+(d.1:Rat)) ∘ mvE d=xLe x from funext fun e=>zo9 d x e]
 cases (eds l).find? (xLe x)with
 | some e=>exact znZ d x e
 | none =>
  have h0:=List.length_pos_iff.2 h;have hl:(mvL d l).length=l.length:=by unfold mvL;rw [lL]
  show ((((mvL d l).getD ((mvL d l).length-1) (0,0)).2:Int):Rat)=(((l.getD (l.length-1) (0,0)).2:Int):Rat)+(d.2:Rat)
  rw [hl,zgt d l (by omega),←Rat.intCast_add];rfl
def mvS (d:Int×Int) (s:Sp):Sp:=⟨mvL d s.over,mvL d s.under,s.lo+d.1,s.hi+d.1⟩
theorem zoz (d:Int×Int) {a b:List (Int×Int)} (ha:a≠[]) (hb:b≠[]):btw (mvL d a) (mvL d b)=mvS d (btw a b):=by
 unfold btw mvS;rw [(ze3 d ha).1,(ze3 d ha).2,(ze3 d hb).1,(ze3 d hb).2];dsimp only;rw [show max (lineL a+d.1) (lineL b+d.1)=max (lineL a) (lineL b)+d.1 by omega,show min (lineR a+d.1) (lineR b+d.1)=min (lineR a) (lineR b)+d.1 by omega]
theorem znl (d:Int×Int) {s:Sp} (h1:s.over≠[]) (h2:s.under≠[]) (x:Rat):gapR (mvS d s) (x+(d.1:Rat))=gapR s x:=by
 unfold gapR mvS;rw [zmC d h1,zmC d h2]
 grind
theorem zjZ (f:Int→Int) (hf:∀x y,f x=f y→x=y) (l:List Int) {j:Nat} (hj:j<l.length):keeps (l.map f).toArray j=keeps l.toArray j:=by
 unfold keeps;rw [decide_eq_decide]
 have g:∀k,k<l.length→(l.map f).toArray[k]! = f l.toArray[k]!:=fun k hk=>by
  rw [getElem!_pos _ _ (by simpa using hk),getElem!_pos _ _ (by simpa using hk)];simp
 rw [g j hj,g (j-1) (by omega)]
 constructor
 ·rintro (h|h)
  ·exact .inl h
  ·exact .inr fun e=>h (by rw [e])
 ·rintro (h|h)
  ·exact .inl h
  ·exact .inr fun e=>h (hf _ _ e)
theorem zgc (f:Int→Int) (hf:∀x y,f x=f y→x=y) (l:List Int):compact (l.map f)=(compact l).map f:=by
 unfold compact compactUpTo;rw [lL,List.map_map];have e:(List.range l.length).filter (keeps (l.map f).toArray)=(List.range l.length).filter (keeps l.toArray):=List.filter_congr fun j hj=>zjZ f hf l (List.mem_range.1 hj)
 rw [e];refine List.map_congr_left fun k hk=>?_
 have hk:=List.mem_range.1 (List.mem_filter.1 hk).1;rw [Function.comp_apply,getElem!_pos _ _ (by simpa using hk),getElem!_pos _ _ (by simpa using hk)];simp
theorem zjN (d:Int) (l:List Int):isort (l.map (·+d))=(isort l).map (·+d):=by
 unfold isort;rw [List.map_mergeSort];intro a _ b _;simp
theorem zmk (d:Int×Int) (s:Sp):stopsR (mvS d s)=(stopsR s).map (·+(d.1:Rat)):=by
 have e:stopsZ (mvS d s)=(stopsZ s).map (·+d.1):=by
  unfold stopsZ;rw [←zgc _ (fun x y h=>by omega),←zjN]
  congr 2
  have e1:∀l:List (Int×Int),(l.map (mvQ d)).map (·.1)=(l.map (·.1)).map (·+d.1):=fun l=>by
   rw [List.map_map,List.map_map];rfl
  have e2:inP (mvS d s) ∘ (·+d.1)=inP s:=funext fun x=>by
   unfold inP mvS;dsimp only [Function.comp_apply]
   congr 1<;>(rw [decide_eq_decide];omega)
  rw [List.map_cons,List.map_cons]
  show (s.lo+d.1)::(s.hi+d.1)::midP (mvS d s) (s.over.map (mvQ d)++s.under.map (mvQ d))=_
  unfold midP;rw [←List.map_append,e1,List.filter_map,e2]
 unfold stopsR;rw [e,List.map_map,List.map_map];refine List.map_congr_left fun z _=>?_
 dsimp only [Function.comp_apply];rw [Rat.intCast_add]
theorem zi0 (f g:Rat→Rat) (d:Rat) (h:∀x,g (x+d)=f x) (qs:List Rat) (hq:qs≠[]):bestR g (qs.map (·+d))=((bestR f qs).1+d,(bestR f qs).2):=by
 cases qs with
 | nil=>exact absurd rfl hq
 | cons x xs =>
  show (xs.map (·+d)).foldl (bestStep g) (x+d,g (x+d))=_
  rw [h]
  show _=((xs.foldl (bestStep f) (x,f x)).1+d,(xs.foldl (bestStep f) (x,f x)).2)
  have key:∀(xs:List Rat) (u v:Rat),(xs.map (·+d)).foldl (bestStep g) (u+d,v)=((xs.foldl (bestStep f) (u,v)).1+d,(xs.foldl (bestStep f) (u,v)).2):=by
   intro xs
   induction xs with
   | nil=>intro u v;rfl
   | cons y ys ih =>
    intro u v;rw [List.map_cons,List.foldl_cons,List.foldl_cons]
    have e:bestStep g (u+d,v) (y+d)=((bestStep f (u,v) y).1+d,(bestStep f (u,v) y).2):=by
     unfold bestStep;rw [h];dsimp only
     split<;>rfl
    rw [e,ih]
  exact key xs x (f x)
theorem zlO (d:Int×Int) {s:Sp} (h1:s.over≠[]) (h2:s.under≠[]):leastR (mvS d s)=((leastR s).1+(d.1:Rat),(leastR s).2):=by
 unfold leastR;rw [zmk];exact zi0 _ _ _ (znl d h1 h2) _ (zbM s)
theorem zif (d:Int×Int) {s:Sp} (h1:s.over≠[]) (h2:s.under≠[]) (pin:Int):reachNo (mvS d s) pin=reachNo s pin:=by
 unfold reachNo;rw [zlO d h1 h2]
theorem ziR {d:Int×Int} {p:Pl} (h:placedOk p=true) (k:placedOk (mvP d p)=true) {t:List (Int×Int)} (ht:t≠[]) (b pin:Int):(bedO (mvP d p) (mvL d t) b pin).map (·.num)=(bedO p t b pin).map (·.num):=by
 have hn:=(zbe h).2.2.2.1;unfold bedO;rw [zoU h k,zoz d hn ht]
 have e:((mvS d (btw (lowP2 p) t)).lo<(mvS d (btw (lowP2 p) t)).hi) ↔ ((btw (lowP2 p) t).lo<(btw (lowP2 p) t).hi):=by
  unfold mvS;dsimp only;omega
 by_cases q:(btw (lowP2 p) t).lo<(btw (lowP2 p) t).hi
 ·rw [if_pos q,if_pos (e.2 q),Option.map_map,Option.map_map]
  unfold reachP;rw [zif d (s:=btw (lowP2 p) t) hn ht]
  split<;>rfl
 ·rw [if_neg q,if_neg (fun h9=>q (e.1 h9))]
theorem zlb {d:Int×Int} {g:List (Int×Int)} {ps:List Pl} (hg:g≠[]) (h:∀p∈ps,placedOk p=true) (k:∀p∈ps,placedOk (mvP d p)=true) {p:Pl} (hp:p∈ps) (a:Nat) (pin b:Int) :
  (bedAt (mvL d g) (ps.map (mvP d)) a (mvP d p) pin b).map (·.num)=(bedAt g ps a p pin b).map (·.num):=by
 unfold bedAt
 split
 ·rfl
 ·split
  ·exact ziR (h p hp) (k p hp) hg b pin
  ·rw [lP]
   cases hq:ps[b.toNat]? with
   | none=>rfl
   | some q =>
    have hqm:=lM hq;dsimp only [Option.map_some];rw [show meetB (mvP d p) (mvP d q)=meetB p q from rfl,zpi (h q hqm) (k q hqm)]
    split
    ·exact ziR (h p hp) (k p hp) (zbe (h q hqm)).2.2.2.2 b pin
    ·rfl
theorem zlg {d:Int×Int} {g:List (Int×Int)} {ps:List Pl} (hg:g≠[]) (h:∀p∈ps,placedOk p=true) (k:∀p∈ps,placedOk (mvP d p)=true) {p:Pl} (hp:p∈ps) (a:Nat) (pin:Int) (n:Nat) :
  (bedsN (mvL d g) (ps.map (mvP d)) a (mvP d p) pin n).map (·.num)=(bedsN g ps a p pin n).map (·.num):=by
 unfold bedsN;rw [List.map_filterMap,List.map_filterMap];simp only [zlb hg h k hp]
theorem zoy {d:Int×Int} {g:List (Int×Int)} {ps:List Pl} (hg:g≠[]) (h:∀p∈ps,placedOk p=true) (k:∀p∈ps,placedOk (mvP d p)=true) (pin:Int) (i:Nat):(bsP (mvL d g) (ps.map (mvP d)) pin i).map (·.num)=(bsP g ps pin i).map (·.num):=by
 have hl:(ps.map (mvP d)).length=ps.length:=lL ..;unfold bsP;rw [lP,hl]
 cases hp:ps[i]? with
 | none=>rfl
 | some p=>exact zlg hg h k (lM hp) i pin _
theorem zmq {ks:List (JS×Y)} {bs bs':List Be} (h:bs'.map (·.num)=bs.map (·.num)):undQ ks bs' bs'.length=undQ ks bs bs.length:=by
 unfold undQ;rw [List.take_length,List.take_length,h]
theorem zmF {ks:List (JS×Y)} {bf bf':Nat→List Be} (h:∀i,(bf' i).map (·.num)=(bf i).map (·.num)):∀m,fM ks bf' m=fM ks bf m
 | 0=>rfl
 | m+1=>by
  unfold fM;rw [zmF h m,zmq (h _)]
def mvJ (d:Int×Int) (j:JS):JS:=⟨mvP d j.p,j.k,(j.x.1+d.1,j.x.2+d.1),(j.z.1+d.2,j.z.2+d.2)⟩
def mvT (d:Int×Int) (j:Jt):Jt:=⟨j.a,j.b,j.left+d.1,j.right+d.1,j.fr+d.2,j.til+d.2⟩
theorem zmB {f:Int×Int→Int} {c:Int} {d:Int×Int} (hf:∀q,f (mvQ d q)=f q+c) {l:List (Int×Int)} (h:l≠[]):arP f (mvL d l)=((arP f l).1+c,(arP f l).2+c):=by
 cases l with
 | nil=>exact absurd rfl h
 | cons p ps =>
  have key:∀(xs:List (Int×Int)) (u v:Int),(xs.map (mvQ d)).foldl (fun(o:Int×Int) q=>(min o.1 (f q),max o.2 (f q))) (u+c,v+c)=((xs.foldl (fun(o:Int×Int) q=>(min o.1 (f q),max o.2 (f q))) (u,v)).1+c,(xs.foldl (fun(o:Int×Int) q=>(min o.1 (f q),max o.2 (f q))) (u,v)).2+c):=by
   intro xs
   induction xs with
   | nil=>intro u v;rfl
   | cons y ys ih =>
    intro u v;rw [List.map_cons,List.foldl_cons,List.foldl_cons];dsimp only;rw [hf,show min (u+c) (f y+c)=min u (f y)+c by omega,show max (v+c) (f y+c)=max v (f y)+c by omega,ih]
  show (ps.map (mvQ d)).foldl _ (f (mvQ d p),f (mvQ d p))=_
  rw [hf];exact key ps _ _
theorem znv (d:Int×Int) (i:Nat) {p:Pl} (h:placedOk p=true):jsOf i (mvP d p)=mvJ d (jsOf i p):=by
 have hn:cornersP p≠[]:=by
  have:=(zbi h).three;intro e;rw [e]at this;simp at this
 unfold jsOf mvJ;rw [zc9,zmB (c:=d.1) (fun q=>rfl) hn,zmB (c:=d.2) (fun q=>rfl) hn]
theorem zoO (d:Int×Int) {ps:List Pl} (h:∀p∈ps,placedOk p=true):jsP (ps.map (mvP d))=(jsP ps).map (mvJ d):=by
 refine List.ext_getElem? fun i=>?_
 unfold jsP;rw [List.getElem?_mapIdx,lP,lP,List.getElem?_mapIdx]
 cases hp:ps[i]? with
 | none=>rfl
 | some p =>
  dsimp only [Option.map_some];rw [znv d i (h p (lM hp))]
theorem zmg (d:Int×Int) (r:Ru) {ps:List Pl} (h:∀p∈ps,placedOk p=true):skinP r (ps.map (mvP d))=(skinP r ps).map (mvJ d):=by
 unfold skinP;rw [zoO d h,List.filter_map];rfl
theorem zjY (d:Int×Int) (a b:JS):jtOf (mvJ d a) (mvJ d b)=mvT d (jtOf a b):=by
 unfold jtOf mvJ mvT;dsimp only;rw [show max (a.z.1+d.2) (b.z.1+d.2)=max a.z.1 b.z.1+d.2 by omega,show min (a.z.2+d.2) (b.z.2+d.2)=min a.z.2 b.z.2+d.2 by omega]
theorem zlG (d:Int×Int) (j:Jt) (x:JS):fillB (mvT d j) (mvJ d x)=fillB j x:=by
 unfold fillB mvJ mvT;dsimp only
 congr 2
 congr 1<;>(rw [decide_eq_decide];omega)
theorem zhR (d:Int×Int) (sk:List JS) (j:Jt):filledB (sk.map (mvJ d)) (mvT d j)=filledB sk j:=by
 unfold filledB;rw [List.any_map]
 congr 1
 funext x
 exact zlG d j x
theorem zl0 (d:Int×Int) (r:Ru) (sk:List JS) (a b:JS):openB r (sk.map (mvJ d)) (mvJ d a) (mvJ d b)=openB r sk a b:=by
 unfold openB;rw [zjY,zhR];unfold mvT mvJ;dsimp only
 rw [show decide ((jtOf a b).left+d.1≤(jtOf a b).right+d.1)=decide ((jtOf a b).left≤(jtOf a b).right) by rw [decide_eq_decide];omega,
  show decide ((jtOf a b).right+d.1-((jtOf a b).left+d.1)≤r.wide)=decide ((jtOf a b).right-(jtOf a b).left≤r.wide) by rw [decide_eq_decide];omega,
  show decide ((jtOf a b).fr+d.2<(jtOf a b).til+d.2)=decide ((jtOf a b).fr<(jtOf a b).til) by rw [decide_eq_decide];omega]
theorem znJ (d:Int×Int) (r:Ru) (sk:List JS) (a:JS):rowP r (sk.map (mvJ d)) (mvJ d a)=(rowP r sk a).map (mvT d):=by
 unfold rowP;rw [List.filter_map,List.map_map,List.map_map,show openB r (sk.map (mvJ d)) (mvJ d a) ∘ mvJ d=openB r sk a from funext fun b=>zl0 d r sk a b];exact List.map_congr_left fun b _=>zjY d a b
theorem znE (d:Int×Int) (r:Ru) (sk:List JS):rawP r (sk.map (mvJ d))=(rawP r sk).map (mvT d):=by
 unfold rawP;rw [List.flatMap_map,List.map_flatMap]
 congr 1
 funext a
 exact znJ d r sk a
theorem zoC (d:Int×Int) (x y:Jt):cfT (mvT d x) (mvT d y)=cfT x y:=by
 unfold cfT mvT;dsimp only;rw [show x.fr+d.2-(y.fr+d.2)=x.fr-y.fr by omega,show x.left+d.1-(y.left+d.1)=x.left-y.left by omega]
theorem L_mv {d:Int×Int} {r:Ru} {ps:List Pl} {ks ks':List (JS×Y)} {L L':List Jt} {rs rs':List Int} (hok:∀p∈ps,placedOk p=true) (h:SvP r ps ks L rs) (h':SvP r (ps.map (mvP d)) ks' L' rs'):L'=L.map (mvT d)∧ks'.map Prod.fst=(ks.map Prod.fst).map (mvJ d):=by
 have e1:=zmg d r hok;have e2:rawP r (skinP r (ps.map (mvP d)))=(rawP r (skinP r ps)).map (mvT d):=by rw [e1,znE]
 have hp:L'.Perm (L.map (mvT d)):=(h'.perm.trans (by rw [e2])).trans (h.perm.symm.map _);refine⟨List.Perm.eq_of_pairwise (le:=fun a b=>¬cfT b a<0) (fun a b ha hb q1 q2=>?_) h'.ord (List.pairwise_map.2 (h.ord.imp fun q=>by rw [zoC];exact q)) hp,by rw [h.skin,h'.skin,e1]⟩;exact znF (h'.perm.mem_iff.1 ha) (h'.perm.mem_iff.1 (hp.mem_iff.2 hb)) q1 q2
theorem znk (d:Int×Int) (r:Ru) (L:List Jt) (k i:Nat):folB r (L.map (mvT d)) k i=folB r L k i:=by
 unfold folB;rw [lP,lP]
 cases L[i]? with
 | none=>rfl
 | some a =>
  cases L[k]? with
  | none=>rfl
  | some b =>
   dsimp only [Option.map_some];unfold followsB mvT nearB;dsimp only
   rw [show decide (a.fr+d.2<b.fr+d.2)=decide (a.fr<b.fr) by rw [decide_eq_decide];omega,
    show b.fr+d.2-(a.til+d.2)=b.fr-a.til by omega,show a.til+d.2-(b.fr+d.2)=a.til-b.fr by omega,
    show b.left+d.1-(a.right+d.1)=b.left-a.right by omega,show a.left+d.1-(b.right+d.1)=a.left-b.right by omega]
theorem zm5 (d:Int×Int) (r:Ru) (L:List Jt) (k:Nat):befL r (L.map (mvT d)) k=befL r L k:=by
 unfold befL;rw [show folB r (L.map (mvT d)) k=folB r L k from funext fun i=>znk d r L k i]
theorem zg5 (c:Int) (rs:List Int) {i:Nat} (h:i<rs.length):(rs.map (·+c)).getD i 0=rs.getD i 0+c:=by
 rw [gD,gD,lP,gE h];rfl
theorem zcM (c:Int) (f g:Nat→Int):∀(l:List Nat) (o:Int),(∀i∈l,g i=f i+c)→l.foldl (fun o i=>min o (g i)) (o+c)=l.foldl (fun o i=>min o (f i)) o+c
 | [],_,_=>rfl
 | i::l,o,h=>by
  rw [List.foldl_cons,List.foldl_cons,h i (by simp),show min (o+c) (f i+c)=min o (f i)+c by omega];exact zcM c f g l _ (fun j hj=>h j (mC _ hj))
theorem zfP (d:Int×Int) (r:Ru) (L:List Jt):∀k,k≤L.length→rootsP r (L.map (mvT d)) k=(rootsP r L k).map (·+d.2)
 | 0,_=>rfl
 | k+1,h=>by
  have hk:k<L.length:=by omega
  unfold rootsP;rw [zfP d r L k (by omega),lP,gE hk,List.map_append]
  congr 1
  dsimp only [Option.map_some,List.map_cons,List.map_nil]
  congr 1
  unfold rootP;rw [zm5];refine zcM d.2 _ _ _ _ fun i hi=>zg5 _ _ ?_
  unfold befL at hi;have:=List.mem_range.1 (List.mem_filter.1 hi).1;rw [zaT];exact this
theorem zoK {d:Int×Int} {L:List Jt} {rs:List Int} {k:Nat} (hl:rs.length=L.length) (hk:k<L.length):hgt (L.map (mvT d)) (rs.map (·+d.2)) k=hgt L rs k:=by
 unfold hgt;rw [lP,gE hk,zg5 _ _ (by omega)]
 show L[k].til+d.2-(rs.getD k 0+d.2)=L[k].til-rs.getD k 0
 omega
theorem zkG {d:Int×Int} {L:List Jt} {rs:List Int} (run:Int) (hl:rs.length=L.length):∀k,k≤L.length→runP (L.map (mvT d)) (rs.map (·+d.2)) run k=runP L rs run k
 | 0,_=>rfl
 | k+1,h=>by
  unfold runP;rw [zkG run hl k (by omega),zoK hl (by omega)]
theorem zft {d:Int×Int} {ks ks':List (JS×Y)} (hk:ks'.map Prod.fst=(ks.map Prod.fst).map (mvJ d)) (i:Nat):(ks'[i]?=I∧ks[i]?=I)∨∃x y,ks'[i]?=Z y∧ks[i]?=Z x∧y.1=mvJ d x.1:=by
 have h:(ks'[i]?).map Prod.fst=((ks[i]?).map Prod.fst).map (mvJ d):=by rw [←lP,←lP,←lP,hk]
 cases h1:ks'[i]? with
 | none =>
  cases h2:ks[i]? with
  | none=>exact .inl ⟨rfl,rfl⟩
  | some x=>rw [h1,h2]at h;cases h
 | some y =>
  cases h2:ks[i]? with
  | none=>rw [h1,h2]at h;cases h
  | some x =>
   rw [h1,h2]at h;exact .inr ⟨x,y,rfl,rfl,by simpa using h⟩
theorem zo0 (d:Int×Int) (r:Ru) (k:Nat) (j:Jt) (x:JS):shJ r k (mvT d j) (mvJ d x)=shJ r k j x:=by
 have e1:skipJ r (mvT d j) (mvJ d x)=skipJ r j x:=by
  unfold skipJ mvT mvJ nearB;dsimp only
  rw [show decide (x.z.1+d.2≤j.fr+d.2)=decide (x.z.1≤j.fr) by rw [decide_eq_decide];omega,
   show x.z.1+d.2-(j.til+d.2)=x.z.1-j.til by omega,show j.til+d.2-(x.z.1+d.2)=j.til-x.z.1 by omega,
   show decide (j.right+d.1<x.x.1+d.1)=decide (j.right<x.x.1) by rw [decide_eq_decide];omega,
   show decide (x.x.2+d.1<j.left+d.1)=decide (x.x.2<j.left) by rw [decide_eq_decide];omega]
 have e2:lapJ (mvT d j) (mvJ d x)=lapJ j x:=by
  unfold lapJ mvT mvJ;dsimp only;rw [show j.left+d.1-(x.x.1+d.1)=j.left-x.x.1 by omega,show x.x.2+d.1-(j.right+d.1)=x.x.2-j.right by omega]
 unfold shJ;rw [e1,e2];rfl
section
variable {d:Int×Int} {ks ks':List (JS×Y)} (hk:ks'.map Prod.fst=(ks.map Prod.fst).map (mvJ d))
include hk
theorem zhn (r:Ru) (k:Nat) (j:Jt):∀i,shRow r k (mvT d j) ks' i=shRow r k j ks i
 | 0=>rfl
 | i+1=>by
  unfold shRow;rw [zhn r k j i]
  rcases zft hk i with ⟨h1,h2⟩|⟨x,y,h1,h2,h3⟩
  ·rw [h1,h2]
  ·rw [h1,h2]
   dsimp only;rw [h3,zo0]
theorem zmQ (r:Ru) (L:List Jt):∀i,shP r ks' (L.map (mvT d)) i=shP r ks L i
 | 0=>rfl
 | i+1=>by
  have hl:ks'.length=ks.length:=by have:=congrArg List.length hk;simpa using this
  unfold shP;rw [zmQ r L i,lP,hl]
  cases L[i]? with
  | none=>rfl
  | some j =>
   dsimp only [Option.map_some];rw [zhn hk]
theorem zmR:∀i,trP ks' i=trP ks i
 | 0=>rfl
 | i+1=>by
  unfold trP;rw [zmR i]
  rcases zft hk i with ⟨h1,h2⟩|⟨x,y,h1,h2,h3⟩
  ·rw [h1,h2]
  ·rw [h1,h2]
   dsimp only
   have e:moreJ y.1=moreJ x.1:=by
    rw [h3];unfold moreJ mvJ mvP;dsimp only;omega
   unfold trJ;rw [e,h3];rfl
theorem zgs (o:List Int):∀i c,levP o ks' i c=(levP o ks i c).map (·+d.2)
 | 0,_=>rfl
 | i+1,c=>by
  unfold levP
  rcases zft hk i with ⟨h1,h2⟩|⟨x,y,h1,h2,h3⟩
  ·rw [h1,h2]
   exact zgs o i c
  ·rw [h1,h2]
   dsimp only;rw [h3,show crJ o (mvJ d x.1)=crJ o x.1 from rfl,zgs o i c]
   split
   ·unfold hiJ
    cases levP o ks i c with
    | none=>rfl
    | some v =>
     show (if v+d.2<x.1.z.2+d.2 then Z (x.1.z.2+d.2)else Z (v+d.2))=(if v<x.1.z.2 then Z x.1.z.2 else Z v).map (·+d.2)
     by_cases q:v<x.1.z.2
     ·rw [if_pos q,if_pos (by omega)];rfl
     ·rw [if_neg q,if_neg (by omega)];rfl
   ·rfl
theorem zmT {o:List Int} {lev lev':Nat→Option Int} (level:Int) (hv:∀c,lev' c=(lev c).map (·+d.2)):∀i,(∀j x,j<i→ks[j]?=Z x→∃v,lev (crJ o x.1)=Z v)→unP o lev' level ks' i=unP o lev level ks i
 | 0,_=>rfl
 | i+1,h=>by
  unfold unP;rw [zmT level hv i (fun j x hj=>h j x (by omega))]
  rcases zft hk i with ⟨h1,h2⟩|⟨x,y,h1,h2,h3⟩
  ·rw [h1,h2]
  ·rw [h1,h2]
   dsimp only;obtain⟨v,hv2⟩:=h i x (by omega) h2
   have e:(lev' (crJ o y.1)).getD 0-y.1.z.2=(lev (crJ o x.1)).getD 0-x.1.z.2:=by
    rw [h3,show crJ o (mvJ d x.1)=crJ o x.1 from rfl,hv,hv2];dsimp only [Option.map_some,Option.getD_some,mvJ];omega
   unfold unJ;rw [e,h3];rfl
theorem znw:keysJ ks'=keysJ ks:=by
 unfold keysJ;have h:∀l:List (JS×Y),l.map keyJ=(l.map Prod.fst).map fun j:JS=>j.k.toNat:=fun l=>by rw [List.map_map];rfl
 rw [h,h,hk,List.map_map];rfl
theorem znS (bs:List Be) (q:Nat):undQ ks' bs q=undQ ks bs q:=by
 unfold undQ
 congr 1
 funext z
 unfold undOk;have h:∀l:List (JS×Y),(l.any fun x=>x.1.k==z)=(l.map Prod.fst).any fun j:JS=>j.k==z:=fun l=>by rw [List.any_map];rfl
 rw [h,h,hk,List.any_map];rfl
theorem zoI (bsf:Nat→List Be):∀m,fM ks' bsf m=fM ks bsf m
 | 0=>rfl
 | m+1=>by
  have e:keyAt ks' m=keyAt ks m:=by
   unfold keyAt
   rcases zft hk m with ⟨h1,h2⟩|⟨x,y,h1,h2,h3⟩
   ·rw [h1,h2]
   ·rw [h1,h2]
    dsimp only;rw [h3];rfl
  unfold fM;rw [zoI bsf m,e,znS hk]
end
theorem zfC {o:List Int} {ks:List (JS×Y)}:∀(i j:Nat) (x:JS×Y),j<i→ks[j]?=Z x→∃v,levP o ks i (crJ o x.1)=Z v
 | 0,j,x,h,_=>absurd h (by omega)
 | i+1,j,x,h,hx=>by
  unfold levP
  by_cases q:j=i
  ·subst q
   rw [hx];dsimp only;rw [if_pos rfl];unfold hiJ
   split
   ·split<;>exact⟨_,rfl⟩
   ·exact⟨_,rfl⟩
  ·obtain⟨v,hv⟩:=zfC (o:=o) i j x (by omega) hx
   cases ks[i]? with
   | none=>exact⟨v,hv⟩
   | some y =>
    dsimp only
    split
    ·rw [hv]
     unfold hiJ;dsimp only
     split<;>exact⟨_,rfl⟩
    ·exact⟨v,hv⟩
theorem zoJ {d:Int×Int} {g:List (Int×Int)} {ps:List Pl} {r:Ru} {l m:List Fd} (h0:laidP g ps=0) (h1:laidP (mvL d g) (ps.map (mvP d))=0) (hl:FdsOf g ps r l) (hm:FdsOf (mvL d g) (ps.map (mvP d)) r m):m=l:=by
 obtain⟨ks,L,rs,o,sv,co,rfl⟩:=hl;obtain⟨ks',L',rs',o',sv',co',rfl⟩:=hm;have hok:=(zal h0).1;have hok':∀p∈ps,placedOk (mvP d p)=true:=fun p hp=>(zal h1).1 _ (List.mem_map_of_mem hp)
 have hg:g≠[]:=by
  have:=(zal h0).2.2;intro e;rw [e]at this;exact absurd this (by decide)
 obtain⟨rfl,hk⟩:=L_mv hok sv sv';have hn:ks'.length=ks.length:=by have:=congrArg List.length hk;simpa using this
 rw [hn,zoI hk,zmF (fun i=>zoy hg hok hok' r.pin i),znw hk,lL]at co';obtain⟨rk,hrk⟩:=zbX h0 sv.skin r.pin;obtain rfl:=zoD co' co rk hrk
 rw [hn,sv'.roots,sv.roots,lL,zfP d r L _ (nE _),zkG r.run (zaT r L _) _ (nE _),zmQ hk,zmR hk,
  zmT hk r.level (zgs hk o' ks.length) ks.length (fun j x hj hx=>zfC _ j x hj hx)]
end
section
open Go.RowKit Go.Shelf Go.Sort Go.Lib
section
variable {P:Program} {ops:Array Oper} {Q:Exit→M→O→Prop} {md:Region.Mode} {S:O→Prop} {late:Nat→Bool}
theorem callHU3 {i j k:Nat} {oi oj ok:Oper} {fuel:Nat} {listed:Array Bool} {a:M} {w:O}
  (h1:∀K':M→O→Prop,Shut (∀a w,(late i=false→S w)→((late i=false→S w)→HUc P md ops Q S late fuel (listed.setIfInBounds i true) a w)→K' a w)→if Region.wanted oi (yielded ops a.tmps)=true then Oper.wp P oi a w K' Q else K' (a.put oi.dst undef) w)
  (h2:∀K':M→O→Prop,Shut (∀a w,(late j=false→S w)→((late j=false→S w)→HUc P md ops Q S late fuel (listed.setIfInBounds j true) a w)→K' a w)→if Region.wanted oj (yielded ops a.tmps)=true then Oper.wp P oj a w K' Q else K' (a.put oj.dst undef) w)
  (h3:∀K':M→O→Prop,Shut (∀a w,(late k=false→S w)→((late k=false→S w)→HUc P md ops Q S late fuel (listed.setIfInBounds k true) a w)→K' a w)→if Region.wanted ok (yielded ops a.tmps)=true then Oper.wp P ok a w K' Q else K' (a.put ok.dst undef) w)
  (hi:ops[i]?=Z oi:=by(simp only [gA,gS,gZ];rfl)) (hj:ops[j]?=Z oj:=by(simp only [gA,gS,gZ];rfl)) (hk:ops[k]?=Z ok:=by(simp only [gA,gS,gZ];rfl)) (hr:Region.ready md ops listed=[i,j,k]:=by kernel_rfl) :
  HUc P md ops Q S late (fuel+1) listed a w:=by
 intro hc;refine⟨fun h0=>absurd (hr▸h0) (by simp),fun m hm=>?_⟩;have hm':=hm;rw [hr]at hm
 rcases List.mem_cons.1 hm with rfl|hm2
 ·exact wpOp_step hi (fun K' hK=>h1 K' (fun a w hS hW=>hK a w ⟨hS,hW hS (hc.step hm')⟩))
 ·rcases List.mem_cons.1 hm2 with rfl|hm3
  ·exact wpOp_step hj (fun K' hK=>h2 K' (fun a w hS hW=>hK a w ⟨hS,hW hS (hc.step hm')⟩))
  ·cases List.mem_singleton.1 hm3
   exact wpOp_step hk (fun K' hK=>h3 K' (fun a w hS hW=>hK a w ⟨hS,hW hS (hc.step hm')⟩))
end
theorem CellL.undrew:∀{L:List (Addr×Y)} {W:O},CellL L W.drew→CellL L W
 | [],_,_=>trivial
 | (_,_)::_,_,⟨h1,h2⟩=>⟨h1,h2.undrew⟩
theorem Ext.set2 {a W:O} {b:Nat} (h:Ext a W) (hb:a.heap.size≤b) (u v:Y):Ext a ((W.setCell ⟨b,0,I⟩ u).setCell ⟨b,1,I⟩ v):=(h.set (by exact hb) u).set (by exact hb) v
def WRm (w:O) (g:List (Int×Int)) (ps:List Pl) (b5 b6 base:Nat) (vg vp:Y) (c5 c6:Array Y) (W:O):Prop:=
 W.heap[b5]?=Z (.cells c5 33 (0,0))∧W.heap[b6]?=Z (.cells c6 35 (0,0))∧IsPts W vg g∧OwnPl W base vp ps∧Ext w W
theorem OwnPl.setOther {w:O} {base:Nat} {v:Y} {ps:List Pl} (h:OwnPl w base v ps) {b i:Nat} {c:Array Y} {T:TypeId} {fr:Nat×Nat} (hk:w.heap[b]?=Z (.cells c T fr)) (h1:T≠46) (h2:T≠42) (u:Y):OwnPl (w.setCell ⟨b,i,I⟩ u) base v ps:=by
 obtain⟨cs,hown,hcl,hcp⟩:=h;have f:v.ownBlock≠Z b:=fun e=>hown.ne_blkD hk h1 e
 have k:KeepT 42 w (w.setCell ⟨b,i,I⟩ u):=(KeepT.refl _ w).set (p:=⟨b,i,I⟩) hk h2 u;exact⟨cs,hown.setOther (p:=⟨b,i,I⟩) f u,hcl,fun j c p hc hq=>(hcp j c p hc hq).keep k⟩
theorem WRm.put5 {w W:O} {g:List (Int×Int)} {ps:List Pl} {b5 b6 base:Nat} {vg vp:Y} {c5 c6:Array Y} (h:WRm w g ps b5 b6 base vg vp c5 c6 W) (hne:b5≠b6) (hb:w.heap.size≤b5) (i:Nat) (u:Y) {c:Array Y} (hc:c5.setIfInBounds i u=c) :
  WRm w g ps b5 b6 base vg vp c c6 (W.setCell ⟨b5,i,I⟩ u):=by
 obtain⟨k5,k6,hg,hp,hx⟩:=h;subst hc;have ko:(W.setCell ⟨b5,i,I⟩ u).heap[b6]?=W.heap[b6]?:=bS _ _ _ _ (by dsimp only;omega);exact⟨zah k5 i u,ko.trans k6,hg.keep' ((KeepT.refl _ W).set (p:=⟨b5,i,I⟩) k5 (by decide) u),hp.setOther k5 (by decide) (by decide) u,hx.set (by exact hb) u⟩
theorem WRm.put6 {w W:O} {g:List (Int×Int)} {ps:List Pl} {b5 b6 base:Nat} {vg vp:Y} {c5 c6:Array Y} (h:WRm w g ps b5 b6 base vg vp c5 c6 W) (hne:b5≠b6) (hb:w.heap.size≤b6) (i:Nat) (u:Y) {c:Array Y} (hc:c6.setIfInBounds i u=c) :
  WRm w g ps b5 b6 base vg vp c5 c (W.setCell ⟨b6,i,I⟩ u):=by
 obtain⟨k5,k6,hg,hp,hx⟩:=h;subst hc;have ko:(W.setCell ⟨b6,i,I⟩ u).heap[b5]?=W.heap[b5]?:=bS _ _ _ _ (by dsimp only;omega);exact⟨ko.trans k5,zah k6 i u,hg.keep' ((KeepT.refl _ W).set (p:=⟨b6,i,I⟩) k6 (by decide) u),hp.setOther k6 (by decide) (by decide) u,hx.set (by exact hb) u⟩
end
section
open Go.RowKit Go.Shelf Go.Sort Go.Lib
theorem OwnPlA.keep {w w':O} {base L:Nat} {v:Y} {ps:List Pl} (h:OwnPlA w base L v ps) (k1:KeepT 46 w w') (k2:KeepT 42 w w'):OwnPlA w' base L v ps:=by
 obtain⟨cs,h1,h2,h3,h4⟩:=h;exact⟨cs,h1.keep k1,h2,fun i c p hc hp=>(h3 i c p hc hp).keep k2,h4⟩
theorem OwnPlA.ext {w w':O} {base L:Nat} {v:Y} {ps:List Pl} (h:OwnPlA w base L v ps) (k:Ext w w'):OwnPlA w' base L v ps:=h.keep k.keep k.keep
def WRv (w:O) (g:List (Int×Int)) (ps:List Pl) (r:Ru) (t5 t6:Y) (W:O):Prop:=
 ∃b5 b6 vg vp L,t5 = .pointer (Z ⟨b5,0,I⟩)∧t6 = .pointer (Z ⟨b6,0,I⟩)∧b5≠b6∧w.heap.size≤b5∧w.heap.size≤b6∧W.heap[b5]?=Z (.cells #[vg,vp] 33 (0,0))∧W.heap[b6]?=Z (.cells (ruc r) 35 (0,0)) ∧
  OwnC 42 2 W w.heap.size vg (g.map pc)∧(∀j,vg.ownBlock=Z j→j<L)∧OwnPlA W w.heap.size L vp ps∧Ext w W
def WRn (w V:O) (b5 b6:Nat) (c5 c6:Array Y) (W:O):Prop:=
 W.heap[b5]?=Z (.cells c5 33 (0,0))∧W.heap[b6]?=Z (.cells c6 35 (0,0))∧KeepT 42 V W∧KeepT 46 V W∧Ext w W
theorem WRn.put5 {w V W:O} {b5 b6:Nat} {c5 c6:Array Y} (h:WRn w V b5 b6 c5 c6 W) (hne:b5≠b6) (hb:w.heap.size≤b5) (i:Nat) (u:Y) {c:Array Y} (hc:c5.setIfInBounds i u=c) :
  WRn w V b5 b6 c c6 (W.setCell ⟨b5,i,I⟩ u):=by
 obtain⟨k5,k6,hg,hp,hx⟩:=h;subst hc;have ko:(W.setCell ⟨b5,i,I⟩ u).heap[b6]?=W.heap[b6]?:=bS _ _ _ _ (by dsimp only;omega);exact⟨zah k5 i u,ko.trans k6,hg.set (p:=⟨b5,i,I⟩) k5 (by decide) u,hp.set (p:=⟨b5,i,I⟩) k5 (by decide) u,hx.set (by exact hb) u⟩
theorem WRn.put6 {w V W:O} {b5 b6:Nat} {c5 c6:Array Y} (h:WRn w V b5 b6 c5 c6 W) (hne:b5≠b6) (hb:w.heap.size≤b6) (i:Nat) (u:Y) {c:Array Y} (hc:c6.setIfInBounds i u=c) :
  WRn w V b5 b6 c5 c (W.setCell ⟨b6,i,I⟩ u):=by
 obtain⟨k5,k6,hg,hp,hx⟩:=h;subst hc;have ko:(W.setCell ⟨b6,i,I⟩ u).heap[b5]?=W.heap[b5]?:=bS _ _ _ _ (by dsimp only;omega);exact⟨ko.trans k5,zah k6 i u,hg.set (p:=⟨b6,i,I⟩) k6 (by decide) u,hp.set (p:=⟨b6,i,I⟩) k6 (by decide) u,hx.set (by exact hb) u⟩
theorem zdd {w W:O} {b5 b6 base L:Nat} {vg vp u v x0 x1 x2 x3 x4 x5 x6:Y} {g:List (Int×Int)} {ps:List Pl} {r:Ru} (hne:b5≠b6) (h5:w.heap.size≤b5) (h6:w.heap.size≤b6) (k5:W.heap[b5]?=Z (.cells #[u,v] 33 (0,0)))
  (k6:W.heap[b6]?=Z (.cells #[x0,x1,x2,x3,x4,x5,x6] 35 (0,0))) (hg:OwnC 42 2 W base vg (g.map pc)) (hL:∀j,vg.ownBlock=Z j→j<L) (hp:OwnPlA W base L vp ps) (hb:w.heap.size≤base) (hx:Ext w W) {W1:O}
  (hW:((((((((W.setCell ⟨b5,0,I⟩ vg).setCell ⟨b5,1,I⟩ vp).setCell ⟨b6,0,I⟩ (X .u8 r.skin)).setCell ⟨b6,1,I⟩ (X J r.pin)).setCell ⟨b6,2,I⟩ (X J r.wide)).setCell ⟨b6,3,I⟩ (X J r.lap)).setCell ⟨b6,4,I⟩ (X J r.step)).setCell ⟨b6,5,I⟩ (X J r.run)).setCell ⟨b6,6,I⟩ (X J r.level)=W1) :
  WRv w g ps r (.pointer (Z ⟨b5,0,I⟩)) (.pointer (Z ⟨b6,0,I⟩)) W1:=by
 have h0:WRn w W b5 b6 #[u,v] #[x0,x1,x2,x3,x4,x5,x6] W:=⟨k5,k6,KeepT.refl _ _,KeepT.refl _ _,hx⟩;have h9:=(((((((((h0.put5 hne h5 0 vg (c:=#[vg,v]) rfl).put5 hne h5 1 vp (c:=#[vg,vp]) rfl).put6 hne h6 0 (X .u8 r.skin) (c:=#[X .u8 r.skin,x1,x2,x3,x4,x5,x6]) rfl).put6 hne h6 1 (X J r.pin) (c:=#[X .u8 r.skin,X J r.pin,x2,x3,x4,x5,x6]) rfl).put6 hne h6 2 (X J r.wide) (c:=#[X .u8 r.skin,X J r.pin,X J r.wide,x3,x4,x5,x6]) rfl).put6 hne h6 3 (X J r.lap) (c:=#[X .u8 r.skin,X J r.pin,X J r.wide,X J r.lap,x4,x5,x6]) rfl).put6 hne h6 4 (X J r.step) (c:=#[X .u8 r.skin,X J r.pin,X J r.wide,X J r.lap,X J r.step,x5,x6]) rfl).put6 hne h6 5 (X J r.run) (c:=#[X .u8 r.skin,X J r.pin,X J r.wide,X J r.lap,X J r.step,X J r.run,x6]) rfl).put6 hne h6 6 (X J r.level) (c:=ruc r) rfl);rw [hW]at h9;obtain⟨q5,q6,q1,q2,qx⟩:=h9;have hown:=hp.keep q2 q1;obtain⟨cs,h1,h2,h3,h4⟩:=hown;exact⟨b5,b6,vg,vp,L,rfl,rfl,hne,h5,h6,q5,q6,(hg.keep q1).mono hb,hL,⟨cs,h1.mono hb,h2,h3,h4⟩,qx⟩
end
section
open Go.RowKit Go.Shelf
def waitsB (md:Region.Mode) (ops:Array Oper) (pv i:Nat):Bool:=match ops[pv]? with|some o=>o.after.toList.any (fun e=>Region.binds md e&&e.on==i)|none=>false
section
variable {P:Program} {ops:Array Oper} {Q:Exit→M→O→Prop} {md:Region.Mode} {A B:O→Prop} {pv:Nat}
def HV (P:Program) (md:Region.Mode) (ops:Array Oper) (Q:Exit→M→O→Prop) (A B:O→Prop) (pv:Nat):Nat→Array Bool→M→O→Prop
 | 0,listed,a,w=>Region.ready md ops listed=[]∧Q .normal a w
 | fuel+1,listed,a,w =>
  (Region.ready md ops listed=[]→Q .normal a w) ∧
  ∀i∈Region.ready md ops listed,wpOp P ops Q i (fun a' w'=>(A w'∧((listed.setIfInBounds i true).getD pv false=false→B w'))∧HV P md ops Q A B pv fuel (listed.setIfInBounds i true) a' w') a w
theorem zel:∀(fuel:Nat) (listed:Array Bool) (a:M) (w:O),HV P md ops Q A B pv fuel listed a w→wpAny P md ops Q fuel listed a w
 | 0,_,_,_,h=>h
 | fuel+1,_,_,_,h=>⟨h.1,fun i hi=>wpOp_mono (fun a' w' h'=>zel fuel _ a' w' h'.2) (h.2 i hi)⟩
theorem zkh {listed:Array Bool} {i:Nat} (hc:Cl md ops listed) (hw:waitsB md ops pv i=true) (hi:listed.getD i true=false):listed.getD pv false=false:=by
 cases h:listed.getD pv false with
 | false=>rfl
 | true =>
  unfold waitsB at hw
  cases ho:ops[pv]? with
  | none=>rw [ho]at hw;cases hw
  | some o =>
   rw [ho]at hw;obtain⟨e,he,hb⟩:=List.any_eq_true.1 hw;rw [Bool.and_eq_true,beq_iff_eq]at hb;have h1:=hc pv o ho h e (by simpa using he) hb.1;rw [hb.2]at h1
   rcases Nat.lt_or_ge i listed.size with h' | h'
   ·simp [h']at hi h1;rw [hi]at h1;cases h1
   ·simp [Array.getElem?_eq_none h']at hi
theorem zk5 {i:Nat} {oi:Oper} {v:Y} {early:Bool} (hip:i≠pv) (he:early=true→waitsB md ops pv i=true) (hi:ops[i]?=Z oi) (hsel:∀(j:Nat) (o:Oper) cs b,ops[j]?=Z o→o.op ≠ .select cs b)
  (hQ:∀c a w,Q (.panic c) (a.put oi.dst v) w→Q (.panic c) a w) :
  ∀(fuel:Nat) (listed:Array Bool) (a:M) (w:O),Cl md ops listed →
   (∀j oj,ops[j]?=Z oj→j≠i→listed.getD j true=false→(∀e∈oj.after,Region.binds md e=true→e.on≠i)→oi.apart ops oj=true) →
   i∈Region.ready md ops listed→YieldsIf P ops (fun w=>A w∧(early=true→B w)) oi v a→(A w∧(listed.getD pv false=false→B w)) →
   HV P md ops Q A B pv fuel (listed.setIfInBounds i true) (a.put oi.dst v) w→HV P md ops Q A B pv (fuel+1) listed a w:=by
 have hset:∀l:Array Bool,(l.setIfInBounds i true).getD pv false=l.getD pv false:=fun l=>getD_set_ne false hip
 intro fuel
 induction fuel with
 | zero =>
  intro listed a w hc _ hr hy hS H;have hS':A w∧(early=true→B w):=⟨hS.1,fun h=>hS.2 (zkh hc (he h) (mem_ready.1 hr).1)⟩;refine⟨fun h=>(by rw [h]at hr;cases hr),fun j hj=>?_⟩
  by_cases hji:j=i
  ·subst hji;exact hy.wpOp hi hS' ⟨⟨hS.1,fun h=>hS.2 (by rw [hset]at h;exact h)⟩,H⟩
  ·have:=ready_mono hj hji
   rw [H.1]at this
   cases this
 | succ fuel ih =>
  intro listed a w hc hfree hr hy hS H;have hS':A w∧(early=true→B w):=⟨hS.1,fun h=>hS.2 (zkh hc (he h) (mem_ready.1 hr).1)⟩;refine⟨fun h=>(by rw [h]at hr;cases hr),fun j hj=>?_⟩
  by_cases hji:j=i
  ·subst hji;exact hy.wpOp hi hS' ⟨⟨hS.1,fun h=>hS.2 (by rw [hset]at h;exact h)⟩,H⟩
  ·have h1:=H.2 j (ready_mono hj hji)
   obtain⟨hjun,oj,hoj,hall⟩:=mem_ready.1 hj
   have hnot:∀e∈oj.after,Region.binds md e=true→e.on≠i:=fun e he hb heq=>by
    have h1:=hall e he hb;have h0:=(mem_ready.1 hr).1;rw [heq]at h1
    rcases Nat.lt_or_ge i listed.size with h' | h'
    ·simp [h']at h0 h1;rw [h0]at h1;cases h1
    ·simp [Array.getElem?_eq_none h']at h1
   have h2:=wpOp_putIf hoj (hfree j oj hoj hji hjun hnot) (fun cs b=>hsel i oi cs b hi) (fun cs b=>hsel j oj cs b hoj) hQ hy h1
   have hfree':∀k ok,ops[k]?=Z ok→k≠i→(listed.setIfInBounds j true).getD k true=false →
     (∀e∈ok.after,Region.binds md e=true→e.on≠i)→oi.apart ops ok=true:=fun k ok hk hki hun hno=>by
    refine hfree k ok hk hki ?_ hno
    by_cases hjk:j=k
    ·subst hjk;exact hjun
    ·rw [getD_set_ne true hjk]at hun;exact hun
   refine wpOp_mono (fun a' w' h3=>?_) h2;obtain⟨hy',⟨hA',hB'⟩,hH⟩:=h3;rw [Array.setIfInBounds_comm _ _ (Ne.symm hji),hset]at hB';refine⟨⟨hA',hB'⟩,ih (listed.setIfInBounds j true) a' w' (hc.step hj) hfree' (ready_mono hr (Ne.symm hji)) hy' ⟨hA',hB'⟩ ?_⟩;rw [Array.setIfInBounds_comm _ _ hji];exact hH
def HVc (P:Program) (md:Region.Mode) (ops:Array Oper) (Q:Exit→M→O→Prop) (A B:O→Prop) (pv:Nat) (fuel:Nat) (listed:Array Bool) (a:M) (w:O):Prop:=Cl md ops listed→HV P md ops Q A B pv fuel listed a w
theorem doneHV {listed:Array Bool} {a:M} {w:O} (hr:Region.ready md ops listed=[]) (h:Q .normal a w):∀fuel,HVc P md ops Q A B pv fuel listed a w
 | 0=>fun _=>⟨hr,h⟩
 | _+1=>fun _=>⟨fun _=>h,by rw [hr];simp⟩
theorem tv1 {v:Y} {i:Nat} {oi:Oper} {fuel:Nat} {listed:Array Bool} {a:M} {w:O} (early:Bool) {G:Prop} (h:G) (hip:i≠pv:=by decide) (he:early=true→waitsB md ops pv i=true:=by(intro h;first|(cases h;done)|kernel_rfl)) (hi:ops[i]?=Z oi:=by(simp only [gA,gS,gZ];rfl)) (h1:Region.noSelect ops=true:=by kernel_rfl) (h2:Region.free md ops listed i=true:=by kernel_rfl) (h3:(Region.ready md ops listed).contains i=true:=by kernel_rfl) (h4:∀c a w,Q (.panic c) (a.put oi.dst v) w→Q (.panic c) a w:=by exact fun _ _ _ h=>h) (hw:Region.wanted oi (yielded ops a.tmps)=true:=by rfl) (hy:∀w,A w→(early=true→B w)→(execOp a.eval oi).run P w = .ok (.value v) w:=by(intro w hSw hBw;(first|(have hBw:=hBw rfl;simp only [CellL,and_true]at hSw hBw)|(simp only [CellL,and_true]at hSw));go_simp;try(with_reducible rfl))) (h6:A w:=by(with_reducible assumption)) (h7:listed.getD pv false=false→B w:=by(first|exact fun _=>(by with_reducible assumption)|exact fun h=>nomatch h)) (hG:HVc P md ops Q A B pv fuel (listed.setIfInBounds i true) (a.put oi.dst v) w=G:=by((try simp only [Act.put,sA,sZ,sS]);rfl)):HVc P md ops Q A B pv (fuel+1) listed a w:=by
 subst hG;intro hc;have hr:i∈Region.ready md ops listed:=by simpa using h3
 exact zk5 hip he hi (Region.noSelect_spec h1) h4 fuel listed a w hc (Region.free_spec hi h2) hr (Or.inl ⟨hw,fun w h=>hy w h.1 h.2⟩) ⟨h6,h7⟩ (h (hc.step hr))
theorem cv1 {i:Nat} {o:Oper} {fuel:Nat} {listed:Array Bool} {a:M} {w:O} (h:∀K':M→O→Prop,Shut (∀a w,(A w∧((listed.setIfInBounds i true).getD pv false=false→B w))→((A w∧((listed.setIfInBounds i true).getD pv false=false→B w))→HVc P md ops Q A B pv fuel (listed.setIfInBounds i true) a w)→K' a w)→if Region.wanted o (yielded ops a.tmps)=true then Oper.wp P o a w K' Q else K' (a.put o.dst undef) w) (hi:ops[i]?=Z o:=by(simp only [gA,gS,gZ];rfl)) (hr:Region.ready md ops listed=[i]:=by kernel_rfl):HVc P md ops Q A B pv (fuel+1) listed a w:=by
 intro hc;refine⟨fun h0=>absurd (hr▸h0) (by simp),fun j hj=>?_⟩;have hj':=hj;rw [hr]at hj
 cases List.mem_singleton.1 hj
 exact wpOp_step hi (fun K' hK=>h K' (fun a w hS hW=>hK a w ⟨hS,hW hS (hc.step hj')⟩))
theorem zdo {id:Nat} {a:M} {w:O} (A B:O→Prop) (pv:Nat) (hm:P.follows .mixedOrders=true) (hA:A w.drew) (hB:B w.drew)
  (h:A w.drew→B w.drew→HVc P .any ops Q A B pv ops.size (Array.replicate ops.size false) a w.drew):(Code.region id ops true).wp P Q a w:=
 wp_region_any hm (zel _ _ _ _ (h hA hB (Cl.start _)))
end
end
end Go.Proofs.YteipgejmhfpkaaaGreatDoor.Cop
