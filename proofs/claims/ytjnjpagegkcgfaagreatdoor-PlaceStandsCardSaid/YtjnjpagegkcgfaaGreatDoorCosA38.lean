/- Part 39. -/
import Derived.Test.YtjnjpagegkcgfaaGreatDoorCosA36
set_option maxRecDepth 1000000
set_option maxHeartbeats 16000000
set_option linter.unusedSimpArgs false
set_option linter.unusedVariables false
open Go renaming World->O,Value->Y
namespace Go.Proofs.YtjnjpagegkcgfaaGreatDoor.Cop
section
open Go.RowKit Go.Shelf Go.Sort Go.Lib
attribute [local go_sem] Oper.semAt_some
def dropE(g:LP)(ps:List Pl)(p:Pl):Int:=
 if laidP g ps≠0 then laidP g ps else if placedOk p=false then 2 else if holdsB g p=false then 2 else if ps.any (nameB p.name)=true then 7 else if clearB g ps p=false then 12 else 0
def RetDr(w:O)(g:LP)(ps:List Pl)(p:Pl)(e:Ending)(w':O):Prop:=
 e = .returned (.tuple #[.int .i64 (if dropE g ps p=0 then dropP g ps p else 0),.int .i64 (dropE g ps p)])/\Ext w w'
theorem zoe{w:O}{b c:Y}{g:LP}{ps:List Pl}(k:IsPts w b g)(l:IsPls w c ps)(a:Gw w)(h:laidP g ps≠0) :
  Calls Tryz.prog 49 #[.agg #[b,c]] w fun e d=>e = .returned (.tuple #[.agg #[.slice none 0 0,.slice none 0 0],.int .i64 (laidP g ps)])/\Ext w d:=by
 refine(zck w b c g ps k l a).mono ?_;rintro e d (⟨_,i,j⟩|⟨f,_⟩)
 ·exact⟨i,j⟩
 ·exact absurd f h
theorem zgq{w:O}{b f:Y}{g:LP}{ps:List Pl}(o:IsPts w b g)(p:IsPls w f ps)(d:Gw w)(h:laidP g ps=0) :
  Calls Tryz.prog 49 #[.agg #[b,f]] w fun e i=>∃a n c,e = .returned (.tuple #[.agg #[b,.slice a n c],.int .i64 0])/\IsLas i (.slice a n c) ps/\Ext w i:=by
 refine(zck w b f g ps o p d).mono ?_;rintro e i (⟨k,_⟩|⟨_,q,l,j,m⟩)
 ·exact absurd h k
 ·obtain⟨a,n,c,rfl⟩:=form3 j
  exact⟨a,n,c,l,j,m⟩
theorem zfi(w:O)(D K v:Y)(g:LP)(ps:List Pl)(p:Pl)(j:IsPts w D g)(k:IsPls w K ps)(hv:IsPts w v p.shape)(x:0<=p.skin)(c:Gw w)(h:laidP g ps≠0\/placedOk p=false) :
  Calls Tryz.prog 10 #[.agg #[D,K],.agg (plc p v)] w (RetDr w g ps p):=by
 obtain⟨ga,gn,gc,rfl⟩:=form3 j;obtain⟨pa,pn,ae,rfl⟩:=form3 k;obtain⟨sa,sn,af,rfl⟩:=form3 hv;obtain⟨R,o⟩:=gX (RetDr w g ps p);rw[o];have y:=hd9 o
 by_cases a:laidP g ps=0
 ·have i:placedOk p=false:=h.resolve_left (fun s=>s a)
  have e:dropE g ps p=2:=by unfold dropE;rw[if_neg (fun s=>s a),if_pos i]
  have n:=hd9 (fun(W:O)(b:Ext w W)=>zgq (j.ext' b) (k.ext' b) (c.ext b) a);have m:=hd9 (fun(W:O)(b:Ext w W)=>zau W p _ (hv.ext' b) x);rw[i,if_neg dM]at m;have r:=hd9 e;obtain⟨nm,sh,d,de,gx,gz,wy,T,az,sk⟩:=p;clear e a h i j k hv x c o;unfold plc at m ⊢;dsimp only at m ⊢;go_enter Tryz.func10,Tryz.ntmps10
  go_wp2_with(first|(go_at_call 49;(with_reducible refine(n.out _ ?_).mono ?_);exact eA;rintro e q ⟨va,vn,vc,rfl,ad,f⟩;obtain⟨t,u⟩:=f.cells;(have z4:=f.size);(simp only[wZ]at z4);(have ag:w.heap.size+1<q.heap.size:=oM);(have ah:w.heap.size+1<q.heap.size+1:=oM))|(go_at_call 28;(with_reducible refine(m.out _ ?_).mono ?_);exact eA;rintro e P ⟨rfl,l⟩;obtain⟨ab,ac⟩:=l.cells;(have z5:=l.size);(simp only[wZ]at z5);(have ai:w.heap.size+1<P.heap.size:=oM);(have aj:q.heap.size<P.heap.size:=oM)))
  rw[<-y.out];exact⟨by rw[r.out];rfl,eA⟩
 ·have e:dropE g ps p=laidP g ps:=by unfold dropE;rw[if_pos a]
  have n:=hd9 (fun(W:O)(b:Ext w W)=>zoe (j.ext' b) (k.ext' b) (c.ext b) a);obtain⟨L,z⟩:=gX (laidP g ps);rw[z]at n e a;have r:=hd9 e;have aa:(L != 0)=true:=by simpa using a
  have Q:=hd9 a;obtain⟨nm,sh,d,de,gx,gz,wy,T,az,sk⟩:=p;clear e h j k hv x c o z a;unfold plc;dsimp only;go_enter Tryz.func10,Tryz.ntmps10
  go_wp2_with(first|(go_at_call 49;(with_reducible refine(n.out _ ?_).mono ?_);exact eA;rintro e q ⟨rfl,f⟩;obtain⟨t,u⟩:=f.cells))
  rw[<-y.out];exact⟨by rw[r.out,if_neg Q.out];rfl,eA⟩
theorem zdw(w:O)(vg K v:Y)(g:LP)(ps:List Pl)(p:Pl)(hg:IsPts w vg g)(hp:IsPls w K ps)(hv:IsPts w v p.shape)(hk:0<=p.skin)(aa:Gw w)(h0:laidP g ps=0)(u:placedOk p=true)
  (h:holdsB g p=false\/ps.any (nameB p.name)=true\/clearB g ps p=false) :
  Calls Tryz.prog 10 #[.agg #[vg,K],.agg (plc p v)] w (RetDr w g ps p):=by
 obtain⟨D,_,ao⟩:=zbW h0;have T:=zby ao;have HL:=hd9 (fun(W:O)(t:Ext w W)=>zgq (hg.ext' t) (hp.ext' t) (aa.ext t) h0);have HK:=hd9 (fun(W:O)(t:Ext w W)=>zau W p _ (hv.ext' t) hk);rw[if_pos u]at HK;have HO:=hd9 (fun(W:O)(t:Ext w W)=>zaR W p _ (hv.ext' t) u (aa.ext t));have HH:=hd9 (fun(W:O)(t:Ext w W)(L:Y)(hs:∃a n c,L = .slice a n c)(K:Y)(h:IsLa W K p)=>zdE W vg L K g p (hg.ext' t) hs h T u);have HN:=hd9 (fun(W:O)(t:Ext w W)(L:Y)(hs:IsLas W L ps)=>zbv W vg L ps p.name (form3 hg) hs);have HC:=hd9 (fun(W:O)(t:Ext w W)(L:Y)(hs:IsLas W L ps)(K:Y)(h:IsLa W K p)=>zdq W vg L K g ps p (hg.ext' t) hs h T D u);have Q:=hd9 hv;obtain⟨ga,gn,gc,rfl⟩:=form3 hg;obtain⟨pa,pn,aO,rfl⟩:=form3 hp;obtain⟨sa,sn,aP,rfl⟩:=form3 hv;obtain⟨R,hR⟩:=gX (RetDr w g ps p);rw[hR];have HR:=hd9 hR
 have ab:dropE g ps p=if holdsB g p=false then 2 else if ps.any (nameB p.name)=true then 7 else if clearB g ps p=false then 12 else 0:=by
  unfold dropE;rw[if_neg (fun h9=>h9 h0),if_neg (by rw[u];decide)]
 obtain⟨b1,e1⟩:=gX (holdsB g p);obtain⟨b2,e2⟩:=gX (ps.any (nameB p.name));obtain⟨b3,e3⟩:=gX (clearB g ps p);rw[e1,e2,e3]at ab h;rw[e1]at HH;rw[e2]at HN;rw[e3]at HC;have z:=hd9 ab;obtain⟨nm,sh,d,de,gx,gz,wy,ax,az,sk⟩:=p;clear ab h0 u hg hp hv hk aa hR D ao T e1 e2 e3;unfold plc at HK HO ⊢;unfold RetO lac at HO;dsimp only at HK HO HN Q ⊢
 cases b1 with
 | false =>
  have z:Hid (dropE g ps ⟨nm,sh,d,de,gx,gz,wy,ax,az,sk⟩=2):=hd9 (by rw[z.out];rfl);go_enter Tryz.func10,Tryz.ntmps10
  go_wp2_with(first|(go_at_call 49;(with_reducible refine(HL.out _ ?_).mono ?_);exact eA;rintro e i ⟨va,vn,vc,rfl,k,l⟩;obtain⟨ac,ai⟩:=l.cells;(have z4:=l.size);(simp only[wZ]at z4);(have ay:w.heap.size+1<i.heap.size:=oM);(have aA:w.heap.size+1<i.heap.size+1:=oM))|(go_at_call 28;(with_reducible refine(HK.out _ ?_).mono ?_);exact eA;rintro e P ⟨rfl,m⟩;obtain⟨ad,aj⟩:=m.cells;(have z5:=m.size);(simp only[wZ]at z5);(have aB:w.heap.size+1<P.heap.size:=oM);(have aC:i.heap.size<P.heap.size:=oM))|(go_at_call 50;(with_reducible refine(HO.out _ ?_).mono ?_);exact eA;rintro e j ⟨vl,vu,rfl,b,f,o⟩;obtain⟨ap,ar,aq,rfl⟩:=form3 b;obtain⟨au,aw,av,rfl⟩:=form3 f;obtain⟨ae,ak⟩:=o.cells;(have z6:=o.size);(have aD:w.heap.size+1<j.heap.size:=oM);(have aE:i.heap.size<j.heap.size:=oM);(have aF:i.heap.size<j.heap.size+1:=oM);(have aG:w.heap.size+1<j.heap.size+1:=oM))|(go_at_call 51;(with_reducible refine(HH.out _ ?_ _ ?_ _ ?_).mono ?_);exact eA;(exact⟨_,_,_,rfl⟩);(exact⟨_,_,_,rfl,Ext.isPts (w:=w) Q.out eA,b.ext' eA,f.ext' eA⟩);rintro e x ⟨rfl,q⟩;obtain⟨af,al⟩:=q.cells;(have z7:=q.size);(simp only[wZ]at z7);(have aH:w.heap.size+1<x.heap.size:=oM);(have aI:i.heap.size<x.heap.size:=oM);(have aJ:j.heap.size<x.heap.size:=oM))|(go_at_call 52;(with_reducible refine(HN.out _ ?_ _ ?_).mono ?_);exact eA;(exact k.ext' eA);rintro e y ⟨rfl,r⟩;obtain⟨ag,am⟩:=r.cells;(have z8:=r.size);(have aK:w.heap.size+1<y.heap.size:=oM);(have aL:i.heap.size<y.heap.size:=oM);(have aM:j.heap.size<y.heap.size:=oM))|(go_at_call 53;(with_reducible refine(HC.out _ ?_ _ ?_ _ ?_).mono ?_);exact eA;(exact k.ext' eA);(exact⟨_,_,_,rfl,Ext.isPts (w:=w) Q.out eA,b.ext' eA,f.ext' eA⟩);rintro e w9 ⟨rfl,s⟩;obtain⟨ah,an⟩:=s.cells;(have z9:=s.size)))
  rw[<-HR.out];exact⟨by rw[z.out];rfl,eA⟩
 | true =>
  cases b2 with
  | true =>
   have z:Hid (dropE g ps ⟨nm,sh,d,de,gx,gz,wy,ax,az,sk⟩=7):=hd9 (by rw[z.out];rfl);go_enter Tryz.func10,Tryz.ntmps10
   go_wp2_with(first|(go_at_call 49;(with_reducible refine(HL.out _ ?_).mono ?_);exact eA;rintro e i ⟨va,vn,vc,rfl,k,l⟩;obtain⟨ac,ai⟩:=l.cells;(have z4:=l.size);(simp only[wZ]at z4);(have ay:w.heap.size+1<i.heap.size:=oM);(have aA:w.heap.size+1<i.heap.size+1:=oM))|(go_at_call 28;(with_reducible refine(HK.out _ ?_).mono ?_);exact eA;rintro e P ⟨rfl,m⟩;obtain⟨ad,aj⟩:=m.cells;(have z5:=m.size);(simp only[wZ]at z5);(have aB:w.heap.size+1<P.heap.size:=oM);(have aC:i.heap.size<P.heap.size:=oM))|(go_at_call 50;(with_reducible refine(HO.out _ ?_).mono ?_);exact eA;rintro e j ⟨vl,vu,rfl,b,f,o⟩;obtain⟨ap,ar,aq,rfl⟩:=form3 b;obtain⟨au,aw,av,rfl⟩:=form3 f;obtain⟨ae,ak⟩:=o.cells;(have z6:=o.size);(have aD:w.heap.size+1<j.heap.size:=oM);(have aE:i.heap.size<j.heap.size:=oM);(have aF:i.heap.size<j.heap.size+1:=oM);(have aG:w.heap.size+1<j.heap.size+1:=oM))|(go_at_call 51;(with_reducible refine(HH.out _ ?_ _ ?_ _ ?_).mono ?_);exact eA;(exact⟨_,_,_,rfl⟩);(exact⟨_,_,_,rfl,Ext.isPts (w:=w) Q.out eA,b.ext' eA,f.ext' eA⟩);rintro e x ⟨rfl,q⟩;obtain⟨af,al⟩:=q.cells;(have z7:=q.size);(simp only[wZ]at z7);(have aH:w.heap.size+1<x.heap.size:=oM);(have aI:i.heap.size<x.heap.size:=oM);(have aJ:j.heap.size<x.heap.size:=oM))|(go_at_call 52;(with_reducible refine(HN.out _ ?_ _ ?_).mono ?_);exact eA;(exact k.ext' eA);rintro e y ⟨rfl,r⟩;obtain⟨ag,am⟩:=r.cells;(have z8:=r.size);(have aK:w.heap.size+1<y.heap.size:=oM);(have aL:i.heap.size<y.heap.size:=oM);(have aM:j.heap.size<y.heap.size:=oM))|(go_at_call 53;(with_reducible refine(HC.out _ ?_ _ ?_ _ ?_).mono ?_);exact eA;(exact k.ext' eA);(exact⟨_,_,_,rfl,Ext.isPts (w:=w) Q.out eA,b.ext' eA,f.ext' eA⟩);rintro e w9 ⟨rfl,s⟩;obtain⟨ah,an⟩:=s.cells;(have z9:=s.size)))
   rw[<-HR.out];exact⟨by rw[z.out];rfl,eA⟩
  | false =>
   cases b3 with
   | false =>
    have z:Hid (dropE g ps ⟨nm,sh,d,de,gx,gz,wy,ax,az,sk⟩=12):=hd9 (by rw[z.out];rfl);go_enter Tryz.func10,Tryz.ntmps10
    go_wp2_with(first|(go_at_call 49;(with_reducible refine(HL.out _ ?_).mono ?_);exact eA;rintro e i ⟨va,vn,vc,rfl,k,l⟩;obtain⟨ac,ai⟩:=l.cells;(have z4:=l.size);(simp only[wZ]at z4);(have ay:w.heap.size+1<i.heap.size:=oM);(have aA:w.heap.size+1<i.heap.size+1:=oM))|(go_at_call 28;(with_reducible refine(HK.out _ ?_).mono ?_);exact eA;rintro e P ⟨rfl,m⟩;obtain⟨ad,aj⟩:=m.cells;(have z5:=m.size);(simp only[wZ]at z5);(have aB:w.heap.size+1<P.heap.size:=oM);(have aC:i.heap.size<P.heap.size:=oM))|(go_at_call 50;(with_reducible refine(HO.out _ ?_).mono ?_);exact eA;rintro e j ⟨vl,vu,rfl,b,f,o⟩;obtain⟨ap,ar,aq,rfl⟩:=form3 b;obtain⟨au,aw,av,rfl⟩:=form3 f;obtain⟨ae,ak⟩:=o.cells;(have z6:=o.size);(have aD:w.heap.size+1<j.heap.size:=oM);(have aE:i.heap.size<j.heap.size:=oM);(have aF:i.heap.size<j.heap.size+1:=oM);(have aG:w.heap.size+1<j.heap.size+1:=oM))|(go_at_call 51;(with_reducible refine(HH.out _ ?_ _ ?_ _ ?_).mono ?_);exact eA;(exact⟨_,_,_,rfl⟩);(exact⟨_,_,_,rfl,Ext.isPts (w:=w) Q.out eA,b.ext' eA,f.ext' eA⟩);rintro e x ⟨rfl,q⟩;obtain⟨af,al⟩:=q.cells;(have z7:=q.size);(simp only[wZ]at z7);(have aH:w.heap.size+1<x.heap.size:=oM);(have aI:i.heap.size<x.heap.size:=oM);(have aJ:j.heap.size<x.heap.size:=oM))|(go_at_call 52;(with_reducible refine(HN.out _ ?_ _ ?_).mono ?_);exact eA;(exact k.ext' eA);rintro e y ⟨rfl,r⟩;obtain⟨ag,am⟩:=r.cells;(have z8:=r.size);(have aK:w.heap.size+1<y.heap.size:=oM);(have aL:i.heap.size<y.heap.size:=oM);(have aM:j.heap.size<y.heap.size:=oM))|(go_at_call 53;(with_reducible refine(HC.out _ ?_ _ ?_ _ ?_).mono ?_);exact eA;(exact k.ext' eA);(exact⟨_,_,_,rfl,Ext.isPts (w:=w) Q.out eA,b.ext' eA,f.ext' eA⟩);rintro e w9 ⟨rfl,s⟩;obtain⟨ah,an⟩:=s.cells;(have z9:=s.size)))
    rw[<-HR.out];exact⟨by rw[z.out];rfl,eA⟩
   | true=>simp at h
end
end Go.Proofs.YtjnjpagegkcgfaaGreatDoor.Cop
