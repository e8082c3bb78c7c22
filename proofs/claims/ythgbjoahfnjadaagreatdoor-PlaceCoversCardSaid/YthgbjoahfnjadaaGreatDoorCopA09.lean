import Derived.Test.YthgbjoahfnjadaaGreatDoorCopA08
import Derived.Sort.OwnSortedInts
import Derived.Laws.IdiomStrings
set_option maxRecDepth 1000000
set_option maxHeartbeats 16000000
set_option linter.all false
open Go.Value renaming slice->O,bool->U,int->Oa,agg->Oe,pointer->Og
open Go renaming World->Z,Value->N,Act->Od,Addr->Of
open Option renaming none->I,some->M
open Go.IntKind renaming i64->Ob
open Go.Obj renaming cells->Oc
namespace Go.Proofs.YthgbjoahfnjadaaGreatDoor.Cop
section
open Go.RowKit Go.Shelf
def qh(cs:LP):Prop:=∃c,∀q∈cs,q.1=c
def Km(cs:LP):Prop:=∃c,∀q∈cs,q.2=c
def fL{ps:LP}(h:Ta ps=true):¬qh ps/\¬Km ps:=by
 have g:=Nu h;unfold Ta at h;rw[Bool.and_eq_true,List.all_eq_true]at h;have e:=h.2 0 (List.mem_range.2 oM);unfold fh gj at e;rw[Bool.and_eq_true,decide_eq_true_eq]at e;have d:=e.1;have mem:∀i:Int,ye ps i∈ps:=fun i=>by
  obtain⟨j,_,_,f⟩:=Dt (ps:=ps) (i:=i) oM;exact lM f
 refine⟨fun⟨c,a⟩=>?_,fun⟨c,a⟩=>?_⟩
 ·unfold Ce at d;rw[a _ (mem _),a _ (mem _),a _ (mem _)]at d;simp at d
 ·unfold Ce at d;rw[a _ (mem _),a _ (mem _),a _ (mem _)]at d;simp at d
def QF{way:Int}{ps:LP}(h:qh (ps.map (jb way))):qh ps\/Km ps:=by
 obtain⟨c,i⟩:=h;have a:∀q∈ps,(jb way q).1=c:=fun q a=>i _ (List.mem_map.2 ⟨q,a,rfl⟩);unfold jb at a;dsimp only at a;by_cases g:3<way
 ·simp only[if_pos g]at a;by_cases d:way%4=0
  ·simp only[if_pos d]at a;exact .inl ⟨-c,fun q h=>by have:=a q h;omega⟩
  ·simp only[if_neg d]at a;by_cases e:way%4=1
   ·simp only[if_pos e]at a;exact .inr ⟨-c,fun q h=>by have:=a q h;omega⟩
   ·simp only[if_neg e]at a;by_cases f:way%4=2
    ·simp only[if_pos f]at a;exact .inl ⟨c,fun q h=>by have:=a q h;omega⟩
    ·simp only[if_neg f]at a;exact .inr ⟨c,fun q h=>by have:=a q h;omega⟩
 ·simp only[if_neg g]at a;by_cases d:way%4=0
  ·simp only[if_pos d]at a;exact .inl ⟨c,fun q h=>by have:=a q h;omega⟩
  ·simp only[if_neg d]at a;by_cases e:way%4=1
   ·simp only[if_pos e]at a;exact .inr ⟨-c,fun q h=>by have:=a q h;omega⟩
   ·simp only[if_neg e]at a;by_cases f:way%4=2
    ·simp only[if_pos f]at a;exact .inl ⟨-c,fun q h=>by have:=a q h;omega⟩
    ·simp only[if_neg f]at a;exact .inr ⟨c,fun q h=>by have:=a q h;omega⟩
def zK{ps:LP}(h:qh (Nb ps)):qh ps:=by
 obtain⟨c,d⟩:=h;refine⟨c+(Ab ps).1,fun q a=>?_⟩;have e:q∈ps.drop (Pf ps)++ps.take (Pf ps):=by
  rw[<-List.take_append_drop (Pf ps) ps]at a;rcases List.mem_append.1 a with h|h
  ·exact List.mem_append_right _ h
  ·exact List.mem_append_left _ h
 have:=d _ (List.mem_map.2 ⟨q,e,rfl⟩);dsimp only at this;omega
def lC{p:Pl}(h:Ea p=true):¬qh (Ba p):=by
 intro ⟨c,d⟩;have g:=(Vm h).1;have e:Ta p.shape=true:=by
  unfold ud at g;simp only[Bool.and_eq_true]at g;cases hcc:Ta p.shape
  ·have:=g.1.1.1.2;rw[Es hcc]at this;cases this
  ·rfl
 obtain⟨k,l⟩:=fL e;have i:qh (Lb p.way p.shape):=⟨c-p.ax,fun q f=>by
  have:=d _ (List.mem_map.2 ⟨q,f,rfl⟩);dsimp only at this;omega⟩
 unfold Lb at i;have a:=zK i;have j:qh (p.shape.map (jb p.way)):=by
  split at a
  ·obtain⟨c,d⟩:=a;exact⟨c,fun q f=>d q (List.mem_reverse.2 f)⟩
  ·exact a
 rcases QF j with h|h
 ·exact k h
 ·exact l h
def Tv{xs:List Int}{n:Nat}(o:xs.length=n)(h:∀i,i<n->xs.getD ((i+1)%n) 0<=xs.getD i 0):∀x∈xs,x=xs.getD 0 0:=by
 have a:∀i,i<n->xs.getD i 0<=xs.getD 0 0:=by
  intro i;induction i with
  | zero=>intro _;exact Int.le_refl _
  | succ i g =>
   intro c;have j:=g oM;have d:=h i oM;rw[Nat.mod_eq_of_lt c]at d;omega
 have up:∀k i,i+k=n-1->i<n->xs.getD (n-1) 0<=xs.getD i 0:=by
  intro k;induction k with
  | zero=>intro i c o;rw[show i=n-1 by omega];exact Int.le_refl _
  | succ k g =>
   intro i c f;have j:=g (i+1) oM oM;have d:=h i f;rw[Nat.mod_eq_of_lt oM]at d;omega
 intro x p;obtain⟨i,c,rfl⟩:=List.mem_iff_getElem.1 p;have e:xs.getD i 0=xs[i]:=by rw[gD,gE c];rfl
 have j:=a i oM;have d:=up (n-1-i) i oM oM;have l:=h (n-1) oM;rw[show n-1+1=n by omega,Nat.mod_self]at l;omega
def Ox(cs:LP)(i:Nat):(cs.map (·.1)).getD i 0=(cs.getD i (0,0)).1:=by rw[gD,gD,lP];cases cs[i]?<;>rfl
def Ov{p:Pl}(h:Ea p=true):Dc (Ba p) (Ba p).length≠[]:=by
 intro e;apply lC h;have f:∀i,i<(Ba p).length->¬((Ba p).getD i (0,0)).1<((Ba p).getD ((i+1)%(Ba p).length) (0,0)).1:=by
  intro i a c;unfold Dc at e;rw[List.flatMap_eq_nil_iff]at e;have:=e i (List.mem_range.2 a);unfold Kd at this;rw[if_pos c]at this;cases this
 refine⟨_,fun q d=>Tv (xs:=(Ba p).map (·.1)) (n:=(Ba p).length) sM (fun i a=>?_) q.1 (List.mem_map.2 ⟨q,d,rfl⟩)⟩;rw[Ox,Ox];have:=f i a;omega
def Gv{p:Pl}(h:Ea p=true):Ad (Ba p) (Ba p).length≠[]:=by
 intro e;apply lC h;have g:∀i,i<(Ba p).length->¬((Ba p).getD ((i+1)%(Ba p).length) (0,0)).1<((Ba p).getD i (0,0)).1:=by
  intro i a c;unfold Ad at e;rw[List.flatMap_eq_nil_iff]at e;have:=e i (List.mem_range.2 a);unfold xe at this;rw[if_pos c]at this;cases this
 refine⟨-(((Ba p).map (fun q=>-q.1)).getD 0 0),fun q f=>?_⟩;have d:∀i,((Ba p).map (fun q=>-q.1)).getD i 0 = -((Ba p).getD i (0,0)).1:=fun i=>by
  rw[gD,gD,lP];cases (Ba p)[i]?<;>rfl
 have:=Tv (xs:=(Ba p).map (fun q=>-q.1)) (n:=(Ba p).length) sM (fun i a=>by rw[d,d];have:=g i a;omega) (-q.1) (List.mem_map.2 ⟨q,f,rfl⟩);omega
def Rr(w:Z)(p:Pl)(v:N)(h:Aa w v p.shape)(a:Ea p=true)(c:Gw w):Calls Tryz.prog 104 #[Oe (pe p v)] w (Rk w p v):=
 CK w p v h a c (Ov a) (Gv a)
def Ap{α:Type}[DecidableEq α]:∀{c:List α}{x:α},x∈Ja c->x∈c
 | [],_,h=>h
 | [a],_,h=>h
 | a::b::r,x,h=>by
  rw[Ja]at h;split at h
  ·exact mC _ (Ap h)
  ·rcases List.mem_cons.1 h with rfl|h
   ·simp
   ·exact mC _ (Ap h)
def BB{α:Type}[DecidableEq α]:∀{c:List α},c≠[]->Ja c≠[]
 | [],h=>absurd rfl h
 | [a],_=>by simp[Ja]
 | a::b::r,_=>by
  rw[Ja];split
  ·exact BB (by simp)
  ·simp
def nC{α:Type}[DecidableEq α]:∀(c:List α),(Ja c).length<=c.length
 | []=>by simp[Ja]
 | [a]=>by simp[Ja]
 | a::b::r=>by
  rw[Ja];have:=nC (b::r);split
  ·simp at this ⊢;omega
  ·simp at this ⊢;omega
def Zz{k:Int}{a:LP}(h:a≠[])(d:Se k a)(g:a.length<=24):Gc a≠[]/\Se k (Gc a)/\(Gc a).length<=24:=by
 unfold Gc;have c:=Wm a;refine⟨BB (fun e=>h ?_),fun q f=>d q (c.mem_iff.1 (Ap f)),?_⟩
 ·rw[e]at c;exact c.symm.eq_nil
 ·have:=nC (re a);rw[c.length_eq]at this;omega
def Fb(l:LP):Prop:=l≠[]/\Se 104000 l/\l.length<=64
def rj{p:Pl}(h:Ea p=true):Fb (za p)/\Fb (Ra p):=by obtain⟨e,f,Sh⟩:=ip h;have d:=yo e (nE _);have g:=Qw (Ba p) (Ba p).length;have a:=Zz (Ov h) d.1 oM;have c:=Zz (Gv h) d.2 oM;exact⟨⟨a.1,a.2.1,nT a.2.2 oM⟩,⟨c.1,c.2.1,nT c.2.2 oM⟩⟩
end
section
open Go.RowKit Go.Shelf
attribute [local go_sem] Oper.semAt_some
abbrev Md:=(Int×Int)×(Int×Int)
def yb(l:LP):List Md:=l.zip l.tail
def Oh(e:Md):Array N:=#[Oe #[Oa Ob e.1.1,Oa Ob e.1.2],Oe #[Oa Ob e.2.1,Oa Ob e.2.2]]
def Xq(l:LP):(yb l).length=l.length-1:=by simp[yb]
def Cx{l:LP}{j:Nat}{p q:Int×Int}(a:l[j]?=M p)(c:l[j+1]?=M q):(yb l)[j]?=M (p,q):=by unfold yb;rw[List.getElem?_zip_eq_some];exact⟨a,by rw[List.getElem?_tail];exact c⟩
def Au(w:Z)(sl:Option Of)(n c:Nat):Calls Tryz.prog 116 #[O sl n c] w fun e f=>e=.returned (.func (.func 179) #[] #[Og (M ⟨w.heap.size,0,I⟩)])/\w.alloc (Oc #[O sl n c] 107)=f:=by have d:∀(a:Fn)(first cap:Array N)(w:Z),(Instr.makeFunc a first cap).run Tryz.prog w = .ok (.func a first cap) w:=fun _ _ _ _=>rfl;go_in;go_wp2;go_ret;exact⟨rfl,rfl⟩
def Bw{F:Fence}{m:Nat}{P:Program}{l:Nat}{a:FuncId}{tmps:Array N}{assign body:Code}{W:Z}{A B:Z->Prop}(h:RoundIn F m P l a tmps assign body W fun e W'=>(e=.returned (U true)/\A W')\/(e=.returned (U false)/\B W')):RoundIn F m P l a tmps assign body W fun e W'=>∃b:Bool,e=.returned (U b)/\(b=true->A W')/\(b=false->B W'):=
 h.mono fun e W' h=>by
  rcases h with ⟨rfl,h⟩|⟨rfl,h⟩
  ·exact⟨true,rfl,fun _=>h,fun h=>nomatch h⟩
  ·exact⟨false,rfl,fun h=>(nomatch h),fun _=>h⟩
def OI{β:Type}(f:β->Md)(n:Nat)(hn:1<=n)(l g:Nat)(w w0:Z)(sl:N)(ps:LP)(d:List β)(u:d.map f=yb ps)(J Jx:List β->Z->Prop)(hY:∀pre x W,J pre W->pre.length<d.length->YieldAt Fence.wide (n-1) Tryz.prog l (Oh (f x)) W fun e W' =>
   (e=.returned (U true)/\J (pre++[x]) W'/\Mc w g W W')\/(e=.returned (U false)/\Jx (pre++[x]) W'))
  (ab:∀pre W,J pre W->J pre W.drew)(k:w0.cell? ⟨g,0,I⟩=M sl)(ad:g<w0.heap.size)(hi:Aa w sl ps)(hw:oa w w0)(W:Z)(hW:Mc w g w0 W)(h0:J [] W) :
  CallsIn Fence.wide n Tryz.prog 179 #[.func (.yield l) #[] #[],Og (M ⟨g,0,I⟩)] W fun e W'=>(∃v,e=.returned v)/\
   ((∃ys,ys=d/\J ys W')\/(∃pre,pre <+: d/\Jx pre W')):=by
 obtain⟨a,c,rfl⟩:=hi.form;have p:=hi.le;obtain⟨m,T⟩:=gX ps.length;rw[T]at hi k p;have i:d.length=m-1:=by have:=congrArg List.length u;rw[lL,Xq,T]at this;exact this
 rw[i]at hY;unfold maxLen at p;have aj:m<=9223372036854775807:=oM;have Hm:=ia T;clear T p;have af:W.cell? ⟨g,0,I⟩=M (O a m c):=(World.cell?_of_block hW.2).trans k;refine callsIn_of_wp Tryz.func179 rfl trivial ?_ rfl;simp only[Tryz.ntmps179,List.size_toArray,List.length_cons,List.length_nil,Nat.reduceAdd,Nat.reduceSub,Array.replicate_succ,Array.replicate_zero,List.push_toArray,List.append_toArray,List.nil_append,List.cons_append]
 gi_wp2
 gi_loopw [3] (fun t3 wr=>∃j:Nat,j<=m/\t3=Oa Ob ((j+1:Nat):Int)/\J (d.take j) wr/\Mc w g w0 wr)
  (fun t3 _=>(m+1-intOf t3).toNat)
 case atStart=>exact⟨0,by omega,rfl,by simpa using h0,hW⟩
 case round =>
  obtain⟨j,hj,rfl,hJ,s⟩:=hrel;have ag:wr.cell? ⟨g,0,I⟩=M (O a m c):=(World.cell?_of_block s.2).trans k;by_cases ai:j+1<m
  ·obtain⟨⟨x,z⟩,hp⟩:∃q,ps[j]?=M q:=⟨ps[j]'(by rw[Hm.o];omega),by simp⟩;obtain⟨⟨x',z'⟩,hq⟩:∃q,ps[j+1]?=M q:=⟨ps[j+1]'(by rw[Hm.o];omega),by simp⟩;have he:=Cx hp hq;obtain⟨y,r⟩:∃y,d[j]?=M y:=⟨d[j]'(by rw[i];omega),by simp⟩;have K:f y=((x,z),(x',z')):=by
    rw[<-u,lP,r]at he;exact Option.some.inj he
   obtain⟨b,o,rfl,hb,d0,d1⟩:=(hi.i (hw.E s.1 (nE _))).at' hp;obtain⟨b',o',e',ah,d2,d3⟩:=(hi.i (hw.E s.1 (nE _))).at' hq;cases e';obtain⟨fn,tmps,assign,body,hy,hR⟩:=hY _ y wr.drew (ab _ _ hJ) (by rw[List.length_take,i];omega);have R:d.take j++[y]=d.take (j+1):=(Xf _ _ _ r).symm;rw[R]at hR;have t:=Bw hR;have HR:=ia t;have u1:((j+1:Nat):Int)-1=(j:Int):=oM;have u2:IntKind.i64.wrap ((j:Int)+1-1)=(j:Int):=by rw[show (j:Int)+1-1=j by omega];exact iW _ ⟨by omega,by omega⟩
   have u6:IntKind.i64.wrap (j:Int)=(j:Int):=iW _ ⟨by omega,by omega⟩;have u3:(0:Int)<=(j:Int)+1:=oM;have u4:(j:Int)+1<(m:Int):=oM;have u5:((j:Int)+1).toNat=j+1:=oM;have p1:(0:Int)<=(j:Int):=oM;have p2:(j:Int)<(m:Int):=oM;have p3:((j+1:Nat):Int)<(m:Int):=oM;rw[K]at hy;clear hR t R hp hq he r K;unfold Oh at hy;dsimp only at hy
   gi_wp2
   gi_region_with ((with_reducible refine RoundIn.mono HR.o ?_);rintro e W3 ⟨bb,rfl,hA,hB⟩)
   all_goals
    cases bb
    ·have ac:=hB rfl;clear hA hB
     gi_wp2
     refine bR (results_none rfl _ _ _) rfl ?_;exact⟨⟨_,rfl⟩,.inr ⟨_,⟨d.drop (j+1),List.take_append_drop _ _⟩,ac⟩⟩
    ·obtain⟨aa,ae⟩:=hA rfl;clear hA hB
     gi_wp2
     go_roundw
     case rel=>exact⟨j+1,by omega,by go_num,aa,s.trans ((Mc.refl w g wr).ext ((eR wr).drew) (hw.E s.1 (nE _)).size (Nat.lt_of_lt_of_le ad s.1.size) |>.trans ae)⟩
     case measure=>simp[intOf];omega
  ·have e:d.take j=d:=lT (by rw[i];omega);rw[e]at hJ;have p3:¬((j+1:Nat):Int)<(m:Int):=oM;clear e
   gi_wp2
   go_end0
   exact⟨⟨_,rfl⟩,.inl hJ⟩
def Mu{β:Type}(f:β->Md)(n:Nat)(s:1<=n)(a:Nat)(w w0:Z)(sl:N)(ps:LP)(c:List β)(i:c.map f=yb ps)(g:w0.cell? ⟨a,0,I⟩=M sl)(d:a<w0.heap.size)(hi:Aa w sl ps)(j:oa w w0):SeqStopsK Fence.wide n Tryz.prog 179 #[Og (M ⟨a,0,I⟩)] (fun x=>Oh (f x)) (Mc w a) (fun t=>t=c) (fun pre=>pre <+: c) c.length w0:=
 fun l J k W p hJ _ q o=>OI f n s l a w w0 sl ps c i J k q (fun pre W' h=>hJ _ _ _ I h ⟨rfl,rfl,rfl,nE _,fun _ _ _=>rfl⟩ (fun r e=>by cases e)) g d hi j W ((Mc.refl w a w0).ext p j.size d) o
section
variable {P:Program} {ops:Array Oper} {Q:Exit->Od->Z->Prop} {md:Region.Mode} {S:Z->Prop}
def Dn(P:Program)(md:Region.Mode)(ops:Array Oper)(Q:Exit->Od->Z->Prop)(S:Z->Prop)(fuel:Nat)(d:Array Bool)(a:Od)(w:Z)(i:Nat)(oi:Oper):Prop:=
 ∃v,Region.noSelect ops=true/\Region.free md ops d i=true/\(Region.ready md ops d).contains i=true/\(∀c a w,Q (.panic c) (a.put oi.dst v) w->Q (.panic c) a w)/\YieldsIf P ops S oi v a/\S w/\
  wpAnyH P md ops Q S fuel (d.setIfInBounds i true) (a.put oi.dst v) w
def Pc{i:Nat}{oi:Oper}{fuel:Nat}{c:Array Bool}{a:Od}{w:Z}(hi:ops[i]?=M oi)(h:Dn P md ops Q S fuel c a w i oi):wpAnyH P md ops Q S (fuel+1) c a w:=by obtain⟨v,d,e,f,g,j,h6,k⟩:=h;exact wpAnyH_take hi d e f g j h6 k
def On(P:Program)(md:Region.Mode)(ops:Array Oper)(Q:Exit->Od->Z->Prop)(S:Z->Prop)(fuel:Nat)(c:Array Bool)(a:Od)(w:Z)(i:Nat)(o:Oper):Prop:=
 Region.ready md ops c=[i]/\∀K':Od->Z->Prop,Shut (∀a w,S w->(S w->wpAnyH P md ops Q S fuel (c.setIfInBounds i true) a w)->K' a w)->if Region.wanted o (yielded ops a.tmps)=true then Oper.wp P o a w K' Q else K' (a.put o.dst undef) w
def Tp{i:Nat}{o:Oper}{fuel:Nat}{c:Array Bool}{a:Od}{w:Z}(hi:ops[i]?=M o)(h:On P md ops Q S fuel c a w i o):wpAnyH P md ops Q S (fuel+1) c a w:=
 wpAnyH_ready h.1 sM (AllReadyH.cons hi h.2 AllReadyH.nil)
def Ac{v:N}{i:Nat}{oi:Oper}{fuel:Nat}{d:Array Bool}{a:Od}{w:Z}{G:Prop}(h:G)(hi:ops[i]?=M oi:=by(simp only[gA,gS,gZ];rfl))(f:Region.noSelect ops=true:=by kernel_rfl)(g:Region.free md ops d i=true:=by kernel_rfl)(j:(Region.ready md ops d).contains i=true:=by kernel_rfl)(k:∀c a w,Q (.panic c) (a.put oi.dst v) w->Q (.panic c) a w:=by exact fun _ _ _ h=>h)(o:Region.wanted oi (yielded ops a.tmps)=true:=by rfl)(p:∀w,S w->(execOp a.eval oi).run P w = .ok (.value v) w:=by(intro w e;simp only[Ca,and_true]at e;go_simp;try(with_reducible rfl)))(h6:S w:=by(with_reducible assumption))(l:wpAnyH P md ops Q S fuel (d.setIfInBounds i true) (a.put oi.dst v) w=G:=by((try simp only[Act.put,sA,sZ,sS]);rfl)):wpAnyH P md ops Q S (fuel+1) d a w:=by subst l;exact Pc hi ⟨v,f,g,j,k,Or.inl ⟨o,p⟩,h6,h⟩
def Kh{i:Nat}{oi:Oper}{fuel:Nat}{d:Array Bool}{a:Od}{w:Z}{G:Prop}(h:G)(hi:ops[i]?=M oi:=by(simp only[gA,gS,gZ];rfl))(e:Region.noSelect ops=true:=by kernel_rfl)(f:Region.free md ops d i=true:=by kernel_rfl)(g:(Region.ready md ops d).contains i=true:=by kernel_rfl)(j:∀c a w,Q (.panic c) (a.put oi.dst undef) w->Q (.panic c) a w:=by exact fun _ _ _ h=>h)(l:Region.wanted oi (yielded ops a.tmps)=false:=by rfl)  (h6:S w:=by(with_reducible assumption))(k:wpAnyH P md ops Q S fuel (d.setIfInBounds i true) (a.put oi.dst undef) w=G:=by((try simp only[Act.put,sA,sZ,sS]);rfl)):wpAnyH P md ops Q S (fuel+1) d a w:=by subst k;exact Pc hi ⟨undef,e,f,g,j,Or.inr ⟨l,rfl⟩,h6,h⟩
def Fc{v:N}{i:Nat}{oi:Oper}{fuel:Nat}{d:Array Bool}{a:Od}{w:Z}{G:Prop}(h:G)(hi:ops[i]?=M oi:=by(simp only[gA,gS,gZ];rfl))(f:Region.noSelect ops=true:=by kernel_rfl)(g:Region.free md ops d i=true:=by kernel_rfl)(j:(Region.ready md ops d).contains i=true:=by kernel_rfl)(k:∀c a w,Q (.panic c) (a.put oi.dst v) w->Q (.panic c) a w:=by exact fun _ _ _ h=>h)(o:Region.wanted oi (yielded ops a.tmps)=true:=by rfl)(p:∀w,S w->(execOp a.eval oi).run P w = .ok (.value v) w:=by(intro w e;simp only[Ca,and_true]at e;go_simp;try(with_reducible rfl)))(h6:S w:=by(with_reducible assumption))(l:mm (i+1) (wpAnyH P md ops Q S fuel (d.setIfInBounds i true) (a.put oi.dst v) w)=G:=by((try simp only[Act.put,sA,sZ,sS,Nat.reduceAdd]);rfl)):mm i (wpAnyH P md ops Q S (fuel+1) d a w):=by subst l;exact Pc hi ⟨v,f,g,j,k,Or.inl ⟨o,p⟩,h6,h⟩
def fi{i:Nat}{oi:Oper}{fuel:Nat}{d:Array Bool}{a:Od}{w:Z}{G:Prop}(h:G)(hi:ops[i]?=M oi:=by(simp only[gA,gS,gZ];rfl))(e:Region.noSelect ops=true:=by kernel_rfl)(f:Region.free md ops d i=true:=by kernel_rfl)(g:(Region.ready md ops d).contains i=true:=by kernel_rfl)(j:∀c a w,Q (.panic c) (a.put oi.dst undef) w->Q (.panic c) a w:=by exact fun _ _ _ h=>h)(l:Region.wanted oi (yielded ops a.tmps)=false:=by rfl)  (h6:S w:=by(with_reducible assumption))(k:mm (i+1) (wpAnyH P md ops Q S fuel (d.setIfInBounds i true) (a.put oi.dst undef) w)=G:=by((try simp only[Act.put,sA,sZ,sS,Nat.reduceAdd]);rfl)):mm i (wpAnyH P md ops Q S (fuel+1) d a w):=by subst k;exact Pc hi ⟨undef,e,f,g,j,Or.inr ⟨l,rfl⟩,h6,h⟩
def Je{i:Nat}{o:Oper}{fuel:Nat}{c:Array Bool}{a:Od}{w:Z}(h:∀K':Od->Z->Prop,Shut (∀a w,S w->(S w->wpAnyH P md ops Q S fuel (c.setIfInBounds i true) a w)->K' a w)->if Region.wanted o (yielded ops a.tmps)=true then Oper.wp P o a w K' Q else K' (a.put o.dst undef) w)(hi:ops[i]?=M o:=by(simp only[gA,gS,gZ];rfl))(d:Region.ready md ops c=[i]:=by kernel_rfl):wpAnyH P md ops Q S (fuel+1) c a w:=Tp hi ⟨d,h⟩
def kO{K:Od->Z->Prop}{A:Z->Prop}{X:Od->Z->Prop}(e:Shut (∀a w,A w->(A w->X a w)->K a w)){a:Od}{w:Z}{G:Prop}(c:A w)(h:A w->G)(d:X a w=G:=by((try simp only[Act.put,sA,sZ,sS]);rfl)):K a w:=by subst d;exact Shut.out e _ _ c h
def Ec{f:FuncId}{args:Array N}{Y:Ending->Z->Prop}{G:N->Z->Prop}{i:Nat}{o:Oper}{fuel:Nat}{c:Array Bool}{a:Od}{w:Z}(l:Calls P f args w Y)(h:∀e w',Y e w'->∃v,e=.returned v/\S w'/\(S w'->G v w'))(hi:ops[i]?=M o:=by(simp only[gA,gS,gZ];rfl))(q:Region.ready md ops c=[i]:=by kernel_rfl)(r:Region.wanted o (yielded ops a.tmps)=true:=by rfl)(s:(execOp a.eval o).run P w = .ok (.enter f args) w:=by(go_simp;try(with_reducible rfl)))(g:∀v w',wpAnyH P md ops Q S fuel (c.setIfInBounds i true) (a.put o.dst v) w'=G v w':=by(intro v w';(try simp only[Act.put,sA,sZ,sS]);rfl)):wpAnyH P md ops Q S (fuel+1) c a w:=by refine Je (i:=i) (fun K j=>?_) hi q;rw[if_pos r];unfold Oper.wp;rw[s,Oper.upon_enter];refine l.mono fun e w' t=>?_;obtain⟨v,rfl,k,p⟩:=h e w' t;exact Shut.out j _ _ k (fun d=>by rw[g];exact p d)
def Wd{fuel:Nat}{c:Array Bool}{a:Od}{w:Z}(h:Q .normal a w)(d:Region.ready md ops c=[]:=by kernel_rfl):wpAnyH P md ops Q S fuel c a w:=wpAnyH_done d h _
variable {P:Program} {ops:Array Oper} {Q:Exit->Od->Z->Prop} {md:Region.Mode} {S:Z->Prop}
end
def Jh(x:Rat)(e:Md):Bool:=decide (Pb x ((e.2.1:Int):Rat)<=0)
def Ug(x:Rat)(e:Md):Rat:=((e.1.2:Int):Rat)+((x-((e.1.1:Int):Rat))*((e.2.2-e.1.2:Int):Rat))/((e.2.1-e.1.1:Int):Rat)
def Sb(ps:LP)(x:Rat):Rat:=match (yb ps).find? (Jh x)with|some e=>Ug x e|none=>(((ps.getD (ps.length-1) (0,0)).2:Int):Rat)
def RB.sim{B:Nat}{W W':Z}{b:Nat}{q:Rat}(h:RB W b q)(k:Uh B W W'):RB W' b q:=by obtain⟨a,m,c,s,d,i,e,f,g⟩:=h;exact⟨a,m,c,s,d,i,e,k.heap f,g.keep (k.keep _)⟩
def me{k n:Int}(h:Bd k n)(a:k<=1000000:=by decide):Rb 1 (n:Rat):=Rb.int (by unfold Lm B;unfold Bd at h;simp;omega) (nE _)
def pl{k:Int}{ps:LP}(h:Se k ps){e:Md}(f:e∈yb ps):Bd k e.1.1/\Bd k e.1.2/\Bd k e.2.1/\Bd k e.2.2:=by obtain⟨p,q⟩:=e;have a:=List.of_mem_zip f;have c:=h p a.1;have d:=h q (List.mem_of_mem_tail a.2);exact⟨c.1,c.2,d.1,d.2⟩
abbrev BE:={ e:Md // Bd 104000 e.1.1/\Bd 104000 e.1.2/\Bd 104000 e.2.1/\Bd 104000 e.2.2 }
def SM(w:Z)(x:Rat)(pre:List BE)(W:Z):Prop:=
 oa w W/\w.heap.size+1+1+1<=W.heap.size/\RB W w.heap.size x/\RB W (w.heap.size+1) 0/\∀e∈pre,Jh x e.1=false
def RM(w:Z)(x:Rat)(c:Code)(pre:List BE)(W:Z):Prop:=
 c = .ret/\oa w W/\w.heap.size+1+1+1<=W.heap.size/\∃(a:List BE)(e:BE),pre=a++[e]/\(∀e∈a,Jh x e.1=false)/\Jh x e.1=true/\RB W (w.heap.size+1) (Ug x e.1)
def Xh(s B:Nat)(j:Option Of)(l k:Nat)(o:Bool)(a:Option Of)(d c:Nat)(e f g i:Int)(W:Z):Prop:=
 W.cell? ⟨s,0,I⟩=M (O j l k)/\W.cell? ⟨s,1,I⟩=M (U o)/\W.cell? ⟨s,2,I⟩=M (O a d c)/\W.cell? ⟨B,0,I⟩=M (Oa Ob e)/\W.cell? ⟨B,1,I⟩=M (Oa Ob f)/\W.cell? ⟨B+1,0,I⟩=M (Oa Ob g)/\W.cell? ⟨B+1,1,I⟩=M (Oa Ob i)
def Xh.ext{s B:Nat}{j:Option Of}{o l:Nat}{p:Bool}{a:Option Of}{d c:Nat}{e f g i:Int}{W W':Z}(h:Xh s B j o l p a d c e f g i W)(k:oa W W'):Xh s B j o l p a d c e f g i W':=by obtain⟨q,r,t,u,v,w,h6⟩:=h;exact⟨k.d q,k.d r,k.d t,k.d u,k.d v,k.d w,k.d h6⟩
def ut{W:Z}{D:Nat}(a:W.heap[D]?=M (.deferred (M [])))(o:Obj):Uh D W (W.putObj D o):=
 Uh.of_grown (grownBy_putObj' W D o) (Nat.le_of_lt (jc a)) (fun r e=>by cases e;exact⟨nE _,_,a,rfl⟩)
def Xh.set{s B:Nat}{j:Option Of}{l k:Nat}{o:Bool}{a:Option Of}{d c:Nat}{e f g i:Int}{W:Z}(h:Xh s B j l k o a d c e f g i W){p:Of}(z:p.block≠s)(K:p.block≠B)(R:p.block≠B+1)(u:N):Xh s B j l k o a d c e f g i (W.setCell p u):=by obtain⟨q,r,t,v,w,x,y⟩:=h;refine⟨?_,?_,?_,?_,?_,?_,?_⟩<;>(rw[World.cell?_setCell_far _ _ _ _ dO];assumption)
def il{B:Nat}{W W':Z}(h:oa W W'):KeepsFrom B W W':=⟨h.size,fun _ _ _ a _=>h.e a⟩
def KG{β:Type}{f:β->Bool}{a pre:List β}{e:β}(g:pre++[e] <+: a)(d:∀x∈pre,f x=false)(c:f e=true):a.find? f=M e:=by
 obtain⟨t,rfl⟩:=g;rw[List.append_assoc,List.find?_append];have:pre.find? f=I:=by
  rw[List.find?_eq_none];intro x i;simp[d x i]
 rw[this];simp[c]
def jD{ps:LP}{x:Rat}{c:List BE}(a:c.map (fun e=>e.1)=yb ps){pre:List BE}{e:BE}(i:pre++[e] <+: c)(g:∀e∈pre,Jh x e.1=false)(d:Jh x e.1=true):Sb ps x=Ug x e.1:=by unfold Sb;rw[<-a,List.find?_map,KG (f:=Jh x ∘ fun e:BE=>e.1) i g d];rfl
def gG{ps:LP}{x:Rat}{c:List BE}(a:c.map (fun e=>e.1)=yb ps)(f:∀e∈c,Jh x e.1=false){q:Int×Int}(g:ps[ps.length-1]?=M q):Sb ps x=((q.2:Int):Rat):=by
 unfold Sb;have:(yb ps).find? (Jh x)=I:=by
  rw[<-a,List.find?_eq_none];intro y i;obtain⟨e,d,rfl⟩:=List.mem_map.1 i;simp[f e d]
 rw[this,gD,g];rfl
def tl(w:Z)(v vx:N)(ps:LP)(x:Rat)(h:Aa w v ps)(aL:Fb ps)(hx:La w vx x)(hb:Rb 1000 x):Calls Tryz.prog 47 #[v,vx] w (Id w (Sb ps x)):=by
 obtain⟨a,c,rfl⟩:=h.form;obtain⟨xa,xm,xc,xs,bg,bi,bh,rfl⟩:=hx.form;have Hb:=ia hb;have aX:=ia aL;obtain⟨n,hn⟩:=gX ps.length;rw[hn]at h ⊢;have Hn:=ia hn;obtain⟨es,a7⟩:∃es:List BE,es.map (fun e=>e.1)=yb ps:=⟨(yb ps).attachWith _ (fun e he=>pl aL.2.1 he),jl _⟩;have aW:=ia a7;clear hb aL hn;refine(callsIn_wide (n:=5)).1 ?_;refine callsIn_of_wp_marks Tryz.func47 rfl trivial ?_ rfl;simp only[Tryz.ntmps47,List.size_toArray,List.length_cons,List.length_nil,Nat.reduceAdd,Nat.reduceSub,Array.replicate_succ,Array.replicate_zero,List.push_toArray,List.append_toArray,List.nil_append,List.cons_append]
 gi_wp2_with(refine⟨trivial,?_⟩;gi_at_call 116;refine(callsIn_wide.2 (Au _ _ _ _)).mono ?_;rintro e w' ⟨rfl,rfl⟩)
 obtain⟨W0,aa⟩:=gX ((((w.alloc (Oc #[O xa xm xc,U xs,O bg bi bh] 43)).alloc (Oc #[O I 0 0,U false,O I 0 0] 43)).alloc (Oc #[O a n c] 107)));have bc:oa w W0:=by rw[<-aa];exact(((eR w).alloc _).alloc _).alloc _
 have cY:W0.heap.size=w.heap.size+1+1+1:=by rw[<-aa];simp
 have ca:W0.cell? ⟨w.heap.size+1+1,0,I⟩=M (O a n c):=by rw[<-aa,World.cell?_alloc_at _ _ _ _ sM];rfl
 have b6:RB W0 w.heap.size x:=by rw[<-aa];exact(RB.new hx rfl).ext (((eR _).alloc _).alloc _)
 have b7:RB W0 (w.heap.size+1) 0:=by rw[<-aa];exact(RB.new (La.zero _) sM).ext ((eR _).alloc _)
 rw[aa];have cN:=ia aa;clear aa;refine wpIn_rangeFunc_ownH rfl dM (gf:=179) (lb:=#[Og (M ⟨w.heap.size+1+1,0,I⟩)]) rfl trivial (enters_of Tryz.func179 kM rfl)
  (Mu (fun e:BE=>e.1) _ dM (w.heap.size+1+1) w _ _ ps es a7 ca oM h bc) Mc.trans (Mc.put oM oM) (Below.refl _ _) (fun _=>rfl)
  (SM w x) (RM w x) (Zh (fun s W h=>by have:=h.2.1;omega) (fun s W W' h k=>?hsim)) (fun c=>Zh (fun s W h=>by have:=h.2.2.1;omega) (fun s W W' h k=>?hsimx)) ?h0
  (fun(e:BE) a' W=>∃B,w.heap.size+1+1+1<=B/\W.heap[B]?=M (Oc #[Oa Ob e.1.1.1,Oa Ob e.1.1.2] 55 (0,0))/\W.heap[B+1]?=M (Oc #[Oa Ob e.1.2.1,Oa Ob e.1.2.2] 55 (0,0))/\
   a'={ tmps:=#[O a n c,Oe #[O xa xm xc,U xs,O bg bi bh],undef,Og (M ⟨w.heap.size,0,I⟩),Og (M ⟨w.heap.size+1,0,I⟩),Og (M ⟨B,0,I⟩),Og (M ⟨B+1,0,I⟩),O a n c,.func (.func 179) #[] #[Og (M ⟨w.heap.size+1+1,0,I⟩)],Oe #[Oa Ob e.1.1.1,Oa Ob e.1.1.2],Oe #[Oa Ob e.1.2.1,Oa Ob e.1.2.2],undef,undef,undef,undef,undef,undef,undef,undef,undef,undef,undef,undef,undef,undef,undef,undef,undef,undef,undef,undef,undef,undef,undef,undef,undef,undef,undef,undef,undef,undef,undef,undef,undef,undef,undef,undef,undef],defers:=[] })
  (fun e a'=>Zh (fun s W h=>?hAs) (fun s W W' h k=>?hAk)) ?assign ?body ?done ?stop
 case hsim =>
  obtain⟨z,h2,h3,h4,h5⟩:=h;exact⟨k.ext z oM,nT h2 k.size,h3.sim k,h4.sim k,h5⟩
 case hsimx =>
  obtain⟨h0,z,h2,p',e,h3,h4,h5,h6⟩:=h;exact⟨h0,k.ext z oM,nT h2 k.size,p',e,h3,h4,h5,h6.sim k⟩
 case h0=>exact⟨bc,by omega,b6,b7,fun e he=>by cases he⟩
 case hAs =>
  obtain⟨B,z,h2,h3,_⟩:=h;have:=jc h2;omega
 case hAk =>
  obtain⟨B,z,h2,h3,h4⟩:=h;exact⟨B,z,k.heap h2,k.heap h3,h4⟩
 case assign =>
  rintro l pre e W K ⟨z,h2,h3,h4,h5⟩ hK;unfold Oh
  gi_wp2
  refine hK _ _ (((KeepsOthers.alloc _ _).trans (KeepsOthers.alloc _ _)).from _) (((Mc.refl _ _ W).ext (((eR W).alloc _).alloc _) z.size oM)) ⟨(z.alloc _).alloc _,by simp;omega,h3.ext (((eR W).alloc _).alloc _),h4.ext (((eR W).alloc _).alloc _),h5⟩ ⟨W.heap.size,h2,?_,?_,rfl⟩
  ·rw[Ef,if_neg sM];exact Kc _ _ _ rfl
  ·exact Kc _ _ _ sM
 case body =>
  rintro l pre e a' W hl ⟨r,hr⟩ ⟨z,h2,h3,h4,h5⟩ ⟨B,hB,q1,q2,rfl⟩ cU;obtain⟨⟨⟨g,j⟩,u,bz⟩,aq⟩:=e;dsimp only at q1 q2 aq ⊢;obtain⟨ya,ym,yc,ys,ab,ad,ac,r0,r1,r2,_,_,_,zr,bf⟩:=h3.rd;have e0:=ja q1 0 (Oa Ob g);have e1:=ja q1 1 (Oa Ob j);have e2:=ja q2 0 (Oa Ob u);have e3:=ja q2 1 (Oa Ob bz);have z1:=jc q1;have z2:=jc q2
  gi_wp2
  have aJ:Xh w.heap.size B ya ym yc ys ab ad ac g j u bz W:=⟨r0,r1,r2,e0,e1,e2,e3⟩;have be:La W.drew (Oe #[O ya ym yc,U ys,O ab ad ac]) x:=bf.ext (eR W).drew;have bs:=ia aJ;refine Gs (S:=Xh w.heap.size B ya ym yc ys ab ad ac g j u bz) kM kM (aJ.ext (eR W).drew) (fun f=>?_);clear r0 r1 r2 e0 e1 e2 e3 aJ;refine Pc (i:=0) (oi:=?oix1) ?hix1 ?hx1
  case hix1=>(simp only[gA,gS,gZ];rfl)
  refine⟨?_,by kernel_rfl,by kernel_rfl,by kernel_rfl,fun _ _ _ h=>h,Or.inl ⟨by rfl,?_⟩,by assumption,?_⟩;rotate_left 1
  ·(intro w d;rcases d with ⟨R,s1,p,t,s4,s5,s6⟩;go_simp;try(with_reducible rfl))
  (try simp only[Act.put,sA,sZ,sS]);refine Pc (i:=1) (oi:=?oix2) ?hix2 ?hx2
  case hix2=>(simp only[gA,gS,gZ];rfl)
  refine⟨?_,by kernel_rfl,by kernel_rfl,by kernel_rfl,fun _ _ _ h=>h,Or.inl ⟨by rfl,?_⟩,by assumption,?_⟩;rotate_left 1
  ·(intro w d;rcases d with ⟨R,s1,p,t,s4,s5,s6⟩;go_simp;try(with_reducible rfl))
  (try simp only[Act.put,sA,sZ,sS]);refine Pc (i:=2) (oi:=?oix3) ?hix3 ?hx3
  case hix3=>(simp only[gA,gS,gZ];rfl)
  refine⟨?_,by kernel_rfl,by kernel_rfl,by kernel_rfl,fun _ _ _ h=>h,Or.inl ⟨by rfl,?_⟩,by assumption,?_⟩;rotate_left 1
  ·(intro w d;rcases d with ⟨R,s1,p,t,s4,s5,s6⟩;go_simp;try(with_reducible rfl))
  (try simp only[Act.put,sA,sZ,sS]);obtain⟨an,ao,ap,bV⟩:=aq;obtain⟨T,hT⟩:=gX (Pb x ((u:Int):Rat));have HT:=ia hT;have aY:=me ap;have a6:=fun W=>vi W u (by unfold Bd at ap;omega) (by unfold Bd at ap;omega);have bv:=ia a6;clear a6 hT;refine Ec (i:=3) (bv.o _) ?_;rintro e w3 ⟨v3,rfl,bb,hx3⟩;obtain⟨a3,m3,c3,t,b3,n3,k3,rfl⟩:=bb.form;refine⟨_,rfl,(Xh.ext (by assumption) hx3),fun f=>?_⟩;have aK:=Mi w3 (Oe #[O ya ym yc,U ys,O ab ad ac]) (Oe #[O a3 m3 c3,U t,O b3 n3 k3]) x ((u:Int):Rat) (be.ext hx3) bb (Hb.o.mono dM) (aY.mono dM);rw[HT.o]at aK;have bw:=ia aK;clear aK;refine Ec (i:=4) bw.o ?_;rintro e w4 ⟨rfl,hx4⟩;refine⟨_,rfl,(Xh.ext (by assumption) hx4),fun f=>?_⟩;refine Pc (i:=5) (oi:=?oix4) ?hix4 ?hx4
  case hix4=>(simp only[gA,gS,gZ];rfl)
  refine⟨?_,by kernel_rfl,by kernel_rfl,by kernel_rfl,fun _ _ _ h=>h,Or.inl ⟨by rfl,?_⟩,by assumption,?_⟩;rotate_left 1
  ·(intro w d;rcases d with ⟨R,s1,p,t,s4,s5,s6⟩;go_simp;try(with_reducible rfl))
  (try simp only[Act.put,sA,sZ,sS]);refine wpAnyH_done kM ?_ _;have X4:oa W w4:=((eR W).drew.trans hx3).trans hx4;have b8:=bs.o.ext X4;have aG:=h4.ext X4;have cR:w.heap.size+1+1+1<=w4.heap.size:=nT h2 X4.size;by_cases a4:T<=0
  ·have y:Jh x ((g,j),u,bz)=true:=by unfold Jh;rw[HT.o];simpa using a4
   have aE:=ia y;have bt:=ia X4;have bj:=ia aG;have bd:La w4.drew (Oe #[O ya ym yc,U ys,O ab ad ac]) x:=bf.ext X4.drew;have bB:=ia bd;clear y X4 aG bd f be;unfold NQ
   gi_wp2
   refine Gs (S:=Xh w.heap.size B ya ym yc ys ab ad ac g j u bz) kM kM (b8.ext (eR w4).drew) (fun f=>?_);have d1:Bd 1000000 (bz-j)/\Bd 1000000 (u-g):=⟨(bV.sub ao).mono dM,(ap.sub an).mono dM⟩;have g1:IntKind.i64.wrap (bz-j)=bz-j:=iW _ ⟨by unfold Bd at d1;omega,by unfold Bd at d1;omega⟩;have g2:IntKind.i64.wrap (u-g)=u-g:=iW _ ⟨by unfold Bd at d1;omega,by unfold Bd at d1;omega⟩;have Q1:=me (k:=104000) (n:=g) an;have Q2:=me (k:=104000) (n:=j) ao;have Q3:Rb 1 ((bz-j:Int):Rat):=me d1.1;have Q4:Rb 1 ((u-g:Int):Rat):=me d1.2;have Q5:=Hb.o.sub (Q1.mono (k:=1000) dM);have Q6:=Q5.mul Q3;have Q7:=Q6.div Q4 dM;have bl:=ia Q1;have bm:=ia Q2;have bn:=ia Q3;have bo:=ia Q4;have bp:=ia Q5;have bq:=ia Q6;have br:=ia Q7;have Ha:=ia (fun W=>vi W j (by unfold Bd at ao;omega) (by unfold Bd at ao;omega));have Hc:=ia (fun W=>vi W g (by unfold Bd at an;omega) (by unfold Bd at an;omega));have Hd:=ia (fun W=>vi W (bz-j) (by unfold Bd at d1;omega) (by unfold Bd at d1;omega));have He:=ia (fun W=>vi W (u-g) (by unfold Bd at d1;omega) (by unfold Bd at d1;omega));clear Q1 Q2 Q3 Q4 Q5 Q6 Q7 aY;refine Pc (i:=0) (oi:=?oix5) ?hix5 ?hx5
   case hix5=>(simp only[gA,gS,gZ];rfl)
   refine⟨?_,by kernel_rfl,by kernel_rfl,by kernel_rfl,fun _ _ _ h=>h,Or.inl ⟨by rfl,?_⟩,by assumption,?_⟩;rotate_left 1
   ·(intro w d;rcases d with ⟨R,s1,p,t,s4,s5,s6⟩;go_simp;try(with_reducible rfl))
   (try simp only[Act.put,sA,sZ,sS]);refine Pc (i:=1) (oi:=?oix6) ?hix6 ?hx6
   case hix6=>(simp only[gA,gS,gZ];rfl)
   refine⟨?_,by kernel_rfl,by kernel_rfl,by kernel_rfl,fun _ _ _ h=>h,Or.inl ⟨by rfl,?_⟩,by assumption,?_⟩;rotate_left 1
   ·(intro w d;rcases d with ⟨R,s1,p,t,s4,s5,s6⟩;go_simp;try(with_reducible rfl))
   (try simp only[Act.put,sA,sZ,sS]);refine Pc (i:=3) (oi:=?oix7) ?hix7 ?hx7
   case hix7=>(simp only[gA,gS,gZ];rfl)
   refine⟨?_,by kernel_rfl,by kernel_rfl,by kernel_rfl,fun _ _ _ h=>h,Or.inl ⟨by rfl,?_⟩,by assumption,?_⟩;rotate_left 1
   ·(intro w d;rcases d with ⟨R,s1,p,t,s4,s5,s6⟩;go_simp;try(with_reducible rfl))
   (try simp only[Act.put,sA,sZ,sS]);refine Pc (i:=4) (oi:=?oix8) ?hix8 ?hx8
   case hix8=>(simp only[gA,gS,gZ];rfl)
   refine⟨?_,by kernel_rfl,by kernel_rfl,by kernel_rfl,fun _ _ _ h=>h,Or.inl ⟨by rfl,?_⟩,by assumption,?_⟩;rotate_left 1
   ·(intro w d;rcases d with ⟨R,s1,p,t,s4,s5,s6⟩;go_simp;try(with_reducible rfl))
   (try simp only[Act.put,sA,sZ,sS]);refine Pc (i:=5) (oi:=?oix9) ?hix9 ?hx9
   case hix9=>(simp only[gA,gS,gZ];rfl)
   refine⟨?_,by kernel_rfl,by kernel_rfl,by kernel_rfl,fun _ _ _ h=>h,Or.inl ⟨by rfl,?_⟩,by assumption,?_⟩;rotate_left 1
   ·(intro w d;rcases d with ⟨R,s1,p,t,s4,s5,s6⟩;go_simp;try(with_reducible rfl))
   (try simp only[Act.put,sA,sZ,sS]);refine Pc (i:=8) (oi:=?oix10) ?hix10 ?hx10
   case hix10=>(simp only[gA,gS,gZ];rfl)
   refine⟨?_,by kernel_rfl,by kernel_rfl,by kernel_rfl,fun _ _ _ h=>h,Or.inl ⟨by rfl,?_⟩,by assumption,?_⟩;rotate_left 1
   ·(intro w d;rcases d with ⟨R,s1,p,t,s4,s5,s6⟩;go_simp;try(with_reducible rfl))
   (try simp only[Act.put,sA,sZ,sS]);refine Pc (i:=9) (oi:=?oix11) ?hix11 ?hx11
   case hix11=>(simp only[gA,gS,gZ];rfl)
   refine⟨?_,by kernel_rfl,by kernel_rfl,by kernel_rfl,fun _ _ _ h=>h,Or.inl ⟨by rfl,?_⟩,by assumption,?_⟩;rotate_left 1
   ·(intro w d;rcases d with ⟨R,s1,p,t,s4,s5,s6⟩;go_simp;try(with_reducible rfl))
   (try simp only[Act.put,sA,sZ,sS]);refine Pc (i:=10) (oi:=?oix12) ?hix12 ?hx12
   case hix12=>(simp only[gA,gS,gZ];rfl)
   refine⟨?_,by kernel_rfl,by kernel_rfl,by kernel_rfl,fun _ _ _ h=>h,Or.inl ⟨by rfl,?_⟩,by assumption,?_⟩;rotate_left 1
   ·(intro w d;rcases d with ⟨R,s1,p,t,s4,s5,s6⟩;go_simp;try(with_reducible rfl))
   (try simp only[Act.put,sA,sZ,sS]);refine Pc (i:=11) (oi:=?oix13) ?hix13 ?hx13
   case hix13=>(simp only[gA,gS,gZ];rfl)
   refine⟨?_,by kernel_rfl,by kernel_rfl,by kernel_rfl,fun _ _ _ h=>h,Or.inl ⟨by rfl,?_⟩,by assumption,?_⟩;rotate_left 1
   ·(intro w d;rcases d with ⟨R,s1,p,t,s4,s5,s6⟩;go_simp;try(with_reducible rfl))
   (try simp only[Act.put,sA,sZ,sS]);refine Pc (i:=12) (oi:=?oix14) ?hix14 ?hx14
   case hix14=>(simp only[gA,gS,gZ];rfl)
   refine⟨?_,by kernel_rfl,by kernel_rfl,by kernel_rfl,fun _ _ _ h=>h,Or.inl ⟨by rfl,?_⟩,by assumption,?_⟩;rotate_left 1
   ·(intro w d;rcases d with ⟨R,s1,p,t,s4,s5,s6⟩;go_simp;try(with_reducible rfl))
   (try simp only[Act.put,sA,sZ,sS]);refine Pc (i:=15) (oi:=?oix15) ?hix15 ?hx15
   case hix15=>(simp only[gA,gS,gZ];rfl)
   refine⟨?_,by kernel_rfl,by kernel_rfl,by kernel_rfl,fun _ _ _ h=>h,Or.inl ⟨by rfl,?_⟩,by assumption,?_⟩;rotate_left 1
   ·(intro w d;rcases d with ⟨R,s1,p,t,s4,s5,s6⟩;go_simp;try(with_reducible rfl))
   (try simp only[Act.put,sA,sZ,sS]);refine Pc (i:=16) (oi:=?oix16) ?hix16 ?hx16
   case hix16=>(simp only[gA,gS,gZ];rfl)
   refine⟨?_,by kernel_rfl,by kernel_rfl,by kernel_rfl,fun _ _ _ h=>h,Or.inl ⟨by rfl,?_⟩,by assumption,?_⟩;rotate_left 1
   ·(intro w d;rcases d with ⟨R,s1,p,t,s4,s5,s6⟩;go_simp;try(with_reducible rfl))
   (try simp only[Act.put,sA,sZ,sS]);refine Pc (i:=17) (oi:=?oix17) ?hix17 ?hx17
   case hix17=>(simp only[gA,gS,gZ];rfl)
   refine⟨?_,by kernel_rfl,by kernel_rfl,by kernel_rfl,fun _ _ _ h=>h,Or.inl ⟨by rfl,?_⟩,by assumption,?_⟩;rotate_left 1
   ·(intro w d;rcases d with ⟨R,s1,p,t,s4,s5,s6⟩;go_simp;try(with_reducible rfl))
   (try simp only[Act.put,sA,sZ,sS]);refine Pc (i:=18) (oi:=?oix18) ?hix18 ?hx18
   case hix18=>(simp only[gA,gS,gZ];rfl)
   refine⟨?_,by kernel_rfl,by kernel_rfl,by kernel_rfl,fun _ _ _ h=>h,Or.inl ⟨by rfl,?_⟩,by assumption,?_⟩;rotate_left 1
   ·(intro w d;rcases d with ⟨R,s1,p,t,s4,s5,s6⟩;go_simp;try(with_reducible rfl))
   (try simp only[Act.put,sA,sZ,sS]);refine Pc (i:=19) (oi:=?oix19) ?hix19 ?hx19
   case hix19=>(simp only[gA,gS,gZ];rfl)
   refine⟨?_,by kernel_rfl,by kernel_rfl,by kernel_rfl,fun _ _ _ h=>h,Or.inl ⟨by rfl,?_⟩,by assumption,?_⟩;rotate_left 1
   ·(intro w d;rcases d with ⟨R,s1,p,t,s4,s5,s6⟩;go_simp;try(with_reducible rfl))
   (try simp only[Act.put,sA,sZ,sS]);refine Ec (i:=2) (Ha.o _) ?_;rintro e dd ⟨c5,rfl,ar,aj⟩;obtain⟨bF,ci,bW,cz,bM,cp,cb,rfl⟩:=ar.form;refine⟨_,rfl,(Xh.ext (by assumption) aj),fun f=>?_⟩;refine Ec (i:=6) (Hc.o _) ?_;rintro e cI ⟨c6,rfl,au,ae⟩;obtain⟨bG,cj,bX,cB,bN,cq,cc,rfl⟩:=au.form;refine⟨_,rfl,(Xh.ext (by assumption) ae),fun f=>?_⟩;have K7:=ia (Ak cI (Oe #[O ya ym yc,U ys,O ab ad ac]) (Oe #[O bG cj bX,U cB,O bN cq cc]) x ((g:Int):Rat) (bB.o.ext (aj.trans ae)) au (Hb.o.mono dM) (bl.o.mono dM));refine Ec (i:=7) K7.o ?_;rintro e de ⟨c7,rfl,av,ak⟩;obtain⟨bH,ck,bY,cC,bO,cr,cd,rfl⟩:=av.form;refine⟨_,rfl,(Xh.ext (by assumption) ak),fun f=>?_⟩;refine Ec (i:=13) (Hd.o _) ?_;rintro e cJ ⟨c8,rfl,aw,af⟩;obtain⟨bI,cl,bZ,cD,bP,cs,ce,rfl⟩:=aw.form;refine⟨_,rfl,(Xh.ext (by assumption) af),fun f=>?_⟩;have bC:=ia (rr cJ (Oe #[O bH ck bY,U cC,O bO cr cd]) (Oe #[O bI cl bZ,U cD,O bP cs ce]) (x-((g:Int):Rat)) ((bz-j:Int):Rat) (av.ext af) aw (bp.o.mono dM) (bn.o.mono dM));refine Ec (i:=14) bC.o ?_;rintro e dg ⟨c9,rfl,ay,al⟩;obtain⟨bJ,cm,b0,cF,bQ,ct,cf,rfl⟩:=ay.form;refine⟨_,rfl,(Xh.ext (by assumption) al),fun f=>?_⟩;refine Ec (i:=20) (He.o _) ?_;rintro e cK ⟨da,rfl,aA,ag⟩;obtain⟨bK,cn,b1,cG,bT,cu,cg,rfl⟩:=aA.form;refine⟨_,rfl,(Xh.ext (by assumption) ag),fun f=>?_⟩;have bD:=ia (ou cK (Oe #[O bJ cm b0,U cF,O bQ ct cf]) (Oe #[O bK cn b1,U cG,O bT cu cg]) ((x-((g:Int):Rat))*((bz-j:Int):Rat)) ((u-g:Int):Rat) (ay.ext ag) aA (bq.o.mono dM) (bo.o.mono dM));refine Ec (i:=21) bD.o ?_;rintro e cL ⟨db,rfl,aB,am⟩;obtain⟨bL,co,b4,cH,bU,cv,ch,rfl⟩:=aB.form;refine⟨_,rfl,(Xh.ext (by assumption) am),fun f=>?_⟩;have bE:=ia (Tl cL (Oe #[O bF ci bW,U cz,O bM cp cb]) (Oe #[O bL co b4,U cH,O bU cv ch]) ((j:Int):Rat) (((x-((g:Int):Rat))*((bz-j:Int):Rat))/((u-g:Int):Rat)) (ar.ext (((((ae.trans ak).trans af).trans al).trans ag).trans am)) aB (bm.o.mono dM) (br.o.mono dM));refine Ec (i:=22) bE.o ?_;rintro e aV ⟨dc,rfl,aC,aD⟩;obtain⟨cO,c0,cQ,c4,cP,c1,cZ,rfl⟩:=aC.form;refine⟨_,rfl,(Xh.ext (by assumption) aD),fun f=>?_⟩;have aZ:oa w4.drew aV:=((((((aj.trans ae).trans ak).trans af).trans al).trans ag).trans am).trans aD;have aH:=bj.o.ext ((eR w4).drew.trans aZ);obtain⟨_,_,_,_,_,_,_,o0,o1,o2,cw,cx,cy,zo,_⟩:=aH.rd;have bk:=ia aH;clear aH;have cX:¬w.heap.size+1=w.heap.size:=oM;have cW:¬w.heap.size+1=B/\¬w.heap.size+1=B+1:=⟨by omega,by omega⟩;have a5:Ug x ((g,j),u,bz)=((j:Int):Rat)+((x-((g:Int):Rat))*((bz-j:Int):Rat))/((u-g:Int):Rat):=rfl;have bu:=ia a5;clear a5;refine Je (i:=23) fun K hK=>?_;go_simp;refine kO hK ((((show Xh w.heap.size B ya ym yc ys ab ad ac g j u bz aV by assumption).set dO dO dO _).set dO dO dO _).set dO dO dO _) (fun _=>?_);clear hK K;refine wpAnyH_done kM ?_ _;unfold NQ
   gi_wp2
   have X9:oa W aV:=bt.o.trans ((eR w4).drew.trans aZ);refine⟨(((il X9).trans ((KeepsOthers.setCell _ _ _).from _)).trans ((KeepsOthers.setCell _ _ _).from _)).trans ((KeepsOthers.setCell _ _ _).from _),rfl,(((z.trans X9).set dO _).set dO _).set dO _,by simp only[sf];exact nT h2 X9.size,pre,_,rfl,h5,aE.o,?_⟩;dsimp only;rw[bu.o];exact bk.o.put aC
  ·have y:Jh x ((g,j),u,bz)=false:=by unfold Jh;rw[HT.o];simpa using a4
   have cT:0<T:=oM;have aE:=ia y;clear y;unfold NQ
   gi_wp2
   refine⟨il X4,(Mc.refl w _ W).ext X4 z.size oM,z.trans X4,nT h2 X4.size,h3.ext X4,aG,fun e he=>?_⟩;rcases List.mem_append.1 he with he|he
   ·exact h5 e he
   ·rw[List.mem_singleton.1 he];exact aE.o
 case done =>
  rintro D ys W hD rfl ⟨z,h2,h3,h4,h5⟩ hK;obtain⟨m,rfl⟩:∃m,n=m+1:=⟨n-1,by have:=List.length_pos_iff.2 aX.o.1;rw[Hn.o]at this;omega⟩;obtain⟨⟨qx,qz⟩,hq⟩:∃q,ps[m]?=M q:=⟨ps[m]'(by rw[Hn.o];omega),by simp⟩;obtain⟨b,o,rfl,hb,d0,d1⟩:=(h.i z).at' hq;have hR:Sb ps x=((qz:Int):Rat):=gG aW.o h5 (q:=(qx,qz)) (by rw[Hn.o];exact hq);have ai:=aX.o.2.1 (qx,qz) (lM hq);have a8:=fun W=>vi W qz (by unfold Bd at ai;dsimp only at ai;omega) (by unfold Bd at ai;dsimp only at ai;omega);have y:=h.le;have cV:m+1<=9223372036854775807:=by rw[Hn.o]at y;unfold maxLen at y;omega
  have bA:=ia a8;have aF:=ia hR;have p1:(0:Int)<=(m:Int):=oM;have p2:(m:Int)<((m+1:Nat):Int):=oM;have u1:((m+1:Nat):Int)-1=(m:Int):=oM;have zD:D<W.heap.size:=jc hK;clear a8 hR hq ai y
  gi_wp2_with(refine⟨trivial,?_⟩;gi_at_call 44;(with_reducible refine(callsIn_wide.2 (bA.o _)).mono ?_);rintro e w2 ⟨r2,rfl,ba,hx2⟩;obtain⟨a2,m2,c2,p,b2,n2,k2,rfl⟩:=ba.form;have a1:=h4.ext hx2;obtain⟨_,_,_,_,_,_,_,o0,o1,o2,cw,cx,cy,zo,_⟩:=a1.rd;have b5:=hx2.e hK)
  have hP:=a1.put ba;have cS:¬D=w.heap.size+1:=oM;have a0:(((w2.setCell ⟨w.heap.size+1,0,I⟩ (O a2 m2 c2)).setCell ⟨w.heap.size+1,1,I⟩ (U p)).setCell ⟨w.heap.size+1,2,I⟩ (O b2 n2 k2)).heap[D]?=M (.deferred (M [])):=by
   rw[bS _ _ _ _ dO,bS _ _ _ _ dO,bS _ _ _ _ dO];exact b5
  have b9:oa w (((w2.setCell ⟨w.heap.size+1,0,I⟩ (O a2 m2 c2)).setCell ⟨w.heap.size+1,1,I⟩ (U p)).setCell ⟨w.heap.size+1,2,I⟩ (O b2 n2 k2)):=
   (((z.trans hx2).set dO _).set dO _).set dO _
  have ah:=ut a0 (.deferred I);have aI:=hP.sim ah;obtain⟨pa,pm,aP,aR,aM,aQ,aO,aS,aT,aU,_,_,_,_,hz⟩:=aI.rd;refine⟨by simp,.inl ⟨_,_,rfl,run_takeDeferred a0,?_⟩⟩;refine⟨Oe #[O pa pm aP,U aR,O aM aQ aO],by simp[results,Tryz.results47,go_sem,aS,aT,aU],?_⟩;rw[aF.o];exact⟨_,rfl,hz,ah.ext b9 oM⟩
 case stop =>
  rintro D c pre W hD a9 ⟨rfl,z,h2,p',e,rfl,h4,h5,h6⟩ hK;have hR:=jD aW.o a9 h4 h5;have aF:=ia hR;clear hR
  gi_wp2
  have ah:=ut hK (.deferred I);have aI:=h6.sim ah;obtain⟨pa,pm,aP,aR,aM,aQ,aO,aS,aT,aU,_,_,_,_,hz⟩:=aI.rd;refine⟨by simp,.inl ⟨_,_,rfl,run_takeDeferred hK,?_⟩⟩;refine⟨Oe #[O pa pm aP,U aR,O aM aQ aO],by simp[results,Tryz.results47,go_sem,aS,aT,aU],?_⟩;rw[aF.o];exact⟨_,rfl,hz,ah.ext z oM⟩
end
section
open Go.RowKit Go.Shelf
def Jp(a:List Nat):List Deferred:=a.map fun D=>{ target:=.collected D,args:=#[] }
def zd(W:Z)(a:List Nat):Prop:=a.Nodup/\∀D∈a,W.heap[D]?=M (.deferred (M []))
def zd.ext{W W':Z}{a:List Nat}(h:zd W a)(k:oa W W'):zd W' a:=⟨h.1,fun D c=>k.e (h.2 D c)⟩
def zd.nil(W:Z):zd W []:=⟨List.nodup_nil,fun D a=>by cases a⟩
def zd.cons{W:Z}{a:List Nat}{D:Nat}(h:zd W a)(d:W.heap[D]?=M (.deferred (M [])))(e:D ∉ a):zd W (D::a):=
 ⟨List.nodup_cons.2 ⟨e,h.1⟩,fun E c=>by rcases List.mem_cons.1 c with rfl|c;exact d;exact h.2 E c⟩
def zd.set{W:Z}{a:List Nat}(h:zd W a){p:Of}{cs:Array N}{T:TypeId}{d:Nat×Nat}(f:W.heap[p.block]?=M (Oc cs T d))(u:N):zd (W.setCell p u) a:=
 ⟨h.1,fun D c=>by rw[bS _ _ _ _ (by intro e;have:=h.2 D c;rw[e,f]at this;cases this)];exact h.2 D c⟩
def zd.grown{W W':Z}{d:List Nat}{row:Option Nat}(h:zd W d)(g:W.grownBy W' row)(c:∀r,row=M r->∃cs T fr,W.heap[r]?=M (Oc cs T fr)):zd W' d:=
 ⟨h.1,fun D f=>by
  have a:=h.2 D f;rw[g.block D (jc a) (fun e=>by obtain⟨cs,T,fr,c⟩:=c D e.symm;rw[c]at a;cases a)];exact a⟩
def oo{n:Nat}{P:Program}{g:Func}{tmps:Array N}{R:Ending->Z->Prop}:∀(a:List Nat)(W:Z),zd W a ->(∀W':Z,(∀B,(∀D∈a,B<=D)->Uh B W W')->LeavesInM Fence.wide n P g tmps R [] .returning W')->LeavesInM Fence.wide n P g tmps R (Jp a) .returning W
 | [],W,_,h=>h W (fun B _=>⟨Below.refl _ _,fun _ _ h _=>h⟩)
 | D::a,W,hm,h=>by
  have l:=hm.2 D sM;have q:=ut l (.deferred I);refine⟨by simp,.inl ⟨D,_,rfl,run_takeDeferred l,?_⟩⟩;refine oo a _ ⟨(List.nodup_cons.1 hm.1).2,fun E c=>?_⟩ (fun W' d=>h W' (fun B j=>?_))
  ·have f:E≠D:=fun e=>(List.nodup_cons.1 hm.1).1 (e▸c);rw[World.putObj_heap_other f];exact hm.2 E (mC _ c)
  ·have i:=d B (fun E c=>j E (mC _ c));exact⟨(Below.mono q.1 (j D sM)).trans i.1,fun k o r p=>i.2 k o (q.2 k o r p) p⟩
def Ca:List (Of×N)->Z->Prop
 | [],_=>True
 | (a,v)::r,W=>W.cell? a=M v/\Ca r W
def Ca.ext:∀{L:List (Of×N)}{W W':Z},Ca L W->oa W W'->Ca L W'
 | [],_,_,_,_=>trivial
 | _::_,_,_,⟨h1,h2⟩,k=>⟨k.d h1,h2.ext k⟩
def cE{L:List (Of×N)}{W W':Z}(h:Ca L W)(k:oa W W'):Ca L W':=h.ext k
def cA{L:List (Of×N)}{W:Z}(h:Ca L W:=by(repeat(first|exact trivial|refine⟨by go_simp,?_⟩))):Ca L W:=h
def Ca.set:∀{L:List (Of×N)}{W:Z}{p:Of},Ca L W->(∀q∈L,p.block≠q.1.block)->∀u,Ca L (W.setCell p u)
 | [],_,_,_,_,_=>trivial
 | (a,v)::r,W,p,⟨h1,h2⟩,hn,u=>⟨by rw[World.cell?_setCell_far _ _ _ _ (hn (a,v) (by simp))];exact h1,h2.set (fun q c=>hn q (mC _ c)) u⟩
def Ca.set3{L:List (Of×N)}{W:Z}{b:Nat}(h:Ca L W)(a:∀q∈L,b≠q.1.block)(u v t:N):Ca L (((W.setCell ⟨b,0,I⟩ u).setCell ⟨b,1,I⟩ v).setCell ⟨b,2,I⟩ t):=
 ((h.set a u).set a v).set a t
def Ke{P:Program}{ops:Array Oper}{Q:Exit->Od->Z->Prop}{e:Nat}{a:Od}{w:Z}(L:List (Of×N))(c:Ca L w.drew)(h:Ca L w.drew->wpAnyH P .any ops Q (Ca L) ops.size (Array.replicate ops.size false) a w.drew)(d:P.follows .mixedOrders=true:=by kernel_rfl):(Code.region e ops true).wp P Q a w:=wp_region_held_drew (S:=Ca L) d c h
def Ca.nil(W:Z):Ca [] W:=trivial
structure Sp where
 over:LP
 under:LP
 lo:Int
 hi:Int
def Db(s:Sp)(x:Rat):Rat:=Sb s.over x-Sb s.under x
def MD(w:Z)(s:Sp)(v1 v2 vx:N)(x:Rat)(h1:Aa w v1 s.over)(h2:Aa w v2 s.under)(k1:Fb s.over)(k2:Fb s.under)(hx:La w vx x)(hb:Rb 1000 x)(g:Rb Yb (Sb s.over x))(j:Rb Yb (Sb s.under x)):Calls Tryz.prog 157 #[Oe #[v1,v2,Oa Ob s.lo,Oa Ob s.hi],vx] w (Id w (Db s x)):=by
 obtain⟨a1,m1,rfl⟩:=h1.form;obtain⟨a2,m2,rfl⟩:=h2.form;obtain⟨xa,xm,xc,xs,z,T,R,rfl⟩:=hx.form;obtain⟨n1,o⟩:=gX s.over.length;obtain⟨n2,p⟩:=gX s.under.length;rw[o]at h1 ⊢;rw[p]at h2 ⊢;obtain⟨lo,l⟩:=gX s.lo;obtain⟨hi,k⟩:=gX s.hi;rw[l,k];have H1:=ia (fun(W:Z)(f:oa w W)=>tl W _ _ s.over x (h1.i f) k1 (hx.ext f) hb);have H2:=ia (fun(W:Z)(f:oa w W)=>tl W _ _ s.under x (h2.i f) k2 (hx.ext f) hb);have aa:=ia g;have ab:=ia j;clear g j hb o p l k k1 k2 h1 h2;go_in;go_wp2;refine Ke [(⟨w.heap.size,0,I⟩,O a1 n1 m1),(⟨w.heap.size,1,I⟩,O a2 n2 m2),(⟨w.heap.size+1,0,I⟩,O xa xm xc),(⟨w.heap.size+1,1,I⟩,U xs),(⟨w.heap.size+1,2,I⟩,O z T R)] (by refine⟨?_,?_,?_,?_,?_,trivial⟩<;>go_simp) fun a=>?_;refine sN 0 ?_
 iterate 3 refine Fc ?_
 refine oN ?_;refine sN 4 ?_
 iterate 3 refine Fc ?_
 refine oN ?_;refine Ec (i:=3) (H1.o _ eA) ?_;rintro e w3 ⟨r3,rfl,r,y⟩;obtain⟨a3,m3,c3,s3,b3,n3,k3,rfl⟩:=r.form;refine⟨_,rfl,(cE a y),fun a=>?_⟩;have X3:oa w w3:=eA;refine Ec (i:=7) (H2.o _ X3) ?_;rintro e w4 ⟨r4,rfl,t,c⟩;obtain⟨a4,m4,c4,s4,b4,n4,k4,rfl⟩:=t.form;refine⟨_,rfl,(cE a c),fun a=>?_⟩;have K5:=ia (Ak w4 _ _ _ _ (r.ext c) t aa.o ab.o);refine Ec (i:=8) K5.o ?_;rintro e w5 ⟨r5,rfl,u,d⟩;obtain⟨a5,m5,c5,s5,b5,n5,k5,rfl⟩:=u.form;refine⟨_,rfl,(cE a d),fun a=>?_⟩;have hO:RB w5 (w.heap.size+1+1) 0:=(((RB.new (La.zero _) sM).ext ((eR _).drew.trans y)).ext c).ext d;obtain⟨_,_,_,_,_,_,_,o0,o1,o2,al,am,an,zo,_⟩:=hO.rd;have ac:∀q∈[((⟨w.heap.size,0,I⟩:Of),Value.slice a1 n1 m1),(⟨w.heap.size,1,I⟩,O a2 n2 m2),(⟨w.heap.size+1,0,I⟩,O xa xm xc),(⟨w.heap.size+1,1,I⟩,U xs),(⟨w.heap.size+1,2,I⟩,O z T R)],w.heap.size+1+1≠q.1.block:=by
  simp;omega
 refine Je (i:=9) fun K hK=>?_;go_simp;refine kO hK (Ca.set3 (by assumption) ac _ _ _) (fun a=>?_);clear hK K;refine Wd ?_;go_wp2;have hP:=hO.put u;obtain⟨pa,pm,af,ah,ad,ag,ae,ai,aj,ak,_,_,_,_,hz⟩:=hP.rd;exact bR (v:=Oe #[O pa pm af,U ah,O ad ag ae]) (by simp[results,Tryz.results157,go_sem,ai,aj,ak]) rfl ⟨_,rfl,hz,((((X3.trans c).trans d).set dO _).set dO _).set dO _⟩
section
variable {P:Program} {ops:Array Oper} {Q:Exit->Od->Z->Prop} {md:Region.Mode} {S:Z->Prop} {late:Nat->Bool}
def HU(P:Program)(md:Region.Mode)(ops:Array Oper)(Q:Exit->Od->Z->Prop)(S:Z->Prop)(late:Nat->Bool):Nat->Array Bool->Od->Z->Prop
 | 0,c,a,w=>Region.ready md ops c=[]/\Q .normal a w
 | fuel+1,c,a,w =>
  (Region.ready md ops c=[]->Q .normal a w)/\
  ∀i∈Region.ready md ops c,wpOp P ops Q i (fun e d=>(late i=false->S d)/\HU P md ops Q S late fuel (c.setIfInBounds i true) e d) a w
def Gu:∀(fuel:Nat)(c:Array Bool)(a:Od)(w:Z),HU P md ops Q S late fuel c a w->wpAny P md ops Q fuel c a w
 | 0,_,_,_,h=>h
 | fuel+1,_,_,_,h=>⟨h.1,fun i f=>wpOp_mono (fun d g e=>Gu fuel _ d g e.2) (h.2 i f)⟩
def jG{m i:Nat}{oi:Oper}{v:N}(hg:Qg md ops late m=true)(ac:late i=false)(hi:ops[i]?=M oi)(r:∀(j:Nat)(o:Oper) x b,ops[j]?=M o->o.op ≠ .select x b)(hQ:∀c a w,Q (.panic c) (a.put oi.dst v) w->Q (.panic c) a w):∀(fuel:Nat)(d:Array Bool)(a:Od)(w:Z),Cl md ops d ->(∀j oj,ops[j]?=M oj->j≠i->d.getD j true=false->(∀e∈oj.after,Region.binds md e=true->e.on≠i)->oi.apart ops oj=true) ->i∈Region.ready md ops d->YieldsIf P ops S oi v a->S w ->HU P md ops Q S late fuel (d.setIfInBounds i true) (a.put oi.dst v) w->HU P md ops Q S late (fuel+1) d a w:=by
 intro fuel;induction fuel with
 |zero=>
  intro d a w hc _ q hy y H;refine⟨fun h=>(by rw[h]at q;cases q),fun j u=>?_⟩;by_cases f:j=i
  ·subst f;exact hy.wpOp hi y ⟨fun _=>y,H⟩
  ·have:=ready_mono u f;rw[H.1]at this;cases this
 | succ fuel ih =>
  intro d a w hc g q hy y H;refine⟨fun h=>(by rw[h]at q;cases q),fun j u=>?_⟩;by_cases f:j=i
  ·subst f;exact hy.wpOp hi y ⟨fun _=>y,H⟩
  ·have s:=H.2 j (ready_mono u f);have ad:=QB hg hc q ac u;obtain⟨p,oj,t,z⟩:=mem_ready.1 u;have R:∀e∈oj.after,Region.binds md e=true->e.on≠i:=fun e he hb aa=>by
    have s:=z e he hb;have h0:=(mem_ready.1 q).1;rw[aa]at s;rcases Nat.lt_or_ge i d.size with h' | h'
    ·simp[h']at h0 s;rw[h0]at s;cases s
    ·simp[Array.getElem?_eq_none h']at s
   have h2:=wpOp_putIf t (g j oj t f p R) (fun x b=>r i oi x b hi) (fun x b=>r j oj x b t) hQ hy s;have l:∀k ok,ops[k]?=M ok->k≠i->(d.setIfInBounds j true).getD k true=false ->
     (∀e∈ok.after,Region.binds md e=true->e.on≠i)->oi.apart ops ok=true:=fun k ok hk ab T ae=>by
    refine g k ok hk ab ?_ ae;by_cases K:j=k
    ·subst K;exact p
    ·rw[getD_set_ne true K]at T;exact T
   refine wpOp_mono (fun a' w' h3=>⟨h3.2.1,ih (d.setIfInBounds j true) a' w' (hc.step u) l (ready_mono q (Ne.symm f)) h3.1 (h3.2.1 ad) ?_⟩) h2;rw[Array.setIfInBounds_comm _ _ f];exact h3.2.2
def xi(P:Program)(md:Region.Mode)(ops:Array Oper)(Q:Exit->Od->Z->Prop)(S:Z->Prop)(late:Nat->Bool)(fuel:Nat)(c:Array Bool)(a:Od)(w:Z):Prop:=Cl md ops c->HU P md ops Q S late fuel c a w
def En(P:Program)(md:Region.Mode)(ops:Array Oper)(Q:Exit->Od->Z->Prop)(S:Z->Prop)(late:Nat->Bool)(fuel:Nat)(d:Array Bool)(a:Od)(w:Z)(i:Nat)(oi:Oper):Prop:=
 ∃v,late i=false/\Region.noSelect ops=true/\Region.free md ops d i=true/\(Region.ready md ops d).contains i=true/\(∀c a w,Q (.panic c) (a.put oi.dst v) w->Q (.panic c) a w)/\YieldsIf P ops S oi v a/\S w/\
  xi P md ops Q S late fuel (d.setIfInBounds i true) (a.put oi.dst v) w
def Dk{m:Nat}(q:Qg md ops late m=true){i:Nat}{oi:Oper}{fuel:Nat}{c:Array Bool}{a:Od}{w:Z}(hi:ops[i]?=M oi)(h:En P md ops Q S late fuel c a w i oi):xi P md ops Q S late (fuel+1) c a w:=by
 obtain⟨v,f,g,j,k,l,o,h6,p⟩:=h;intro d;have e:i∈Region.ready md ops c:=by simpa using k
 exact jG q f hi (Region.noSelect_spec g) l fuel c a w d (Region.free_spec hi j) e o h6 (p (d.step e))
def Pn(P:Program)(md:Region.Mode)(ops:Array Oper)(Q:Exit->Od->Z->Prop)(S:Z->Prop)(late:Nat->Bool)(fuel:Nat)(c:Array Bool)(a:Od)(w:Z)(i:Nat)(o:Oper):Prop:=
 Region.ready md ops c=[i]/\∀K':Od->Z->Prop,Shut (∀a w,(late i=false->S w)->((late i=false->S w)->xi P md ops Q S late fuel (c.setIfInBounds i true) a w)->K' a w) ->
  if Region.wanted o (yielded ops a.tmps)=true then Oper.wp P o a w K' Q else K' (a.put o.dst undef) w
def zn{i:Nat}{o:Oper}{fuel:Nat}{c:Array Bool}{a:Od}{w:Z}(hi:ops[i]?=M o)(h:Pn P md ops Q S late fuel c a w i o):xi P md ops Q S late (fuel+1) c a w:=by obtain⟨g,h⟩:=h;intro q;refine⟨fun k=>absurd (g▸k) sM,fun j d=>?_⟩;have e:=d;rw[g]at d;cases List.mem_singleton.1 d;exact wpOp_step hi (fun K' l=>h K' (fun a w f p=>l a w ⟨f,p f (q.step e)⟩))
def Le{c:Array Bool}{a:Od}{w:Z}(d:Region.ready md ops c=[])(h:Q .normal a w):∀fuel,xi P md ops Q S late fuel c a w
 | 0=>fun _=>⟨d,h⟩
 | _+1=>fun _=>⟨fun _=>h,by rw[d];simp⟩
def Ae{v:N}{i:Nat}{oi:Oper}{fuel:Nat}{d:Array Bool}{a:Od}{w:Z}{G:Prop}(h:G)(p:Qg md ops late 12=true:=by kernel_rfl)(hi:ops[i]?=M oi:=by(simp only[gA,gS,gZ];rfl))(f:late i=false:=by rfl)(g:Region.noSelect ops=true:=by kernel_rfl)(j:Region.free md ops d i=true:=by kernel_rfl)(k:(Region.ready md ops d).contains i=true:=by kernel_rfl)(l:∀c a w,Q (.panic c) (a.put oi.dst v) w->Q (.panic c) a w:=by exact fun _ _ _ h=>h)(q:Region.wanted oi (yielded ops a.tmps)=true:=by rfl)(r:∀w,S w->(execOp a.eval oi).run P w = .ok (.value v) w:=by(intro w e;simp only[Ca,and_true]at e;go_simp;try(with_reducible rfl)))(h6:S w:=by(with_reducible assumption))(o:xi P md ops Q S late fuel (d.setIfInBounds i true) (a.put oi.dst v) w=G:=by((try simp only[Act.put,sA,sZ,sS]);rfl)):xi P md ops Q S late (fuel+1) d a w:=by subst o;exact Dk p hi ⟨v,f,g,j,k,l,Or.inl ⟨q,r⟩,h6,h⟩
def so{v:N}{i:Nat}{oi:Oper}{fuel:Nat}{d:Array Bool}{a:Od}{w:Z}{G:Prop}(h:G)(p:Qg md ops late 12=true:=by kernel_rfl)(hi:ops[i]?=M oi:=by(simp only[gA,gS,gZ];rfl))(f:late i=false:=by rfl)(g:Region.noSelect ops=true:=by kernel_rfl)(j:Region.free md ops d i=true:=by kernel_rfl)(k:(Region.ready md ops d).contains i=true:=by kernel_rfl)(l:∀c a w,Q (.panic c) (a.put oi.dst v) w->Q (.panic c) a w:=by exact fun _ _ _ h=>h)(q:Region.wanted oi (yielded ops a.tmps)=true:=by rfl)(r:∀w,S w->(execOp a.eval oi).run P w = .ok (.value v) w:=by(intro w e;simp only[Ca,and_true]at e;go_simp;try(with_reducible rfl)))(h6:S w:=by(with_reducible assumption))(o:mm (i+1) (xi P md ops Q S late fuel (d.setIfInBounds i true) (a.put oi.dst v) w)=G:=by((try simp only[Act.put,sA,sZ,sS,Nat.reduceAdd]);rfl)):mm i (xi P md ops Q S late (fuel+1) d a w):=by subst o;exact Dk p hi ⟨v,f,g,j,k,l,Or.inl ⟨q,r⟩,h6,h⟩
def Ah{i:Nat}{o:Oper}{fuel:Nat}{c:Array Bool}{a:Od}{w:Z}(h:∀K':Od->Z->Prop,Shut (∀a w,(late i=false->S w)->((late i=false->S w)->xi P md ops Q S late fuel (c.setIfInBounds i true) a w)->K' a w)->if Region.wanted o (yielded ops a.tmps)=true then Oper.wp P o a w K' Q else K' (a.put o.dst undef) w)(hi:ops[i]?=M o:=by(simp only[gA,gS,gZ];rfl))(d:Region.ready md ops c=[i]:=by kernel_rfl):xi P md ops Q S late (fuel+1) c a w:=zn hi ⟨d,h⟩
def Th{f:FuncId}{args:Array N}{Y:Ending->Z->Prop}{G:N->Z->Prop}{i:Nat}{o:Oper}{fuel:Nat}{c:Array Bool}{a:Od}{w:Z}(l:Calls P f args w Y)(h:∀e w',Y e w'->∃v,e=.returned v/\S w'/\(S w'->G v w'))(hi:ops[i]?=M o:=by(simp only[gA,gS,gZ];rfl))(r:Region.ready md ops c=[i]:=by kernel_rfl)(q:late i=false:=by rfl)(s:Region.wanted o (yielded ops a.tmps)=true:=by rfl)(t:(execOp a.eval o).run P w = .ok (.enter f args) w:=by(go_simp;try(with_reducible rfl)))(g:∀v w',xi P md ops Q S late fuel (c.setIfInBounds i true) (a.put o.dst v) w'=G v w':=by(intro v w';(try simp only[Act.put,sA,sZ,sS]);rfl)):xi P md ops Q S late (fuel+1) c a w:=by refine Ah (i:=i) (fun K j=>?_) hi r;rw[if_pos s];unfold Oper.wp;rw[t,Oper.upon_enter];refine l.mono fun e w' u=>?_;obtain⟨v,rfl,k,p⟩:=h e w' u;exact Shut.out j _ _ (fun _=>k) (fun d=>by rw[g];exact p (d q))
def Dj{i j:Nat}{oi f:Oper}{fuel:Nat}{c:Array Bool}{a:Od}{w:Z}(t:∀K':Od->Z->Prop,Shut (∀a w,(late i=false->S w)->((late i=false->S w)->xi P md ops Q S late fuel (c.setIfInBounds i true) a w)->K' a w)->if Region.wanted oi (yielded ops a.tmps)=true then Oper.wp P oi a w K' Q else K' (a.put oi.dst undef) w)(u:∀K':Od->Z->Prop,Shut (∀a w,(late j=false->S w)->((late j=false->S w)->xi P md ops Q S late fuel (c.setIfInBounds j true) a w)->K' a w)->if Region.wanted f (yielded ops a.tmps)=true then Oper.wp P f a w K' Q else K' (a.put f.dst undef) w)(hi:ops[i]?=M oi:=by(simp only[gA,gS,gZ];rfl))(v:ops[j]?=M f:=by(simp only[gA,gS,gZ];rfl))(r:Region.ready md ops c=[i,j]:=by kernel_rfl) :
  xi P md ops Q S late (fuel+1) c a w:=by
 intro q;refine⟨fun s=>absurd (r▸s) sM,fun k o=>?_⟩;have e:=o;rw[r]at o;rcases List.mem_cons.1 o with rfl|p
 ·exact wpOp_step hi (fun K' g=>t K' (fun a w d l=>g a w ⟨d,l d (q.step e)⟩))
 ·cases List.mem_singleton.1 p;exact wpOp_step v (fun K' g=>u K' (fun a w d l=>g a w ⟨d,l d (q.step e)⟩))
def tp{e:Nat}{a:Od}{w:Z}(late:Nat->Bool)(S:Z->Prop)(d:P.follows .mixedOrders=true)(c:S w.drew)(h:S w.drew->xi P .any ops Q S late ops.size (Array.replicate ops.size false) a w.drew):(Code.region e ops true).wp P Q a w:=
 wp_region_any d (Gu _ _ _ _ (h c (Cl.start _)))
end
def Xc:Code->List Code
 | .seq a b=>Xc a++Xc b
 | .cond _ a b=>Xc a++Xc b
 | .block _ b=>Xc b
 | .loop b=>b::Xc b
 | .rangeFunc _ _ a b=>Xc a++Xc b
 | .scope b=>Xc b
 | _=>[]
def Yg(f:Func)(k:Nat):Code:=match f.body with|some c=>(Xc c).getD k .skip|none=>.skip
end
section
open Go.RowKit Go.Shelf Go.Sort Go.Lib
def ic(z:Int):List N:=[Oa Ob z]
def JE:(Tryz.prog.info? 3).map (fun i=>(i.zero,i.size,i.bytes))=M (M (Oa Ob 0),1,8):=kM
def mt{zs:List Int}:∀c∈zs.map ic,c.length=1:=by intro c a;obtain⟨z,_,rfl⟩:=List.mem_map.1 a;rfl
def Uq(zs:List Int):(zs.map ic).flatten=zs.map (Value.int Ob):=by
 induction zs with
 | nil=>rfl
 | cons z zs a=>simp[ic,a]
def XC{zs:List Int}:∀u∈(zs.map ic).flatten,u.oneCell'=true:=by intro u a;rw[Uq]at a;obtain⟨z,_,rfl⟩:=List.mem_map.1 a;rfl
def Ga.ints{w:Z}{base g n c:Nat}{zs:List Int}(h:Ga 3 1 w base (O (M ⟨g,0,I⟩) n c) (zs.map ic)):base<=g/\g<w.heap.size/\n=zs.length/\zs.length<=c/\c<=maxLen/\Holds (Value.int Ob) w g 0 zs.toArray/\∃cur,w.heap[g]?=M (Oc cur 3 (0,0))/\cur.size=c*1/\cur.toList.take zs.length=zs.map (Value.int Ob):=by
 rcases h.2.2 with ⟨k,_⟩|⟨o,j,cur,hv,l,i,d,e,f,a⟩
 ·cases k
 ·cases hv;rw[Uq,lL,Nat.mul_one]at a;rw[lL]at d;exact⟨l,jc i,lL ..,d,e,holds_of_blockI i a,cur,i,f,a⟩
def Af(zs:List Int):List Int:=zs.mergeSort fun x y=>decide (x<=y)
def jp(zs:List Int):(Af zs).length=zs.length:=List.length_mergeSort _
def Zg{zs:List Int}{z:Int}:z∈Af zs ↔ z∈zs:=List.mem_mergeSort
def fJ(w:Z)(base g n c:Nat)(zs:List Int)(h:Ga 3 1 w base (O (M ⟨g,0,I⟩) n c) (zs.map ic))(p:zs.length<=1000000000):Calls Tryz.prog 160 #[O (M ⟨g,0,I⟩) n c] w fun e a=>e=.returned (.tuple #[])/\Ga 3 1 a base (O (M ⟨g,0,I⟩) n c) ((Af zs).map ic)/\w.grownBy a (M g):=by obtain⟨d,f,rfl,i,j,k,cur,h6,l,o⟩:=h.ints;refine(Tryz.slices_Sort_int g 0 c zs w k f oM).mono ?_;rintro e a ⟨rfl,n,os,rfl⟩;refine⟨rfl,⟨mt,?_⟩,grownBy_sortedI _⟩;have:=ownsRow_sortedI (base:=base) (n:=n) (os:=os) (ss:=zs) (ts:=Af zs) (jp zs) d h6 i j l;rw[Uq,lL,jp];exact this
def kC(zs:List Int):(compact zs).length<=zs.length:=by unfold compact compactUpTo;rw[lL];exact nT (List.length_filter_le _ _) sM
def jC{zs:List Int}{z:Int}(h:z∈compact zs):z∈zs:=by unfold compact compactUpTo at h;obtain⟨i,a,rfl⟩:=List.mem_map.1 h;have:=List.mem_range.1 (List.mem_filter.1 a).1;rw[getElem!_pos _ _ (by simpa using this)];simp
def rJ{zs:List Int}(h:zs≠[]):compact zs≠[]:=by obtain⟨z,r,rfl⟩:=List.exists_cons_of_ne_nil h;intro a;unfold compact compactUpTo at a;have c:=List.map_eq_nil_iff.1 a;have d:=(List.filter_eq_nil_iff.1 c) 0 sM;simp[keeps]at d
def XK(w:Z)(base g n c:Nat)(zs:List Int)(h:Ga 3 1 w base (O (M ⟨g,0,I⟩) n c) (zs.map ic))(u:zs.length<=1000000000):Calls Tryz.prog 161 #[O (M ⟨g,0,I⟩) n c] w fun e a=>e=.returned (O (M ⟨g,0,I⟩) (compact zs).length c)/\Ga 3 1 a base (O (M ⟨g,0,I⟩) (compact zs).length c) ((compact zs).map ic)/\w.grownBy a (M g):=by
 obtain⟨i,r,rfl,j,k,l,cur,h6,o,s⟩:=h.ints;refine(Tryz.slices_Compact_int g 0 c zs w l oM j).mono ?_;rintro e a ⟨rfl,q,rfl⟩;have t:=kC zs;have p:∀d,w.grownBy (putRow (Value.int Ob) (Sort.ahead w q) g 0 d) (M g):=fun d=>by
  have:=grownBy_sortedI (w:=w) (g:=g) (n:=q) (os:=#[]) d
  rwa [grow_empty]at this
 refine⟨rfl,⟨mt,?_⟩,p _⟩;rw[Uq,lL];refine⟨by simp,.inr ⟨g,c,putCells (Value.int Ob) 0 (compact zs++List.replicate (zs.length-(compact zs).length) 0).toArray cur,rfl,i,?_,by omega,k,?_,?_⟩⟩
 ·have:=heap_sortedI (n:=q) (os:=#[]) (compact zs++List.replicate (zs.length-(compact zs).length) 0).toArray h6
  rwa [grow_empty]at this
 ·simp[putCells,o]
 ·have:=take_putCellsI cur (compact zs++List.replicate (zs.length-(compact zs).length) 0) (by simp;omega);have f:=congrArg (List.take (compact zs).length) this;rw[List.take_take,lA,Nat.min_eq_left oM,List.map_append,List.take_left' sM]at f;rw[Nat.mul_one];exact f
end
section
open Go.RowKit Go.Shelf
section
variable {P:Program} {ops:Array Oper} {Q:Exit->Od->Z->Prop} {md:Region.Mode} {A B:Z->Prop} {pv:Nat}
def HV(P:Program)(md:Region.Mode)(ops:Array Oper)(Q:Exit->Od->Z->Prop)(A B:Z->Prop)(pv:Nat):Nat->Array Bool->Od->Z->Prop
 | 0,c,a,w=>Region.ready md ops c=[]/\Q .normal a w
 | fuel+1,c,a,w =>
  (Region.ready md ops c=[]->Q .normal a w)/\
  ∀i∈Region.ready md ops c,wpOp P ops Q i (fun e d=>(A d/\((c.setIfInBounds i true).getD pv false=false->B d))/\HV P md ops Q A B pv fuel (c.setIfInBounds i true) e d) a w
end
end
section
open Go.RowKit Go.Shelf
attribute [local go_sem] Oper.semAt_some
def Kb.drew{T:TypeId}{w:Z}{base:Nat}{v:N}{xs:List Int}(h:Kb T w base v xs):Kb T w.drew base v xs:=h
end
section
open Go.RowKit Go.Shelf Go.Sort Go.Lib
def Ga.keepT{T T':TypeId}{k:Nat}{w w':Z}{base:Nat}{v:N}{cs:List (List N)}(h:Ga T k w base v cs)(g:T≠T')(d:w.grownBy w' v.ownBlock):Fa T' w w':=fun b q r a=>by
 rw[d.block b (jc a) (fun e=>?_)];exact a;rcases h.2.2 with ⟨f,_⟩|⟨s,c,cur,hv,d,l,o,i,j,p⟩
 ·rw[f]at e;cases e
 ·rw[hv]at e;cases e;rw[l]at a;cases a;exact g rfl
def Zc(w:Z)(base:Nat)(v:N)(a:List Rat):Prop:=∃cs,Ga 43 3 w base v cs/\cs.length=a.length/\∀(i:Nat) c q,cs[i]?=M c->a[i]?=M q->PR w c q
def Zc.rs{w:Z}{base:Nat}{v:N}{a:List Rat}(h:Zc w base v a):Wf w v a:=by obtain⟨f,c,d,e⟩:=h;exact c.sl d e
def Zc.ext{w w':Z}{base:Nat}{v:N}{a:List Rat}(h:Zc w base v a)(k:oa w w'):Zc w' base v a:=by obtain⟨d,e,f,g⟩:=h;exact⟨d,e.ext k,f,fun i c q j l=>La.ext (g i c q j l) k⟩
def Zc.mono{w:Z}{base b':Nat}{v:N}{a:List Rat}(h:Zc w base v a)(k:b'<=base):Zc w b' v a:=by obtain⟨c,d,e,f⟩:=h;exact⟨c,d.mono k,e,f⟩
def Zc.nil(w:Z)(base:Nat):Zc w base (O I 0 0) []:=⟨[],Ga.nil _ _ _ _,rfl,fun i c q a=>by simp at a⟩
def Dm(w:Z)(a:List Rat)(e:Ending)(w':Z):Prop:=∃v,e=.returned v/\Zc w' w.heap.size v a/\oa w w'
def Qv:(Tryz.prog.info? 43).map (fun i=>(i.zero,i.size,i.bytes))=M (M (Oe #[O I 0 0,U false,O I 0 0]),3,56):=kM
def Rb.atE{x:Rat}{e:Md}(q:Rb 1 x)(h:Bd 104000 e.1.1/\Bd 104000 e.1.2/\Bd 104000 e.2.1/\Bd 104000 e.2.2):Rb 11 (Cop.Ug x e):=by
 obtain⟨o,p,r,s⟩:=h;have i:Bd 208000 (e.2.2-e.1.2):=by unfold Bd at *;omega
 have l:Bd 208000 (e.2.1-e.1.1):=by unfold Bd at *;omega
 unfold Cop.Ug;have a:=Rb.sub (k:=1) q (me o);have c:=Rb.mul (j:=3) (k:=1) a (me i);have d:=Rb.div (j:=4) (k:=1) c (me l) oM;have f:=(me p).mono (k:=5) oM;have g:=Rb.add (k:=5) f d;exact g
def Rb.atR{x:Rat}{ps:LP}(d:Rb 1 x)(h:Fb ps):Rb 11 (Cop.Sb ps x):=by
 unfold Cop.Sb;cases hf:(yb ps).find? (Jh x)with
 | some e=>exact d.atE (pl h.2.1 (List.mem_of_find?_eq_some hf))
 |none=>
  have f:0<ps.length:=by
   rcases Nat.eq_zero_or_pos ps.length with a|a
   ·exact absurd (List.eq_nil_of_length_eq_zero a) h.1
   ·exact a
  have c:ps.getD (ps.length-1) (0,0)∈ps:=by
   rw[gD,gE oM,Option.getD_some];exact List.getElem_mem _
  exact(me (h.2.1 _ c).2).mono oM
def My{ps:LP}(h:Fb ps):Bd 104000 (Ka ps)/\Bd 104000 (Ma ps):=by
 have e:0<ps.length:=by
  rcases Nat.eq_zero_or_pos ps.length with a|a
  ·exact absurd (List.eq_nil_of_length_eq_zero a) h.1
  ·exact a
 have c:∀i,i<ps.length->ps.getD i (0,0)∈ps:=fun i d=>by
  rw[gD,gE d,Option.getD_some];exact List.getElem_mem _
 exact⟨(h.2.1 _ (c 0 e)).1,(h.2.1 _ (c _ oM)).1⟩
def Ic(ps a:LP):Sp:=⟨ps,a,max (Ka ps) (Ka a),min (Ma ps) (Ma a)⟩
def Lh(s:Sp)(a c:N):N:=Oe #[a,c,Oa Ob s.lo,Oa Ob s.hi]
def Ij(w:Z)(a c:N)(s:Sp)(e:Ending)(w':Z):Prop:=e=.returned (.tuple #[Lh s a c,U (decide (s.lo<s.hi))])/\oa w w'
def Cp(w:Z)(v1 v2:N)(ps k:LP)(h1:Aa w v1 ps)(h2:Aa w v2 k)(k1:0<ps.length)(k2:0<k.length):Calls Tryz.prog 82 #[v1,v2] w (Ij w v1 v2 (Ic ps k)):=by
 have H1:=ia (fun(W:Z)(c:oa w W)=>Qm W v1 ps (h1.i c) k1);have H2:=ia (fun(W:Z)(c:oa w W)=>Qm W v2 k (h2.i c) k2);have H3:=ia (fun(W:Z)(c:oa w W)=>Vn W v1 ps (h1.i c) k1);have H4:=ia (fun(W:Z)(c:oa w W)=>Vn W v2 k (h2.i c) k2);obtain⟨p,u,rfl⟩:=h1.form;obtain⟨r,x,rfl⟩:=h2.form;obtain⟨R,hR⟩:=gX (Ij w (O p ps.length u) (O r k.length x) (Ic ps k));rw[hR];have HR:=ia hR;clear hR;unfold Ic at HR;obtain⟨l1,e1⟩:=gX (Ka ps);obtain⟨l2,e2⟩:=gX (Ka k);obtain⟨r1,e3⟩:=gX (Ma ps);obtain⟨r2,e4⟩:=gX (Ma k);obtain⟨T,f1⟩:=gX ps.length;obtain⟨n2,f2⟩:=gX k.length;rw[e1,e2,e3,e4]at HR;rw[e1]at H1;rw[e2]at H2;rw[e3]at H3;rw[e4]at H4;simp only[f1,f2]at H1 H2 H3 H4 HR h1 h2 ⊢;clear e1 e2 e3 e4 f1 f2 h1 h2 k1 k2;go_in;go_wp2_with(first|(go_at_call 45;(with_reducible refine(H1.o _ ?_).mono ?_);exact eA;rintro e w3 ⟨rfl,d⟩;obtain⟨ae,ai⟩:=d.cells)|(go_at_call 45;(with_reducible refine(H2.o _ ?_).mono ?_);exact eA;rintro e w4 ⟨rfl,f⟩;obtain⟨af,aj⟩:=f.cells)|(go_at_call 46;(with_reducible refine(H3.o _ ?_).mono ?_);exact eA;rintro e w5 ⟨rfl,g⟩;obtain⟨ag,ak⟩:=g.cells)|(go_at_call 46;(with_reducible refine(H4.o _ ?_).mono ?_);exact eA;rintro e y ⟨rfl,j⟩;obtain⟨ah,al⟩:=j.cells));obtain⟨t,ab⟩:=gX (max l1 l2);obtain⟨s,aa⟩:=gX (min r1 r2);rw[ab,aa]at HR ⊢;have ac:oa w y:=(((((eR w).alloc _).trans d).trans f).trans g).trans j;have ao:w.heap.size<y.heap.size:=by have:=d.size;have:=f.size;have:=g.size;have:=j.size;simp only[wZ]at *;omega
 have hO:y.heap[w.heap.size]?=M (Oc #[O I 0 0,O I 0 0,Oa Ob 0,Oa Ob 0] 157 (0,0)):=j.e (g.e (f.e (d.e (aN _ _))));clear ae ai af aj ag ak ah al H1 H2 H3 H4 ab aa d f g j;obtain⟨W,c⟩:=gX ((y.alloc (Oc #[O p T u,O r n2 x,Oa Ob t,Oa Ob s] 157)));have z:W.heap[y.heap.size]?=M (Oc #[O p T u,O r n2 x,Oa Ob t,Oa Ob s] 157 (0,0)):=by rw[<-c];exact aN _ _
 have a:W.heap[w.heap.size]?=M (Oc #[O I 0 0,O I 0 0,Oa Ob 0,Oa Ob 0] 157 (0,0)):=by rw[<-c];exact((eR y).alloc _).e hO
 have an:oa w W:=by rw[<-c];exact ac.alloc _
 rw[c];clear c hO ac;have b0:=ja z 0 (O p T u);have b1:=ja z 1 (O r n2 x);have b2:=ja z 2 (Oa Ob t);have b3:=ja z 3 (Oa Ob s);have f0:=Vb a 0;have f1:=Vb a 1;have f2:=Vb a 2;have f3:=Vb a 3;have o0:=ja a 0 (O I 0 0);have o1:=ja a 1 (O I 0 0);have o2:=ja a 2 (Oa Ob 0);have o3:=ja a 3 (Oa Ob 0);have HB:=ia z;clear z a;obtain⟨o,am⟩:=gX y.heap.size;simp only[am]at *;refine Ke [(⟨o,0,I⟩,O p T u),(⟨o,1,I⟩,O r n2 x),(⟨o,2,I⟩,Oa Ob t),(⟨o,3,I⟩,Oa Ob s)] cA fun ad=>?_;refine sN 0 ?_
 iterate 6 refine Fc ?_
 refine oN ?_;have l:∀q∈[((⟨o,0,I⟩:Of),Value.slice p T u),(⟨o,1,I⟩,O r n2 x),(⟨o,2,I⟩,Oa Ob t),(⟨o,3,I⟩,Oa Ob s)],w.heap.size≠q.1.block:=by
  simp;omega
 refine Je (i:=6) fun K hK=>?_;go_simp;refine kO hK ((((Ca.set (by assumption) l _).set l _).set l _).set l _) (fun ad=>?_);clear hK K;refine Ac (i:=7) ?_;refine Wd ?_;go_wp2;refine bR (v:=.tuple #[Oe #[O p T u,O r n2 x,Oa Ob t,Oa Ob s],U (decide (t<s))]) (by simp[results,Tryz.results82,go_sem,o0,o1,o2,o3,f0,f1,f2,f3]) rfl ?_;rw[<-HR.o];exact⟨rfl,((((an.set dO _).set dO _).set dO _).set dO _).drew⟩
def Ca.grown:∀{L:List (Of×N)}{W W':Z}{row:Option Nat},Ca L W->W.grownBy W' row->(∀q∈L,M q.1.block≠row)->Ca L W'
 | [],_,_,_,_,_,_=>trivial
 | (a,v)::r,W,W',row,⟨h1,h2⟩,hg,hn=>by
  refine⟨?_,h2.grown hg (fun q d=>hn q (mC _ d))⟩;have c:=World.block_lt_of_cell? _ _ h1;rw[<-h1];unfold World.cell?;rw[hg.block _ c (hn (a,v) sM)]
def kE(t:Array N)(n:Nat)(h:t.size=n):t=((List.range n).map fun k=>t.getD k undef).toArray:=by
 apply Array.ext
 ·simp[h]
 ·intro i a c;simp[Array.getD,a]
def Bk{W:Z}{b:Nat}{cs:Array N}{T:TypeId}{a:Nat×Nat}(h:W.heap[b]?=M (Oc cs T a))(i:Nat)(u:N):(W.setCell ⟨b,i,I⟩ u).heap[b]?=M (Oc (cs.setIfInBounds i u) T a):=by simp[World.setCell,Array.getElem?_modify,h]
def xu(w:Z)(o a:Obj):((w.alloc o).alloc a).heap[w.heap.size]?=M o:=by rw[Ef,if_neg sM];exact aN w o
def uu(w:Z)(o a:Obj):((w.alloc o).alloc a).heap[w.heap.size+1]?=M a:=Kc _ _ _ sM
def jj(t:Array N)(n:Nat)(h:t.size=n):∃u:Nat->N,(∀k,t.getD k undef=u k)/\t=((List.range n).map u).toArray:=⟨fun k=>t.getD k undef,fun _=>rfl,kE t n h⟩
def UF(w:Z)(o a:Obj):((w.alloc o).alloc a).heap[w.heap.size]?=M o:=by rw[Ef,if_neg sM];exact aN w o
def Tt(w:Z)(o a:Obj):((w.alloc o).alloc a).heap[w.heap.size+1]?=M a:=Kc _ _ _ sM
end
section
open Go.RowKit Go.Shelf
section
variable {P:Program} {ops:Array Oper} {Q:Exit->Od->Z->Prop} {md:Region.Mode} {A B C:Z->Prop} {pv pc:Nat}
def nv(A B C:Z->Prop)(pv pc:Nat)(a:Array Bool)(w:Z):Prop:=A w/\(a.getD pv false=false->B w)/\(a.getD pc false=false->C w)
def HX(P:Program)(md:Region.Mode)(ops:Array Oper)(Q:Exit->Od->Z->Prop)(A B C:Z->Prop)(pv pc:Nat):Nat->Array Bool->Od->Z->Prop
 | 0,c,a,w=>Region.ready md ops c=[]/\Q .normal a w
 | fuel+1,c,a,w =>
  (Region.ready md ops c=[]->Q .normal a w)/\
  ∀i∈Region.ready md ops c,wpOp P ops Q i (fun e d=>nv A B C pv pc (c.setIfInBounds i true) d/\HX P md ops Q A B C pv pc fuel (c.setIfInBounds i true) e d) a w
def nv.step{a:Array Bool}{w:Z}(c:A w)(d:a.getD pv false=false->B w)(e:a.getD pc false=false->C w):nv A B C pv pc a w:=⟨c,d,e⟩
end
section
variable {P:Program} {ops:Array Oper} {Q:Exit->Od->Z->Prop} {md:Region.Mode} {S:Z->Prop} {fl:List (Nat×Tmp×Obj)} {w0:Z} {late:Nat->Bool}
def pk(fl:List (Nat×Tmp×Obj))(i:Nat):Bool:=fl.any (·.1==i)
def gi(md:Region.Mode)(ops:Array Oper)(fl:List (Nat×Tmp×Obj))(L:Array Bool):List Nat:=(Region.ready md ops L).filter fun i=>!pk fl i
def rn(ops:Array Oper)(f:Nat):Option Tmp:=(ops[f]?).bind (·.dst)
def qj(b:Nat):List (Nat×Nat)->Prop
 | []=>True
 | x::l=>(b<x.1\/x.2<=b)/\qj b l
def Qh(P:Program)(md:Region.Mode)(ops:Array Oper)(Q:Exit->Od->Z->Prop)(S:Z->Prop)(w0:Z)(k:Nat)(c:List (Nat×Nat)):List (Nat×Tmp×Obj)->List Nat->Array Bool->Od->Z->Prop
 | [],_,L,a,W=>wpAnyH P md ops Q S k L a W
 | (f,d,o)::fl,bs,L,a,W=>∀b,W.heap[b]?=M o->w0.heap.size<=b->b ∉ bs->qj b c->Qh P md ops Q S w0 k c fl (b::bs) (L.setIfInBounds f true) (a.put (M d) (Og (M ⟨b,0,I⟩))) W
def Yj(a:List (Nat×Nat))(w0 W w':Z):Prop:=oa w0 w'/\W.heap.size<=w'.heap.size/\∀k,k<W.heap.size->qj k a->w'.heap[k]?=W.heap[k]?
def Yj.of{d:List (Nat×Nat)}{w0 W w':Z}(a:oa w0 W)(h:oa W w'):Yj d w0 W w':=⟨a.trans h,h.size,fun k c _=>h.block c⟩
def GF(P:Program)(md:Region.Mode)(ops:Array Oper)(Q:Exit->Od->Z->Prop)(S:Z->Prop)(d:Nat->Bool)(fl:List (Nat×Tmp×Obj))(w0:Z):Nat->List (Nat×Nat)->Array Bool->Od->Z->Prop
 | 0,f,L,a,w=>gi md ops fl L=[]/\∀W,oa w W->oa w0 W->Qh P md ops Q S w0 0 f fl [] L a W
 | k+1,f,L,a,w=>((gi md ops fl L=[]->∀W,oa w W->oa w0 W->Qh P md ops Q S w0 (k+1) f fl [] L a W)/\(∀i∈gi md ops fl L,d i=false)/\
   ∀i∈gi md ops fl L,∀W,oa w W->oa w0 W->wpOp P ops Q i (fun l g=>Yj f w0 W g/\GF P md ops Q S d fl w0 k ((W.heap.size,g.heap.size)::f) (L.setIfInBounds i true) l g) a W) \/
  (∃i oi v,ops[i]?=M oi/\i∈gi md ops fl L/\(∀j oj,ops[j]?=M oj->j≠i->L.getD j true=false->(∀e∈oj.after,Region.binds md e=true->e.on≠i)->oi.apart ops oj=true)/\
   (∀c a w,Q (.panic c) (a.put oi.dst v) w->Q (.panic c) a w)/\YieldsIf P ops S oi v a/\GF P md ops Q S d fl w0 k f (L.setIfInBounds i true) (a.put oi.dst v) w)
def GF.later{c:Nat->Bool}:∀{k:Nat}{e:List (Nat×Nat)}{L:Array Bool}{a:Od}{w W:Z},oa w W->GF P md ops Q S c fl w0 k e L a w->GF P md ops Q S c fl w0 k e L a W
 | 0,_,_,_,_,_,h,H=>⟨H.1,fun V d=>H.2 V (h.trans d)⟩
 | _+1,_,_,_,_,_,h,.inl H=>.inl ⟨fun q V d=>H.1 q V (h.trans d),H.2.1,fun i p V d=>H.2.2 i p V (h.trans d)⟩
 | _+1,_,_,_,_,_,h,.inr ⟨i,r,v,f,g,j,l,o,h6⟩=>.inr ⟨i,r,v,f,g,j,l,o,GF.later h h6⟩
def gg{i:Nat}{L:Array Bool}:i∈gi md ops fl L ↔ i∈Region.ready md ops L/\pk fl i=false:=by unfold gi;rw[List.mem_filter];simp
def Hh(md:Region.Mode)(ops:Array Oper)(late a:Nat->Bool)(n:Nat):Bool:=
 (List.range ops.size).all fun j=>!late j || ((List.range ops.size).all fun i=>late i || a i || (yj md ops n j).contains i)
def BK{late d:Nat->Bool}{a:Array Bool}{m i j:Nat}(q:Hh md ops late d m=true)(u:Cl md ops a)(hi:i∈Region.ready md ops a)(x:late i=false)(v:d i=false)(w:j∈Region.ready md ops a):late j=false:=by
 cases hlj:late j with
 | false=>rfl
 |true=>
  exfalso;obtain⟨s,z,f,e⟩:=mem_ready.1 w;obtain⟨c,y,r,_⟩:=mem_ready.1 hi;unfold Hh at q;rw[List.all_eq_true]at q;have k:=q j (List.mem_range.2 (Array.getElem?_eq_some_iff.1 f).1);rw[hlj]at k;simp only[Bool.not_true,Bool.false_or,List.all_eq_true]at k;have l:=k i (List.mem_range.2 (Array.getElem?_eq_some_iff.1 r).1);rw[x,v]at l;simp only[Bool.false_or,List.contains_eq_mem,decide_eq_true_eq]at l;have p:=Xr u m j (fun o t=>by rw[f]at t;cases t;exact e) i l;rcases Nat.lt_or_ge i a.size with g | g
  ·simp[g]at p c;rw[p]at c;cases c
  ·simp[Array.getElem?_eq_none g]at p
def Rg(md:Region.Mode)(ops:Array Oper)(c:List (Nat×Tmp))(late a:Nat->Bool)(n:Nat):Bool:=
 Hh md ops late a n&&c.all (fun f=>!late f.1&&!a f.1&&(Lf md ops f.1).isEmpty&&decide (f.1<ops.size)&&rn ops f.1==M f.2)&&decide (c.map (·.1)).Nodup&&decide (c.map (·.2)).Nodup &&
 (List.range ops.size).all fun i=>late i || c.any (·.1==i) || c.all fun f=>!(Lf md ops i).contains f.1&&(match ops[f.1]?,ops[i]? with|some x,M y=>x.apart ops y|_,_=>true)
def Kn(P:Program)(ops:Array Oper)(f:Nat)(o:Obj):Prop:=∃x,ops[f]?=M x/\x.guard=I/\∀(a:Od)(W:Z),(execOp a.eval x).run P W = .ok (.value (Og (M ⟨W.heap.size,0,I⟩))) (W.alloc o)
def nG{j:Nat}{oi k:Oper}{v:N}(T:ops[j]?=M k)(s:oi.apart ops k=true)(p:∀cs b,k.op ≠ .select cs b)(z:∀c a w,Q (.panic c) a w->Q (.panic c) (a.put oi.dst v) w){K:Od->Z->Prop}{a:Od}{w:Z}(h:wpOp P ops Q j K a w):wpOp P ops Q j (fun R t=>∃a0,R=a0.put oi.dst v/\K a0 t) (a.put oi.dst v) w:=by
 obtain⟨q,l,h3⟩:=Oper.apart_spec s;unfold wpOp at *;simp only[T]at *;rw[wanted_put k a oi.dst v q];split
 ·rename_i hw;simp only[hw,if_true]at h;rcases h with h|⟨g,i⟩
  case inr=>exact .inr ⟨by unfold Oper.asks at *;rw[execOp_put k p a oi.dst v q];exact g,i⟩
  refine .inl ?_;unfold Oper.wp at *;rw[execOp_put k p a oi.dst v q];generalize (execOp a.eval k).run P w=r at *
  cases r with
  | ok n t =>
   cases n<;>simp only[Oper.upon]at h ⊢
   case value u=>exact⟨_,Act.put_comm a v u l,h⟩
   case skip=>exact⟨_,Act.put_comm a v undef l,h⟩
   case defer d=>exact⟨_,by rw[Act.put_defers];exact Act.put_comm _ v undef l,h⟩
   case enter f args =>
    refine cM h fun e y o=>?_;cases e with
    | returned u=>exact⟨_,Act.put_comm a v u l,o⟩
    | panicked c=>exact z _ _ _ o
    | outgrown=>exact o
   case row row args=>exact Rows.mono h fun u y o=>⟨_,Act.put_comm a v u l,o⟩
  | halt x t =>
   cases x<;>simp only[Oper.upon]at h ⊢
   case panic u=>exact z _ _ _ h
 ·rename_i hw;simp only[hw]at h;exact⟨_,Act.put_comm a v undef l,h⟩
abbrev Fg:=List (Nat×Tmp×Obj×Nat)
def mi(x:Nat×Tmp×Obj×Nat):Nat×Tmp×Obj:=(x.1,x.2.1,x.2.2.1)
def Sd(L:Array Bool)(a:Fg):Array Bool:=a.foldl (fun L x=>L.setIfInBounds x.1 true) L
def Ff(a:Od)(c:Fg):Od:=c.foldl (fun a x=>a.put (M x.2.1) (Og (M ⟨x.2.2.2,0,I⟩))) a
def nr{i:Nat}{d:Bool}:∀(a:Fg)(L:Array Bool),(∀x∈a,x.1≠i)->(Sd L a).getD i d=L.getD i d
 | [],_,_=>rfl
 | x::a,L,h=>(nr a _ fun y c=>h y (mC _ c)).trans (getD_set_ne d (h x (List.mem_cons_self ..)))
def Ow{i:Nat}{d:Bool}:∀(c:Fg)(L:Array Bool),(∃x∈c,x.1=i)->i<L.size->(Sd L c).getD i d=true
 | [],_,h,_=>by obtain⟨x,a,_⟩:=h;cases a
 | y::c,L,h,hi=>by
  by_cases f:∃x∈c,x.1=i
  ·exact Ow c _ f (by simpa using hi)
  ·have g:y.1=i:=by
    obtain⟨x,a,e⟩:=h;rcases List.mem_cons.1 a with rfl|a
    ·exact e
    ·exact absurd ⟨x,a,e⟩ f
   subst g;refine(nr c _ fun x a e=>f ⟨x,a,e⟩).trans ?_;simp[hi]
def Ot{i:Nat}:∀(a:Fg)(L:Array Bool),(∀x∈a,x.1≠i)->(Sd L a).setIfInBounds i true=Sd (L.setIfInBounds i true) a
 | [],_,_=>rfl
 | x::a,L,h=>by
  refine(Ot a _ fun y c=>h y (mC _ c)).trans ?_;show Sd ((L.setIfInBounds x.1 true).setIfInBounds i true) a=Sd ((L.setIfInBounds i true).setIfInBounds x.1 true) a;rw[Array.setIfInBounds_comm _ _ (h x (List.mem_cons_self ..))]
def SH{α β:Type}{g:α->β}{x y:List β}(h:x.Perm y):∀l:List α,l.map g=x->∃m,l.Perm m/\m.map g=y:=by
 induction h with
 | nil=>exact fun l d=>⟨l,.refl _,d⟩
 | cons b _ q =>
  intro l d;obtain⟨a,l,rfl,rfl,e⟩:=List.map_eq_cons_iff.1 d;obtain⟨m,f,i⟩:=q l e;exact⟨a::m,f.cons a,by simp[i]⟩
 | swap b c t =>
  intro l d;obtain⟨a,l,rfl,rfl,e⟩:=List.map_eq_cons_iff.1 d;obtain⟨o,l,rfl,rfl,f⟩:=List.map_eq_cons_iff.1 e;exact⟨o::a::l,.swap ..,by simp[f]⟩
 | trans _ _ j k =>
  intro l d;obtain⟨m,p,e⟩:=j l d;obtain⟨r,f,i⟩:=k m e;exact⟨r,p.trans f,i⟩
def Qh.use{k:Nat}{W:Z}{f:List (Nat×Nat)}:∀(c:Fg)(d:List Nat)(L:Array Bool)(a:Od),Qh P md ops Q S w0 k f (c.map mi) d L a W ->(∀x∈c,W.heap[x.2.2.2]?=M x.2.2.1/\w0.heap.size<=x.2.2.2/\qj x.2.2.2 f)->(d.reverse++c.map (·.2.2.2)).Nodup->wpAnyH P md ops Q S k (Sd L c) (Ff a c) W
 | [],_,_,_,h,_,_=>h
 | x::c,d,L,a,h,h1,h2=>by
  have e:=h1 x (List.mem_cons_self ..);have g:x.2.2.2 ∉ d:=fun i=>by
   rw[List.map_cons,List.nodup_append]at h2;exact h2.2.2 _ (List.mem_reverse.2 i) _ (List.mem_cons_self ..) rfl
  exact Qh.use c (x.2.2.2::d) _ _ (h x.2.2.2 e.1 e.2.1 g e.2.2) (fun y j=>h1 y (mC _ j)) (by simpa using h2)
def Mz{j:Nat}{l:Oper}(s:ops[j]?=M l)(f:∀cs b,l.op ≠ .select cs b)(r:∀c a d v w,Q (.panic c) a w->Q (.panic c) (a.put d v) w){W:Z}:∀(e:Fg)(a:Od)(K:Od->Z->Prop),(∀x∈e,∃p:Oper,p.dst=M x.2.1/\p.apart ops l=true)->wpOp P ops Q j K a W->wpOp P ops Q j (fun g o=>∃a0,g=Ff a0 e/\K a0 o) (Ff a e) W
 | [],_,_,_,h=>wpOp_mono (fun g o i=>⟨g,rfl,i⟩) h
 | x::e,a,K,h1,h=>by
  obtain⟨p,z,k⟩:=h1 x (List.mem_cons_self ..);have q:=nG (oi:=p) (v:=Og (M ⟨x.2.2.2,0,I⟩)) s k f (fun c a w h=>r c a _ _ w h) h;rw[z]at q;refine wpOp_mono (fun g o i=>?_) (Mz s f r e _ _ (fun y R=>h1 y (mC _ R)) q);obtain⟨a0,rfl,t,rfl,u⟩:=i;exact⟨t,rfl,u⟩
variable {P:Program} {ops:Array Oper} {Q:Exit->Od->Z->Prop} {md:Region.Mode} {S:Z->Prop} {fl:List (Nat×Tmp×Obj)} {w0:Z} {late:Nat->Bool} {m:Nat}
def qn(x:Nat×Tmp×Obj):Nat×Tmp:=(x.1,x.2.1)
def Lu{a:Nat->Bool}(h:Rg md ops (fl.map qn) late a m=true):Hh md ops late a m=true/\(∀x∈fl,late x.1=false/\a x.1=false/\Lf md ops x.1=[]/\x.1<ops.size/\rn ops x.1=M x.2.1)/\(fl.map (·.1)).Nodup/\(fl.map (·.2.1)).Nodup/\∀i<ops.size,late i=false->pk fl i=false->∀x∈fl,x.1 ∉ Lf md ops i/\∀p q,ops[x.1]?=M p->ops[i]?=M q->p.apart ops q=true:=by
 unfold Rg at h;simp only[Bool.and_eq_true,decide_eq_true_eq]at h;obtain⟨⟨⟨⟨r,s⟩,l⟩,o⟩,t⟩:=h;rw[List.map_map]at l o;refine⟨r,fun x k=>?_,l,o,fun i u v j x k=>?_⟩
 ·have:=List.all_eq_true.1 s _ (List.mem_map_of_mem (f:=qn) k);simp only[Bool.and_eq_true,Bool.not_eq_true',List.isEmpty_iff,decide_eq_true_eq,beq_iff_eq]at this;exact⟨this.1.1.1.1,this.1.1.1.2,this.1.1.2,this.1.2,this.2⟩
 ·have h6:=List.all_eq_true.1 t i (List.mem_range.2 u);rw[v,Bool.false_or,Bool.or_eq_true]at h6;rcases h6 with g|g
  ·exfalso;obtain⟨y,R,d⟩:=List.any_eq_true.1 g;obtain⟨z,T,rfl⟩:=List.mem_map.1 R;unfold pk at j;rw[List.any_eq_false]at j;exact j z T d
  ·have d:=List.all_eq_true.1 g _ (List.mem_map_of_mem (f:=qn) k);rw[Bool.and_eq_true]at d;refine⟨fun e=>?_,fun p q w K=>?_⟩
   ·have c:=d.1;rw[Bool.not_eq_true',List.contains_eq_mem,decide_eq_false_iff_not]at c;exact c e
   ·have c:=d.2;dsimp only[qn]at c;rw[w,K]at c;exact c
def vy{i:Nat}{o:Oper}(d:ops[i]?=M o){e:_}(c:e∈o.after)(a:Region.binds md e=true):e.on∈Lf md ops i:=by unfold Lf;rw[d];exact List.mem_map.2 ⟨e,List.mem_filter.2 ⟨by simpa using c,a⟩,rfl⟩
def Oy{i:Nat}(h:pk fl i=true):∃d o,(i,d,o)∈fl:=by unfold pk at h;obtain⟨x,c,a⟩:=List.any_eq_true.1 h;rw[beq_iff_eq]at a;subst a;exact⟨x.2.1,x.2.2,c⟩
def Co{i:Nat}(h:pk fl i=false):∀x∈fl,x.1≠i:=by unfold pk at h;rw[List.any_eq_false]at h;exact fun x a e=>h x a (by simpa using e)
def Aw{b:Nat}:∀{a:List (Nat×Nat)},(∀x∈a,b<x.1\/x.2<=b)->qj b a
 | [],_=>trivial
 | x::_,h=>⟨h x (List.mem_cons_self ..),Aw fun y c=>h y (mC _ c)⟩
def Pv{α β:Type}{g:α->β}:∀{l:List α},(l.map g).Nodup->∀x∈l,∀y∈l,g x=g y->x=y
 | [],_,_,d,_,_,_=>nomatch d
 | z::l,h,x,d,y,hy,e=>by
  rw[List.map_cons,List.nodup_cons]at h;obtain⟨f,h⟩:=h;rcases List.mem_cons.1 d with c|c
  ·rcases List.mem_cons.1 hy with a|a
   ·rw[c,a]
   ·exact absurd (List.mem_map.2 ⟨y,a,by rw[<-e,c]⟩) f
  ·rcases List.mem_cons.1 hy with a|a
   ·exact absurd (List.mem_map.2 ⟨x,c,by rw[e,a]⟩) f
   ·exact Pv h x c y a e
def EH{c a:Fg}(h:c.Perm a)(L:Array Bool):Sd L c=Sd L a:=
 h.foldl_eq' (fun x _ y _ z=>by
  by_cases e:x.1=y.1
  ·rw[e]
  ·exact Array.setIfInBounds_comm _ _ e) L
def PH{f c:Fg}(j:(f.map (·.2.1)).Nodup)(h:f.Perm c)(a:Od):Ff a f=Ff a c:=
 h.foldl_eq' (fun x k y l z=>by
  by_cases e:x.2.1=y.2.1
  ·rw[Pv j x k y l e]
  ·exact Act.put_comm z _ _ (fun d i g=>e ((Option.some.inj i).trans (Option.some.inj g).symm))) a
def Az{j:Nat}:∀(c:Fg)(L:Array Bool),(Sd L c).getD j true=false->L.getD j true=false
 | [],_,h=>h
 | x::c,L,h=>by
  have a:=Az c _ h;by_cases e:x.1=j
  ·subst e;rcases Nat.lt_or_ge x.1 L.size with d | d
   ·simp[d]at a
   ·simp[Array.getElem?_eq_none d]at a
  ·rw[getD_set_ne true e]at a;exact a
def uy{d:Option Tmp}{v:N}:∀(c:Fg)(a:Od),(∀x∈c,d≠M x.2.1)->(Ff a c).put d v=Ff (a.put d v) c
 | [],_,_=>rfl
 | x::c,a,h=>by
  refine(uy c _ fun y g=>h y (mC _ g)).trans ?_;show Ff ((a.put (M x.2.1) _).put d v) c=Ff ((a.put d v).put (M x.2.1) _) c;rw[Act.put_comm a _ v (fun q f e=>h x (List.mem_cons_self ..) (e.trans f.symm))]
def FA{oi:Oper}{v:N}(f:∀cs b,oi.op ≠ .select cs b):∀(c:Fg)(a:Od),(∀x∈c,x.2.1 ∉ oi.looksAt ops)->YieldsIf P ops S oi v a->YieldsIf P ops S oi v (Ff a c)
 | [],_,_,h=>h
 | x::c,a,h1,h=>FA f c _ (fun y g=>h1 y (mC _ g)) (h.of_same (execOp_put oi f a _ _ (fun d e=>by cases e;exact h1 x (List.mem_cons_self ..))) (wanted_put oi a _ _ (fun d e=>by cases e;exact h1 x (List.mem_cons_self ..))))
def Nw{j:Nat}:∀(a:Fg)(L:Array Bool),L.getD j false=true->(Sd L a).getD j false=true
 | [],_,h=>h
 | _::a,_,h=>Nw a _ (getD_set_true h)
def Zv{ag:Nat->Bool}(aU:Rg md ops (fl.map qn) late ag m=true)(aC:fl≠[])(am:Region.noSelect ops=true)(hl:∀x∈fl,Kn P ops x.1 x.2.2)(hQ:∀c a d v w,Q (.panic c) a w->Q (.panic c) (a.put d v) w)(aA:∀w',oa w0 w'->S w'):∀(n k:Nat)(iv:List (Nat×Nat))(L:Array Bool)(a:Od)(w W:Z)(g:Fg)(rest:List (Nat×Tmp×Obj)),GF P md ops Q S ag fl w0 k iv L a w->(∀x∈iv,x.2<=w.heap.size)->oa w0 w->oa w W->(g.map mi++rest).Perm fl->n=k+rest.length->Cl md ops L->L.size=ops.size ->(∀x∈fl,L.getD x.1 true=false)->(∀x∈g,W.heap[x.2.2.2]?=M x.2.2.1/\w0.heap.size<=x.2.2.2/\qj x.2.2.2 iv)->(g.map (·.2.2.2)).Nodup->Cl md ops (Sd L g)->wpAnyH P md ops Q S n (Sd L g) (Ff a g) W:=by
 obtain⟨f1,f2,f3,f4,f5⟩:=Lu aU;have ay:∀(k:Nat)(iv:List (Nat×Nat))(L:Array Bool)(a:Od)(W:Z)(g:Fg),Qh P md ops Q S w0 k iv fl [] L a W->(g.map mi).Perm fl->(∀x∈g,W.heap[x.2.2.2]?=M x.2.2.1/\w0.heap.size<=x.2.2.2/\qj x.2.2.2 iv)->(g.map (·.2.2.2)).Nodup->wpAnyH P md ops Q S k (Sd L g) (Ff a g) W:=by
  intro k iv L a W g H hp hb ad;obtain⟨aL,p1,p2⟩:=SH hp g rfl;have aS:(g.map (·.2.1)).Nodup:=by
   have:=(hp.map (·.2.1)).nodup_iff.2 f4
   rwa [List.map_map]at this
  rw[EH p1,PH aS p1];refine Qh.use aL [] L a (by rw[p2];exact H) (fun x l=>hb x (p1.mem_iff.2 l)) ?_;simpa using (p1.map (·.2.2.2)).nodup_iff.1 ad
 intro n;induction n with
 |zero=>
  intro k iv L a w W g rest H ak h0 hw hp hn hc an ae hb ad ah;obtain rfl:k=0:=oM;obtain rfl:rest=[]:=List.eq_nil_of_length_eq_zero oM;rw[List.append_nil]at hp;exact ay 0 iv L a W g (H.2 W hw (h0.trans hw)) hp hb ad
 | succ n ih =>
  intro k iv L a w W g rest H ak h0 hw hp hn hc an ae hb ad ah;have z:∀x∈g,mi x∈fl:=fun x l=>hp.mem_iff.1 (List.mem_append_left _ (List.mem_map_of_mem l));have aw:∀x∈rest,x∈fl:=fun x l=>hp.mem_iff.1 (List.mem_append_right _ l);have ai:∀i d,pk fl i=false->(Sd L g).getD i d=L.getD i d:=fun i d hi=>nr g L fun x l=>Co hi (mi x) (z x l);have af:((g.map mi++rest).map (·.1)).Nodup:=(hp.map (·.1)).nodup_iff.2 f3;have ap:∀x∈g,∀y∈rest,x.1≠y.1:=fun x l y hy e=>by
   rw[List.map_append,List.nodup_append]at af;exact af.2.2 _ (List.mem_map_of_mem (f:=(·.1)) (List.mem_map_of_mem (f:=mi) l)) _ (List.mem_map_of_mem (f:=(·.1)) hy) e
  have az:∀i∈gi md ops fl L,late i=false:=fun i hi=>by
   obtain⟨u,T⟩:=gg.1 hi;obtain⟨K,R,q,aa⟩:=mem_ready.1 u;cases hli:late i with
   | false=>rfl
   |true=>
    exfalso;obtain⟨x,l⟩:=List.exists_mem_of_ne_nil fl aC;obtain⟨g1,ge,g2,g3,g4⟩:=f2 x l;have hg:=f1;unfold Hh at hg;rw[List.all_eq_true]at hg;have h3:=hg i (List.mem_range.2 (Array.getElem?_eq_some_iff.1 q).1);rw[hli]at h3;simp only[Bool.not_true,Bool.false_or,List.all_eq_true]at h3;have h4:=h3 x.1 (List.mem_range.2 g3);rw[g1,ge]at h4;simp only[Bool.false_or,List.contains_eq_mem,decide_eq_true_eq]at h4;have h5:=Xr hc m i (fun o ho=>by rw[q]at ho;cases ho;exact aa) x.1 h4;have h6:=ae x l;have h7:x.1<L.size:=oM;simp[h7]at h5 h6;rw[h5]at h6;cases h6
  have aF:∀i∈gi md ops fl L,i∈Region.ready md ops (Sd L g):=fun i hi=>by
   obtain⟨u,T⟩:=gg.1 hi;obtain⟨K,R,q,aa⟩:=mem_ready.1 u;exact mem_ready.2 ⟨by rw[ai i true T];exact K,R,q,fun e he hb=>Nw g L (aa e he hb)⟩
  have aR:∀x∈rest,x.1∈Region.ready md ops (Sd L g):=fun x l=>by
   obtain⟨g1,ge,g2,g3,g4⟩:=f2 x (aw x l);refine mem_ready.2 ⟨?_,ops[x.1],by simp[g3],fun e he hb=>?_⟩
   ·rw[nr g L fun y hy=>ap y hy x l];exact ae x (aw x l)
   ·have:=vy (md:=md) (ops:=ops) (i:=x.1) (o:=ops[x.1]) (by simp[g3]) he hb;rw[g2]at this;cases this
  have ax:∀x∈g,∃p:Oper,ops[x.1]?=M p/\p.dst=M x.2.1:=fun x l=>by
   have u:=f2 _ (z x l);have h4:x.1<ops.size:=u.2.2.2.1;have h3:ops[x.1]?=M (ops[x.1]'h4):=Array.getElem?_eq_getElem h4;refine⟨ops[x.1]'h4,h3,?_⟩;have T:(ops[x.1]?).bind (·.dst)=M x.2.1:=u.2.2.2.2;rw[h3]at T;exact T
  by_cases hE:rest=[]/\gi md ops fl L=[]
  ·obtain⟨rfl,T⟩:=hE;rw[List.append_nil]at hp;cases k with
   | zero=>exact absurd hn sM
   | succ k =>
    (obtain rfl:n=k:=by simp at hn;omega);rcases H with H|⟨i,R,v,u,h3,_⟩
    ·exact ay _ iv L a W g (H.1 T W hw (h0.trans hw)) hp hb ad
    ·rw[T]at h3;cases h3
  ·have aK:(k=0\/∃k',k=k'+1/\((gi md ops fl L=[]->∀W,oa w W->oa w0 W->Qh P md ops Q S w0 (k'+1) iv fl [] L a W)/\(∀i∈gi md ops fl L,ag i=false)/\
   ∀i∈gi md ops fl L,∀W,oa w W->oa w0 W->wpOp P ops Q i (fun a' w'=>Yj iv w0 W w'/\GF P md ops Q S ag fl w0 k' ((W.heap.size,w'.heap.size)::iv) (L.setIfInBounds i true) a' w') a W))\/(∃k',k=k'+1/\∃i R v,ops[i]?=M R/\i∈gi md ops fl L/\(∀j oj,ops[j]?=M oj->j≠i->L.getD j true=false->(∀e∈oj.after,Region.binds md e=true->e.on≠i)->R.apart ops oj=true)/\
   (∀c a w,Q (.panic c) (a.put R.dst v) w->Q (.panic c) a w)/\YieldsIf P ops S R v a/\GF P md ops Q S ag fl w0 k' iv (L.setIfInBounds i true) (a.put R.dst v) w):=by
    cases k with
    | zero=>exact .inl (.inl rfl)
    | succ k =>
     rcases H with H|H
     ·exact .inl (.inr ⟨k,rfl,H⟩)
     ·exact .inr ⟨k,rfl,H⟩
   rcases aK with H2|⟨k,rfl,i,R,v,q,aj,aB,aI,hy,HG⟩
   case inr =>
    obtain⟨_,hF⟩:=gg.1 aj;have ar:=az i aj;have aH:=(Array.getElem?_eq_some_iff.1 q).1;have aG:∀x∈g,R.dst≠M x.2.1/\x.2.1 ∉ R.looksAt ops:=fun x l=>by
     obtain⟨p,aD,av⟩:=ax x l;obtain⟨q1,q2,q3⟩:=Oper.apart_spec ((f5 i aH ar hF _ (z x l)).2 p R aD q);exact⟨q2 _ av,q1 _ av⟩
    have ab:=ah.step (aF i aj);have e1:(Sd L g).setIfInBounds i true=Sd (L.setIfInBounds i true) g:=Ot g L fun x l=>Co hF (mi x) (z x l);refine wpAnyH_first q (Region.noSelect_spec am) aI n (Sd L g) (Ff a g) W (fun j oj hj aC ae aT=>aB j oj hj aC (Az g L ae) aT) (aF i aj) (FA (fun cs b=>Region.noSelect_spec am i R cs b q) g a (fun x l=>(aG x l).2) hy) (aA W (h0.trans hw)) ?_;rw[e1]at ab ⊢;rw[uy g a fun x l=>(aG x l).1];refine ih k iv _ _ w W g rest HG ak h0 hw hp oM (hc.step (gg.1 aj).1) (by simpa using an) (fun x r=>?_) hb ad ab;rw[getD_set_ne true (fun e=>Co hF x r e.symm)];exact ae x r
   have aE:∃e,e∈Region.ready md ops (Sd L g)/\late e=false/\ag e=false:=by
    by_cases u:rest=[]
    ·have T:gi md ops fl L≠[]:=fun h=>hE ⟨u,h⟩;obtain⟨e,he⟩:=List.exists_mem_of_ne_nil _ T;rcases H2 with rfl|⟨k',rfl,H2⟩
     ·exact absurd H.1 T
     ·exact⟨e,aF e he,az e he,H2.2.1 e he⟩
    ·obtain⟨x,l⟩:=List.exists_mem_of_ne_nil _ u;exact⟨x.1,aR x l,(f2 x (aw x l)).1,(f2 x (aw x l)).2.1⟩
   obtain⟨e,he,aQ,aP⟩:=aE;refine⟨fun hr=>(by rw[hr]at he;cases he),fun i hi=>?_⟩;obtain⟨K,R,q,aa⟩:=mem_ready.1 hi;have ar:late i=false:=BK f1 ah he aQ aP hi;cases hF:pk fl i with
   |true=>
    obtain⟨d,o,ac⟩:=Oy hF;have au:(i,d,o)∈rest:=by
     rcases List.mem_append.1 (hp.mem_iff.2 ac)with u|u
     ·exfalso;obtain⟨x,l,T⟩:=List.mem_map.1 u;(have h3:x.1=i:=by have:=congrArg (·.1) T;exact this);have h4:=Ow (d:=true) g L ⟨x,l,h3⟩ (by rw[an];exact(Array.getElem?_eq_some_iff.1 q).1);rw[h4]at K;cases K
     ·exact u
    obtain⟨s,t,aV⟩:=List.append_of_mem au;subst aV;obtain⟨x,aJ,r,aW⟩:=hl _ ac;rw[q]at aJ;cases aJ;have hd:R.dst=M d:=by
     have:=(f2 _ ac).2.2.2.2;unfold rn at this;rw[q]at this;exact this
    unfold wpOp;rw[q];dsimp only;(have ao:Region.wanted R (yielded ops (Ff a g).tmps)=true:=by unfold Region.wanted;rw[r]);rw[if_pos ao];refine .inl ?_;unfold Oper.wp;rw[aW];show S (W.alloc o)/\wpAnyH P md ops Q S n ((Sd L g).setIfInBounds i true) ((Ff a g).put R.dst _) (W.alloc o);refine⟨aA _ ((h0.trans hw).alloc o),?_⟩;rw[hd];(have e1:(Sd L g).setIfInBounds i true=Sd L (g++[(i,d,o,W.heap.size)]):=by unfold Sd;rw[List.foldl_append];rfl);(have e2:(Ff a g).put (M d) (Og (M ⟨W.heap.size,0,I⟩))=Ff a (g++[(i,d,o,W.heap.size)]):=by unfold Ff;rw[List.foldl_append];rfl);have ab:=ah.step hi;rw[e1]at ab ⊢;rw[e2];refine ih k iv L a w (W.alloc o) (g++[(i,d,o,W.heap.size)]) (s++t) H ak h0 (hw.alloc o) ?_ (by simp at hn ⊢;omega) hc an ae ?_ ?_ ab
    ·refine List.Perm.trans ?_ hp;rw[List.map_append,List.append_assoc];exact List.Perm.append_left _ (show ((i,d,o)::(s++t)).Perm (s++(i,d,o)::t)from List.perm_middle.symm)
    ·intro x l;rcases List.mem_append.1 l with l|l
     ·obtain⟨u,T⟩:=hb x l;exact⟨((eR W).alloc o).e u,T⟩
     ·cases List.mem_singleton.1 l;exact⟨aN W o,(h0.trans hw).size,Aw fun x l=>.inr (nT (ak x l) hw.size)⟩
    ·rw[List.map_append,List.nodup_append];refine⟨ad,by simp,fun b aM c aO e=>?_⟩;obtain⟨x,l,rfl⟩:=List.mem_map.1 aM;have u:=jc (hb x l).1;simp at aO;omega
   |false=>
    have aq:i∈gi md ops fl L:=gg.2 ⟨mem_ready.2 ⟨by rw[<-ai i true hF];exact K,R,q,fun e he hb=>by
     have u:=aa e he hb;have T:pk fl e.on=false:=by
      cases h3:pk fl e.on with
      | false=>rfl
      |true=>
       obtain⟨d,o,ac⟩:=Oy h3;exact absurd (vy q he hb) (f5 i (Array.getElem?_eq_some_iff.1 q).1 ar hF _ ac).1
     rw[<-ai e.on false T];exact u⟩,hF⟩
    rcases H2 with rfl|⟨k,rfl,H2⟩
    ·rw[H.1]at aq;cases aq
    ·refine wpOp_mono (fun a' w' h'=>?_) (Mz q (fun cs b=>Region.noSelect_spec am i R cs b q) hQ g a _ (fun x l=>?_) (H2.2.2 i aq W hw (h0.trans hw)))
     ·obtain⟨a0,rfl,l,hG⟩:=h';have e1:(Sd L g).setIfInBounds i true=Sd (L.setIfInBounds i true) g:=Ot g L fun x l=>Co hF (mi x) (z x l);have ab:=ah.step hi;refine⟨aA _ l.1,?_⟩;rw[e1]at ab ⊢;refine ih k _ _ a0 w' w' g rest hG (fun x r=>?_) l.1 (eR _) hp oM (hc.step (gg.1 aq).1) (by simpa using an) (fun x r=>?_) (fun x r=>?_) ad ab
      ·rcases List.mem_cons.1 r with rfl|r
       ·exact nE _
       ·exact nT (ak x r) (nT hw.size l.2.1)
      ·rw[getD_set_ne true (fun e=>Co hF x r e.symm)];exact ae x r
      ·obtain⟨u,T,h3⟩:=hb x r;exact⟨by rw[l.2.2 _ (jc u) h3];exact u,T,.inl (jc u),h3⟩
     ·obtain⟨p,aD,av⟩:=ax x l;exact⟨p,av,(f5 i (Array.getElem?_eq_some_iff.1 q).1 ar hF _ (z x l)).2 _ _ aD q⟩
variable {P:Program} {ops:Array Oper} {Q:Exit->Od->Z->Prop} {md:Region.Mode} {S:Z->Prop} {fl:List (Nat×Tmp×Obj)} {w0:Z}
def Mn(P:Program)(md:Region.Mode)(ops:Array Oper)(Q:Exit->Od->Z->Prop)(c:Nat->Bool)(fl:List (Nat×Tmp×Obj))(w0:Z)(S:Z->Prop)(k:Nat)(d:List (Nat×Nat))(L:Array Bool)(a:Od)(w:Z):Prop:=GF P md ops Q S c fl w0 k d L a w
def pg{e:Nat->Bool}{g:List (Nat×Nat)}{L:List (Of×N)}{v:N}{i:Nat}{oi:Oper}{k:Nat}{d:Array Bool}{a:Od}{w:Z}{G:Prop}(h:G)(hi:ops[i]?=M oi:=by(simp only[gA,gS,gZ];rfl))(s:Region.noSelect ops=true:=by kernel_rfl)(j:Region.free md ops d i=true:=by kernel_rfl)(l:(gi md ops fl d).contains i=true:=by kernel_rfl)(o:∀c a w,Q (.panic c) (a.put oi.dst v) w->Q (.panic c) a w:=by exact fun _ _ _ h=>h)(q:Region.wanted oi (yielded ops a.tmps)=true:=by rfl)(r:∀w,Ca L w->(execOp a.eval oi).run P w = .ok (.value v) w:=by(intro w f;simp only[Ca,and_true]at f;go_simp;try(with_reducible rfl)))(h6:Ca L w0:=by(with_reducible assumption))(p:Mn P md ops Q e fl w0 (Ca L) k g (d.setIfInBounds i true) (a.put oi.dst v) w=G:=by((try simp only[Act.put,sA,sZ,sS]);rfl)):Mn P md ops Q e fl w0 (Ca L) (k+1) g d a w:=by subst p;exact .inr ⟨i,oi,v,hi,by simpa using l,Region.free_spec hi j,o,Or.inl ⟨q,r⟩,h⟩
def li{d:Nat->Bool}{g:List (Nat×Nat)}{L:List (Of×N)}{i:Nat}{o:Oper}{k:Nat}{c:Array Bool}{a:Od}{w:Z}(h:∀W,oa w W->oa w0 W->Ca L W->∀K':Od->Z->Prop,Shut (∀a w',Yj g w0 W w'->(Yj g w0 W w'->Ca L w'->Mn P md ops Q d fl w0 (Ca L) k ((W.heap.size,w'.heap.size)::g) (c.setIfInBounds i true) a w')->K' a w')->if Region.wanted o (yielded ops a.tmps)=true then Oper.wp P o a W K' Q else K' (a.put o.dst undef) W)(h6:Ca L w0:=by(with_reducible assumption))(hi:ops[i]?=M o:=by(simp only[gA,gS,gZ];rfl))(p:gi md ops fl c=[i]:=by kernel_rfl)(u:d i=false:=by rfl):Mn P md ops Q d fl w0 (Ca L) (k+1) g c a w:=by
 refine .inl ⟨fun r=>absurd (p▸r) sM,fun j f=>?_,fun j f W t e=>?_⟩
 ·rw[p]at f;cases List.mem_singleton.1 f;exact u
 rw[p]at f;cases List.mem_singleton.1 f;exact wpOp_step hi (fun K' s=>h W t e (cE h6 e) K' (fun a w' q l=>s a w' ⟨q,l q (cE h6 q.1)⟩))
def df{e:Nat->Bool}{g:List (Nat×Nat)}{L:List (Of×N)}{k:Nat}{c:Array Bool}{a:Od}{w:Z}(f:gi md ops fl c=[])(h:∀W,oa w W->oa w0 W->Qh P md ops Q (Ca L) w0 k g fl [] c a W):Mn P md ops Q e fl w0 (Ca L) k g c a w:=by
 cases k with
 | zero=>exact⟨f,h⟩
 | succ k=>exact .inl ⟨fun _=>h,fun i d=>(by rw[f]at d;cases d),fun i d=>by rw[f]at d;cases d⟩
def Cs{u:Nat}{a:Od}{w:Z}(fl:List (Nat×Tmp×Obj))(L:List (Of×N))(k m:Nat)(late e:Nat->Bool)(s:P.follows .mixedOrders=true)(f:Rg .any ops (fl.map qn) late e m=true)(q:ops.size=k+fl.length)(i:fl≠[])(g:Region.noSelect ops=true)(r:∀x∈fl,Kn P ops x.1 x.2.2)(p:∀c a d v w,Q (.panic c) a w->Q (.panic c) (a.put d v) w)(j:Ca L w.drew)(h:Ca L w.drew->Mn P .any ops Q e fl w.drew (Ca L) k [] (Array.replicate ops.size false) a w.drew):(Code.region u ops true).wp P Q a w:=by obtain⟨_,l,_,_,_⟩:=Lu f;have o:=Zv (w0:=w.drew) (S:=Ca L) f i g r p (fun _ h=>cE j h) ops.size k [] (Array.replicate ops.size false) a w.drew w.drew [] fl (h j) sM (eR _) (eR _) sM q (Cl.start _) sM (fun x t=>by simp[(l x t).2.2.2.1]) sM sM (Cl.start _);exact wp_region_any s (wpAny_of_held _ _ _ _ o)
end
end
section
open Go.RowKit Go.Shelf
attribute [local go_sem] Oper.semAt_some
end
section
open Go.RowKit Go.Shelf Go.Sort Go.Lib
def vo(s:Sp)(x:Int):Bool:=decide (s.lo<x)&&decide (x<s.hi)
def If(s:Sp)(ps:LP):List Int:=(ps.map (·.1)).filter (vo s)
def Qa(s:Sp):List Int:=compact (Af (s.lo::s.hi::If s (s.over++s.under)))
def Jb(s:Sp):List Rat:=(Qa s).map fun z:Int=>(z:Rat)
def Dg(s:Sp):Prop:=Fb s.over/\Fb s.under/\Bd 104000 s.lo/\Bd 104000 s.hi
def gl{ps a:LP}(h:Fb ps)(k:Fb a):Dg (Ic ps a):=by have c:=My h;have d:=My k;refine⟨h,k,?_,?_⟩<;>(unfold Ic;unfold Bd at *;dsimp only;omega)
def iz{s:Sp}(h:Dg s):∀z∈Qa s,Bd 104000 z:=by
 intro z g;have:=jC g;rw[Zg]at this;obtain⟨c,d,e,f⟩:=h;rcases List.mem_cons.1 this with rfl|this
 ·exact e
 rcases List.mem_cons.1 this with rfl|this
 ·exact f
 obtain⟨p,a,rfl⟩:=List.mem_map.1 (List.mem_filter.1 this).1;rcases List.mem_append.1 a with a|a
 ·exact(c.2.1 p a).1
 ·exact(d.2.1 p a).1
def IF(s:Sp)(ps:LP):(If s ps).length<=ps.length:=by unfold If;exact nT (List.length_filter_le _ _) sM
def BH{s:Sp}{ps:LP}{i:Nat}{p:Int×Int}(h:ps[i]?=M p):If s (ps.take (i+1))=If s (ps.take i)++(if vo s p.1 then [p.1]else []):=by
 unfold If;rw[Xf _ _ _ h,List.map_append,List.filter_append]
 congr 1
 simp[List.filter_cons]
def QL(c:Z)(base:Nat)(s:Sp)(a:N)(g:Nat)(t3 t21:N)(W:Z):Prop:=
 ∃i:Nat,i<=(s.over++s.under).length/\t21=Oa Ob i/\g=(s.over++s.under).length-i/\oa c W/\base<=W.heap.size/\Aa W a (s.over++s.under)/\Ga 3 1 W base t3 ((s.lo::s.hi::If s ((s.over++s.under).take i)).map ic)
def PL(c:Z)(base:Nat)(zs:List Int)(v46:N)(g:Nat)(d a:N)(W:Z):Prop:=
 ∃i:Nat,i<=zs.length/\a=Oa Ob i/\g=zs.length-i/\oa c W/\base<=W.heap.size/\Ga 3 1 W base v46 (zs.map ic)/\Zc W base d ((zs.take i).map fun z:Int=>(z:Rat))
def AE(W:Z)(x:Int)(T:TypeId):∀(j:Nat) u,[ic x].flatten[j]?=M u->(W.alloc (Oc #[Oa Ob x] T)).cell? ((⟨W.heap.size,0,I⟩:Of).add j)=M u:=by
 intro j u a
 match j,a with
 | 0,a=>simp[ic]at a;subst a;simp[Addr.add]
 | j+1,a=>simp[ic]at a
def NE(x:Int):∀u∈[ic x].flatten,u.oneCell'=true:=XC (zs:=[x])
def uE(W:Z)(base:Nat)(x y:Int)(h:base<=W.heap.size):Ga 3 1 (W.alloc (Oc #[Oa Ob x,Oa Ob y] 3)) base (O (M ⟨W.heap.size,0,I⟩) 2 2) ([x,y].map ic):=
 ⟨mt,by simp[ic],.inr ⟨W.heap.size,2,_,rfl,h,aN _ _,by simp,by unfold maxLen;omega,by simp,by simp[ic]⟩⟩
def qG(W:Z){b:Nat}(o:b=W.heap.size){e f:N}{ps j:LP}(k:Aa W e ps)(l:Aa W f j):Sl 107 1 (Ii 107) (W.alloc (Oc #[e,f] 107)) (O (M ⟨b,0,I⟩) 2 2) [ps,j]:=by
 subst o;refine⟨[[e],[f]],rfl,by simp,⟨by simp,M ⟨W.heap.size,0,I⟩,2,rfl,nE _,by unfold maxLen;omega,.inr ⟨W.heap.size,0,#[e,f],(0,0),rfl,aN _ _,?_⟩⟩,?_⟩
 ·intro i x a;simpa using a
 ·intro i c x d a;have g:oa W (W.alloc (Oc #[e,f] 107)):=(eR W).alloc _
  match i,d,a with
  | 0,d,a=>simp at d a;subst d a;exact⟨_,rfl,k.i g⟩
  | 1,d,a=>simp at d a;subst d a;exact⟨_,rfl,l.i g⟩
  | i+2,d,a=>simp at d
def ow(W:Z)(x y z:N)(T:TypeId):∀(j:Nat) u,[[x,y,z]].flatten[j]?=M u->(W.alloc (Oc #[x,y,z] T)).cell? ((⟨W.heap.size,0,I⟩:Of).add j)=M u:=by
 intro j u a
 match j,a with
 | 0,a=>simp at a;subst a;simp[Addr.add]
 | 1,a=>simp at a;subst a;simp[Addr.add]
 | 2,a=>simp at a;subst a;simp[Addr.add]
 | j+3,a=>simp at a
def Zc.app{g wr:Z}{base:Nat}{l:N}{f:List Rat}{cs:List (List N)}{d:List N}{q:Rat}(h:Ga 43 3 g base l (cs++[d]))(j:cs.length=f.length)(k:∀(i:Nat) c q,cs[i]?=M c->f[i]?=M q->PR wr c q)(r:Fa 2 wr g)(o:La g (Oe d.toArray) q):Zc g base l (f++[q]):=by
 refine⟨cs++[d],h,by simp[j],fun i c x a e=>?_⟩;by_cases p:i<cs.length
 ·rw[List.getElem?_append_left p]at a;rw[List.getElem?_append_left oM]at e;exact La.keep (k i c x a e) r
 ·rw[List.getElem?_append_right oM]at a e;have s:=(lS.1 a).1;simp at s;have:i-cs.length=0:=oM;rw[this]at a;rw[show i-f.length=0 by omega]at e;simp at a e;subst a e;exact o
def Zy(w:Z)(v1 v2:N)(s:Sp)(h1:Aa w v1 s.over)(h2:Aa w v2 s.under)(ar:Dg s):Calls Tryz.prog 87 #[Lh s v1 v2] w (Dm w (Jb s)):=by
 obtain⟨a1,m1,rfl⟩:=h1.form;obtain⟨a2,m2,rfl⟩:=h2.form;obtain⟨R,hR⟩:=gX (Dm w (Jb s));rw[hR];have HR:=ia hR;have bk:=ia ar;clear hR;unfold Lh;obtain⟨n1,f1⟩:=gX s.over.length;obtain⟨n2,f2⟩:=gX s.under.length;obtain⟨lo,aB⟩:=gX s.lo;obtain⟨hi,aA⟩:=gX s.hi;rw[f1]at h1 ⊢;rw[f2]at h2 ⊢;rw[aB,aA];have aM:=ia aB;have aL:=ia aA;have hn:(s.over++s.under).length=n1+n2:=by simp[f1,f2]
 have Hn:=ia hn;have q1:n1<=64:=by rw[<-f1];exact ar.1.2.2
 have q2:n2<=64:=by rw[<-f2];exact ar.2.1.2.2
 have H1:=ia (fun(W:Z)(hW:oa w W)=>h1.i hW);have H2:=ia (fun(W:Z)(hW:oa w W)=>h2.i hW);clear ar f1 f2 aB aA hn h1 h2;go_in;obtain⟨W0,ao⟩:=gX ((w.alloc (Oc #[O a1 n1 m1,O a2 n2 m2,Oa Ob lo,Oa Ob hi] 157)));have hB:W0.heap[w.heap.size]?=M (Oc #[O a1 n1 m1,O a2 n2 m2,Oa Ob lo,Oa Ob hi] 157 (0,0)):=by rw[<-ao];exact aN _ _
 have bp:oa w W0:=by rw[<-ao];exact(eR _).alloc _
 have aD:W0.heap.size=w.heap.size+1:=by rw[<-ao];simp
 have b0:=ja hB 0 (O a1 n1 m1);have b1:=ja hB 1 (O a2 n2 m2);have b2:=ja hB 2 (Oa Ob lo);have b3:=ja hB 3 (Oa Ob hi);have HP:=ia bp;have ac:=ia aD;go_wp2_with(go_at_call 86;(with_reducible refine(uI _ _ [s.over,s.under] (qG _ ?_ (H1.o _ ?_) (H2.o _ ?_)) ?_).mono ?_);(simp only[wZ];have:=ac.o;omega);(exact HP.o.alloc _);(exact HP.o.alloc _);(have:=Hn.o;simp only[Wi,List.flatten_cons,List.flatten_nil,List.append_nil];omega);rintro e w3 ⟨v3,rfl,q,av⟩;obtain⟨a3,n3,c3,rfl⟩:=q.j;obtain⟨bq,br⟩:=av.cells);rw[show [s.over,s.under].flatten=s.over++s.under by simp]at q;have bc:=q.pts;have aZ:=q.len;rw[lL,Hn.o]at aZ;subst aZ;have aE:oa W0 w3:=(((eR W0).alloc _).alloc _).trans av;have bh:=aE.size;have ab:=(((uE W0 W0.heap.size lo hi (nE _)).ext ((eR _).alloc (Oc #[O a1 n1 m1,O a2 n2 m2] 107))).ext av);rw[aD]at ab;clear bq br av ao b0 b1 b2 b3;go_loopg [3,21] (n1+n2) (QL W0 (w.heap.size+1) s (O a3 (n1+n2) c3))
 case atStart =>
  refine⟨0,by omega,rfl,by rw[Hn.o];rfl,aE,by rw[<-aD];exact bh,bc,?_⟩;rw[aM.o,aL.o,List.take_zero,show If s []=[]from rfl];exact ab
 case round =>
  clear ab bc q aE bh;obtain⟨i,bs,rfl,rfl,hx,aq,au,a⟩:=hrel;rw[Hn.o]at bs;obtain⟨bm,bi,aS,rfl⟩:=a.j;have a0:=IF s ((s.over++s.under).take i);have a4:((s.over++s.under).take i).length<=i:=by simp;omega
  have ae:((s.lo::s.hi::If s ((s.over++s.under).take i)).map ic).length<=200:=by simp;omega
  have b0:=hx.d (ja hB 0 (O a1 n1 m1));have b1:=hx.d (ja hB 1 (O a2 n2 m2));have b2:=hx.d (ja hB 2 (Oa Ob lo));have b3:=hx.d (ja hB 3 (Oa Ob hi));have f:=ia a;have Hx:=ia hx;have am:=ia au;have ak:=ia ae;have Hb:=ia hB;have bC:=hx.size;have bB:w.heap.size<wr.heap.size:=by have:=ac.o;omega
  by_cases af:i<n1+n2
  ·obtain⟨⟨x,z⟩,aJ⟩:∃p,(s.over++s.under)[i]?=M p:=⟨(s.over++s.under)[i]'(by rw[Hn.o];exact af),by simp[Hn.o,af]⟩;obtain⟨b,o,rfl,hb,c0,c1⟩:=au.at' aJ;have bb:=BH (s:=s) aJ;have al:=ia bb;have aY:vo s x=(decide (lo<x)&&decide (x<hi)):=by unfold vo;rw[aM.o,aL.o]
   have aj:=ia aY;clear bb aJ au a hx a0 a4 aY hB;by_cases hc:lo<x/\x<hi
   ·obtain⟨g1,g2⟩:=hc;obtain⟨n3,bz⟩:=gX bi;(have hE:If s ((s.over++s.under).take (i+1))=If s ((s.over++s.under).take i)++[x]:=by rw[al.o];dsimp only;rw[aj.o];simp[g1,g2]);have HE:=ia hE;clear hE al aj;go_wp2_with(at_builtin;refine kj (T:=3) (t:=44) (z:=Oa Ob 0) (k:=1) (bytes:=8) (base:=w.heap.size+1) (v:=O bm bi aS) (m:=1) (c:=1) (ad:=⟨wr.heap.size+1,0,I⟩) JE rfl dM dM Tryz.underlying44 rfl _ _ rfl rfl (f.o.ext eA) rfl [ic x] rfl (by simp[ic]) (by simpa using AE (wr.alloc (Oc #[Oa Ob x,Oa Ob z] 55)) x 3) (NE x) (by have:=ak.o;omega) (by simp only[wZ];omega) ?_;intro v' w5 r l ba;obtain⟨a5,n5,c5,rfl⟩:=r.j);go_roundg (n1+n2-(i+1))
    case measure=>have:=Hn.o;rw[lA]at this;omega
    case rel =>
     have y:oa wr ((wr.alloc (Oc #[Oa Ob x,Oa Ob z] 55)).alloc (Oc #[Oa Ob x] 3)):=((eR wr).alloc _).alloc _;have aa:=f.o.ext y;have ag:=Ch (base:=w.heap.size+1) l (by simp only[wZ];omega) (fun k hk=>(aa.lt k hk).1);refine⟨i+1,by rw[Hn.o];omega,by go_num,by rw[Hn.o],(Hx.o.trans y).E ag (by rw[ac.o];exact nE _),nT aq (nT y.size ag.size),(am.o.i y).G (aa.keepT dM l),?_⟩;rw[HE.o];simpa using r
   ·have hE:If s ((s.over++s.under).take (i+1))=If s ((s.over++s.under).take i):=by
     rw[al.o];dsimp only;rw[aj.o,if_neg (by simp;omega),List.append_nil]
    have HE:=ia hE;clear hE al aj;by_cases g1:lo<x
    ·have g2:¬x<hi:=fun h=>hc ⟨g1,h⟩;go_wp2;go_roundg (n1+n2-(i+1))
     case measure=>have:=Hn.o;rw[lA]at this;omega
     case rel =>
      have y:oa wr (wr.alloc (Oc #[Oa Ob x,Oa Ob z] 55)):=((eR wr).alloc _);refine⟨i+1,by rw[Hn.o];omega,by go_num,by rw[Hn.o],Hx.o.trans y,nT aq y.size,am.o.i y,?_⟩;rw[HE.o];exact f.o.ext y
    ·go_wp2;go_roundg (n1+n2-(i+1))
     case measure=>have:=Hn.o;rw[lA]at this;omega
     case rel =>
      have y:oa wr (wr.alloc (Oc #[Oa Ob x,Oa Ob z] 55)):=((eR wr).alloc _);refine⟨i+1,by rw[Hn.o];omega,by go_num,by rw[Hn.o],Hx.o.trans y,nT aq y.size,am.o.i y,?_⟩;rw[HE.o];exact f.o.ext y
  ·obtain rfl:i=n1+n2:=oM;have hE:(s.over++s.under).take (n1+n2)=s.over++s.under:=lT (by rw[Hn.o];exact nE _);rw[hE]at a f ae ak;obtain⟨g,rfl,aV,bx⟩:=a.blk sM;have aK:(s.lo::s.hi::If s (s.over++s.under)).length<=200:=by rw[lL]at ae;exact ae
   have an:=ia aK;obtain⟨L1,aC⟩:=gX ((s.lo::s.hi::If s (s.over++s.under)));rw[aC]at a f ae ak aK an;have aO:=ia aC;clear hE aC a a0 a4 ae au hx hB;go_wp2_with(first|(go_at_call 160;(with_reducible refine(fJ _ _ _ _ _ _ f.o ?_).mono ?_);(have:=an.o;omega);rintro e w5 ⟨rfl,r,aW⟩)|(go_at_call 161;(with_reducible refine(XK _ _ _ _ _ _ r ?_).mono ?_);(have:=an.o;rw[jp];omega);rintro e w6 ⟨rfl,K,aX⟩));have ap:=Ch (base:=w.heap.size+1) aW oM (fun k hk=>by cases hk;exact aV);have aF:=Ch (base:=w.heap.size+1) aX (nT aq ap.size) (fun k hk=>by cases hk;exact aV);have aT:oa W0 w6:=(Hx.o.E ap (by rw[ac.o];exact nE _)).E aF (by rw[ac.o];exact nE _);have be:w.heap.size+1<=w6.heap.size:=by have:=ap.size;have:=aF.size;omega
   obtain⟨zs,aw⟩:=gX (compact (Af L1));have bu:zs.length<=200:=by rw[<-aw];have:=kC (Af L1);rw[jp]at this;omega
   have ai:Qa s=zs:=by unfold Qa;rw[aO.o,aw]
   have aP:=ia (iz bk.o);rw[ai]at aP;have aR:=ia ai;rw[aw]at K ⊢;obtain⟨m,hm⟩:=gX zs.length;rw[hm]at K bu ⊢;have Hm:=ia hm;clear hm aw ai r aW aX ap aF f aO aK an ak am b0 b1 b2 b3 Hb af;go_loopg [6,48] m (PL W0 (w.heap.size+1) zs (O (M ⟨g,0,I⟩) m aS))
   case atStart=>exact⟨0,by omega,rfl,by rw[Hm.o];rfl,aT,be,K,by simpa using Zc.nil _ _⟩
   case round =>
    clear K aT be;obtain⟨i,bt,rfl,rfl,hx,bw,a,hR⟩:=hrel;rw[Hm.o]at bt;obtain⟨cs,aI,aH,aU⟩:=hR;obtain⟨bn,bv,bo,rfl⟩:=aI.j;have az:=ia aI;have ay:=ia aU;have ax:=ia aH;have f:=ia a;have aQ:=ia hx;have zg:=(a.lt g rfl).2;by_cases af:i<m
    ·obtain⟨z,hz⟩:∃z,zs[i]?=M z:=⟨zs[i]'(by rw[Hm.o];exact af),by simp[Hm.o,af]⟩;have c0:=a.cell (i:=i) (j:=0) (d:=ic z) (u:=Oa Ob z) (by rw[lP,hz];rfl) rfl;simp only[Nat.mul_one,Nat.add_zero]at c0;have aG:=aP.o z (lM hz);(have a6:cs.length<=200:=by rw[aH];simp;omega);have bj:=ia a6;have HC:=ia (fun W=>vi W z (by unfold Bd at aG;omega) (by unfold Bd at aG;omega));(have bf:(zs.take (i+1)).map (fun z:Int=>(z:Rat))=(zs.take i).map (fun z:Int=>(z:Rat))++[(z:Rat)]:=by rw[Xf _ _ _ hz,List.map_append];rfl);have bl:=ia bf;clear bf hz aI aU aH a hx aG a6;go_wp2_with(first|(go_at_call 44;refine cM (HC.o _) ?_;rintro e w7 ⟨r7,rfl,bd,bg⟩;obtain⟨a7,m7,c7,s7,a8,m8,c8,rfl⟩:=bd.form)|(at_builtin;refine kj (T:=43) (t:=123) (z:=Oe #[O I 0 0,U false,O I 0 0]) (k:=3) (bytes:=56) (base:=w.heap.size+1) (v:=O bn bv bo) (m:=1) (c:=1) (ad:=⟨w7.heap.size,0,I⟩) Qv rfl dM dM Tryz.underlying123 rfl _ _ rfl rfl (az.o.ext eA) rfl [[O a7 m7 c7,U s7,O a8 m8 c8]] rfl sM (ow _ _ _ _ _) (by simp[Value.oneCell']) (by have:=bj.o;omega) (by have:=bg.size;simp only[wZ,Tb]at *;omega) ?_;intro v' w8 ah l ba;obtain⟨a9,n9,c9,rfl⟩:=ah.j));go_roundg (m-(i+1))
     case measure=>have:=Hm.o;omega
     case rel =>
      have y:oa wr (w7.alloc (Oc #[O a7 m7 c7,U s7,O a8 m8 c8] 43)):=(((eR wr).trans bg).alloc _);have aa:=az.o.ext y;have bA:=y.size;have ag:=Ch (base:=w.heap.size+1) l oM (fun k hk=>(aa.lt k hk).1);refine⟨i+1,by rw[Hm.o];omega,by go_num,by rw[Hm.o],(aQ.o.trans y).E ag (by rw[ac.o];exact nE _),by have:=ag.size;omega,(f.o.ext y).keep (aa.keepT dM l),?_⟩;rw[bl.o];exact Zc.app ah ax.o ay.o (y.keep.trans (aa.keepT dM l)) (bd.keep (((eR w7).alloc _).keep.trans (aa.keepT dM l)))
    ·obtain rfl:i=m:=oM;have hE:zs.take i=zs:=lT (by rw[Hm.o];exact nE _);rw[hE]at ay ax;clear hE;go_wp2;rw[<-HR.o];refine⟨_,rfl,?_,HP.o.trans aQ.o⟩;unfold Jb;rw[aR.o];exact Zc.mono ⟨cs,az.o,ax.o,ay.o⟩ oM
end
section
open Go.RowKit Go.Shelf
def Xg(W:Z)(b:Nat):Nat->List N->Z
 | _,[]=>W
 | i,v::vs=>Xg (W.setCell ⟨b,i,I⟩ v) b (i+1) vs
def El(cs:Array N):Nat->List N->Array N
 | _,[]=>cs
 | i,v::vs=>El (cs.setIfInBounds i v) (i+1) vs
def Uw{b:Nat}{T:TypeId}{d:Nat×Nat}:∀(a:List N)(i:Nat){W:Z}{c:Array N},W.heap[b]?=M (Oc c T d)->(Xg W b i a).heap[b]?=M (Oc (El c i a) T d)
 | [],_,_,_,h=>h
 | _::a,i,_,_,h=>Uw a (i+1) (Bk h i _)
def Gz:∀(e d a:List N),d.length=e.length->El (a++d).toArray a.length e=(a++e).toArray
 | [],d,a,h=>by rw[List.eq_nil_of_length_eq_zero h];rfl
 | v::e,[],_,h=>by cases h
 | v::e,c::d,a,h=>by
  have f:=Gz e d (a++[v]) (by simpa using h);unfold El;rw[show (a++c::d).toArray.setIfInBounds a.length v=(a++[v]++d).toArray by simp];rw[lA,List.length_singleton]at f;rw[f];simp
def Qo{W:Z}{b:Nat}{cs:List N}{T:TypeId}{c:Nat×Nat}(a:List N)(h:W.heap[b]?=M (Oc cs.toArray T c))(d:cs.length=a.length):(Xg W b 0 a).heap[b]?=M (Oc a.toArray T c):=by rw[Uw a 0 h];have:=Gz a cs [] d;rw[List.nil_append,List.nil_append]at this;rw[List.length_nil]at this;rw[this]
def Wl{b k:Nat}(c:k≠b):∀(a:List N)(i:Nat)(W:Z),(Xg W b i a).heap[k]?=W.heap[k]?
 | [],_,_=>rfl
 | _::a,i,W=>(Wl c a (i+1) _).trans (bS _ _ _ _ c)
def Ql{T:TypeId}{b:Nat}:∀(a:List N)(i:Nat){W:Z},Wc T W b->Fa T W (Xg W b i a)
 | [],_,_,_=>Fa.refl _ _
 | _::a,i,_,h=>(Fa.D (p:=⟨b,i,I⟩) (Fa.refl _ _) h _).trans (Ql a (i+1) (h.set _ _))
def Jo{w:Z}{b:Nat}(c:w.heap.size<=b):∀(a:List N)(i:Nat){W:Z},oa w W->oa w (Xg W b i a)
 | [],_,_,h=>h
 | _::a,i,_,h=>Jo c a (i+1) (oa.set (p:=⟨b,i,I⟩) h c _)
def Lr{W:Z}{b c:Nat}{l k:TypeId}{p o:Nat×Nat}{cs ds:List N}(a d:List N)(r:W.heap[b]?=M (Oc cs.toArray l p))(z:W.heap[c]?=M (Oc ds.toArray k o))(i:c≠b)(w:cs.length=a.length)(y:ds.length=d.length):(Xg (Xg W b 0 a) c 0 d).heap[b]?=M (Oc a.toArray l p)/\(Xg (Xg W b 0 a) c 0 d).heap[c]?=M (Oc d.toArray k o)/\(∀j,j≠b->j≠c->(Xg (Xg W b 0 a) c 0 d).heap[j]?=W.heap[j]?)/\(∀T,T≠l->T≠k->Fa T W (Xg (Xg W b 0 a) c 0 d))/\∀v:Z,oa v W->v.heap.size<=b->v.heap.size<=c->oa v (Xg (Xg W b 0 a) c 0 d):=by
 have t:=Qo a r w;have q:(Xg W b 0 a).heap[c]?=M (Oc ds.toArray k o):=(Wl i a 0 W).trans z;refine⟨(Wl (fun e=>i e.symm) d 0 _).trans t,Qo d q y,fun j f g=>(Wl g d 0 _).trans (Wl f a 0 W),fun T f g=>(Ql a 0 ?_).trans (Ql d 0 ?_),fun v f g u=>Jo u d 0 (Jo g a 0 f)⟩
 ·intro x s h;rw[r]at h;cases h;exact f rfl
 ·intro x s h;rw[q]at h;cases h;exact g rfl
end
section
open Go.RowKit Go.Shelf
attribute [local go_sem] Oper.semAt_some
def Rf(n:Nat):List UInt8:=[n/1000000,n/100000,n/10000,n/1000,n/100,n/10,n].map fun d=>UInt8.ofNat (48+d%10)
def Va:Nat->Nat->List (List UInt8)
 | 0,_=>[]
 | k+1,n=>if n=0 then []else Va k (n/10000000)++[Rf (n%10000000)]
def Lg(n:Nat):List UInt8:=if Lib.trimLeftB (Va (n+1) n).flatten 48=[]then [48]else Lib.trimLeftB (Va (n+1) n).flatten 48
def NI(n:Nat):(Rf n).map (fun b=>Value.int .u8 (b.toNat:Int))=[n/1000000,n/100000,n/10000,n/1000,n/100,n/10,n].map fun d=>Value.int .u8 ((48+d%10:Nat):Int):=by unfold Rf;rw[List.map_map];refine List.map_congr_left fun d _=>?_;have:(UInt8.ofNat (48+d%10)).toNat=48+d%10:=UInt8.toNat_ofNat_of_lt' (by simp[UInt8.size];omega);simp only[Function.comp_apply,this]
def Qj(n:Nat):Nat->List Int
 | 0=>[0,0,0,0,0,0,0]
 | i+1=>(Qj n i).set (6-i) ((48+n/10 ^ i%10:Nat):Int)
def ji(n i:Nat):Array N:=((Qj n i).map (Value.int .u8)).toArray
def Ux(n:Nat):∀i,(Qj n i).length=7
 | 0=>rfl
 | i+1=>by rw[Qj,List.length_set,Ux n i]
def JG(n:Nat):ji n 7=((Rf n).map fun b=>Value.int .u8 (b.toNat:Int)).toArray:=by rw[NI];simp[ji,Qj]
def IG(n:Nat){i:Nat}(hi:i<7):(ji n i).setIfInBounds (6-i) (Oa .u8 ((48+n/10 ^ i%10:Nat):Int))=ji n (i+1):=by unfold ji;rw[List.setIfInBounds_toArray,Qj,List.map_set]
def KK{k n:Nat}(h:n<k)(a:n≠0):∃k',k=k'+1/\n/10000000<k'/\Va k n=Va k' (n/10000000)++[Rf (n%10000000)]:=by obtain⟨k',rfl⟩:∃k',k=k'+1:=⟨k-1,by omega⟩;exact⟨k',rfl,by omega,by rw[Va,if_neg a]⟩
def Ou(k:Nat):Va k 0=[]:=by cases k<;>simp[Va]
def sc(s:List UInt8):List N:=[.string ⟨s.toArray⟩]
def mc:Nat:=100000
def mv(w:Z)(e:Nat)(g:Nat)(t3:N)(W:Z):Prop:=
 ∃(n k:Nat)(d:List (List UInt8))(a:Option Of)(m c:Nat),g=n/\n<k/\Va (e+1) e=Va k n++d/\d.length<=2*mc/\n*2 ^ (23*d.length)<=e/\(∀s∈d,s.length=7)/\oa w W/\
  W.heap[w.heap.size]?=M (Oc #[O a m c] 39 (0,0))/\Tc W (Oe #[O a m c]) n/\Ga 9 1 W w.heap.size t3 (d.map sc)/\w.heap.size<W.heap.size
def OL(a:Z)(n:Nat)(b:Nat)(g:Nat)(c t25:N)(W:Z):Prop:=
 ∃i:Nat,i<=7/\g=7-i/\t25=Oa Ob i/\c=Oa .u64 ((n/10 ^ i:Nat):Int)/\oa a W/\W.heap[b]?=M (Oc (ji n i) 5 (0,0))
def mv.step{a n k:Nat}{ps:List (List UInt8)}(q:Lm mc a)(f:n≠0)(p:n<k)(o:Va (a+1) a=Va k n++ps)(g:n*2 ^ (23*ps.length)<=a):∃k',n/10000000<k'/\Va (a+1) a=Va k' (n/10000000)++(Rf (n%10000000)::ps)/\(Rf (n%10000000)::ps).length<=2*mc/\n/10000000*2 ^ (23*(Rf (n%10000000)::ps).length)<=a:=by
 obtain⟨k',rfl,i,j⟩:=KK p f;refine⟨k',i,by rw[o,j,List.append_assoc];rfl,?_,?_⟩
 ·have c:(a:Int)<B ^ mc:=q.2;have e:(B:Int) ^ mc=((2 ^ (24*mc):Nat):Int):=by
   rw[Nat.pow_mul];unfold B;rw[Int.natCast_pow];rfl
  rw[e]at c;have d:a<2 ^ (24*mc):=by exact_mod_cast c
  have l:2 ^ (23*ps.length)<=a:=nT (Nat.le_mul_of_pos_left _ (Nat.pos_of_ne_zero f)) g;have r:23*ps.length<24*mc:=(Nat.pow_lt_pow_iff_right (by decide:1<2)).1 (Nat.lt_of_le_of_lt l d);rw[List.length_cons];unfold mc at *;omega
 ·rw[List.length_cons,Nat.mul_add,Nat.pow_add];have:n/10000000*8388608<=n:=oM;have e:n/10000000*(2 ^ (23*ps.length)*2 ^ (23*1))=(n/10000000*8388608)*2 ^ (23*ps.length):=by
   rw[show (2:Nat) ^ (23*1)=8388608 from rfl,Nat.mul_comm (2 ^ (23*ps.length)),Nat.mul_assoc]
  exact nT (Nat.le_of_eq e) (nT (Nat.mul_le_mul_right _ this) g)
def xE(W:Z){x:Int}(a:0<x)(c:x<B):Tc (W.alloc (Oc #[Oa Ob x] 2)) (Oe #[O (M ⟨W.heap.size,0,I⟩) 1 1]) x:=by
 refine⟨_,[x],rfl,⟨rfl,_,1,rfl,nE _,by unfold maxLen;omega,.inr ⟨W.heap.size,0,_,(0,0),rfl,aN _ _,?_⟩⟩,⟨?_,?_⟩,by simp⟩
 ·intro i v hv
  match i,hv with
  | 0,hv=>simpa[Bc] using hv
  | i+1,hv=>simp[Bc]at hv
 ·intro d e;rw[List.mem_singleton.1 e];exact⟨Int.le_of_lt a,c⟩
 ·simp;omega
def VH{P:Program}{T t:TypeId}{k bytes:Nat}{z:N}{w:Z}{base:Nat}{v sl:N}{cs:List (List N)}{ops:Array Oper}{o:Oper}{a:Od}{K:Od->Z->Prop}{Q:Exit->Od->Z->Prop}{E:Prop}(e:(P.info? T).map (fun i=>(i.zero,i.size,i.bytes))=M (M z,k,bytes))(r:z.cells.size=k)(hk:0<k)(p:bytes<=1000)(ht:P.underlying t=M (.slice T))(q:o.guard=I)(s x:Operand)(ho:o.op = .call { callee:=.builtin .append,args:=#[s,x],argTypes:=#[t,t] })(hs:a.eval s=v)(g:Ga T k w base v cs)(hx:a.eval x=sl)
  (ds:List (List N))(hd:∀c∈ds,c.length=k)(l:Rd w T k sl ds.length ds.flatten)(y:∀u∈ds.flatten,u.oneCell'=true)(f:cs.length+ds.length<=100000000000)(d:base<=w.heap.size)
  (h:∀v' w',Ga T k w' base v' (cs++ds)->w.grownBy w' v.ownBlock->(v'.ownBlock=v.ownBlock\/v'.ownBlock=M w.heap.size)->K (a.put o.dst v') w') :
  if Region.wanted o (yielded ops a.tmps)=true then Oper.wp P o a w K Q else E:=by
 have hw:Region.wanted o (yielded ops a.tmps)=true:=by simp[Region.wanted,q]
 rw[if_pos hw];obtain⟨v',w',j,R,h3,h4⟩:=oy (P:=P) o.type e r hk p ht g hd l y f d;unfold Oper.wp;simp[execOp,ho,resolve,invoke,builtin,hs,hx,j,Result.andThen];exact h v' w' R h3 h4
def AL(W:Z):(Instr.makeSlice 272 (Oa Ob 7) (Oa Ob 7)).run Tryz.prog W = .ok (O (M ⟨W.heap.size,0,I⟩) 7 7) (W.alloc (Oc #[Oa .u8 0,Oa .u8 0,Oa .u8 0,Oa .u8 0,Oa .u8 0,Oa .u8 0,Oa .u8 0] 5)):=by kernel_rfl
def Rp{W:Z}{b q:Nat}{a:Nat×Nat}(h:W.heap[b]?=M (Oc (ji q 7) 5 a)):(convert 272 9 (O (M ⟨b,0,I⟩) 7 7)).run Tryz.prog W = .ok (.string ⟨(Rf q).toArray⟩) W:=by
 refine run_convert_bytes_back W 272 9 5 ⟨b,0,I⟩ 7 (Rf q) Tryz.underlying272 Tryz.underlying5 Tryz.underlying9 fun j c=>?_;have e:((⟨b,0,I⟩:Of).add j)=⟨b,j,I⟩:=by unfold Addr.add;split<;>simp_all
 rw[e];rw[JG]at h;refine Gb h ?_;rw[List.getElem?_toArray,lP,gE c];rfl
def JD{w:Z}{base:Nat}(s:List UInt8)(a:base<=w.heap.size):Ga 9 1 (w.alloc (Oc #[.string ⟨s.toArray⟩] 9)) base (O (M ⟨w.heap.size,0,I⟩) 1 1) [sc s]:=
 ⟨fun c d=>by rw[List.mem_singleton.1 d];rfl,⟨by simp[sc],.inr ⟨w.heap.size,1,#[.string ⟨s.toArray⟩],rfl,a,aN w _,by simp,by simp[maxLen],by simp,by simp[sc]⟩⟩⟩
def DD{ps:List (List UInt8)}:∀u∈(ps.map sc).flatten,u.oneCell'=true:=by intro u a;obtain⟨d,c,a⟩:=List.mem_flatten.1 a;obtain⟨p,_,rfl⟩:=List.mem_map.1 c;rw[List.mem_singleton.1 a];rfl
def ED{ps:List (List UInt8)}:∀c∈ps.map sc,c.length=1:=by intro c a;obtain⟨p,_,rfl⟩:=List.mem_map.1 a;rfl
def nH:(Tryz.prog.info? 9).map (fun i=>(i.zero,i.size,i.bytes))=M (M (.string ⟨#[]⟩),1,16):=kM
def Qt:∀xs:List (List UInt8),Lib.join xs []=xs.flatten
 | []=>rfl
 | [x]=>by simp[Lib.join]
 | x::y::r=>by
  have:=Qt (y::r);simp only[Lib.join,List.flatten_cons]at this ⊢;simpa using this
def Fk:∀{a:List (List UInt8)},(∀s∈a,s.length=7)->a.flatten.length=7*a.length
 | [],_=>rfl
 | s::a,h=>by
  rw[List.flatten_cons,lA,Fk (fun x c=>h x (mC _ c)),h s (by simp),List.length_cons];omega
def Pw:∀ps:List (List UInt8),(ps.map sc).flatten=ps.map fun s=>Value.string ⟨s.toArray⟩
 | []=>rfl
 | s::ps=>by
  rw[List.map_cons,List.flatten_cons,Pw ps,List.map_cons];rfl
def lH(w:Z)(v:N)(base:Nat)(ps:List (List UInt8))(h:Ga 9 1 w base v (ps.map sc))(q:ps.length<=2*mc)(y:∀s∈ps,s.length=7):Calls Tryz.prog 211 #[v,.string ⟨#[]⟩] w fun e t=>e=.returned (.string ⟨ps.flatten.toArray⟩)/\oa w t:=by
 obtain⟨a,n,c,rfl⟩:=h.j;have r:=h.len;rw[lL]at r;subst r;by_cases l:ps=[]
 ·subst l;refine(Tryz.strings_Join_none a c ⟨#[]⟩ w).mono ?_;rintro e t ⟨rfl,rfl⟩;exact⟨rfl,eR _⟩
 ·have i:=h.rd;rw[lL]at i;obtain⟨u,o,rfl,z,_,K⟩:=i.open (List.length_pos_iff.2 l);have d:=i.le;have g:(ps.map fun s:List UInt8=>(⟨s.toArray⟩:ByteArray)).length=ps.length:=lL ..;have k:((ps.map fun s:List UInt8=>(⟨s.toArray⟩:ByteArray)).map (·.data.toList))=ps:=by
   rw[List.map_map]
   conv=>rhs;rw[<-List.map_id ps]
   exact List.map_congr_left fun s _=>by simp
  have R:=Fk y;have p:=Tryz.strings_Join u o c (ps.map fun s:List UInt8=>(⟨s.toArray⟩:ByteArray)) ⟨#[]⟩ w (fun j x f=>by
   rw[lP]at f;cases hp:ps[j]? with
   | none=>rw[hp]at f;cases f
   | some s =>
    rw[hp]at f;cases f;refine K j _ ?_;rw[Pw,lP,hp];rfl) z (by rw[g];unfold mc at q;omega) (by rw[g];exact d.1) (by rw[k,Qt,R];unfold mc at q;omega)
  rw[g,k,Qt]at p;exact p
end
section
open Go.RowKit Go.Shelf Go.Sort Go.Lib
def Rb.gap{s:Sp}{x:Rat}(a:Rb 1 x)(h:Dg s):Rb 23 (Db s x):=by unfold Db;exact Rb.sub (k:=11) (a.atR h.1) (a.atR h.2.1)
def od{k:Nat}{q:Rat}(h:Rb k q)(a:k<=1000000):Rb Yb q:=h.mono a
def Rv(w:Z)(s:Sp)(d e f:N)(x:Rat)(g:Aa w d s.over)(i:Aa w e s.under)(a:Dg s)(j:La w f x)(c:Rb 1 x):Calls Tryz.prog 157 #[Lh s d e,f] w (Id w (Db s x)):=
 MD w s d e f x g i a.1 a.2.1 j (c.mono oM) (od (c.atR a.1) oM) (od (c.atR a.2.1) oM)
def Vi{s:Sp}(h:Dg s):∀q∈Jb s,Rb 1 q:=by intro q a;obtain⟨z,c,rfl⟩:=List.mem_map.1 a;exact me (iz h z c)
def Ya(f:Rat->Rat)(o:Rat×Rat)(x:Rat):Rat×Rat:=if Pb (f x) o.2<0 then (x,f x)else o
def Sc(f:Rat->Rat):List Rat->Rat×Rat
 | []=>(0,0)
 | x::xs=>xs.foldl (Ya f) (x,f x)
def vJ(f:Rat->Rat)(xs:List Rat)(x:Rat)(h:xs≠[]):Sc f (xs++[x])=Ya f (Sc f xs) x:=by
 cases xs with
 | nil=>exact absurd rfl h
 | cons y a=>simp[Sc]
def Bl(f:Rat->Rat){xs:List Rat}(h:xs≠[]):(Sc f xs).1∈xs/\(Sc f xs).2=f (Sc f xs).1:=by
 cases xs with
 | nil=>exact absurd rfl h
 | cons x xs =>
  have:∀(c:List Rat)(a:Rat×Rat),a.2=f a.1->(c.foldl (Ya f) a).2=f (c.foldl (Ya f) a).1/\((c.foldl (Ya f) a).1=a.1\/(c.foldl (Ya f) a).1∈c):=by
   intro c;induction c with
   | nil=>intro a h;exact⟨h,.inl rfl⟩
   | cons y c k =>
    intro a i;rw[List.foldl_cons];have j:(Ya f a y).2=f (Ya f a y).1:=by unfold Ya;split<;>first|rfl|exact i
    obtain⟨d,g⟩:=k _ j;refine⟨d,?_⟩;rcases g with e|e
    ·rw[e];unfold Ya;split
     ·exact .inr sM
     ·exact .inl rfl
    ·exact .inr (mC _ e)
  obtain⟨d,g⟩:=this xs (x,f x) rfl;refine⟨?_,d⟩;rcases g with e|e
  ·show (xs.foldl (Ya f) (x,f x)).1∈_;rw[e];simp
  ·exact mC _ e
def Gj(w:Z)(p q:Rat)(e:Ending)(w':Z):Prop:=∃r s,e=.returned (.tuple #[r,s])/\La w' r p/\La w' s q/\oa w w'
def Ca.set3d{L:List (Of×N)}{W:Z}{b:Nat}(h:Ca L W.drew)(a:∀q∈L,b≠q.1.block)(u v t:N):Ca L (((W.setCell ⟨b,0,I⟩ u).setCell ⟨b,1,I⟩ v).setCell ⟨b,2,I⟩ t).drew:=
 Ca.set3 h a u v t
def RB.put3{W W':Z}{d:Nat}{p x:Rat}{a i:Option Of}{m c j c2:Nat}{s:Bool}(h:RB W d x)(v:La W (Oe #[O a m c,U s,O i j c2]) p)(f:((W.setCell ⟨d,0,I⟩ (O a m c)).setCell ⟨d,1,I⟩ (U s)).setCell ⟨d,2,I⟩ (O i j c2)=W'):RB W' d p/\(∀b r,b≠d->RB W b r->RB W' b r)/\Fa 2 W W'/\W'.heap.size=W.heap.size/\(∀w:Z,oa w W->w.heap.size<=d->oa w W'):=by
 have e:=h.not;have u:=h.put v;rw[f]at u;refine⟨u,fun b r l k=>?_,?_,?_,fun w k o=>?_⟩
 ·have q:=k.other (p:=⟨d,0,I⟩) (Ne.symm l) e (O a m c);have t:=q.other (p:=⟨d,1,I⟩) (Ne.symm l) (e.set _ _) (U s);have g:=t.other (p:=⟨d,2,I⟩) (Ne.symm l) ((e.set _ _).set _ _) (O i j c2);rw[f]at g;exact g
 ·have q:=(Fa.refl 2 W).D (p:=⟨d,0,I⟩) e (O a m c);have t:=q.D (p:=⟨d,1,I⟩) (e.set _ _) (U s);have g:=t.D (p:=⟨d,2,I⟩) ((e.set _ _).set _ _) (O i j c2);rw[f]at g;exact g
 ·rw[<-f];simp
 ·rw[<-f];exact((k.set o _).set o _).set o _
def RB.copy2{W K g:Z}{d f:Nat}{p q p' q':Rat}{a i e e2:Option Of}{m c m2 c2 n k n2 k2:Nat}{s t:Bool}(h1:RB W d p')(h2:RB W f q')(j:d≠f)(y:La W (Oe #[O a m c,U s,O i m2 c2]) p)(z:La W (Oe #[O e n k,U t,O e2 n2 k2]) q)(l:((W.setCell ⟨d,0,I⟩ (O a m c)).setCell ⟨d,1,I⟩ (U s)).setCell ⟨d,2,I⟩ (O i m2 c2)=K)(o:((K.setCell ⟨f,0,I⟩ (O e n k)).setCell ⟨f,1,I⟩ (U t)).setCell ⟨f,2,I⟩ (O e2 n2 k2)=g):RB g d p/\RB g f q/\(∀b r,b≠d->b≠f->RB W b r->RB g b r)/\Fa 2 W g/\g.heap.size=W.heap.size/\(∀w:Z,oa w W->w.heap.size<=d->w.heap.size<=f->oa w g):=by obtain⟨a1,i,R,a4,a5⟩:=h1.put3 y l;obtain⟨b1,T,b3,b4,b5⟩:=(i _ _ (Ne.symm j) h2).put3 (z.keep R) o;exact⟨T _ _ j a1,b1,fun b r hb u h=>T _ _ u (i _ _ hb h),R.trans b3,b4.trans a4,fun w k v x=>b5 w (a5 w k v) x⟩
def QM(w:Z)(f:Rat->Rat)(a:List Rat)(g:Nat)(c:N)(W:Z):Prop:=
 ∃i:Nat,i<=a.length/\c=Oa Ob i/\g=a.length-i/\oa w W/\RB W w.heap.size 0/\RB W (w.heap.size+1) 0/\RB W (w.heap.size+1+1) (Sc f (a.take i)).1/\RB W (w.heap.size+1+1+1) (Sc f (a.take i)).2
def YG(w:Z)(v v1 v2:N)(s:Sp)(qs:List Rat)(hs:Wf w v qs)(h1:Aa w v1 s.over)(h2:Aa w v2 s.under)(ao:Dg s)(hq:∀q∈qs,Rb 1 q):Calls Tryz.prog 94 #[v,.func (.func 157) #[Lh s v1 v2] #[]] w (Gj w (Sc (Db s) qs).1 (Sc (Db s) qs).2):=by
 obtain⟨a,c,rfl⟩:=hs.form;obtain⟨n,hn⟩:=gX qs.length;rw[hn]at hs ⊢;have aO:=hs.le;unfold maxLen at aO;have Hn:=ia hn;have Hq:=ia hq;have az:=ia ao;have aW:n<=9223372036854775807:=oM;have HG:=ia (fun(W:Z)(hW:oa w W)(vx:N)(x:Rat)(hx:La W vx x)(hb:Rb 1 x)=>Rv W s v1 v2 vx x (h1.i hW) (h2.i hW) ao hx hb);obtain⟨sv,aP⟩:=gX (Lh s v1 v2);rw[aP]at HG ⊢;obtain⟨R,hR⟩:=gX (Gj w (Sc (Db s) qs).1 (Sc (Db s) qs).2);rw[hR];have HR:=ia hR;clear hn hq aO aP ao hR;go_in;go_wp2;go_loopg [13] n (QM w (Db s) qs)
 case atStart =>
  have z:∀W,La W (Oe #[O I 0 0,U false,O I 0 0]) 0:=fun W=>La.zero _;exact⟨0,by omega,rfl,by rw[Hn.o];rfl,eA,(RB.new (z w) rfl).ext ((((eR _).alloc _).alloc _).alloc _),(RB.new (z _) sM).ext (((eR _).alloc _).alloc _),(RB.new (z _) sM).ext ((eR _).alloc _),RB.new (z _) sM⟩
 case round =>
  obtain⟨i,hi,rfl,rfl,hx,hA,hB,hC,hD⟩:=hrel;rw[Hn.o]at hi;have Hx:=ia hx;have HA:=ia hA;have HB:=ia hB;have HC:=ia hC;have HD:=ia hD;by_cases aT:i<n
  ·obtain⟨x,am⟩:∃x,qs[i]?=M x:=⟨qs[i]'(by rw[Hn.o];omega),by simp[Hn.o,aT]⟩;obtain⟨b,o,a3,m3,c3,s3,a4,m4,c4,rfl,aV,af,e0,e1,e2⟩:=(hs.i hx).at' am;have aA:=ia am;have aK:=Hq.o x (lM am);have aj:=ia aK;clear am hA hB hC hx aK;obtain⟨d1,dm,dc,ds,d2,aI,aE,aB,aC,aD,aF,aG,aH,zD,an⟩:=hD.rd;by_cases h0:i=0
   ·(have aR:((i:Int)==0)=true:=by simp;omega);have H0:=ia h0;clear h0 hD;go_wp2_with(((go_at_call 157;refine cM (HG.o _ ?_ (Oe #[O a3 m3 c3,U s3,O a4 m4 c4]) x ?_ aj.o) ?_;(refine oa.trans Hx.o ?_;exact eA);(refine af.ext ?_;exact eA);rintro e w1 ⟨r1,rfl,aa,f⟩;obtain⟨b1,n1,k1,t1,b2,n2,k2,rfl⟩:=aa.form;obtain⟨ak,al⟩:=f.cells;(have z1:wr.heap.size<w1.heap.size:=(by have:=f.size;simp only[wZ]at this;omega)))));obtain⟨W8,ah⟩:=gX ((w1.alloc (Oc #[O b1 n1 k1,U t1,O b2 n2 k2] 43)));(have d:oa wr W8:=by rw[<-ah];exact(((eR _).alloc _).trans f).alloc _);(have g1:RB W8 wr.heap.size x:=by rw[<-ah];exact((RB.new af rfl).ext f).ext ((eR _).alloc _));(have g2:RB W8 w1.heap.size (Db s x):=by rw[<-ah];exact RB.new aa rfl);have g3:=HC.o.ext d;have g4:=HD.o.ext d;have zW:=d.size;obtain⟨s1,ai⟩:=gX w1.heap.size;rw[ah];simp only[ai]at *;clear ah ak al aa f an aB aC aD aF aG aH ai e0 e1 e2 af;obtain⟨pa,pm,l,ps,j,r,p,p0,p1,p2,_,_,_,pz,hp⟩:=(g1).rd;obtain⟨qa,qm,qc,T,t,y,u,q0,q1,q2,_,_,_,qz,ag⟩:=(g2).rd;obtain⟨_,_,_,_,_,_,_,x0,x1,x2,ap,aq,ar,xz,_⟩:=(g3).rd;obtain⟨_,_,_,_,_,_,_,y0,y1,y2,au,av,aw,yz,_⟩:=(g4).rd;refine Ke [(⟨wr.heap.size,0,I⟩,O pa pm l),(⟨wr.heap.size,1,I⟩,U ps),(⟨wr.heap.size,2,I⟩,O j r p),(⟨s1,0,I⟩,O qa qm qc),(⟨s1,1,I⟩,U T),(⟨s1,2,I⟩,O t y u)] cA fun g=>?_;refine sN 0 ?_
    (iterate 2 refine Fc ?_);refine oN ?_;have ab:∀q∈[((⟨wr.heap.size,0,I⟩:Of),Value.slice pa pm l),(⟨wr.heap.size,1,I⟩,U ps),(⟨wr.heap.size,2,I⟩,O j r p),(⟨s1,0,I⟩,O qa qm qc),(⟨s1,1,I⟩,U T),(⟨s1,2,I⟩,O t y u)],w.heap.size+1+1≠q.1.block:=by
     simp<;>omega
    have ac:∀q∈[((⟨wr.heap.size,0,I⟩:Of),Value.slice pa pm l),(⟨wr.heap.size,1,I⟩,U ps),(⟨wr.heap.size,2,I⟩,O j r p),(⟨s1,0,I⟩,O qa qm qc),(⟨s1,1,I⟩,U T),(⟨s1,2,I⟩,O t y u)],w.heap.size+1+1+1≠q.1.block:=by
     simp<;>omega
    refine Je (i:=2) fun K hK=>?_;go_simp;refine kO hK (Ca.set3d g ab _ _ _) (fun g=>?_);clear hK K;refine Je (i:=3) fun K hK=>?_;go_simp;refine kO hK (Ca.set3d g ac _ _ _) (fun g=>?_);clear hK K;refine Wd ?_;have e:Sc (Db s) (qs.take (i+1))=(x,Db s x):=by
     have:=H0.o;subst this;rw[Xf _ _ _ aA.o];simp[Sc]
    have E:=ia e;have ae:=ia d;have P:=ia (RB.copy2 g3 g4 oM hp ag rfl rfl);clear e d g1 g2 g3 g4;go_wp2;go_roundg (n-(i+1))
    case measure=>have:=Hn.o;omega
    case rel =>
     obtain⟨P1,P2,P3,P4,P5,P6⟩:=P.o;have D:=fun W=>(eR W).drew;exact⟨i+1,by rw[Hn.o];omega,by go_num,by rw[Hn.o],(P6 w (Hx.o.trans ae.o) oM oM).drew,
      (P3 _ _ oM oM (HA.o.ext ae.o)).ext (D _),(P3 _ _ oM oM (HB.o.ext ae.o)).ext (D _),by rw[E.o];exact P1.ext (D _),by rw[E.o];exact P2.ext (D _)⟩
   ·(have aR:((i:Int)==0)=false:=by simp;omega);have H0:=ia h0;clear h0 hD;have aJ:Rb 23 (Sc (Db s) (qs.take i)).2:=by
     have aU:qs.take i≠[]:=fun h=>by
      (have h2:(qs.take i).length=0:=by rw[h];rfl);rw[List.length_take,Hn.o]at h2;have:=H0.o;omega
     obtain⟨j1,j2⟩:=Bl (Db s) aU;rw[j2];exact Rb.gap (Hq.o _ (List.mem_of_mem_take j1)) az.o
    have aQ:=ia aJ;clear aJ;have e:Sc (Db s) (qs.take (i+1))=Ya (Db s) (Sc (Db s) (qs.take i)) x:=by
     rw[Xf _ _ _ aA.o,vJ];intro h;(have h2:(qs.take i).length=0:=by rw[h];rfl);rw[List.length_take,Hn.o]at h2;have:=H0.o;omega
    have E:=ia e;clear e;obtain⟨k,hk⟩:=gX (Pb (Db s x) (Sc (Db s) (qs.take i)).2);have Hk:=ia hk;have ax:=ia (od (Rb.gap aj.o az.o) oM);have ay:=ia (od aQ.o oM);clear hk;have aX:w.heap.size+1+1+1<wr.heap.size+1:=oM;by_cases aS:k<0
    ·go_wp2_with(first|(go_at_call 157;refine cM (HG.o _ ?_ (Oe #[O a3 m3 c3,U s3,O a4 m4 c4]) x ?_ aj.o) ?_;(refine oa.trans Hx.o ?_;exact eA);(refine af.ext ?_;exact eA);rintro e w1 ⟨r1,rfl,aa,f⟩;obtain⟨b1,n1,k1,t1,b2,n2,k2,rfl⟩:=aa.form;obtain⟨ak,al⟩:=f.cells;(have z1:wr.heap.size<w1.heap.size:=(by have:=f.size;simp only[wZ]at this;omega));(have z2:w.heap.size+1+1+1<w1.heap.size:=oM))|(go_at_call 21;(with_reducible refine(Mi _ (Oe #[O b1 n1 k1,U t1,O b2 n2 k2]) (Oe #[O d1 dm dc,U ds,O d2 aI aE]) _ _ (aa.ext ?_) (an.ext ?_) ax.o ay.o).mono ?_);exact eA;exact eA;rintro e w3 ⟨rfl,ad⟩;(try rw[Hk.o]);obtain⟨aL,aM⟩:=ad.cells));have d:oa wr w3:=((((eR _).alloc _).trans f).alloc _).trans ad;have g1:RB w3 wr.heap.size x:=(((RB.new af rfl).ext f).ext ((eR _).alloc _)).ext ad;have g2:RB w3 w1.heap.size (Db s x):=(RB.new aa rfl).ext ad;have g3:=HC.o.ext d;have g4:=HD.o.ext d;have zW:=d.size;obtain⟨s1,ai⟩:=gX w1.heap.size;simp only[ai]at *;clear ak al aa f ad aL aM an aB aC aD aF aG aH ai e0 e1 e2 af;obtain⟨pa,pm,l,ps,j,r,p,p0,p1,p2,_,_,_,pz,hp⟩:=(g1).rd;obtain⟨qa,qm,qc,T,t,y,u,q0,q1,q2,_,_,_,qz,ag⟩:=(g2).rd;obtain⟨_,_,_,_,_,_,_,x0,x1,x2,ap,aq,ar,xz,_⟩:=(g3).rd;obtain⟨_,_,_,_,_,_,_,y0,y1,y2,au,av,aw,yz,_⟩:=(g4).rd;refine Ke [(⟨wr.heap.size,0,I⟩,O pa pm l),(⟨wr.heap.size,1,I⟩,U ps),(⟨wr.heap.size,2,I⟩,O j r p),(⟨s1,0,I⟩,O qa qm qc),(⟨s1,1,I⟩,U T),(⟨s1,2,I⟩,O t y u)] cA fun g=>?_;refine sN 0 ?_
     (iterate 2 refine Fc ?_);refine oN ?_;have ab:∀q∈[((⟨wr.heap.size,0,I⟩:Of),Value.slice pa pm l),(⟨wr.heap.size,1,I⟩,U ps),(⟨wr.heap.size,2,I⟩,O j r p),(⟨s1,0,I⟩,O qa qm qc),(⟨s1,1,I⟩,U T),(⟨s1,2,I⟩,O t y u)],w.heap.size+1+1≠q.1.block:=by
      simp<;>omega
     have ac:∀q∈[((⟨wr.heap.size,0,I⟩:Of),Value.slice pa pm l),(⟨wr.heap.size,1,I⟩,U ps),(⟨wr.heap.size,2,I⟩,O j r p),(⟨s1,0,I⟩,O qa qm qc),(⟨s1,1,I⟩,U T),(⟨s1,2,I⟩,O t y u)],w.heap.size+1+1+1≠q.1.block:=by
      simp<;>omega
     refine Je (i:=2) fun K hK=>?_;go_simp;refine kO hK (Ca.set3d g ab _ _ _) (fun g=>?_);clear hK K;refine Je (i:=3) fun K hK=>?_;go_simp;refine kO hK (Ca.set3d g ac _ _ _) (fun g=>?_);clear hK K;refine Wd ?_;(have e:Ya (Db s) (Sc (Db s) (qs.take i)) x=(x,Db s x):=by unfold Ya;rw[Hk.o,if_pos aS]);have E':=ia (E.o.trans e);have ae:=ia d;have P:=ia (RB.copy2 g3 g4 oM hp ag rfl rfl);clear e d g1 g2 g3 g4;go_wp2;go_roundg (n-(i+1))
     case measure=>have:=Hn.o;omega
     case rel =>
      obtain⟨P1,P2,P3,P4,P5,P6⟩:=P.o;have D:=fun W=>(eR W).drew;exact⟨i+1,by rw[Hn.o];omega,by go_num,by rw[Hn.o],(P6 w (Hx.o.trans ae.o) oM oM).drew,
       (P3 _ _ oM oM (HA.o.ext ae.o)).ext (D _),(P3 _ _ oM oM (HB.o.ext ae.o)).ext (D _),by rw[E'.o];exact P1.ext (D _),by rw[E'.o];exact P2.ext (D _)⟩
    ·go_wp2_with(first|(go_at_call 157;refine cM (HG.o _ ?_ (Oe #[O a3 m3 c3,U s3,O a4 m4 c4]) x ?_ aj.o) ?_;(refine oa.trans Hx.o ?_;exact eA);(refine af.ext ?_;exact eA);rintro e w1 ⟨r1,rfl,aa,f⟩;obtain⟨b1,n1,k1,t1,b2,n2,k2,rfl⟩:=aa.form;obtain⟨ak,al⟩:=f.cells;(have z1:wr.heap.size<w1.heap.size:=(by have:=f.size;simp only[wZ]at this;omega));(have z2:w.heap.size+1+1+1<w1.heap.size:=oM))|(go_at_call 21;(with_reducible refine(Mi _ (Oe #[O b1 n1 k1,U t1,O b2 n2 k2]) (Oe #[O d1 dm dc,U ds,O d2 aI aE]) _ _ (aa.ext ?_) (an.ext ?_) ax.o ay.o).mono ?_);exact eA;exact eA;rintro e w3 ⟨rfl,ad⟩;(try rw[Hk.o]);obtain⟨aL,aM⟩:=ad.cells));have d:oa wr w3:=((((eR _).alloc _).trans f).alloc _).trans ad;(have e:Ya (Db s) (Sc (Db s) (qs.take i)) x=Sc (Db s) (qs.take i):=by unfold Ya;rw[Hk.o,if_neg oM]);have E':=ia (E.o.trans e);go_roundg (n-(i+1))
     case measure=>have:=Hn.o;omega
     case rel=>exact⟨i+1,by rw[Hn.o];omega,by go_num,by rw[Hn.o],Hx.o.trans d,HA.o.ext d,HB.o.ext d,by rw[E'.o];exact HC.o.ext d,by rw[E'.o];exact HD.o.ext d⟩
  ·obtain rfl:i=n:=oM;have e:qs.take i=qs:=lT (by rw[Hn.o];exact nE _);rw[e]at hC hD HC HD;clear e;have zW:=hx.size;have zD:w.heap.size+1+1+1<wr.heap.size:=by obtain⟨_,_,_,_,_,_,_,_,_,_,_,_,_,z,_⟩:=hD.rd;exact z
   go_wp2;obtain⟨pa,pm,l,ps,j,r,p,p0,p1,p2,_,_,_,pz,hp⟩:=(hC).rd;obtain⟨qa,qm,qc,T,t,y,u,q0,q1,q2,_,_,_,qz,ag⟩:=(hD).rd;obtain⟨_,_,_,_,_,_,_,x0,x1,x2,ap,aq,ar,xz,_⟩:=(hA).rd;obtain⟨_,_,_,_,_,_,_,y0,y1,y2,au,av,aw,yz,_⟩:=(hB).rd;refine Ke [(⟨w.heap.size+1+1,0,I⟩,O pa pm l),(⟨w.heap.size+1+1,1,I⟩,U ps),(⟨w.heap.size+1+1,2,I⟩,O j r p),(⟨w.heap.size+1+1+1,0,I⟩,O qa qm qc),(⟨w.heap.size+1+1+1,1,I⟩,U T),(⟨w.heap.size+1+1+1,2,I⟩,O t y u)] cA fun g=>?_;refine sN 0 ?_
   iterate 2 refine Fc ?_
   refine oN ?_;have ab:∀q∈[((⟨w.heap.size+1+1,0,I⟩:Of),Value.slice pa pm l),(⟨w.heap.size+1+1,1,I⟩,U ps),(⟨w.heap.size+1+1,2,I⟩,O j r p),(⟨w.heap.size+1+1+1,0,I⟩,O qa qm qc),(⟨w.heap.size+1+1+1,1,I⟩,U T),(⟨w.heap.size+1+1+1,2,I⟩,O t y u)],w.heap.size≠q.1.block:=by
    simp<;>omega
   have ac:∀q∈[((⟨w.heap.size+1+1,0,I⟩:Of),Value.slice pa pm l),(⟨w.heap.size+1+1,1,I⟩,U ps),(⟨w.heap.size+1+1,2,I⟩,O j r p),(⟨w.heap.size+1+1+1,0,I⟩,O qa qm qc),(⟨w.heap.size+1+1+1,1,I⟩,U T),(⟨w.heap.size+1+1+1,2,I⟩,O t y u)],w.heap.size+1≠q.1.block:=by
    simp<;>omega
   refine Je (i:=2) fun K hK=>?_;go_simp;refine kO hK (Ca.set3d g ab _ _ _) (fun g=>?_);clear hK K;refine Je (i:=3) fun K hK=>?_;go_simp;refine kO hK (Ca.set3d g ac _ _ _) (fun g=>?_);clear hK K;refine Wd ?_;have P:=ia (RB.copy2 hA hB oM hp ag rfl rfl);go_wp2;refine bR (v:=.tuple #[Oe #[O pa pm l,U ps,O j r p],Oe #[O qa qm qc,U T,O t y u]]) (by simp[results,Tryz.results94,go_sem,x0,x1,x2,ap,aq,ar,y0,y1,y2,au,av,aw]) rfl ?_;rw[<-HR.o];obtain⟨P1,P2,P3,P4,P5,P6⟩:=P.o;exact⟨_,_,rfl,(hp.keep P4).ext (eR _).drew,(ag.keep P4).ext (eR _).drew,(P6 w Hx.o oM oM).drew⟩
end
section
open Go.RowKit Go.Shelf
attribute [local go_sem] Oper.semAt_some
def Vf.open{w:Z}{base:Nat}{s n:Int}{a:Option Of}{m c:Nat}(h:Vf w base (Oe #[Oa Ob s,O a m c]) n):∃ds,ds.length=m/\Kb 3 w base (O a m c) ds/\Wg C4 ds/\dv C4 ds=(n.natAbs:Int):=by obtain⟨sl,ds,e,d,f,g⟩:=h;cases e;exact⟨ds,d.len.symm,d,f,g⟩
def OB(W:Z)(base b:Nat)(n:Int):Prop:=∃s a m c,W.heap[b]?=M (Oc #[Oa Ob s,O a m c] 46 (0,0))/\Vf W base (Oe #[Oa Ob s,O a m c]) n
section
variable {W W':Z} {b base:Nat} {n n':Int}
def OB.nb(h:OB W base b n):NB W b n:=by obtain⟨s,a,m,c,d,e⟩:=h;exact⟨s,a,m,c,d,e.isN⟩
def OB.ext(h:OB W base b n)(k:oa W W'):OB W' base b n:=by obtain⟨s,a,m,c,d,e⟩:=h;exact⟨s,a,m,c,k.e d,e.ext k⟩
def OB.put{s:Int}{a:Option Of}{m c:Nat}(h:NB W b n)(f:Vf W base (Oe #[Oa Ob s,O a m c]) n'):OB ((W.setCell ⟨b,0,I⟩ (Oa Ob s)).setCell ⟨b,1,I⟩ (O a m c)) base b n':=by have d:=h.not;obtain⟨l,g,k,i,e,j⟩:=h;exact⟨s,a,m,c,yl e _ _,f.keep (((Fa.refl _ W).D d _).D (d.set _ _) _)⟩
def OB.setRow{g i:Nat}(h:OB W base b n)(r:g≠b)(t:g<base)(u:N):OB (W.setCell ⟨g,i,I⟩ u) base b n:=by obtain⟨s,a,m,c,o,q⟩:=h;refine⟨s,a,m,c,(bS _ _ _ _ (fun e=>r e.symm)).trans o,?_⟩;obtain⟨sl,f,j,d,k,l⟩:=q;cases j;exact⟨_,f,rfl,d.setOther (p:=⟨g,i,I⟩) (fun e=>by have:=(World.ownsRow.lt d g e).1;omega) _,k,l⟩
def OB.drew(h:OB W base b n):OB W.drew base b n:=h
