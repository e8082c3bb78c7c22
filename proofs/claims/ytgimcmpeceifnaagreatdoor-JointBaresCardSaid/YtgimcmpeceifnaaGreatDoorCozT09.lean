import Derived.Test.YtgimcmpeceifnaaGreatDoorCozU23
import Derived.Test.YtgimcmpeceifnaaGreatDoorCozT08
set_option maxRecDepth 1000000
set_option maxHeartbeats 16000000
set_option linter.all false
namespace Go.Proofs.YtgimcmpeceifnaaGreatDoor.Cop
section
open Go.RowKit Go.Shelf Go.Sort Go.Lib
attribute [local go_sem] Oper.semAt_some
def qX{g:LP}{ps:List Pl}(h:Ji g ps=true):∀p∈ps,p.name.size<=1000000:=by unfold Ji at h;simp only[Bool.and_eq_true,Bool.not_eq_true',List.any_eq_false,decide_eq_true_eq]at h;intro p a;have:=h.1 p a;unfold Gi at this;simp at this;omega
def vX(w:World)(n:Int):Calls Tryz.prog 22 #[.int .i64 n] w fun e b=>e=.returned (.bool (Uc n))/\b=w:=by
 unfold Uc;by_cases h:n < -100000<;>by_cases a:100000<n
 all_goals
  go_in;go_wp2;go_ret;exact⟨by simp[h,a],rfl⟩
def MX(w:World)(i j:Value)(g:LP)(ps:List Pl)(b t lo hi:Int)(l:Ja w i g)(d:Jd w j ps)(c:Gw w):Calls Tryz.prog 20 #[.agg #[i,j],.int .i64 b,.int .i64 t,.int .i64 lo,.int .i64 hi] w fun e k=>∃n,e=.returned (.tuple #[.int .i64 n,.int .i64 (mn b t lo hi g ps)])/\Ba w k/\(mn b t lo hi g ps≠0->n=0)/\(mn b t lo hi g ps=0->Zc lo hi (xb b t ps) n):=by
 refine(EX w i j g ps b t lo hi l d c).mono ?_;rintro e k (⟨h,rfl,f⟩|⟨h,js,d,m,rfl,f⟩)
 ·exact⟨0,rfl,f,fun _=>rfl,fun a=>absurd a h⟩
 ·refine⟨_,by rw[h],f,fun a=>absurd h a,fun _=>?_⟩;have:=DW h;exact(OX m oM).perm d
def yW(k b t lo hi:Int):Bool:=decide (k=0)&&(decide (t<=b) || (decide (hi<=lo) || (Uc b || (Uc t || (Uc lo || Uc hi)))))
def GX{b t lo hi:Int}{g:LP}{ps:List Pl}:mn b t lo hi g ps=if yW (Fb g ps) b t lo hi=true then 2 else Fb g ps:=by
 unfold mn yW;simp only[List.any_cons,List.any_nil,Bool.or_false,Bool.and_eq_true,Bool.or_eq_true,decide_eq_true_eq];by_cases a:Fb g ps=0
 ·rw[if_pos a,a];simp
 ·simp[a]
def YX(w:World)(d:Bool)(a:Value)(W:World):Prop:=a = .bool d/\Ba w W
def NX(w:World)(vg vp:Value)(g:LP)(ps:List Pl)(v tt lo hi:Int)(hg:Ab w vg g)(hp:pf w vp ps)(ad:Gw w):Calls Tryz.prog 5 #[.agg #[vg,vp],.int .i64 v,.int .i64 tt,.int .i64 lo,.int .i64 hi] w fun e w'=>e=.returned (.bool true)/\Ba w w':=by
 have HF:=Aa (fun(W:World)(p:Ba w W)=>zL W vg vp g ps (hg.f p) (hp.f p));have HW:=Aa (fun(hf:Ji g ps=true)(W:World)(p:Ba w W)=>qN W vg vp g ps (hg.f p) (hp.f p) (Pu hf).1 (by have:=(Pu hf).2.1;omega) (Pu hf).2.2);have r:=Aa (fun(hf:Ji g ps=true)(W:World)(p:Ba w W)=>BR W vg vp g ps (hg.f p) (hp.f p) (qX hf) (by have:=(Pu hf).1;omega));have f:=Aa (fun(o:mn v tt lo hi g ps=0)(W:World)(p:Ba w W)=>sX W vg vp ps v tt lo hi (by obtain⟨a,n,c,e⟩:=hg.i;exact⟨a,n,c,e⟩) (hp.f p) (Bs (DW o).1).1 (Bs (DW o).1).2.1 (by have:=DW o;unfold Bd;omega) (by have:=DW o;unfold Bd;omega));have u:=Aa (fun(W:World)(v1 v2:Value)(p:Ba w W)(h1:Ja W v1 g)(h2:Jd W v2 ps)=>MX W v1 v2 g ps v tt lo hi h1 h2 (ad.ext p));have HA:=Aa (fun(W:World)(p:Ba w W)=>VQ W (ad.ext p));have hK:=GX (b:=v) (t:=tt) (lo:=lo) (hi:=hi) (g:=g) (ps:=ps);obtain⟨ga,gc,rfl⟩:=hg.form;obtain⟨pa,au,rfl⟩:=hp.form;obtain⟨gn,ah⟩:=gX g.length;obtain⟨pn,al⟩:=gX ps.length;rw[ah,al]at HF HW r f ⊢;clear hg hp ad ah al;obtain⟨K,ab⟩:=gX (mn v tt lo hi g ps);obtain⟨k,hk⟩:=gX (Fb g ps);rw[ab,hk]at hK;obtain⟨d,i⟩:=gX (yW k v tt lo hi);rw[i]at hK;have HK:=Aa hK;have HD:=Aa i;rw[ab]at u f;rw[hk]at r;clear ab hk hK i;cases hfew:Ji g ps with
 |false=>
  rw[hfew]at HF;clear HW r f u HK HD;go_in;go_wp2_with(first|(go_at_call 8;refine cM (HF.o _ eA) ?_;rintro e w1 ⟨rfl,af⟩;have X1:Ba w w1:=eA)|(go_at_call 9;refine cM (HA.o _ (X1)) ?_;rintro e w9 ⟨rfl,l⟩));go_ret;exact⟨rfl,X1.trans l⟩
 |true=>
  rw[hfew]at HF;have ag:=Aa (HW.o hfew);have aa:=Aa (r.o hfew);clear hfew HW r;go_in;go_upto_region 3 with (go_at_call 8;refine cM (HF.o _ eA) ?_;rintro e w1 ⟨rfl,af⟩;have X1:Ba w w1:=eA;obtain⟨⟨ap,aq⟩,an⟩:=Id w af);have b0:w1.cell? ⟨w.heap.size,0,none⟩=some (.slice ga gn gc):=by go_simp
  have b1:w1.cell? ⟨w.heap.size,1,none⟩=some (.slice pa pn au):=by go_simp
  clear af ap aq an HF;go_upto_region 4 with (first|(go_at_call 12;refine cM (ag.o _ X1) ?_;rintro e w3 ⟨aB,aC,rfl,ac,ae,x⟩;obtain⟨av,ax,aw,rfl⟩:=Ma ac;obtain⟨ay,aA,az,ar⟩:=Ma ae.pls;subst ar;have X3:Ba w w3:=X1.trans x)|(go_at_call 20;refine cM (u.o _ _ _ X3 ac ae.pls) ?_;rintro e w4 ⟨m,rfl,y,aj,ak⟩));have X4:Ba w w4:=X3.trans y;replace b0:=(x.trans y).d b0;replace b1:=(x.trans y).d b1;clear ag u ac ae X3 X1 x y;go_upto_region 5 with (go_at_call 21;refine cM (aa.o _ X4) ?_;rintro e w5 ⟨rfl,z⟩);have X5:=X4.trans z;replace b0:=z.d b0;replace b1:=z.d b1;have q:=Aa aj;have s:=Aa ak;clear aa X4 z aj ak;go_cut [57] (YX w5 d)
  case first =>
   clear q s f HA HK b0 b1;have i:=HD.o;clear HD;unfold yW at i;by_cases o:k=0
   ·subst o;rw[decide_eq_true rfl,Bool.true_and]at i;by_cases h1:tt<=v
    ·rw[decide_eq_true h1,Bool.true_or]at i;subst i;go_wp2;go_meet;exact⟨rfl,eR _⟩
    rw[decide_eq_false h1,Bool.false_or]at i;by_cases h2:hi<=lo
    ·rw[decide_eq_true h2,Bool.true_or]at i;subst i;go_wp2;go_meet;exact⟨rfl,eR _⟩
    rw[decide_eq_false h2,Bool.false_or]at i;obtain⟨d1,f1⟩:=gX (Uc v);obtain⟨d2,f2⟩:=gX (Uc tt);obtain⟨d3,f3⟩:=gX (Uc lo);obtain⟨d4,f4⟩:=gX (Uc hi);rw[f1,f2,f3,f4]at i;have F:=Aa (And.intro f1 (And.intro f2 (And.intro f3 f4)));clear f1 f2 f3 f4;have hc:(d1=true/\d=true)\/(d1=false/\d2=true/\d=true)\/(d1=false/\d2=false/\d3=true/\d=true)\/(d1=false/\d2=false/\d3=false/\d4=true/\d=true)\/(d1=false/\d2=false/\d3=false/\d4=false/\d=false):=by
     cases d1<;>cases d2<;>cases d3<;>cases d4<;>simp_all
    clear i;rcases hc with ⟨rfl,rfl⟩|⟨rfl,rfl,rfl⟩|⟨rfl,rfl,rfl,rfl⟩|⟨rfl,rfl,rfl,rfl,rfl⟩|⟨rfl,rfl,rfl,rfl,rfl⟩
    all_goals
     go_wp2_with(go_at_call 22;(with_reducible refine(vX _ _).mono ?_);rintro e w9 ⟨rfl,rfl⟩;first|rw[F.o.1]|rw[F.o.2.1]|rw[F.o.2.2.1]|rw[F.o.2.2.2]);go_meet;exact⟨rfl,eR _⟩
   ·rw[decide_eq_false o,Bool.false_and]at i;subst i;(have e0:(k==0)=false:=by simpa using o);clear o;go_wp2;go_meet;exact⟨rfl,eR _⟩
  case rest =>
   obtain⟨rfl,R⟩:=hcut;have X6:=X5.trans R;replace b0:=R.d b0;replace b1:=R.d b1;have j:=Aa X6;clear X5 X6 R HD;have hK:=HK.o;clear HK;cases d
   all_goals
    simp only[if_true,Bool.false_eq_true,if_false]at hK;subst hK
   ·by_cases o:K=0
    ·subst o;have ao:=Aa (f.o rfl);have hm:=s.o rfl;have Hm:=Aa hm;clear f q s hm;go_wp2_with(first|(go_at_call 23;refine cM (ao.o _ j.o) ?_;rintro e w7 ⟨⟨m',rfl,ai⟩,am⟩;obtain rfl:=Hm.o.uniq ai;clear ai)|(go_at_call 9;refine cM (HA.o _ (j.o.trans am)) ?_;rintro e w9 ⟨rfl,l⟩));go_ret;exact⟨rfl,(j.o.trans am).trans l⟩
    ·(have e0:(K != 0)=true:=by simpa using o);obtain rfl:=q.o o;clear q s f o;go_wp2_with(go_at_call 9;refine cM (HA.o _ (j.o)) ?_;rintro e w9 ⟨rfl,l⟩);go_ret;exact⟨rfl,j.o.trans l⟩
   ·obtain rfl:=q.o dM;clear q s f;go_wp2_with(go_at_call 9;refine cM (HA.o _ (j.o)) ?_;rintro e w9 ⟨rfl,l⟩);go_ret;exact⟨rfl,j.o.trans l⟩
