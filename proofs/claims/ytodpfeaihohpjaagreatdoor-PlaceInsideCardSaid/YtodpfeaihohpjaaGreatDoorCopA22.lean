/- Part 23: contracts of what the law calls. -/
import Derived.Test.YtodpfeaihohpjaaGreatDoorCopA06
import Derived.Test.YtodpfeaihohpjaaGreatDoorCopA02
import Derived.Test.YtodpfeaihohpjaaGreatDoorCopA04
import Derived.Test.YtodpfeaihohpjaaGreatDoorCopA14
import Derived.Test.YtodpfeaihohpjaaGreatDoorCopA08
import Derived.Laws.IdiomStrings
set_option maxRecDepth 1000000
set_option maxHeartbeats 16000000
set_option linter.unusedSimpArgs false
set_option linter.unusedVariables false
open Go.Value renaming slice→O,agg→I,int→J,bool→M
open Go renaming World→Y,Value→V
open Option renaming none→Z,some→X
namespace Go.Proofs.YtodpfeaihohpjaaGreatDoor.Cop
section
open Go.RowKit Go.Shelf
attribute [local go_sem] Oper.semAt_some
def fix7 (n:Nat):List UInt8:=[n / 1000000,n / 100000,n / 10000,n / 1000,n / 100,n / 10,n].map fun d=>UInt8.ofNat (48+d % 10)
def chunksF:Nat→Nat→List (List UInt8)
 | 0,_=>[]
 | k+1,n=>if n=0 then []else chunksF k (n / 10000000)++[fix7 (n % 10000000)]
def textN (n:Nat):List UInt8:=if Lib.trimLeftB (chunksF (n+1) n).flatten 48=[]then [48]else Lib.trimLeftB (chunksF (n+1) n).flatten 48
theorem zoi (n:Nat):(fix7 n).length=7:=rfl
theorem zjg (n:Nat):(fix7 n).map (fun b=>Value.int .u8 (b.toNat:Int))=[n / 1000000,n / 100000,n / 10000,n / 1000,n / 100,n / 10,n].map fun d=>Value.int .u8 ((48+d % 10:Nat):Int):=by
 unfold fix7;rw [List.map_map];refine List.map_congr_left fun d _=>?_
 have:(UInt8.ofNat (48+d % 10)).toNat=48+d % 10:=UInt8.toNat_ofNat_of_lt' (by simp [UInt8.size];omega);simp only [Function.comp_apply,this]
def fixC (n:Nat):Nat→List Int
 | 0=>[0,0,0,0,0,0,0]
 | i+1=>(fixC n i).set (6-i) ((48+n / 10 ^ i % 10:Nat):Int)
def fixA (n i:Nat):Array V:=((fixC n i).map (Value.int .u8)).toArray
theorem zhh (n:Nat):∀i,(fixC n i).length=7
 | 0=>rfl
 | i+1=>by rw [fixC,List.length_set,zhh n i]
theorem zlh (n:Nat):fixA n 7=((fix7 n).map fun b=>Value.int .u8 (b.toNat:Int)).toArray:=by
 rw [zjg];simp [fixA,fixC]
theorem zli (n:Nat) {i:Nat} (hi:i<7):(fixA n i).setIfInBounds (6-i) (J .u8 ((48+n / 10 ^ i % 10:Nat):Int))=fixA n (i+1):=by
 unfold fixA;rw [List.setIfInBounds_toArray,fixC,List.map_set]
theorem zgw {k n:Nat} (h:n<k) (a:n≠0):∃k',k=k'+1∧n / 10000000<k'∧chunksF k n=chunksF k' (n / 10000000)++[fix7 (n % 10000000)]:=by
 obtain⟨k',rfl⟩:∃k',k=k'+1:=⟨k-1,by omega⟩;exact⟨k',rfl,by omega,by rw [chunksF,if_neg a]⟩
theorem zcx (k:Nat):chunksF k 0=[]:=by cases k<;>simp [chunksF]
def sc (s:List UInt8):List V:=[.string ⟨s.toArray⟩]
def limT:Nat:=100000
def TxS (w:Y) (d:Nat) (g:Nat) (t3:V) (W:Y):Prop:=
 ∃(n k:Nat) (b:List (List UInt8)) (a:Option Addr) (m c:Nat),g=n∧n<k∧chunksF (d+1) d=chunksF k n++b∧b.length≤2*limT∧n*2 ^ (23*b.length)≤d∧(∀s∈b,s.length=7)∧Ext w W ∧
  W.heap[w.heap.size]?=X (.cells #[O a m c] 61 (0,0))∧IsD W (I #[O a m c]) n∧OwnC 9 1 W w.heap.size t3 (b.map sc)∧w.heap.size<W.heap.size
def TiS (a:Y) (n:Nat) (b:Nat) (g:Nat) (c t25:V) (W:Y):Prop:=
 ∃i:Nat,i≤7∧g=7-i∧t25=J .i64 i∧c=J .u64 ((n / 10 ^ i:Nat):Int)∧Ext a W∧W.heap[b]?=X (.cells (fixA n i) 5 (0,0))
theorem TxS.step {a n k:Nat} {ps:List (List UInt8)} (m:Lm limT a) (d:n≠0) (l:n<k) (j:chunksF (a+1) a=chunksF k n++ps) (f:n*2 ^ (23*ps.length)≤a) :
  ∃k',n / 10000000<k'∧chunksF (a+1) a=chunksF k' (n / 10000000)++(fix7 (n % 10000000)::ps)∧(fix7 (n % 10000000)::ps).length≤2*limT∧n / 10000000*2 ^ (23*(fix7 (n % 10000000)::ps).length)≤a:=by
 obtain⟨k',rfl,g,h⟩:=zgw l d;refine⟨k',g,by rw [j,h,List.append_assoc];rfl,?_,?_⟩
 ·have b:(a:Int)<B ^ limT:=m.2
  have e:(B:Int) ^ limT=((2 ^ (24*limT):Nat):Int):=by
   rw [Nat.pow_mul];unfold B;rw [Int.natCast_pow];rfl
  rw [e]at b;have c:a<2 ^ (24*limT):=by exact_mod_cast b
  have i:2 ^ (23*ps.length)≤a:=nT (Nat.le_mul_of_pos_left _ (Nat.pos_of_ne_zero d)) f;have o:23*ps.length<24*limT:=(Nat.pow_lt_pow_iff_right (by decide:1<2)).1 (Nat.lt_of_le_of_lt i c);rw [List.length_cons];unfold limT at *;omega
 ·rw [List.length_cons,Nat.mul_add,Nat.pow_add]
  have:n / 10000000*8388608≤n:=oM
  have e:n / 10000000*(2 ^ (23*ps.length)*2 ^ (23*1))=(n / 10000000*8388608)*2 ^ (23*ps.length):=by
   rw [show (2:Nat) ^ (23*1)=8388608 from rfl,Nat.mul_comm (2 ^ (23*ps.length)),Nat.mul_assoc]
  exact nT (Nat.le_of_eq e) (nT (Nat.mul_le_mul_right _ this) f)
theorem zm9 (W:Y) {x:Int} (a:0<x) (b:x<B):IsD (W.alloc (.cells #[J .i64 x] 2)) (I #[O (X ⟨W.heap.size,0,Z⟩) 1 1]) x:=by
 refine⟨_,[x],rfl,⟨rfl,_,1,rfl,nE _,by unfold maxLen;omega,.inr ⟨W.heap.size,0,_,(0,0),rfl,aN _ _,?_⟩⟩,⟨?_,?_⟩,by simp⟩
 ·intro i v hv
  match i,hv with
  | 0,hv=>simpa [lits] using hv
  | i+1,hv=>simp [lits]at hv
 ·intro d c
  rw [List.mem_singleton.1 c];exact⟨Int.le_of_lt a,b⟩
 ·simp
  omega
theorem zkC {P:Program} {T t:TypeId} {k bytes:Nat} {z:V} {w:Y} {base:Nat} {v sl:V} {cs:List (List V)} {ops:Array Oper} {o:Oper} {a:Act} {K:Act→Y→Prop} {Q:Exit→Act→Y→Prop} {E:Prop}
  (d:(P.info? T).map (fun i=>(i.zero,i.size,i.bytes))=X (X z,k,bytes)) (n:z.cells.size=k) (W:0<k) (l:bytes≤1000) (ht:P.underlying t=X (.slice T)) (m:o.guard=Z) (s x:Operand)
  (ho:o.op = .call { callee:=.builtin .append,args:=#[s,x],argTypes:=#[t,t] }) (hs:a.eval s=v) (f:OwnC T k w base v cs) (hx:a.eval x=sl)
  (ds:List (List V)) (D:∀c∈ds,c.length=k) (j:Rd w T k sl ds.length ds.flatten) (p:∀u∈ds.flatten,u.oneCell'=true) (e:cs.length+ds.length≤100000000000) (b:base≤w.heap.size)
  (h:∀v' w',OwnC T k w' base v' (cs++ds)→w.grownBy w' v.ownBlock→(v'.ownBlock=v.ownBlock∨v'.ownBlock=X w.heap.size)→K (a.put o.dst v') w') :
  if Region.wanted o (yielded ops a.tmps)=true then Oper.wp P o a w K Q else E:=by
 have hw:Region.wanted o (yielded ops a.tmps)=true:=by simp [Region.wanted,m]
 rw [if_pos hw];obtain⟨v',w',g,q,r,y⟩:=zhM (P:=P) o.type d n W l ht f D j p e b;unfold Oper.wp;simp [execOp,ho,resolve,invoke,builtin,hs,hx,g,Result.andThen];exact h v' w' q r y
theorem mk7 (W:Y):(Instr.makeSlice 42 (J .i64 7) (J .i64 7)).run Tryz.prog W = .ok (O (X ⟨W.heap.size,0,Z⟩) 7 7) (W.alloc (.cells #[J .u8 0,J .u8 0,J .u8 0,J .u8 0,J .u8 0,J .u8 0,J .u8 0] 5)):=by
 kernel_rfl
theorem conv7 {W:Y} {b q:Nat} {a:Nat×Nat} (h:W.heap[b]?=X (.cells (fixA q 7) 5 a)):(convert 42 9 (O (X ⟨b,0,Z⟩) 7 7)).run Tryz.prog W = .ok (.string ⟨(fix7 q).toArray⟩) W:=by
 refine run_convert_bytes_back W 42 9 5 ⟨b,0,Z⟩ 7 (fix7 q) Tryz.underlying42 Tryz.underlying5 Tryz.underlying9 fun j c=>?_
 have e:((⟨b,0,Z⟩:Addr).add j)=⟨b,j,Z⟩:=by unfold Addr.add;split<;>simp_all
 rw [e];rw [zlh]at h;refine qcB h ?_;rw [List.getElem?_toArray,lP,gE c];rfl
theorem znZ {w:Y} {base:Nat} (s:List UInt8) (a:base≤w.heap.size):OwnC 9 1 (w.alloc (.cells #[.string ⟨s.toArray⟩] 9)) base (O (X ⟨w.heap.size,0,Z⟩) 1 1) [sc s]:=
 ⟨fun c b=>by rw [List.mem_singleton.1 b];rfl,⟨by simp [sc],.inr ⟨w.heap.size,1,#[.string ⟨s.toArray⟩],rfl,a,aN w _,by simp,by simp [maxLen],by simp,by simp [sc]⟩⟩⟩
theorem zn6 {ps:List (List UInt8)}:∀u∈(ps.map sc).flatten,u.oneCell'=true:=by
 intro u a;obtain⟨d,b,a⟩:=List.mem_flatten.1 a;obtain⟨p,_,rfl⟩:=List.mem_map.1 b;rw [List.mem_singleton.1 a];rfl
theorem zn5 {ps:List (List UInt8)}:∀c∈ps.map sc,c.length=1:=by
 intro c a;obtain⟨p,_,rfl⟩:=List.mem_map.1 a;rfl
theorem zlq:(Tryz.prog.info? 9).map (fun i=>(i.zero,i.size,i.bytes))=X (X (.string ⟨#[]⟩),1,16):=kM
theorem zfn:∀xs:List (List UInt8),Lib.join xs []=xs.flatten
 | []=>rfl
 | [x]=>by simp [Lib.join]
 | x::y::r=>by
  have:=zfn (y::r);simp only [Lib.join,List.flatten_cons]at this ⊢
  simpa using this
theorem flat7:∀{a:List (List UInt8)},(∀s∈a,s.length=7)→a.flatten.length=7*a.length
 | [],_=>rfl
 | s::a,h=>by
  rw [List.flatten_cons,lA,flat7 (fun x b=>h x (mC _ b)),h s (by simp),List.length_cons];omega
theorem zks:∀ps:List (List UInt8),(ps.map sc).flatten=ps.map fun s=>Value.string ⟨s.toArray⟩
 | []=>rfl
 | s::ps=>by
  rw [List.map_cons,List.flatten_cons,zks ps,List.map_cons];rfl
theorem zlu (w:Y) (v:V) (base:Nat) (ps:List (List UInt8)) (h:OwnC 9 1 w base v (ps.map sc)) (m:ps.length≤2*limT) (t:∀s∈ps,s.length=7) :
  Calls Tryz.prog 163 #[v,.string ⟨#[]⟩] w fun e q=>e = .returned (.string ⟨ps.flatten.toArray⟩)∧Ext w q:=by
 obtain⟨a,n,c,rfl⟩:=h.form3;have p:=h.len;rw [lL]at p;subst p
 by_cases k:ps=[]
 ·subst k
  refine(Tryz.strings_Join_none a c ⟨#[]⟩ w).mono ?_;rintro e q ⟨rfl,rfl⟩;exact⟨rfl,eR _⟩
 ·have g:=h.rd
  rw [lL]at g;obtain⟨r,o,rfl,u,_,y⟩:=g.open (List.length_pos_iff.2 k);have b:=g.le;have f:(ps.map fun s:List UInt8=>(⟨s.toArray⟩:ByteArray)).length=ps.length:=lL ..
  have i:((ps.map fun s:List UInt8=>(⟨s.toArray⟩:ByteArray)).map (·.data.toList))=ps:=by
   rw [List.map_map]
   conv=>rhs;rw [←List.map_id ps]
   exact List.map_congr_left fun s _=>by simp
  have z:=flat7 t
  have l:=Tryz.strings_Join r o c (ps.map fun s:List UInt8=>(⟨s.toArray⟩:ByteArray)) ⟨#[]⟩ w (fun j x d=>by
   rw [lP]at d
   cases hp:ps[j]? with
   | none=>rw [hp]at d;cases d
   | some s =>
    rw [hp]at d
    cases d
    refine y j _ ?_;rw [zks,lP,hp];rfl) u (by rw [f];unfold limT at m;omega) (by rw [f];exact b.1) (by rw [i,zfn,z];unfold limT at m;omega)
  rw [f,i,zfn]at l;exact l
theorem zjb (w:Y) (va:V) (f:Nat) (ha:IsD w va f) (hl:Lm limT f) :
  Calls Tryz.prog 132 #[va] w fun e w'=>e = .returned (.string ⟨(textN f).toArray⟩)∧Ext w w':=by
 obtain⟨a0,m0,c0,rfl⟩:=ha.form;have Hl:=hd9 hl;have Ha:=hd9 ha;obtain⟨Tx,af⟩:=gX (textN f);rw [af];have aj:=hd9 af;clear ha hl af;go_enter Tryz.func132,Tryz.ntmps132;go_wp2
 go_loopg [3] f (TxS w f)
 case atStart=>exact⟨f,f+1,[],a0,m0,c0,rfl,by omega,by rw [List.append_nil],by simp,by simp,fun s hs=>(by cases hs),(eR _).alloc _,aN _ _,Ha.out.ext ((eR _).alloc _),OwnC.nil _ _ _ _,by simp⟩
 case round =>
  obtain⟨n,k,ps,a,m,c,hg,hk,aa,ag,ab,h7,hx,hb,hd,ho,hz⟩:=hrel;have Hx:=hd9 hx;have Hd:=hd9 hd;have k1:=cell_of_one hb;have kf:=free_of_one hb;have kf:=free_of_one hb
  by_cases h0:n=0
  ·have aC:((n:Int)==0)=true:=by simp [h0]
   have av:chunksF (f+1) f=ps:=by rw [aa,h0,zcx,List.nil_append]
   have HJ:=hd9 (fun(W:Y) (hW:Ext wr W)=>zlu W u3 w.heap.size ps (ho.ext hW) ag h7);obtain⟨va,vn,vc,rfl⟩:=ho.form3;obtain⟨T,hT⟩:=gX (Lib.trimLeftB ps.flatten 48);have aw:Tx=if T=[]then [48]else T:=by rw [←aj.out];unfold textN;rw [av,hT]
   have HT:=hd9 hT;have ak:=hd9 aw;clear hg hk aa ag ab h7 hd ho av hT aw aj
   cases T with
   | nil =>
    go_wp2_with(first|((go_at_call 92;(with_reducible refine(zaB _ (I #[O a m c]) n ?_).mono ?_);(refine Hd.out.ext ?_;exact eA);rintro e w1 ⟨rfl,ac⟩))|(go_at_call 163;(with_reducible refine(HJ.out _ ?_).mono ?_);exact eA;rintro e h ⟨rfl,ad⟩)|(go_at_call 162;(with_reducible refine(Tryz.strings_TrimLeft_one _ 48 dM _).mono ?_);rintro e w3 ⟨rfl,rfl⟩;rw [HT.out]))
    go_ret;have e:Tx=[48]:=by have:=ak.out;simpa using this
    exact⟨by rw [e];rfl,Hx.out.trans eA⟩
   | cons t T =>
    go_wp2_with(first|((go_at_call 92;(with_reducible refine(zaB _ (I #[O a m c]) n ?_).mono ?_);(refine Hd.out.ext ?_;exact eA);rintro e w1 ⟨rfl,ac⟩))|(go_at_call 163;(with_reducible refine(HJ.out _ ?_).mono ?_);exact eA;rintro e h ⟨rfl,ad⟩)|(go_at_call 162;(with_reducible refine(Tryz.strings_TrimLeft_one _ 48 dM _).mono ?_);rintro e w3 ⟨rfl,rfl⟩;rw [HT.out]))
    go_ret;have e:Tx=t::T:=by have:=ak.out;simpa using this
    exact⟨by rw [e];rfl,Hx.out.trans eA⟩
  ·have aC:((n:Int)==0)=false:=by simp [h0]
   obtain⟨k',al,am,an,ao⟩:=TxS.step Hl.out h0 hk aa ab
   have ap:Lm limA (n:Int):=by
    have h9:=Hl.out;have h8:n≤f:=nT (Nat.le_mul_of_pos_right _ (Nat.pow_pos dM)) ab;have h7:Lm limA (f:Int):=h9.mono dM;exact⟨by have:=h7.1;have:(0:Int)≤B ^ limA:=Int.le_of_lt (zaE zbI _);omega,by have:=h7.2;omega⟩
   have aA:=hd9 ap;have ae:Hid (n / 10000000<k'∧chunksF (f+1) f=chunksF k' (n / 10000000)++(fix7 (n % 10000000)::ps)∧(fix7 (n % 10000000)::ps).length≤2*limT∧n / 10000000*2 ^ (23*(fix7 (n % 10000000)::ps).length)≤f):=hd9 ⟨al,am,an,ao⟩;have az:=hd9 (show Lm limA 10000000 from Lm.mono (j:=1) ⟨by decide,by decide⟩ dM);clear ap al am an ao aa ag ab;obtain⟨g,aL⟩:=gX (n % 10000000);have aO:(n:Int) % 10000000=(g:Int):=oM
   have au:Lm 2 (g:Int):=⟨by unfold B;omega,by unfold B;omega⟩;have aB:=hd9 au;clear au
   go_upto_region 5 with (first|((go_at_call 92;(with_reducible refine(zaB _ (I #[O a m c]) n ?_).mono ?_);(refine Hd.out.ext ?_;exact eA);rintro e w1 ⟨rfl,ac⟩;obtain⟨aE,aH⟩:=ac.cells;(have z1:w.heap.size<w1.heap.size:=by have:=ac.size;omega)))|((go_at_call 139;(with_reducible refine(zhD _ (I #[O a m c]) (I #[O (X ⟨w1.heap.size,0,Z⟩) 1 1]) n 10000000 ?_ ?_ aA.out az.out dM).mono ?_);(refine Hd.out.ext ?_;exact eA);(exact zm9 w1 dM dM);rintro e h ⟨q,r,rfl,hq,hr,ad⟩;rw [aO]at hr;obtain⟨⟨aq,mq,cq,rfl⟩,⟨ar,mr,cr,rfl⟩⟩:=And.intro hq.isD.form hr.isD.form;obtain⟨aF,aI⟩:=ad.cells;(have z2:w.heap.size<h.heap.size:=by have:=ad.size;simp only [wZ]at this;omega)))|((go_at_call 107;(with_reducible refine(zcX _ (I #[O ar mr cr]) (g:Int) ?_ aB.out).mono ?_);(refine hr.isD.ext ?_;exact eA);rintro e w3 ⟨rfl,ah⟩;(have z3:h.heap.size+1+1≤w3.heap.size:=by have:=ah.size;simp only [wZ]at this;omega))))
   clear aE aH aF aI;have X3:Ext wr w3:=eA;obtain⟨wo,rfl⟩:∃W,W=wr:=⟨_,rfl⟩;have aR:=mk7;go_wp2
   go_loopg [6,25] 7 (TiS w3 g w3.heap.size)
   case atStart=>exact⟨0,by omega,rfl,rfl,by rw [Nat.pow_zero,Nat.div_one],(eR _).alloc _,aN _ _⟩
   case round =>
    obtain⟨i,hi,aQ,rfl,rfl,d,D⟩:=hrel
    by_cases aJ:i<7
    ·obtain⟨x,ai⟩:=gX (g / 10 ^ i)
     rw [ai]
     have aS:x<10000000:=by
      have:g / 10 ^ i≤g:=Nat.div_le_self _ _;omega
     obtain⟨j,hj⟩:=gX (6-i);obtain⟨u,hu⟩:∃u,(fixA g i)[j]?=X u:=⟨_,Array.getElem?_eq_getElem (by unfold fixA;rw [List.size_toArray,lL,zhh];omega)⟩;have ki:=qcB D hu;have aV:=qfB D;have e6:IntKind.i64.wrap (6-(i:Int))=(j:Int):=by rw [iW _ oM];omega
     obtain⟨y,hy⟩:=gX (48+x % 10);have e7:IntKind.u64.wrap (48+(x:Int) % 10)=(y:Int):=by rw [IntWalk.u64_in _ oM];omega
     have e8:IntKind.u8.wrap (y:Int)=(y:Int):=IntWalk.u8_in _ oM;have z9:=d.size;go_wp2
     go_roundg (7-(i+1))
     case measure=>omega
     case rel =>
      refine⟨i+1,by omega,rfl,by go_num,?_,d.set (nE _) _,?_⟩
      ·rw [show g / 10 ^ (i+1)=x / 10 by rw [Nat.pow_succ,←Nat.div_div_eq_div_mul,ai]]
       simp
      ·have h9:=zli g aJ
       rw [ai,hy,hj]at h9;rw [←h9];simp [World.setCell,Array.getElem?_modify,D]
    ·obtain rfl:i=7:=oM
     have ay:=hd9 D;clear D
     go_upto_region 12 with fail
     have aG:(convert 42 9 (O (X ⟨w3.heap.size,0,Z⟩) 7 7)).run Tryz.prog wr.drew = .ok (.string ⟨(fix7 g).toArray⟩) wr.drew:=conv7 (W:=wr.drew) ay.out
     have c4:wr.cell? ⟨h.heap.size,0,Z⟩=X (O aq mq cq):=by
      have h1:(h.alloc (.cells #[O aq mq cq] 61)).cell? ⟨h.heap.size,0,Z⟩=X (O aq mq cq):=by go_simp
      exact d.cellS (ah.cellS (Ext.cellS ((eR _).alloc _) h1))
     refine wp_region_held_drew (S:=CellL [(⟨h.heap.size,0,Z⟩,O aq mq cq)]) kM cA (fun b=>?_);refine tk1 (i:=0) ?_;refine tk1 (i:=3) ?_;refine tk1 (i:=5) ?_;refine cl1 (i:=1) fun K l=>?_
     go_simp;refine kO l b (fun b=>?_);clear l K aG;refine cl1 (i:=2) fun K l=>?_
     go_simp;refine kO l (cE b ((eR _).alloc _)) (fun b=>?_);clear l K;refine cl1 (i:=4) fun K l=>?_
     have hA:Ext w wr:=Hx.out.trans (X3.trans d);refine zkC (T:=9) (t:=228) (z:=.string ⟨#[]⟩) (k:=1) (bytes:=16) (v:=O (X ⟨wr.heap.size,0,Z⟩) 1 1) (base:=w.heap.size) zlq rfl dM dM Tryz.underlying228 rfl _ _ rfl rfl (znZ (fix7 g) hA.size) rfl (ps.map sc) zn5 ((ho.ext (((X3.trans d).alloc _).drew)).rd) zn6 ?_ ?_ ?_
     ·rw [lL,List.length_singleton]
      have h9:=ae.out.2.2.1;unfold limT at h9;rw [List.length_cons]at h9;omega
     ·have:=hA.size
      simp only [qdZ,wZ];omega
     intro v' w9 Q P aP;obtain⟨a9,n9,c9,rfl⟩:=Q.form3;have zb:h.heap.size<wr.heap.size:=by have:=d.size;omega
     refine kO l (CellL.grown b P (fun q hq e=>?_)) (fun b=>?_)
     ·have h9:wr.heap.size=h.heap.size:=by
       simp at hq;subst hq;exact Option.some.inj e.symm
      omega
     clear l K;have X9:Ext wr w9:=(((eR wr).alloc (.cells #[.string ⟨(fix7 g).toArray⟩] 9)).drew).thenB (zah (base:=wr.heap.size) P (by simp only [qdZ,wZ];omega) (fun k hk=>by cases hk;exact nE _)) (nE _);have o:w9.heap[w.heap.size]?=X (.cells #[O a m c] 61 (0,0)):=((X3.trans d).trans X9).heapS hb;have aT:=cell_of_one o;have aU:=free_of_one o;refine tk1 (i:=6) ?_
     have aM:IsD w9 (I #[O aq mq cq]) ((n / 10000000:Nat):Int):=by
      have h9:IsD h (I #[O aq mq cq]) ((n / 10000000:Nat):Int):=by rw [show ((n / 10000000:Nat):Int)=(n:Int) / 10000000 by omega];exact hq.isD
      exact((h9.ext ((((eR _).alloc _).alloc _).trans ah)).ext d).ext X9
     have hT:KeepT 2 w9 (w9.setCell ⟨w.heap.size,0,Z⟩ (O aq mq cq)):=(KeepT.refl _ w9).set o dM _;have aD:KeepT 9 w9 (w9.setCell ⟨w.heap.size,0,Z⟩ (O aq mq cq)):=(KeepT.refl _ w9).set o dM _
     have aK:∀q∈[((⟨h.heap.size,0,Z⟩:Addr),Value.slice aq mq cq)],(⟨w.heap.size,0,Z⟩:Addr).block≠q.1.block:=by
      intro q hq;simp at hq;subst hq;dsimp only;omega
     refine cl1 (i:=7) fun K l=>?_
     go_simp;refine kO l (CellL.set b aK _) (fun b=>?_);clear l K;refine wpAnyH_done kM ?_ _;go_wp2;have ax:=hd9 o
     go_roundg (n / 10000000)
     case measure=>omega
     case rel =>
      obtain⟨g1,g2,g3,g4⟩:=ae.out;rw [aL]at g2 g3 g4;refine⟨n / 10000000,k',fix7 g::ps,aq,mq,cq,rfl,g1,g2,g3,g4,?_,?_,?_,?_,?_,?_⟩
      ·intro s hs
       rcases List.mem_cons.1 hs with rfl|hs
       ·rfl
       ·exact h7 s hs
      ·exact Ext.set (p:=⟨w.heap.size,0,Z⟩) (hA.trans X9) (nE _) _
      ·exact one_setCell ax.out
      ·exact aM.keep hT
      ·exact Q.keep aD
      ·have:=hA.size
       have:=X9.size;simp;omega
def textZ (n:Int):List UInt8:=if n<0 then 45::textN n.natAbs else textN n.natAbs
def textR (q:Rat):List UInt8:=if q.den=1 then textZ q.num else textZ q.num++(47::textZ q.den)
def textV (x z:Rat):List UInt8:=40::(textR x++(44::32::(textR z++[41])))
theorem zeN:∀(k n:Nat),n<k→n≠0→0<(chunksF k n).length∧2 ^ (23*((chunksF k n).length-1))≤n
 | 0,_,h,_=>by omega
 | k+1,n,h,d=>by
  rw [chunksF,if_neg d,lA,List.length_singleton];refine⟨by omega,?_⟩;rw [Nat.add_sub_cancel]
  by_cases b:n / 10000000=0
  ·rw [b,zcx]
   simp;omega
  ·obtain⟨c,a⟩:=zeN k (n / 10000000) oM b
   obtain⟨L,e⟩:∃L,(chunksF k (n / 10000000)).length=L+1:=⟨_,(Nat.succ_pred_eq_of_pos c).symm⟩;rw [e]at a ⊢;rw [Nat.add_sub_cancel]at a;rw [Nat.mul_add,Nat.pow_add,show (2:Nat) ^ (23*1)=8388608 from rfl];have:n / 10000000*8388608≤n:=oM
   exact nT (Nat.mul_le_mul_right _ a) this
theorem zdj:∀(k n:Nat),∀s∈chunksF k n,s.length=7
 | 0,_,s,h=>by simp [chunksF]at h
 | k+1,n,s,h=>by
  unfold chunksF at h
  split at h
  ·cases h
  ·rcases List.mem_append.1 h with h|h
   ·exact zdj k _ s h
   ·rw [List.mem_singleton.1 h];rfl
theorem zey {n:Nat} (h:Lm limT (n:Int)):(textN n).length≤20*limT:=by
 have g:(chunksF (n+1) n).length≤2*limT:=by
  by_cases c:n=0
  ·rw [c,zcx];exact Nat.zero_le _
  ·obtain⟨f,d⟩:=zeN (n+1) n oM c
   have a:(n:Int)<B ^ limT:=h.2
   have e:(B:Int) ^ limT=((2 ^ (24*limT):Nat):Int):=by
    rw [Nat.pow_mul];unfold B;rw [Int.natCast_pow];rfl
   rw [e]at a;have b:n<2 ^ (24*limT):=by exact_mod_cast a
   have k:23*((chunksF (n+1) n).length-1)<24*limT:=(Nat.pow_lt_pow_iff_right (by decide:1<2)).1 (Nat.lt_of_le_of_lt d b);unfold limT at *;omega
 have i:=flat7 (zdj (n+1) n);have j:(Lib.trimLeftB (chunksF (n+1) n).flatten 48).length≤(chunksF (n+1) n).flatten.length:=List.IsSuffix.length_le (List.dropWhile_suffix _);unfold textN
 split
 ·unfold limT;simp
 ·omega
theorem zcV {n:Int} (h:Lm limT n):(textZ n).length≤21*limT:=by
 have:=zey (n:=n.natAbs) h.abs;unfold textZ
 split
 ·rw [List.length_cons];unfold limT at *;omega
 ·omega
theorem zgk {q:Rat} (h:Rb limT q):(textR q).length≤43*limT:=by
 have a:=zcV h.1;have b:=zcV h.2;unfold textR
 split
 ·omega
 ·rw [lA,List.length_cons]
  unfold limT at *;omega
theorem zcC (a b:List UInt8):(⟨a.toArray⟩:ByteArray)++(⟨b.toArray⟩:ByteArray)=⟨(a++b).toArray⟩:=by
 apply ByteArray.ext
 rw [ByteArray.data_append];simp
theorem zgr (w:Y) (v:V) (n:Int) (h:IsZ w v n) (f:Lm limT n) :
  Calls Tryz.prog 93 #[v] w fun e o=>e = .returned (.string ⟨(textZ n).toArray⟩)∧Ext w o:=by
 obtain⟨a,m,c,s,rfl⟩:=h.form;have i:=hd9 (fun(W:Y) (l:Ext w W)=>zjb W (I #[O a m c]) n.natAbs (h.dig.ext l) f.abs);have j:=h.sgn;unfold textZ;clear h
 cases s with
 | true =>
  have g:n<0:=by simpa using j.symm
  rw [if_pos g];obtain⟨T,b⟩:=gX (textN n.natAbs);rw [b]at i ⊢;have d:T.length≤20*limT:=by rw [←b];exact zey f.abs
  unfold limT at d;clear j g b f;go_enter Tryz.func93,Tryz.ntmps93
  go_wp2_with((go_at_call 132;(with_reducible refine(i.out _ ?_).mono ?_);exact eA;rintro e p ⟨rfl,k⟩))
  go_ret;exact⟨by rw [show (⟨#[45]⟩:ByteArray)=⟨[45].toArray⟩from rfl,zcC];rfl,eA⟩
 | false =>
  have g:¬n<0:=by simpa using j.symm
  rw [if_neg g];obtain⟨T,b⟩:=gX (textN n.natAbs);rw [b]at i ⊢;have d:T.length≤20*limT:=by rw [←b];exact zey f.abs
  unfold limT at d;clear j g b f;go_enter Tryz.func93,Tryz.ntmps93
  go_wp2_with((go_at_call 132;(with_reducible refine(i.out _ ?_).mono ?_);exact eA;rintro e p ⟨rfl,k⟩))
  go_ret;exact⟨rfl,eA⟩
theorem zgf (w:Y) (v:V) (q:Rat) (h:IsR w v q) (j:Rb limT q) :
  Calls Tryz.prog 36 #[v] w fun e w'=>e = .returned (.string ⟨(textR q).toArray⟩)∧Ext w w':=by
 obtain⟨a,m,c,s,a2,m2,c2,rfl⟩:=h.form;have k:=hd9 (fun(W:Y) (r:Ext w W)=>zaB W (I #[O a2 m2 c2]) _ (h.rest.ext r));have D:=hd9 (fun(W:Y) (r:Ext w W)=>zgr W (I #[O a m c,M s]) q.num (h.top.ext r) j.1);have T:=hd9 (fun(W:Y) (r:Ext w W)=>zaJ W _ q (h.ext r) (j.mono dM));have z:=hd9 (fun(W:Y) (v:V) (hv:IsZ W v (q.den:Int))=>zgr W v (q.den:Int) hv j.2);have l1:=zcV j.1;have l2:=zcV j.2;unfold textR;obtain⟨T1,o⟩:=gX (textZ q.num);obtain⟨T2,p⟩:=gX (textZ (q.den:Int));rw [o]at D l1 ⊢;rw [p]at z l2 ⊢;unfold limT at l1 l2;obtain⟨d,hd⟩:=gX q.den;rw [hd]at k T z ⊢;clear o p hd h j
 by_cases n:d=1
 ·have l:(((d:Nat):Int)-1==0)=true:=by simp [n]
  rw [l]at k;rw [if_pos n];clear l n;go_enter Tryz.func36,Tryz.ntmps36
  go_wp2_with(first|(go_at_call 92;(with_reducible refine(k.out _ ?_).mono ?_);exact eA;rintro e w1 ⟨rfl,g⟩;obtain⟨P,Q⟩:=g.cells)|(go_at_call 93;(with_reducible refine(D.out _ ?_).mono ?_);exact eA;rintro e w2 ⟨rfl,u⟩))
  go_ret;exact⟨rfl,eA⟩
 ·have l:(((d:Nat):Int)-1==0)=false:=by simp;omega
  rw [l]at k;rw [if_neg n];clear l n;go_enter Tryz.func36,Tryz.ntmps36;have g1:¬9223372036854775807<T1.length+1:=oM
  have g2:¬9223372036854775807<T1.length+1+T2.length:=oM
  go_upto_region 3 with (first|(go_at_call 92;(with_reducible refine(k.out _ ?_).mono ?_);exact eA;rintro e w1 ⟨rfl,g⟩;obtain⟨P,Q⟩:=g.cells))
  refine wp_region_held_drew (S:=CellL [(⟨w.heap.size,0,Z⟩,O a m c),(⟨w.heap.size,1,Z⟩,M s),(⟨w.heap.size,2,Z⟩,O a2 m2 c2)]) kM cA (fun b=>?_);refine sN 0 ?_
  iterate 2
   refine tkn ?_
  refine oN ?_;refine tk1 (i:=4) ?_;refine cl1 (i:=2) fun K f=>?_
  go_simp
  (with_reducible refine cM (D.out _ eA) ?_)
  rintro e w2 ⟨rfl,u⟩
  skip
  go_wp2_with fail
  refine kO f (cE b u) (fun b=>?_);clear f K;have X2:Ext w w2:=eA;refine tk1 (i:=3) ?_;refine cl1 (i:=5) fun K f=>?_
  go_simp
  (with_reducible refine cM (T.out _ X2) ?_)
  rintro e w5 ⟨r5,rfl,t,x⟩;obtain⟨a5,m5,c5,s5,rfl⟩:=t.form
  go_wp2_with fail
  refine kO f (cE b x) (fun b=>?_);clear f K;have X5:Ext w w5:=X2.trans x;refine cl1 (i:=6) fun K f=>?_
  go_simp
  (with_reducible refine cM (z.out _ _ t) ?_)
  rintro e w6 ⟨rfl,y⟩
  skip
  go_wp2_with fail
  refine kO f (cE b y) (fun b=>?_);clear f K;refine sN 7 ?_
  iterate 2
   refine tkn ?_
  refine oN ?_;refine wpAnyH_done kM ?_ _;go_wp2;go_ret;exact⟨by rw [show (⟨#[47]⟩:ByteArray)=⟨[47].toArray⟩from rfl,zcC,zcC];simp,X5.trans y⟩
theorem zgo (w:Y) (P Q:V) (x z:Rat) (t:IsR w P x) (u:IsR w Q z) (d:Rb limT x) (f:Rb limT z) :
  ∀v,(∃a m c s a2 m2 c2 a' m' c' s' a2' m2' c2',P=I #[O a m c,M s,O a2 m2 c2]∧Q=I #[O a' m' c',M s',O a2' m2' c2']∧v=I #[O a m c,M s,O a2 m2 c2,O a' m' c',M s',O a2' m2' c2']) →
  Calls Tryz.prog 37 #[v] w fun e T=>e = .returned (.string ⟨(textV x z).toArray⟩)∧Ext w T:=by
 rintro v ⟨a,m,c,s,a2,m2,c2,a',m',c',s',a2',m2',c2',rfl,rfl,rfl⟩;have HX:=hd9 (fun(W:Y) (n:Ext w W)=>zgf W _ x (t.ext n) d);have p:=hd9 (fun(W:Y) (n:Ext w W)=>zgf W _ z (u.ext n) f);have y:=zgk d;have D:=zgk f;unfold textV;obtain⟨l,h⟩:=gX (textR x);obtain⟨q,j⟩:=gX (textR z);rw [h]at HX y ⊢;rw [j]at p D ⊢;unfold limT at y D;clear h j t u d f;have g1:¬9223372036854775807<1+l.length:=oM
 have g2:¬9223372036854775807<1+l.length+2:=oM
 have g3:¬9223372036854775807<1+l.length+2+q.length:=oM
 have g4:¬9223372036854775807<1+l.length+2+q.length+1:=oM
 go_enter Tryz.func37,Tryz.ntmps37;go_wp2;refine wp_region_held_drew (S:=CellL [(⟨w.heap.size,0,Z⟩,O a m c),(⟨w.heap.size,1,Z⟩,M s),(⟨w.heap.size,2,Z⟩,O a2 m2 c2),(⟨w.heap.size,3,Z⟩,O a' m' c'),(⟨w.heap.size,4,Z⟩,M s'),(⟨w.heap.size,5,Z⟩,O a2' m2' c2')]) kM cA (fun b=>?_);refine sN 0 ?_
 iterate 2
  refine tkn ?_
 refine oN ?_;refine sN 5 ?_
 iterate 2
  refine tkn ?_
 refine oN ?_;refine cl1 (i:=2) fun K g=>?_
 go_simp
 (with_reducible refine cM (HX.out _ eA) ?_)
 rintro e w2 ⟨rfl,o⟩
 skip
 go_wp2_with fail
 refine kO g (cE b o) (fun b=>?_);clear g K;have r:Ext w w2:=eA;refine sN 3 ?_
 iterate 2
  refine tkn ?_
 refine oN ?_;refine cl1 (i:=7) fun K g=>?_
 go_simp
 (with_reducible refine cM (p.out _ r) ?_)
 rintro e w7 ⟨rfl,k⟩
 skip
 go_wp2_with fail
 refine kO g (cE b k) (fun b=>?_);clear g K;refine sN 8 ?_
 iterate 3
  refine tkn ?_
 refine oN ?_;refine wpAnyH_done kM ?_ _;go_wp2;go_ret;exact⟨by rw [show (⟨#[40]⟩:ByteArray)=⟨[40].toArray⟩from rfl,show (⟨#[44,32]⟩:ByteArray)=⟨[44,32].toArray⟩from rfl,show (⟨#[41]⟩:ByteArray)=⟨[41].toArray⟩from rfl,zcC,zcC,zcC,zcC];simp,r.trans k⟩
end
end Go.Proofs.YtodpfeaihohpjaaGreatDoor.Cop
