/- A part. No conditions. -/
import Derived.Test.YtcipmlnpjkngpaaGreatDoorA28
set_option linter.all false
set_option maxHeartbeats 16000000
open List renaming replicate->aeo
open Int renaming ofNat->afq
open List.Sublist renaming cons_cons->afN
noncomputable section
namespace Go.ak.R
section
variable{ac:Nat->aX}
section
variable{g:G.aY}{H:ai}
theorem oG.ne{e:Int}(h:oG g e):e≠0:=by rcases h with⟨h,_⟩|⟨h,_⟩|⟨h,_⟩<;>omega
theorem aaQ(T:Tb ac)(i:¬Vd g)(j:oB g)(k:mh g){cs:List AV}(hg:dS H g cs){fv:AV}(m:fv.bq=true){K:KT}(l:∀d e,oG g e->aZ H d->K (.tuple [.aG,aI e]) d):YN ac Jz [.agg cs,fv] H K:=by have f:=hg.one;obtain⟨a,rfl,bH⟩:=hg;refine YF.code T.JR aC ?_;refine au ?_;refine RO.cG (al.bY H) λn q U=>?_;refine ah ?_;refine RO.cr U 0 ?_;refine RO.cl (E' T j k (cs:=[.str g.i7,aI g.i4,aI g.aW,a]) ⟨a,rfl,b8.block.ib U.gr bH⟩ (λ_ _ _ _ _ _ _ V=>absurd V i) λo e _ he b=>?_);have c:=he.ne;refine ah ?_;refine Ru.cond (λ_=>?_) (λh=>absurd c h);refine ah ?_;exact Ru.i4 (l _ e he (U.gr.trans b))
theorem aaR(T:Tb ac)(f:¬Vd g)(h:oB g)(i:mh g){cs:List AV}(hg:dS H g cs){K:KT}(j:∀c e,oG g e->aZ H c->K (.tuple [.aG,aI e]) c):YN ac Jw [.agg cs] H K:=by have d:=hg.one;obtain⟨a,rfl,bH⟩:=hg;refine YF.code T.JP aC ?_;refine au ?_;refine RO.cG (al.bY H) λk q U=>?_;refine ah ?_;refine RO.cr U 0 ?_;refine RO.cl (aaQ T f h i (cs:=[.str g.i7,aI g.i4,aI g.aW,a]) ⟨a,rfl,b8.block.ib U.gr bH⟩ rfl λl e he b=>?_);refine ah ?_;exact Ru.i4 (j _ e he (U.gr.trans b))
end
end
def oH(a:List Nat)(v:Int):List Nat:=a.set v.toNat (a.getD v.toNat 0+1)
def gJ(a:List Nat)(l:List Int):List Nat:=l.foldl oH a
theorem Fi(a:List Nat)(v:Int):(oH a v).length=a.length:=by simp[oH]
theorem LZ(a:List Nat)(v:Int)(k:Nat):(oH a v).getD k 0=a.getD k 0+if k=v.toNat/\k<a.length then 1 else 0:=by
 unfold oH;by_cases h:v.toNat<a.length
 .rw[dk h];by_cases e:k=v.toNat;·subst e;rw[aH rfl,aH ⟨rfl,h⟩]
  rw[ap e,ap λh=>e h.1];rfl
 rw[List.set_eq_of_length_le ab,ap λh2=>h (by rw[<-h2.1];exact h2.2)];rfl
theorem aaU{a b:List Nat}(h:a.length=b.length)(h2:∀k,a.getD k 0=b.getD k 0):a=b:=agb h λk h3 c=>by have:=h2 k;rwa[bm h3,bm c]at this
theorem aaV(a:List Nat)(v w:Int):oH (oH a v) w=oH (oH a w) v:=aaU (by simp only[Fi]) λk=>by simp only[LZ,Fi];omega
theorem y9:∀(l:List Int)(a:List Nat),(gJ a l).length=a.length|[],_=>rfl|v::l,a=>by rw[gJ,List.foldl_cons,<-gJ,y9 l,Fi]
theorem aaW{l b:List Int}(h:l.Perm b)(a:List Nat):gJ a l=gJ a b:=h.foldl_eq' (λx _ y _ z=>aaV z x y) a
theorem L9(a:List Nat)(l:List Int)(v:Int):gJ a (l++[v])=oH (gJ a l) v:=by rw[gJ,List.foldl_append];rfl
theorem By{N:Nat}:∀(l:List Int){a:List Nat}{M:Nat},(∀k,a.getD k 0<=M)->M+l.length<=N->∀k,(gJ a l).getD k 0<=N|[],_,_,h,b,k=>by have:=h k;simp only[List.length_nil]at b;rw[gJ];show _<=N;simp only[List.foldl_nil];omega|v::l,a,M,h,b,k=>by rw[gJ,List.foldl_cons,<-gJ];refine By l (M:=M+1) (λk=>?_) (by simp only[aeJ]at b;omega) k;rw[LZ];have:=h k;split<;>omega
def jL(B:G.dE):List Int:=(eO B).map (·.1)
def sj(B:G.dE):List Int:=iI B.aA++B.aL.flatMap (·.args)
theorem Fj(l:List Int)(n:Nat):(jX l n).map (·.1)=l:=by rw[jX,af8];exact List.map_id _
theorem Ma:∀(l:List G.dI)(n:Nat),(fR l n).map (·.1)=l.flatMap (·.args)|[],_=>rfl|s::l,n=>by rw[fR,aeZ,Fj,Ma l,afp]
theorem Mb:∀(l:List G.Edge)(n:Nat),(gT l n).map (·.1)=l.flatMap (·.args)|[],_=>rfl|s::l,n=>by rw[gT,aeZ,Fj,Mb l,afp]
theorem aaX(B:G.dE):jL B=B.aL.flatMap (·.args)++iI B.aA:=by rw[jL,eO,aeZ,aeZ,Ma,Fj,Mb];rfl
theorem Fk(B:G.dE):(jL B).Perm (sj B):=by rw[aaX];exact ae4
theorem Bz{a:Type}{f:a->List Int}{m:Nat}:∀(l:List a),(∀x∈l,(f x).length<=m)->(l.flatMap f).length<=l.length*m|[],_=>by simp|x::l,h=>by have h1:=h x (acm ..);have h2:=Bz l λy b=>h y (aen _ b);rw[afp,aex,aeJ,Nat.succ_mul];omega
theorem Fl{B:G.dE}(h:sa B):(sj B).length<=700:=by have h1:=Bz (f:=λs:G.dI=>s.args) (m:=12) B.aL λs hs=>(h.st s hs).1;have h2:=Bz (f:=λs:G.Edge=>s.args) (m:=12) B.aA.go h.ed;have⟨_,h3,b,_,a,_⟩:=h.bl;rw[sj,iI,aex,aex];have:=aeV 12 h3;have:=aeV 12 a;omega
def fh(g:G.aY)(a:List Bool)(n:Nat):Nat->List Nat
 |0=>aeo n 0
 |k+1=>if a.getD k false then gJ (fh g a n k) (jL (be g k))else fh g a n k
theorem za{g:G.aY}{come:List Bool}{n:Nat}:∀k,(fh g come n k).length=n|0=>by simp[fh]|k+1=>by rw[fh];split<;>simp only[y9,za k]
theorem Fm{g:G.aY}{come:List Bool}{n:Nat}(h:∀b∈g.aj,sa b):∀k,k<=g.aj.length->∀i,(fh g come n k).getD i 0<=700*k
 |0,_,i=>by simp only[fh,aeD,afb];split<;>simp
 |k+1,c,i=>by
  have a:=Fm (come:=come) (n:=n) h k ab;rw[fh];split;·refine By _ a ?_ i;rw[(Fk _).length_eq];have:=Fl (h (be g k) (by rw[be,bm (show k<g.aj.length by omega)];exact acI _));omega
  have:=a i;omega
section
variable{ac:Nat->aX}
section
variable{g:G.aY}{H:ai}{cs:List AV}
theorem oG.t8{e a:Int}(h:oG g e)(c:oG g a):e=a:=by rcases h with⟨rfl,h1⟩|⟨rfl,h1,h2⟩|⟨rfl,h1,h2,h3⟩<;>rcases c with⟨rfl,b⟩|⟨rfl,b,d⟩|⟨rfl,b,d,f⟩<;>first|rfl|(exfalso;simp_all)
theorem aaS(T:Tb ac)(V:Vd g){a:List Bool}{os:List (List bI)}(c:dq g a os)(hg:dS H g cs){K:KT}(h:∀b,lO g->aZ H b->K (aI 0) b):YN ac D' [.agg cs] H K:=LB T hg V.fw V.Bt (λb hg d=>h b d.right hg) (λb hg e=>by have:=V.iF;rw[e]at this;cases this) (λb hg _ f=>absurd V.qM f) λb hg _ _ i j=>absurd (aan V.qM (wM V.fw V.iF).1 i V.dY V.gv c (V.Bu a os c)) j
theorem aaT(T:Tb ac)(f:oB g)(i:mh g){e:Int}(he:oG g e)(hg:dS H g cs){K:KT}(h:∀a,aZ H a->K (aI e) a):YN ac D' [.agg cs] H K:=by
 refine LB T hg f i (λa hg c=>?_) (λa hg b=>?_) (λa hg h1 d=>?_) λa hg h1 h2 _ j=>?_
 .rcases he with⟨rfl,h1⟩|⟨rfl,_,h1⟩|⟨rfl,_,_,h1⟩;·have:=c.aaj;rw[h1]at this;cases this
  .exact absurd c.qM h1
  exact absurd c.right h1
 .rcases he with⟨rfl,_⟩|⟨rfl,h1,_⟩|⟨rfl,h1,_⟩;·exact h _ hg
  .rw[b]at h1;cases h1
  rw[b]at h1;cases h1
 .rcases he with⟨rfl,b⟩|⟨rfl,_⟩|⟨rfl,_,h2,_⟩;·rw[b]at h1;cases h1
  .exact h _ hg
  exact absurd h2 d
 rcases he with⟨rfl,b⟩|⟨rfl,_,d⟩|⟨rfl,_⟩;·rw[b]at h1;cases h1
 .exact absurd h2 d
 exact h _ hg
end
end
section
variable{g:G.aY}{come:List Bool}{os:List (List bI)}{a:List (List Int)}
theorem wQ.none{c:List Bool}{d:List (List Int)}{n:Nat}{M:List (List Bool)}(e:wQ g c d n M){b v:Nat}(h:jr M b v):c.getD b false=true:=e.snd (λb _=>c.getD b false=true) (λ_ _ h _ _=>h) b v h
theorem abC(l:eE g)(m:ff g)(o:dq g come os)(c:Fh g come os a){n:Nat}(p:g.aW=n){i:List Bool}{j:List (List Int)}(k:Fy g os come i j){M:List (List Bool)}(f:wQ g i j n M):a=oI M g.aj.length:=by
 have hl:=c.len;refine agb (by rw[hl];simp[oI]) λb h1 h2=>?_;rw[<-bm h1 []];have e:(oI M g.aj.length)[b]=lQ (M.getD b []):=by simp[oI]
 rw[e];refine Mg (c.asc b) (aa2 _) λx=>?_;rw[aa1];cases d:come.getD b false with|true=>rw[c.mem b d,abB l m o p k f d];refine⟨λ⟨v,e,_,h⟩=>⟨v,e,h⟩,λ⟨v,e,h⟩=>⟨v,e,?_,h⟩⟩;have:=yL h aC;rwa[f.mat.row b ab]at this|false=>rw[c.EY b d];refine⟨λh=>(by cases h),λ⟨v,e,h⟩=>?_⟩;have:=(k.cm b).1 (f.none h);rw[d]at this;cases this
def ic(g:G.aY)(come:List Bool)(n:Nat):Nat->List Nat
 |0=>aeo n 0
 |k+1=>if come.getD k false then gJ (ic g come n k) (sj (be g k))else ic g come n k
theorem Fz{c:List Bool}{n:Nat}(h:∀b,c.getD b false=true↔come.getD b false=true):∀k,ic g c n k=fh g come n k|0=>rfl|k+1=>by rw[ic,fh,Fz h k,aaW (Fk _)];cases e:come.getD k false with|true=>rw[(h k).2 e]|false=>cases d:c.getD k false with|true=>have:=(h k).1 d;rw[e]at this;cases this|false=>rfl
end
end Go.ak.R
namespace Go.ak
section
variable{ac:Nat->aX}{c:Cx}{s:List SI}{L:Kn}{A H:ai}{d:Option af}{l:List bu}{ts:List Th}{q:af}{e n o:Nat}{vs ws:List AV}
theorem RO.abG(U:al A H ts)(i:Nat){a x:aK}{t is:List af}{re:List fU}(g:q∉is)(h:∀u,al A u (ts.set i (tB e q (sp vs o ws)))->(∀aa,Le (bj L d .agx) aa->dl aa u re=true)/\RO ac c l s (bj L d .agx) u)(N:pA L t=is.map some:=by exact cw)(O:aT L a=.aD q o:=by exact cw)(Q:aT L x=.agg ws:=by exact cw)(hi:ts[i]?=some (tB e q vs):=by rfl)(R:o+ws.length<=vs.length:=by first|decide|exact aeG rfl|simp|omega)(v:ws.length=n:=by first|rfl|simp)(S:cE ws=true:=by repeat first|rfl|assumption|(refine ao ?_ ?_)):RO ac c (⟨d,.store n a x,none,t,re⟩::l) s L H:=λaa b=>by
 obtain⟨w,y,D⟩:=wE b (H:=H) N;generalize T:cS aa H t=f at w y D;obtain⟨E,F,_,hu⟩:=U.iu i hi;have z:(tB e q vs).P f.1 E:=(tB e q vs).fr F (by rw[w];exact aeq _) λj hj=>y j (by rw[F.2.1 j hj];exact g);obtain⟨r,k,V,W,a3⟩:=tB.qn (ws:=ws) z R S;obtain⟨G,I⟩:=D r;have m:(tB e q (sp vs o ws)).P (cB r f.2) k:=(tB e q (sp vs o ws)).fr a3 (by rw[G];exact aeq _) λj hj=>by rw[I,ap (by rw[a3.2.1 j hj];exact g)]
 obtain⟨J,K,M⟩:=W;rw[w]at J K M;have p:kB E k H (cB r f.2):=⟨by rw[G];exact J,K,λj hj B=>by
  rw[I];split;·rfl
  rename_i v;rw[M j hj B,y j v]⟩;obtain⟨X,Y⟩:=h _ (hu p m);obtain⟨Z,C⟩:=Y _ (b.set d .agx);have he:aE (.store n a x) aa f.1=some (.agx,r):=by simp only[aE,b.gv O rfl,b.gv Q rfl,AV.cells,v,bc,V]
 refine⟨Z+1,?_⟩;simp only[Xo,Go.ak.aq,dc,bc,T,he,X _ (b.set d .agx)];exact C
end
end Go.ak
namespace Go.ak.R
section
variable{ac:Nat->aX}
section
section
variable{g:G.aY}{b c:AV}{a:af}{H:ai}{come:List Bool}{os:List (List bI)}{d:List AV}
theorem abD(T:Tb ac)(u:G.Sm g)(r:GX g H a b c come os d)(hK:dq g come os){n:Nat}(hn:g.aW=n)(a':n<=6000)(hW:∀ca∈g.aj,∀p∈eO ca,0<=p.1/\p.1<g.aW){K:KT}(h:∀i v,al H i [tS 3 1 ((fh g come n g.aj.length).map aN) n true v]->K v i):YN ac Um [.aD a 0] H K:=by
 have ba:=u.nb;have⟨hd,_,_,bb⟩:=r.bl.all;have⟨bd,_,_,_⟩:=r.cm.all;have Q:=r.iz.be;have R:=r.c2;have V:=r.c4;have z:=r.iz.lt;have bv:=hK.cl;refine YF.code T.V5 aC ?_;refine au ?_;refine RO.cG (al.bY H) λH1 x U=>?_;refine ah ?_;refine RO.bk ?_ (v:=aN n) (hc:=by rw[U.gr.bx z,R,hn];rfl);refine ah ?_;refine RO.jn U (n:=n) (λH2 q U=>?_) (hz:=by rw[eS];simp);refine RO.eR U λH3 y U=>?_;refine ah ?_;refine RO.bk ?_ (v:=b) (hc:=by rw[U.gr.bx z];exact Q);refine ah ?_;have U:al H H3 (tS 3 1 ((fh g come n 0).map aN) n true (.slice q 0 n n true)::tB fZ y [.slice q 0 n n true]::tB iw x [.aD a 0]::[]):=by have:=U.eL 1 rfl;rw[eS]at this;rw[fh,afS];exact this
 refine Ru.nm λS M hS hM=>?_;refine Ru.bM hM (up (P:=λk=>∀N m,al H N (tS 3 1 ((fh g come n k).map aN) n true (.slice q 0 n n true)::tB fZ y [.slice q 0 n n true]::tB iw x [.aD a 0]::eN m)->Ru ac ⟨l9 [.tmp p2] K,m,none⟩ S ([(rM,aN k)]++pk M [p1,p3,n6,n8]) N) g.aj.length (λk hk ih N m U=>?_) 0 ab _ [] U);subst hS;subst hM;refine Ru.loop ?_;refine au ?_;refine Ru.cond (λf=>?_) (λf=>?_)
 .have o:=acI f;have W:=u.bl _ o;have cz:=u.st _ o;have B:=u.ed _ o;have X:=hW _ o;have b0:=za (g:=g) (come:=come) (n:=n) k;have I:=Fm (g:=g) (come:=come) (n:=n) (λca hb=>⟨u.bl ca hb,u.st ca hb,u.ed ca hb⟩) k hk;have Y:=Fl (B:=g.aj[k]) ⟨W,cz,B⟩;rw[<-(Fk _).length_eq]at Y;have Z:be g k=g.aj[k]:=bm f _;refine ah ?_;refine RO.bW U.gr r.bl (λq5 o5 c5 hj A b3 hat hrd=>?_);have J:=A.one;have ag:=A;obtain⟨vp,vs,jc,rfl,_,_,av⟩:=A;obtain⟨va,vk,vg,rfl,_,_,_⟩:=av;refine ah ?_;refine RO.dM U λH4 L U=>?_;refine RO.dM U λH5 q6 U=>?_;refine RO.eo U 1 (λH6 U=>?_);refine RO.eQ U 0 (λH7 U=>?_);refine ah ?_;refine RO.cr U 0 ?_;have U:al H H7 (tS 3 1 ((fh g come n k).map aN) n true (.slice q 0 n n true)::tB fZ y [.slice q 0 n n true]::tB iw x [.aD a 0]::tB 3 L [aN k]::eN m):=((U.tail.eL 3 rfl).eL 3 rfl).eL 3 rfl;refine RO.cl (EJ T (cs:=[vp,vs,aU (g.aj[k]).aA.op,va,.str (g.aj[k]).aA.i7,vk,vg]) J λH8 q8 hl=>?_);have U:al H H8 ([tB cL q8 [vp,vs,aU (g.aj[k]).aA.op,va,.str (g.aj[k]).aA.i7,vk,vg]]++[tS 3 1 ((fh g come n k).map aN) n true (.slice q 0 n n true),tB fZ y [.slice q 0 n n true],tB iw x [.aD a 0],tB 3 L [aN k]]++eN m):=U.eK hl;refine ah ?_;refine Ru.wk (L:=[(qv,.func yq [] [.aD q8 0]),(p1,.aD x 0),(p3,.aD y 0),(p4,.aD L 0),(n6,b),(n8,aN g.aj.length),(rM,aN k)]) ?_;refine Ru.qF (J:=λj ts=>ts=[tS 3 1 ((if come.getD k false then gJ (fh g come n k) ((jL g.aj[k]).take j)else fh g come n k).map aN) n true (.slice q 0 n n true),tB fZ y [.slice q 0 n n true],tB iw x [.aD a 0],tB 3 L [aN k]]) (Dn:=λ_ _=>False) U (EK T ag ab (λs hs=>by have:=(cz s hs).1;omega) ab ab (λe he=>by have:=B e he;omega)) (λ_ _=>trivial) (by rw[afE];cases come.getD k false<;>rfl) (λk args ws h=>by obtain⟨_,_,rfl⟩:=h;rfl) (λ_ _ _ _ _ _=>trivial) (λj args ws ts us l o1 o2 i hj aw O U=>?_) (λi ax P O U=>?_) (λj i ax P _ h=>h.elim)
  .obtain⟨rfl,C,rfl⟩:=aw;subst O;obtain⟨h0,h1⟩:=X _ (acI C);have b4:j<(jL g.aj[k]).length:=by simpa[jL]using C
   have ay:(jL g.aj[k])[j]=(eO g.aj[k])[j].1:=by simp[jL]
   have D:(jL g.aj[k]).take (j+1)=(jL g.aj[k]).take j++[(eO g.aj[k])[j].1]:=by rw[<-ay,aeO]
   have b6:=y9 ((jL g.aj[k]).take j) (fh g come n k);have a1:=By ((jL g.aj[k]).take j) (N:=700*k+700) I (by rw[aeP];omega);generalize(eO g.aj[k])[j]=w at*;obtain⟨w1,w2⟩:=w;simp only at h0 h1 D;rw[hn]at h1;obtain⟨t,rfl⟩:∃t:Nat,w1=(t:Int):=⟨w1.toNat,ab⟩;have b7:t<n:=ab;have a2:gJ (fh g come n k) ((jL g.aj[k]).take (j+1))=(gJ (fh g come n k) ((jL g.aj[k]).take j)).set t ((gJ (fh g come n k) ((jL g.aj[k]).take j)).getD t 0+1):=by rw[D,L9];rfl
   generalize gJ (fh g come n k) ((jL g.aj[k]).take j)=cd at*;have a8:=a1 t;refine au ?_;refine Ru.dN (xs:=[_,_,_,_]) U λH8 U=>?_;refine ah ?_;refine RO.bk ?_ (v:=c) (hc:=by rw[U.gr.bx z];exact V);refine ah ?_;refine RO.iE U.gr r.cm (λq7 o7 b' E=>?_) (j:=k) (hj:=by omega);have a6:come[k]'ab=come.getD k false:=(bm _ _).symm;rw[a6]at E;refine RO.bk ?_ (hc:=E);refine ah ?_;cases F:come.getD k false with|true=>rw[F]at U;simp only[bc]at U;refine ah ?_;refine RO.dh U 0 (hv:=lE 0 (k:=t) ab) ?_;refine ah ?_;refine RO.gF (f:=aN) (zs:=cd) (n:=n) U 0 (cd.getD t 0+1) ab (λH3 U=>?_) (k:=t);refine ah ?_;refine Ru.bB (ts:=[_,_,_,_]) U ?_;rw[aH rfl,a2]|false=>rw[F]at U;refine ah ?_;refine Ru.bB (ts:=[_,_,_,_]) U ?_;simp
  subst O;rw[aeI (by simp[jL])]at U;refine ah ?_;have e:fh g come n (k+1)=if come.getD k false then gJ (fh g come n k) (jL g.aj[k])else fh g come n k:=by rw[fh,Z]
  have U:al H i (tS 3 1 ((fh g come n (k+1)).map aN) n true (.slice q 0 n n true)::tB fZ y [.slice q 0 n n true]::tB iw x [.aD a 0]::eN (P::m)):=by rw[e];exact U.sub (.cons_cons _ (.cons_cons _ (.cons_cons _ (.cons _ (afG _)))))
  exact Ru.wk (ih (k+1) ab ab i (P::m) U)
 refine Ru.exitTo ?_;refine ah ?_;obtain rfl:k=g.aj.length:=ab;refine Ru.ke (M:=m) (ts:=[_,_,_]) (U.cH (ae4 (l₁:=[_,_,_]) (l₂:=eN m))) λi U=>⟨[.slice q 0 n n true],⟨rfl,rfl,trivial⟩,h i _ (U.sub (afN _ (agi _)))⟩
theorem abE(T:Tb ac)(V:Vd g){cs:List AV}(hg:dS H g cs){n:Nat}(l:g.aW=n){K:KT}(m:∀j v come os,dq g come os->al H j [tS 3 1 ((fh g come n g.aj.length).map aN) n true v]->K (.tuple [v,aI 0]) j):YN ac Jx [.agg cs] H K:=by have k:=hg.one;have r:=(wM V.fw V.iF).2;obtain⟨e,rfl,bH⟩:=hg;refine YF.code T.JQ aC ?_;refine au ?_;refine RO.cG (al.bY H) λs q U=>?_;refine ah ?_;refine RO.cr U 0 ?_;refine RO.cl (aax T V (cs:=[.str g.i7,aI g.i4,aI g.aW,e]) ⟨e,rfl,b8.block.ib U.gr bH⟩ rfl λt a b c come os d h o f=>abD T V.sm o f l ab (LJ V.qM) λp v hl=>?_);have⟨i,_,_,_⟩:=(hl.sl (e:=3) (size:=1) (sv:=v) (vs:=(fh g come n g.aj.length).map aN) (n:=n) (full:=true) 0).all;refine⟨i,?_⟩;refine ah ?_;exact Ru.i4 (m p v come os f (hl.I6 (U.gr.trans h)))
theorem abF(T:Tb ac)(k:¬Vd g)(l:oB g)(m:mh g){cs:List AV}(hg:dS H g cs){K:KT}(n:∀i e,oG g e->aZ H i->K (.tuple [.aG,aI e]) i):YN ac Jx [.agg cs] H K:=by have j:=hg.one;obtain⟨f,rfl,bH⟩:=hg;refine YF.code T.JQ aC ?_;refine au ?_;refine RO.cG (al.bY H) λo q U=>?_;refine ah ?_;refine RO.cr U 0 ?_;refine RO.cl (aay T k l m (cs:=[.str g.i7,aI g.i4,aI g.aW,f]) ⟨f,rfl,b8.block.ib U.gr bH⟩ rfl λp e he h=>?_);refine ah ?_;exact Ru.i4 (n _ e he (U.gr.trans h))
end
end
section
section
variable{g:G.aY}{H:ai}{cs:List AV}
def su(e f d h i:af)(g:G.aY)(j:AV)(n:Nat)(b:List Bool)(c:Bool)(a:List Nat):List Th:=[tS 3 1 (a.map aN) n true (.slice i 0 n n true),tS 4 1 (b.map .bool) g.aj.length true (.slice d 0 g.aj.length g.aj.length true),tB lG f [.slice d 0 g.aj.length g.aj.length true,.slice h 0 g.aj.length g.aj.length true,.bool c],tB cX e [.str g.i7,aI g.i4,aN n,j]]
theorem Mt{come:List Bool}{n:Nat}:∀k,(ic g come n k).length=n|0=>by simp[ic]|k+1=>by rw[ic];split<;>simp only[y9,Mt k]
theorem abH(T:Tb ac)(hg:dS H g cs)(R:G.Sm g)(hR:eE g)(a8:g.aj.length<=40){n:Nat}(hn:g.aW=n)(et:n<=6000){K:KT}(h:∀H' v come aq c,pG g (-1) come aq c->(∀b,iH g (-1) come aq c b)->al H H' [tS 3 1 ((ic g come n g.aj.length).map aN) n true v]->K v H'):YN ac Uj [.agg cs] H K:=by
 have d':=hg.one;have b7:=hg;obtain⟨y,rfl,bH⟩:=hg;have⟨ew,_,_,e0⟩:=bH.all;have ea:fC y y=true:=bH.bL;have hS:=hR.sh;have e1:=hS.ne;have ag:∀b∈g.aj,sa b:=λb hb=>⟨R.bl b hb,R.st b hb,R.ed b hb⟩;have b':∀{d},aZ H d->dS d g [.str g.i7,aI g.i4,aN n,y]:=λhg=>by have:=b8.fY hg b7;rw[hn]at this;exact this
 refine YF.code T.V2 aC ?_;refine au ?_;refine RO.cG (al.bY H) λH1 A U=>?_;have U:al H H1 [tB cX A [.str g.i7,aI g.i4,aI g.aW,y]]:=U;rw[hn]at U;refine ah ?_;refine RO.cr U 0 ?_;refine ah ?_;refine RO.jn U (n:=n) (λH2 o U=>?_) (hz:=by rw[eS];simp);rw[eS]at U;refine ah ?_;refine RO.dM U λH3 r U=>?_;have ca:=U.r9 (e:=lG) (q:=r) (vs:=[.aG,.aG,.bool false]) 0;have cd:=U.ua (e:=3) (size:=1) (n:=n) (vs:=aeo n (.int 3 (.ofNat 0))) (full:=true) (q:=o) (o:=0) (m:=n) (cap:=n) (ex:=true) 1;have a':r≠o:=U.ne 0 1 rfl rfl bK (λf hf=>tB.pC hf) (λf hf=>tS.pC hf);have O:∀j∈ [r,o],H.next.az<=j.az/\j.az<H3.next.az:=λj hj=>by
  simp only[aer,aeS,or_false]at hj;rcases hj with rfl|rfl;·exact ca
  exact cd
 have ba:∀H0:ai,H0.next=H3.next->(∀j,j∉ [r,o]->H0.get j=H3.get j)->aZ H H0:=λH0 h1 h2=>⟨by rw[h1];exact U.gr.nx,λj hj=>by rw[h2 j ?_,U.gr.cM j hj];intro cf;have:=(O j cf).1;omega⟩;refine RO.yM (is:=[r,o]) (Q:=λv ns=>∃p u D F come aq c,pG g (-1) come aq c/\(∀b,iH g (-1) come aq c b)/\iG aq D F/\v=.agg [.slice p 0 g.aj.length g.aj.length true,.slice u 0 g.aj.length g.aj.length true,.bool c]/\ns=[tZ F,tS vT 1 D g.aj.length true (.slice u 0 g.aj.length g.aj.length true),tS 4 1 (come.map .bool) g.aj.length true (.slice p 0 g.aj.length g.aj.length true)]) U (λj hj=>(O j hj).2) (λH0 cn hs=>yV T (b' (ba H0 cn hs)) R hS a8 (wo:= -1) λH' p u D F come aq c h1 h2 h3 h4=>⟨_,h4,p,u,D,F,come,aq,c,h1,h2,h3,rfl,rfl⟩) (λfv ns HU hQ e2 U=>?_);obtain⟨p,u,D,F,come,aq,c,av,cp,e3,rfl,rfl⟩:=hQ;refine⟨λaa E=>?_,?_⟩;·obtain⟨_,W⟩:=U.get 5 rfl;exact gh (i:=A) (o:=2) (v:=aN n) E (by(conv=>lhs;whnf)<;>rfl) (by(conv=>lhs;whnf)<;>rfl) rfl (by simp[fC,de,eU]) (tB.cell W rfl) rfl
 refine RO.abG (is:=[o]) U 3 (by rw[aaN];exact a') (λH4 U=>⟨λaa E=>?_,?_⟩);·obtain⟨_,W⟩:=U.get 5 rfl;exact gh (i:=A) (o:=2) (v:=aN n) E (by(conv=>lhs;whnf)<;>rfl) (by(conv=>lhs;whnf)<;>rfl) rfl (by simp[fC,de,eU]) (tB.cell W rfl) rfl
 have cv:=av.lc;refine ah ?_;have U:al H H4 (su A r p u o g y n come c (ic g come n 0)):=by have:=U.sub (us:=[tS 4 1 (come.map .bool) g.aj.length true (.slice p 0 g.aj.length g.aj.length true),tB lG r [.slice p 0 g.aj.length g.aj.length true,.slice u 0 g.aj.length g.aj.length true,.bool c],tS 3 1 (aeo n (.int 3 (.ofNat 0))) n true (.slice o 0 n n true),tB cX A [.str g.i7,aI g.i4,aN n,y]]) (.cons _ (.cons _ (afG _)));have:=this.eL 2 rfl;rw[su,ic,afS];exact this
 refine Ru.nm λS1 M1 cx aw=>?_;refine Ru.bM aw (up (P:=λk=>∀d,al H d (su A r p u o g y n come c (ic g come n k))->Ru ac _ S1 ([(p5,aN k)]++pk M1 [p1,p3,p4]) d) g.aj.length (λk hk ih d U=>?_) 0 ab _ U);subst cx;subst aw;refine Ru.loop ?_;refine ah ?_;refine Ru.cond (λX=>?_) (λX=>?_)
 .have ih:=ih (k+1) ab ab;have w:=acI X;have e4:=R.bl _ w;have cz:=R.st _ w;have cy:=R.ed _ w;have cR:be g k=g.aj[k]:=bm X _;have e5:=Mt (g:=g) (come:=come) (n:=n) k;have bb:∀i,(ic g come n k).getD i 0<=700*k:=λi=>by rw[Fz (come:=come) (λ_=>Iff.rfl)];exact Fm ag k hk i
  have c9:=Fl (ag _ w);have c':∀x∈sj g.aj[k],0<=x/\x<g.aW:=λx S=>by
   rcases aeu.1 S with S|S;·refine si hR w (k:=g.aj[k].aL.length) ?_;rw[dJ,ap ab];exact S
   obtain⟨s,hs,S⟩:=afO.1 S;obtain⟨i,hi,rfl⟩:=aeB hs;refine si hR w (k:=i) ?_;rw[dJ,aH hi,bm hi];exact S
  rw[ic,cR]at ih;refine ah ?_;refine RO.bW U.gr bH (λq8 o8 c8 e6 ax e7 eb bd=>?_) (j:=k);have d7:=ax.one;obtain⟨vp,e8,jc,rfl,e9,dm,ay⟩:=ax;have bv:=ay;obtain⟨va,vk,vg,rfl,e',fa,fb⟩:=ay;have⟨fd,_,_,_⟩:=dm.all;refine ah ?_;refine RO.fL (vs:=[aU (g.aj[k]).aA.op,va,.str (g.aj[k]).aA.i7,vk,vg]) ?_ (hc:=Eu (k:=2) (m:=5) bd ab);refine RO.cl (E2 T (b8.tn U.gr bv) ⟨ab,ab⟩ cy λH5 rv hl=>?_);have U:=U.eK hl;have⟨ec,_,_,_⟩:=(U.sl (e:=3) (size:=1) (sv:=rv) (vs:=(iI (g.aj[k]).aA).map aI) (n:=(iI (g.aj[k]).aA).length) (full:=true) 0).all;refine ah ?_;have U:al H H5 (tS 3 1 ((iI (g.aj[k]).aA++((g.aj[k]).aL.take 0).flatMap (·.args)).map aI) (iI (g.aj[k]).aA++((g.aj[k]).aL.take 0).flatMap (·.args)).length true rv::su A r p u o g y n come c (ic g come n k)):=by rw[afE,List.flatMap_nil,afu];exact U
  refine Ru.nm λS2 M2 dr a1=>?_;refine Ru.bM a1 (up (P:=λj=>∀d V,al H d (tS 3 1 ((iI (g.aj[k]).aA++((g.aj[k]).aL.take j).flatMap (·.args)).map aI) (iI (g.aj[k]).aA++((g.aj[k]).aL.take j).flatMap (·.args)).length true V::su A r p u o g y n come c (ic g come n k))->Ru ac _ S2 ([(p7,aN j),(p6,V)]++pk M2 [p1,p3,p4,p5]) d) (g.aj[k]).aL.length (λj hj N d V U=>?_) 0 ab _ _ U);subst dr;subst a1;have⟨fe,_,_,ds⟩:=(U.sl (e:=3) (size:=1) (sv:=V) (vs:=(iI (g.aj[k]).aA++((g.aj[k]).aL.take j).flatMap (·.args)).map aI) (n:=(iI (g.aj[k]).aA++((g.aj[k]).aL.take j).flatMap (·.args)).length) (full:=true) 0).all;have fl:(iI (g.aj[k]).aA++((g.aj[k]).aL.take j).flatMap (·.args)).length<=2000:=by have h1:=Bz (f:=λs:G.dI=>s.args) (m:=12) ((g.aj[k]).aL.take j) λs hs=>(cz s (af1 hs)).1;rw[sj,aex]at c9;rw[aeP]at h1;rw[aex];have:=aeV 12 (show min j (g.aj[k]).aL.length<=40 by omega);omega
  refine Ru.loop ?_;refine ah ?_;refine RO.bW U.gr bH (λq9 o9 el a2 Y dv L b0=>?_) (j:=k);obtain⟨dx,Z,dy,rfl,b3,q,_⟩:=Y;have⟨b4,_,_,_⟩:=q.all;refine ah ?_;refine RO.bk (v:=Z) ?_ (hc:=L 1 _ rfl);refine ah ?_;refine Ru.cond (λM=>?_) (λM=>?_);·have N:=N (j+1) ab ab;have fp:=cz _ (acI M);rw[(aeO M).symm,ae9,afl,<-aeC]at N;generalize iI (g.aj[k]).aA++((g.aj[k]).aL.take j).flatMap (·.args)=l0 at*;refine ah ?_;refine RO.bW U.gr bH (λq9 o9 el a2 Y dv L b0=>?_) (j:=k);obtain⟨dx,Z,dy,rfl,b3,q,_⟩:=Y;have⟨b4,_,_,_⟩:=q.all;refine ah ?_;refine RO.bk (v:=Z) ?_ (hc:=L 1 _ rfl);refine ah ?_;refine RO.bW U.gr q (λq7 o7 c7 fq dz fs b6 ei=>?_) (j:=j);generalize(g.aj[k]).aL[j]=x at*;obtain⟨d0,rfl,P⟩:=dz;have⟨ej,_,_,_⟩:=P.all;refine ah ?_;refine RO.bk (v:=d0) ?_ (hc:=b6 2 _ rfl);refine RO.me U 0 (U.gr.sl P) (λH9 v2 U=>?_) (h1:=mJ _);have⟨f0,f1,f2,_⟩:=(U.sl (e:=3) (size:=1) (n:=l0.length+x.args.length) (full:=true) (sv:=v2) 0).all;refine ah ?_;exact Ru.wk (N _ v2 (by rw[aeZ,aex];exact U))
  refine Ru.exitTo ?_;rw[aeI ab,<-sj]at U ds;refine ah ?_;generalize g.aj[k]=B at*;generalize sj B=l at*;refine Ru.nm λS3 M3 d1 a6=>?_;refine Ru.bM a6 (up (P:=λm=>∀d,(come.getD k false=false->m=0)->al H d (tS 3 1 (l.map aI) l.length true V::su A r p u o g y n come c (gJ (ic g come n k) (l.take m)))->Ru ac _ S3 ([(p8,aN m)]++pk M3 [p1,p3,p4,p5,p6]) d) l.length (λm hm I d d2 U=>?_) 0 ab _ (λ_=>rfl) (by rw[afE];exact U));subst d1;subst a6;have f3:=y9 (l.take m) (ic g come n k);have E:=By (l.take m) (N:=700*k+700) bb (by rw[aeP];omega);have Q:∀d,¬(m<l.length/\come.getD k false=true)->al H d (tS 3 1 (l.map aI) l.length true V::su A r p u o g y n come c (gJ (ic g come n k) (l.take m)))->al H d (su A r p u o g y n come c (if come.getD k false then gJ (ic g come n k) l else ic g come n k)):=λd d3 U=>by have U:=U.tail;cases hc:come.getD k false with|false=>rw[d2 hc,afE]at U;exact U|true=>rw[aeI (Nat.le_of_not_lt λC=>d3 ⟨C,hc⟩)]at U;exact U
  refine Ru.loop ?_;refine ah ?_;by_cases e:m<l.length
  .refine RO.bT (λ_=>?_) (λC=>absurd e C);refine ah ?_;have d4:=mZ (l:=come) (k:=k) cv ab;refine RO.dh U 2 (hv:=d4) ?_;refine ah ?_;refine Ru.eh (λJ=>?_) (λJ=>?_);·have I:=I (m+1) ab ab;have hr:=c' _ (acI e);rw[(aeO e).symm,L9]at I;have d5:=U.sl (e:=3) (size:=1) (sv:=V) (vs:=l.map aI) (n:=l.length) (full:=true) 0;refine ah ?_;refine RO.iE (aZ.refl _) d5 (λq9 o9 a2 d6=>?_) (j:=m);generalize l[m]=z at*;obtain⟨t,rfl⟩:∃t:Nat,z=t:=⟨z.toNat,ab⟩;have f4:t<n:=ab;have ha:oH (gJ (ic g come n k) (l.take m)) (t:Int)=(gJ (ic g come n k) (l.take m)).set t ((gJ (ic g come n k) (l.take m)).getD t 0+1):=rfl;rw[ha]at I;generalize gJ (ic g come n k) (l.take m)=a at*;have ek:=E t;refine RO.bk ?_ (hc:=d6);refine ah ?_;refine RO.dh U 1 (hv:=lE 0 (k:=t) ab) ?_;refine ah ?_;refine RO.gF (f:=aN) (zs:=a) (n:=n) U 1 (a.getD t 0+1) ab (λH9 U=>?_) (k:=t);refine ah ?_;exact Ru.wk (I _ (λC=>by rw[C]at J;cases J) U)
   refine Ru.exitTo ?_;refine ah ?_;exact Ru.wk (ih _ (Q _ (λC=>by rw[C.2]at J;cases J) U))
  refine RO.bT (λC=>absurd C e) (λ_=>?_);refine ah ?_;refine Ru.exitTo ?_;refine ah ?_;exact Ru.wk (ih _ (Q _ (λC=>e C.1) U))
 refine Ru.exitTo ?_;obtain rfl:k=g.aj.length:=ab;refine ah ?_;exact Ru.aP (h _ _ come aq c av cp (U.sub (.cons_cons _ (agi _))))
end
end
section
section
variable{g:G.aY}{H:ai}{cs:List AV}
theorem abI(T:Tb ac)(q:∀{H:ai}{K:KT},(∀t,aZ H t->K (.bool true) t)->YN ac JN [] H K)(hg:dS H g cs)(u:mh g){K:KT}(h:∀t,aZ H t->K (.bool true) t):YN ac Ud [.agg cs] H K:=by
 have aw:=hg.one;have d:=hg;obtain⟨vb,rfl,bH⟩:=hg;have⟨a2,_,_,a6⟩:=bH.all;refine YF.code T.VU aC ?_;refine ah ?_;refine RO.cG (al.bY H) λH1 q2 U=>?_;refine ah ?_;refine RO.cr U 0 ?_;refine RO.cl (zO T (b8.fY U.gr d) (λH2 hg=>?_) (λH2 hg y=>?_));·have U:=U.bZ hg;refine ah ?_;refine RO.cl (q λH3 hg=>?_);have U:=U.bZ hg;refine ah ?_;exact Ru.aP (h _ U.gr)
 have U:=U.bZ hg;have l:=y.sm;have a8:=l.nb;refine ah ?_;refine RO.cr U 0 ?_;refine RO.cl (abi T (b8.fY U.gr d) ab (λb hb=>⟨l.bl b hb,l.st b hb,l.ed b hb⟩) λH3 a' hg a=>?_);have U:=U.bZ hg;have av:=a.one;have N:=a;obtain⟨wb,rfl,ba⟩:=N;refine RO.eR (al.bY H3) λH4 q5 hl=>?_;have a:=b8.fY hl.gr a;have U:al H H4 [tB cX q5 [.str g.i7,aI g.i4,aI g.aW,wb],tB cX q2 [.str g.i7,aI g.i4,aI g.aW,vb]]:=U.eK hl;refine ah ?_;refine RO.cr U 0 ?_;by_cases V:Vd g;rotate_left;·refine RO.cl (aaR T V y u a λG e he hg=>?_);have O:=he.ne;have U:=U.bZ hg;have a:=b8.fY hg a;refine ah ?_;refine RO.cr U 0 ?_;refine RO.cl (abF T V y u a λG e' P hg=>?_);obtain rfl:=he.t8 P;have U:=U.bZ hg;have a:=b8.fY hg a;refine ah ?_;refine RO.cr U 1 ?_;refine RO.cl (aaT T y u he (b8.fY U.gr d) λI hg=>?_);have U:=U.bZ hg;have a:=b8.fY hg a;refine ah ?_;refine RO.cr U 0 ?_;refine RO.cr U 1 ?_;refine RO.cl (Mo T a (b8.fY U.gr d) u l λH8 hg=>?_);have U:=U.bZ hg;refine ah ?_;refine RO.bT (λj=>absurd rfl j) (λ_=>?_);refine ah ?_;refine Ru.cond (λj=>absurd rfl j) (λ_=>?_);refine ah ?_;refine Ru.cond (λ_=>?_) (λj=>absurd O j);refine ah ?_;refine RO.cl (q λH9 hg=>?_);have U:=U.bZ hg;refine ah ?_;exact Ru.aP (h _ U.gr)
 have p:=V.qM;have bb:=p.p0;have bd:=p.p1;obtain⟨m,r⟩:=wM y V.iF;obtain⟨n,D⟩:∃n:Nat,g.aW=n:=⟨g.aW.toNat,ab⟩;refine RO.cl (aaP T V a λG v ax os E z F J s Q hl=>?_);have c:wI G E v:=Q.sl hl 0 rfl (hl.sl (e:=fZ) (size:=1) (vs:=z) (n:=z.length) (full:=true) 1);have⟨bv,_,_,_⟩:=c.all;have U:=U.bZ hl.gr;have a:=b8.fY hl.gr a;refine ah ?_;refine RO.cr U 0 ?_;refine RO.cl (abE T V a D λI uv f b0 R hl=>?_);have kX:fx I ((fh g f n g.aj.length).map afq) uv:=by have:=hl.sl (e:=3) (size:=1) (sv:=uv) (vs:=(fh g f n g.aj.length).map aN) (n:=n) (full:=true) 0;rw[fx,af8,aeR,za];exact this
 have⟨b3,_,_,_⟩:=kX.all;have U:=U.bZ hl.gr;have a:=b8.fY hl.gr a;have c:=b8.Bq.ib hl.gr c;refine ah ?_;refine RO.cr U 1 ?_;refine RO.cl (aaS T V J (b8.fY U.gr d) λI A hg=>?_);have U:=U.bZ hg;have a:=b8.fY hg a;have c:=b8.Bq.ib hg c;have kX:=hg.sl kX;refine ah ?_;refine RO.cr U 0 ?_;refine RO.cr U 1 ?_;refine RO.cl (Mo T a (b8.fY U.gr d) u l λH8 hg=>?_);have U:=U.bZ hg;have c:=b8.Bq.ib hg c;have kX:=hg.sl kX;refine ah ?_;refine RO.cr U 1 ?_;refine ah ?_;refine RO.cl (abv T (b8.fY U.gr d) l p m D ab λH9 v2 cR oR b4 M C F2 hI hD hM o i=>?_);have L:=runK p A V.dY J hI hD;have he:=abC p V.dY J s D L hM;have S:=o.len;have r:wI H9 E v2:=by rw[he];exact o.sl i 0 rfl (by rw[S];simp only[oI,aeR,List.length_range];exact i.sl (e:=fZ) (size:=1) (vs:=C) (n:=g.aj.length) (full:=true) 1)
 have⟨ay,_,_,_⟩:=r.all;have U:=U.bZ i.gr;have c:=b8.Bq.ib i.gr c;have kX:=i.gr.sl kX;have B:E.length<=1000000/\∀x∈E,x.length<=1000000:=by have hl:=s.len;refine⟨ab,λx hx=>?_⟩;obtain⟨k,L,rfl⟩:=aeB hx;have:=s.iF k;rw[bm L]at this;omega
 refine ah ?_;refine RO.cl (aa8 T c r B.1 B.2 (λ_=>?_) (λj=>absurd rfl j));refine ah ?_;refine RO.cr U 1 ?_;refine ah ?_;refine RO.cl (abH T (b8.fY U.gr d) l p m D ab λW w X b6 a1 Y Z hl=>?_);have ag:=runK p A V.dY R Y Z;have hw:fx W ((fh g f n g.aj.length).map afq) w:=by have:=hl.sl (e:=3) (size:=1) (sv:=w) (vs:=(ic g X n g.aj.length).map aN) (n:=n) (full:=true) 0;rw[Fz ag.cm]at this;rw[fx,af8,aeR,za];exact this
 have⟨b7,_,_,_⟩:=hw.all;have U:=U.bZ hl.gr;have kX:=hl.gr.sl kX;refine ah ?_;refine RO.cl (Br T kX hw (by rw[aeR,za];omega) (λ_=>?_) (λj=>absurd rfl j));refine ah ?_;refine RO.cl (q λb' hg=>?_);have U:=U.bZ hg;refine ah ?_;exact Ru.aP (h _ U.gr)
end
end
end
end Go.ak.R
end
