/- A part. No conditions. -/
import Derived.Test.YtodnahjlheaolaaGreatDoorA27
set_option linter.all false
set_option maxHeartbeats 16000000
open List renaming replicate->ab7,range->ahq
open Int renaming ofNat->ah0
noncomputable section
namespace Go.al.R
section
variable{ac:Nat->aX}
end
variable{B:G.aM}{L:ai}{N:KT}{P Y:Int}{M W a:List Int}{X Z:AV}{A E:List (List Int)}{C Q:Nat->List (List Int)}{J V n:Nat}{O S:Nat->Nat->Prop}{I:List AV}{D:List (List bp)}{F:List Bool}{H:List Nat}
section
variable{ac:Nat->aX}
theorem nD.ne(h:nD B P):P≠0:=by rcases h with⟨h,_⟩|⟨h,_⟩|⟨h,_⟩<;>omega
theorem NO(T:Tb ac)(i:¬Vd B)(j:ny B)(k:ml B){cs:List AV}(hg:dc L B cs)(l:∀c e,nD B e->aR L c->N (.tuple [.j5,aI e]) c):YN ac Fc [.agg cs] L N:=by have f:=hg.one;obtain⟨d,rfl,bz⟩:=hg;refine YF.code T.KY aC (au ?_);refine RO.bZ (ak.bM L) λm n U=>ab ?_;refine RO.bT U 0 ?_;refine RO.cl (adb T i j k (cs:=[.str B.i7,aI B.i4,aI B.aO,d]) ⟨d,rfl,bV.block.gK U.gr bz⟩ λo e he a=>?_);have b:=he.ne;refine ab ?_;refine Ru.cond (λ_=>ab ?_) (λh=>absurd b h);exact Ru.jo (vs:=[.j5,aI e]) ⟨rfl,rfl,rfl,rfl,trivial⟩ (l _ e he (U.gr.trans a))
end
section
variable{ac:Nat->aX}
def fN:List Int->List Int->List Int
 |a,[]=>a
 |a,x::l=>fN (if x∈a then a else a++[x]) l
theorem G5:∀{l a:List Int},P∈fN a l↔P∈a\/P∈l
 |[],a=>by simp[fN]
 |y::l,a=>by
  rw[fN,G5];split
  .rename_i h;simp only[ac2];constructor
   .rintro(h1|h1);·exact .inl h1
    exact .inr (.inr h1)
   rintro(h1|h1|h1);·exact .inl h1
   .subst h1;exact .inl h
   exact .inr h1
  simp only[ac6,ac2,ahv,or_false,or_assoc]
theorem G6:∀{l a:List Int},a.Nodup->(fN a l).Nodup
 |[],a,h=>h
 |y::l,a,h=>by
  rw[fN];refine G6 ?_;split;·exact h
  rename_i c;rw[ahZ];refine⟨h,aC,λx d z b=>?_⟩;rw[abt]at b;subst b;exact λe=>c (e▸d)
theorem CQ:∀{l a:List Int},(fN a l).length<=a.length+l.length
 |[],a=>by simp[fN]
 |y::l,a=>by
  rw[fN];have:=CQ (l:=l) (a:=if y∈a then a else a++[y]);split at this;·rename_i h;rw[aF h];simp only[ahK];omega
  rename_i h;rw[an h];simp only[ae8,ahK,List.length_nil]at this⊢;omega
theorem N5:∀{l a:List Int}{x:Int},fN a (l++[x])=if x∈fN a l then fN a l else fN a l++[x]|[],a,x=>rfl|y::l,a,x=>by rw[ah4,fN,N5,fN]
theorem N6(T:Tb ac)(p:dh L a X)(hb:dh L M Z)(y:a.length<=100000)(z:M.length<=100000)(h:∀g v,ak L g [tS 3 1 ((fN a M).map aI) (fN a M).length true v]->N v g):YN ac WY [X,Z] L N:=by
 have⟨A,_,_,B⟩:=p.all;have⟨C,_,_,D⟩:=hb.all;refine YF.code T.Zr aC (ab ?_);refine RO.ir (ak.bM L) 1 λO v5 U=>?_;have⟨E,_,_,_⟩:=(U.sl 0 rfl).all;refine ab ?_;refine RO.kI U 0 (U.gr.sl p) (λr v9 U=>?_) (h1:=md _);have U:ak L r [tS 3 1 ((fN a (M.take 0)).map aI) (fN a (M.take 0)).length true v9]:=by rw[ahw]at U;exact U
 have⟨F,_,_,_⟩:=(U.sl 0 rfl).all;refine ab ?_;refine Ru.nm λs t l d=>Ru.bH d (up (P:=λk=>∀i c,ak L i [tS 3 1 ((fN a (M.take k)).map aI) (fN a (M.take k)).length true c]->Ru ac _ s ([(p6,aN k),(p5,c)]++pk t [p1]) i) M.length (λk P b i c U=>?_) 0 aa _ _ U);subst l;subst d;have e:=U.sl 0 rfl;have⟨G,_,_,I⟩:=e.all;have m:=CQ (l:=M.take k) (a:=a);rw[ahU]at m;refine Ru.loop (ab ?_);refine Ru.cond (λf=>?_) (λf=>?_)
 .have b:=b (k+1) aa aa;rw[(ahb f).symm,N5]at b;generalize fN a (M.take k)=u at*;refine ab ?_;refine RO.fA U.gr hb (λq o hj n=>ab ?_) (j:=k);refine RO.cl (Cn T e aa (λj=>?_) (λj=>?_));·rw[aF j]at b;refine ab ?_;exact Ru.wk (b _ c U)
  rw[an j]at b;refine ab ?_;refine RO.fA U.gr hb (λq o hj n=>ab ?_) (j:=k);refine RO.push U 0 (λw g x U=>?_) (ws:=[aI M[k]]);have⟨J,_,_,_⟩:=(U.sl 0 rfl).all;refine ab ?_;exact Ru.wk (b _ x (by rw[ahx,ae8];exact U))
 refine Ru.exitTo ?_;rw[aho aa]at U;refine ab ?_;exact Ru.aL (h _ c U)
def mG(g:G.aM)(n b:Nat)(pl:List (List Int)):Prop:=∃f aA i,jx g (-1) f aA i/\(∀b,fc g (-1) f aA i b)/\(f.getD b false=false/\pl=[]\/∃M c2 o2 h,jx g (-1) c2 o2 h/\(∀b,fc g (-1) c2 o2 h b)/\rf g c2 o2 n M/\CP g f aA M n b pl)
theorem G7(h:M.Pairwise (·<·)):M.Nodup:=h.imp λh=>Int.ne_of_lt h
theorem N7:∀(n:Nat)(l:List Int),l.Nodup->(∀x∈l,0<=x/\x<n)->l.length<=n:=λn l hd h=>by
 have:=qR n (l.map Int.toNat) (by rw[List.Nodup,List.pairwise_map];refine List.Pairwise.imp_of_mem (λ{m b}f hb k=>?_) hd;have:=h m f;have:=h b hb;omega) λx i=>by obtain⟨y,j,rfl⟩:=ahm.1 i;have:=h y j;omega
 simpa using this
theorem mG.bd(h:mG B J n A):(A=[]\/A.length=(aE B n).aB.length+1)/\∀k,(A.getD k []).Nodup/\(A.getD k []).length<=J/\∀x∈A.getD k [],0<=x/\x<J:=by
 have nil:∀k,(([]:List (List Int)).getD k []).Nodup/\(([]:List (List Int)).getD k []).length<=J/\∀x∈([]:List (List Int)).getD k [],0<=x/\x<J:=λk=>by simp
 obtain⟨_,_,_,_,_,⟨_,rfl⟩|⟨_,_,_,_,_,_,_,⟨_,hl,i⟩|⟨_,rfl⟩⟩⟩:=h;·exact⟨.inl rfl,nil⟩
 .refine⟨.inr hl,λk=>?_⟩;by_cases j:k<=(aE B n).aB.length
  .have⟨b,l⟩:=i k j;have f:∀x∈A.getD k [],0<=x/\x<J:=λx m=>by obtain⟨v,rfl,o,_⟩:=(l x).1 m;omega
   exact⟨G7 b,N7 J _ (G7 b) f,f⟩
  rw[ahi,ah1 aa];simp
 exact⟨.inl rfl,nil⟩
def sy(pl:List (List Int))(f:Int)(B:G.dI)(b k:Nat)(x:Int):Prop:=x∈pl.getD k []\/k=0/\(x∈B.i4\/b=0/\0<=x/\x<f)
def vU(pl:List (List Int))(B:G.dI)(k:Nat)(x:Int):Prop:=x∈pl.getD (k+1) []\/x=(B.aB.getD k default).to
structure jZ(g:G.aM)(pls:Nat->List (List Int))(P:Nat->Nat->Prop)(NL:List (List Int)):Prop where
 snd:∀N∈NL,N.Nodup/\N.length<=1000/\∃b j,P b j/\((∀x,x∈N↔sy (pls b) g.i4 (aE g b) b j x)\/(j<(aE g b).aB.length/\0<=((aE g b).aB.getD j default).to/\∀x,x∈N↔vU (pls b) (aE g b) j x))
 c1:∀b j,P b j->∃N∈NL,∀x,x∈N↔sy (pls b) g.i4 (aE g b) b j x
 c2:∀b j,P b j->j<(aE g b).aB.length->0<=((aE g b).aB.getD j default).to->∃N∈NL,∀x,x∈N↔vU (pls b) (aE g b) j x
theorem jZ.congr(h:jZ B C O A)(f:∀b j,O b j↔S b j)(i:∀b j,O b j->C b=Q b):jZ B Q S A:=by
 refine⟨λN k=>?_,λb j hb=>?_,λb j hb=>?_⟩;·have⟨h1,h2,b,j,h3,l⟩:=h.snd N k;refine⟨h1,h2,b,j,(f b j).1 h3,?_⟩;rw[<-i b j h3];exact l
 .have hb:=(f b j).2 hb;rw[<-i b j hb];exact h.c1 b j hb
 have hb:=(f b j).2 hb;rw[<-i b j hb];exact h.c2 b j hb
theorem jZ.N8(h:jZ B C O A)(q:M.Nodup)(hl:M.length<=1000)(p:∀x,x∈M↔sy (C J) B.i4 (aE B J) J n x)(m:¬(n<(aE B J).aB.length/\0<=((aE B J).aB.getD n default).to)):jZ B C (λb f=>O b f\/b=J/\f=n) (A++[M]):=by
 refine⟨λi o=>?_,λb f hb=>?_,λb f hb h1 h2=>?_⟩
 .rcases ac6.1 o with k|k;·have⟨h1,h2,b,f,h3,l⟩:=h.snd i k;exact⟨h1,h2,b,f,.inl h3,l⟩
  rw[abt]at k;subst k;exact⟨q,hl,J,n,.inr ⟨rfl,rfl⟩,.inl p⟩
 .rcases hb with hb|⟨rfl,rfl⟩;·have⟨i,h1,h2⟩:=h.c1 b f hb;exact⟨i,ahj _ h1,h2⟩
  exact⟨M,ahu _ (abt.2 rfl),p⟩
 rcases hb with hb|⟨rfl,rfl⟩;·have⟨i,h3,l⟩:=h.c2 b f hb h1 h2;exact⟨i,ahj _ h3,l⟩
 exact absurd ⟨h1,h2⟩ m
theorem jZ.aev(h:jZ B C O A)(s:M.Nodup)(hl:M.length<=1000)(r:∀x,x∈M↔sy (C J) B.i4 (aE B J) J n x)(hj:n<(aE B J).aB.length)(t:0<=((aE B J).aB.getD n default).to)(o:W.Nodup)(p:W.length<=1000)(l:∀x,x∈W↔vU (C J) (aE B J) n x):jZ B C (λf i=>O f i\/f=J/\i=n) (A++[M]++[W]):=by
 refine⟨λk q=>?_,λf i hb=>?_,λf i hb h1 h2=>?_⟩
 .rcases ac6.1 q with b|b
  .rcases ac6.1 b with b|b;·have⟨h1,h2,f,i,h3,m⟩:=h.snd k b;exact⟨h1,h2,f,i,.inl h3,m⟩
   rw[abt]at b;subst b;exact⟨s,hl,J,n,.inr ⟨rfl,rfl⟩,.inl r⟩
  rw[abt]at b;subst b;exact⟨o,p,J,n,.inr ⟨rfl,rfl⟩,.inr ⟨hj,t,l⟩⟩
 .rcases hb with hb|⟨rfl,rfl⟩;·have⟨k,h1,h2⟩:=h.c1 f i hb;exact⟨k,ahj _ (ahj _ h1),h2⟩
  exact⟨M,ahj _ (ahu _ (abt.2 rfl)),r⟩
 rcases hb with hb|⟨rfl,rfl⟩;·have⟨k,h3,m⟩:=h.c2 f i hb h1 h2;exact⟨k,ahj _ (ahj _ h3),m⟩
 exact⟨W,ahu _ (abt.2 rfl),l⟩
def vV(d e:ah)(B:G.aM)(n f:Nat)(h i a j k l v3:AV)(p:G.dI)(m o:List Th)(b:List AV)(c:Nat):List Th:=[tZ m,tS cW 1 b c true v3,tZ o,tB cS e [i,a,aU p.aq.op,j,.str p.aq.i7,k,l],tB cA d [.str B.i7,aN f,aN n,h]]
theorem aew(T:Tb ac)(hg:dc L B I)(hB:G.Sm B)(hR:dT B)(d5:B.aj.length<=30)(hn:B.aO=n)(ha:n<=200)(h:∀H' v f c F d,(∀b,b<B.aj.length->mG B n b (d b))->jZ B d (λb j=>b<B.aj.length/\j<(d b).length) f->f.length<=3000->fG f c F->ak L H' [tZ F,tS cW 1 c f.length true v]->N v H'):YN ac WD [.agg I] L N:=by
 have gq:=hg.one;have e0:=hg;obtain⟨J,rfl,bz⟩:=hg;have⟨e1,_,_,hc⟩:=bz.all;have d6:eV J J=true:=bz.bI;have hf:=hR.p0;have dm:=hR.p1;obtain⟨A,b4⟩:∃A:Nat,B.i4=A:=⟨B.i4.toNat,aa⟩;have e2:∀{C},aR L C->dc C B [.str B.i7,aN A,aN n,J]:=λhg=>by have:=bV.eY hg e0;rw[hn,b4]at this;exact this
 refine YF.code T.Y1 aC (au ?_);refine RO.bZ (ak.bM L) λH1 P U=>?_;have U:ak L H1 [tB cA P [.str B.i7,aI B.i4,aI B.aO,J]]:=U;rw[hn,b4]at U;refine ab ?_;refine RO.ir U 1 λH2 e3 U=>?_;have⟨gx,_,_,_⟩:=(U.sl 0 rfl).all;have U:=U.lQ;refine ab ?_;refine Ru.nm λS1 M1 e4 dr=>Ru.bH dr (up (P:=λb=>∀C f d c z v3,(∀a,a<b->mG B n a (d a))->jZ B d (λa j=>a<b/\j<(d a).length) f->f.length<=90*b->fG f c z->ak L C [tZ z,tS cW 1 c f.length true v3,tB cA P [.str B.i7,aN A,aN n,J]]->Ru ac _ S1 ([(p4,aN b),(p3,v3)]++pk M1 [p1]) C) B.aj.length (λb hb ih C f d c z v3 ds s e5 S U=>?_) 0 aa _ [] (λ_=>[]) [] [] e3 (λa O=>by omega) ⟨λhJ hN=>(by cases hN),λa j O=>aa,λa j O=>aa⟩ aC ⟨rfl,λb hb=>absurd hb aC⟩ U);subst e4;subst dr;have⟨e6,_,_,e7⟩:=(U.sl 1 rfl).all;refine Ru.loop (ab ?_);refine Ru.cond (λdv=>?_) (λdv=>?_)
 .have ih:=ih (b+1) aa aa;have b6:b<B.aj.length:=dv;have b7:=abO b6;have dx:=hB.bl _ b7;have hh:=hB.st _ b7;have u:aE B b=B.aj[b]:=aZ b6 _;have e8:∀{k:Nat}(hk:k<B.aj[b].aB.length), -1<=B.aj[b].aB[k].to/\B.aj[b].aB[k].to<n:=λhk=>by have:=(hR.aB _ b7 _ (abO hk)).r;have h1:=this.t0;have h2:=this.t1;omega
  refine ab ?_;refine RO.bT U 2 (ab ?_);refine RO.nE U.gr bz (λe9 e' hm gy bb gA bc=>?_) (j:=b);have gH:=bb.one;refine RO.ee ?_ (hc:=(bc U.gr).2);generalize ho:B.aj[b]=hI at*;obtain⟨vp,o,jc,rfl,b',ba,va,vk,vg,rfl,fa,fb,fd⟩:=bb;have⟨hq,_,_,hr⟩:=b'.all;have⟨hv,_,_,hx⟩:=ba.all;have fe:cD o o=true:=by obtain⟨_,hw,_⟩:=ba;exact Sl.cD hw
  have fk:cD vg vg=true:=by obtain⟨_,hw,_⟩:=fd;exact Sl.cD hw
  refine ab ?_;refine RO.dL U λH3 Q U=>?_;have fl:=U.pQ 0 rfl;have d7:∀H0:ai,H0.next=H3.next->(∀j,j∉ [Q]->H0.get j=H3.get j)->aR L H0:=λH0 h1 h2=>⟨by rw[h1];exact U.gr.nx,λj hj=>by rw[h2 j ?_,U.gr.cI j hj];rw[abt];intro e;rw[e]at hj;omega⟩;refine RO.sn (is:=[Q]) (Q:=λv ns=>∃pl V R,mG B n b pl/\fG pl V R/\tR 1 V pl.length v∈R/\ns=[tZ R]) U (λj hj=>by rw[abt]at hj;rw[hj];exact fl.2) (λH0 fo hs=>aeu T (e2 (d7 H0 fo hs)) hB hR d5 hn aa b6 (λH' v av aA ca F h1 h2 h3 h4 h5=>⟨_,h4,[],[],F,⟨av,aA,ca,h1,h2,.inl ⟨h3,rfl⟩⟩,⟨rfl,λb hb=>absurd hb aC⟩,h5,rfl⟩) (λH' v pl V F av aA ca M c2 o2 d' h1 h2 h3 h4 h5 h6 h7 h8 h9=>⟨_,h9,pl,V,F,⟨av,aA,ca,h1,h2,.inr ⟨M,c2,o2,d',h3,h4,h5,h6⟩⟩,h7,h8,rfl⟩)) (λv5 ns HU hQ hz U=>?_);obtain⟨pl,V,R,dy,cd,aw,rfl⟩:=hQ;refine⟨λaf dz=>?_,?_⟩;·obtain⟨_,dm⟩:=U.get 4 rfl;refine qW (i:=e9) (o:=e') (vs:=[vp,o,aU hI.aq.op,va,.str hI.aq.i7,vk,vg]) dz (by(conv=>lhs;whnf)<;>rfl) (by(conv=>lhs;whnf)<;>rfl) (G0 (Sl.cD b') fe (Sl.cD fa) (Sl.cD fb) fk) (bc U.gr).2 ?_;exact ev (i:=P) (o:=3) (v:=J) dz (by(conv=>lhs;whnf)<;>rfl) (by(conv=>lhs;whnf)<;>rfl) e1 d6 (tB.cell dm rfl) rfl
  have⟨hA,_,_,hC⟩:=(G4 U 0 rfl cd aw).all;refine ab ?_;refine RO.eT U 1 (λH4 U=>?_);obtain⟨ax,bv⟩:=dy.bd;rw[u]at ax;have U:ak L H4 (vV P Q B n A J vp o va vk vg v3 hI z R c f.length):=ak.dK (xs:=[_,_]) (ts:=[_,_]) (us:=[_]) U;have b0:∀a j,a<b/\j<(d a).length->d a=(λi=>if i=b then pl else d i) a:=λa j O=>by dsimp only;rw[an aa]
  have ea:jZ B (λi=>if i=b then pl else d i) (λa j=>a<b/\j<(d a).length\/a=b/\j<0) f:=s.congr (λa j=>⟨λh=>.inl h,λh=>h.resolve_right λh=>by omega⟩) b0;generalize cf:(λi=>if i=b then pl else d i)=p at*;have W:p b=pl:=by rw[<-cf];exact aF rfl
  have cn:∀a,a≠b->p a=d a:=λa O=>by rw[<-cf];exact an O
  clear b0 cf s;refine ab ?_;refine Ru.nm λS2 M2 fp d0=>Ru.bH d0 (up (P:=λk=>∀C f c z v3,jZ B p (λa j=>a<b/\j<(d a).length\/a=b/\j<k) f->f.length<=90*b+2*k->fG f c z->ak L C (vV P Q B n A J vp o va vk vg v3 hI z R c f.length)->Ru ac _ S2 ([(p7,aN k),(p3,v3)]++pk M2 [p1,p4,p5,p6]) C) pl.length (λk hk X C f c z v3 s e5 S U=>?_) 0 aa _ f c z v3 ea aa S U);subst fp;subst d0;have⟨e6,_,_,e7⟩:=(U.sl 1 rfl).all;refine Ru.loop (ab ?_);refine Ru.cond (λay=>?_) (λay=>?_)
  .have X:=X (k+1) aa aa;have gL:pl.length=hI.aB.length+1:=ax.resolve_left λe=>by rw[e]at ay;cases ay
   refine ab ?_;refine RO.ir U 1 λH5 fq U=>?_;have⟨g0,_,_,_⟩:=(U.sl 0 rfl).all;refine RO.bf (RO.nil (Ru.seq (Ru.oJ (P:=λM' H'=>∃(q:AV)(mo:List Int),M'=[(p8,q),(p1,.aD P 0),(p3,v3),(p4,aN b),(p5,v5),(p6,.aD Q 0),(p7,aN k)]/\mo=(if k=0 then hI.i4 else[])/\ak L H' (tS 3 1 (mo.map aI) mo.length true q::vV P Q B n A J vp o va vk vg v3 hI z R c f.length)) (λM' HC hP=>?_) (λs' m=>?_))));rotate_left
   .refine ab ?_;refine Ru.cond (λ(l:k=0)=>?_) (λ(l:¬k=0)=>?_);·refine ab ?_;refine RO.kI U 0 (U.gr.sl b') (λH6 q U=>?_) (h1:=md _);have⟨cp,_,_,_⟩:=(U.sl 0 rfl).all;refine ab ?_;exact m _ _ _ ⟨q,hI.i4,rfl,by rw[aF l],by rw[ahw]at U;exact U⟩ dw
    refine ab ?_;exact m _ _ _ ⟨fq,[],rfl,by rw[an l],U⟩ dw
   obtain⟨q,mo,hM,d1,U⟩:=hP;subst hM;have g1:mo.length<=12:=by
    rw[d1];split;·exact dx.1
    simp
   have⟨cp,_,_,_⟩:=(U.sl 0 rfl).all;refine Ru.seq (Ru.oJ (P:=λM' H'=>∃(q:AV)(D:List Int),M'=[(p8,q),(p1,.aD P 0),(p3,v3),(p4,aN b),(p5,v5),(p6,.aD Q 0),(p7,aN k)]/\(∀x:Int,x∈D↔k=0/\(x∈hI.i4\/b=0/\0<=x/\x<A))/\D.length<=212/\ak L H' (tS 3 1 (D.map aI) D.length true q::vV P Q B n A J vp o va vk vg v3 hI z R c f.length)) (λM' HC hP=>?_) (λs' m=>?_));rotate_left
   .refine ab ?_;refine Ru.nm λS3 M3 fs d2=>Ru.bH d2 (up (P:=λj=>∀C q,(j=0\/k=0/\b=0)->ak L C (tS 3 1 ((mo++(ahq j).map ah0).map aI) (mo++(ahq j).map ah0).length true q::vV P Q B n A J vp o va vk vg v3 hI z R c f.length)->Ru ac _ S3 ([(p9,aN j),(p8,q)]++pk M3 [p1,p3,p4,p5,p6,p7]) C) A (λj hj cv C q d3 U=>?_) 0 aa _ q (.inl rfl) (by simpa using U));subst fs;subst d2;have⟨cp,_,_,_⟩:=(U.sl 0 rfl).all;have E:(mo++(ahq j).map ah0).length<=212:=by simp;omega
    have f0:∀x:Int,x∈(ahq j).map ah0↔0<=x/\x<j:=λx=>by
     rw[ahm];constructor;·rintro⟨y,hy,rfl⟩;rw[ahR]at hy;have:ah0 y=(y:Int):=rfl;omega
     intro hH;exact⟨x.toNat,ahR.2 aa,by show((x.toNat:Nat):Int)=x;omega⟩
    have cx:(k=0->b=0->j=A)->∀x:Int,x∈mo++(ahq j).map ah0↔k=0/\(x∈hI.i4\/b=0/\0<=x/\x<A):=λcy x=>by
     rw[ac6,f0,d1];by_cases l:k=0
     .rw[aF l];by_cases t:b=0;·have:=cy l t;simp[l,t,this]
      have:j=0:=d3.resolve_right λh=>t h.2;simp[l,t,this]<;>omega
     have:j=0:=d3.resolve_right λh=>l h.1;simp[l,this]<;>omega
    refine Ru.loop (ab ?_);refine RO.eo U 5 ?_;refine ab ?_;refine RO.bP (λcy=>?_) (λcy=>?_);rotate_left;·refine ab ?_;refine Ru.exitTo (ab ?_);exact m _ _ _ ⟨q,_,rfl,cx λ_ _=>by omega,E,U⟩ dw
    refine ab ?_;refine RO.bP (λl=>?_) (λl=>?_);rotate_left;·refine ab ?_;refine Ru.exitTo (ab ?_);exact m _ _ _ ⟨q,_,rfl,cx λh9=>absurd h9 l,E,U⟩ dw
    refine ab ?_;refine Ru.cond (λt=>?_) (λt=>?_);rotate_left;·refine Ru.exitTo (ab ?_);exact m _ _ _ ⟨q,_,rfl,cx λ_ h9=>absurd h9 t,E,U⟩ dw
    have cv:=cv (j+1) aa aa;refine ab ?_;refine RO.push U 0 (λw H' v2 U=>?_) (ws:=[aN j]);have⟨hD,_,_,_⟩:=(U.sl 0 rfl).all;refine ab ?_;refine Ru.wk (cv _ v2 (.inr ⟨l,t⟩) ?_);have g8:mo++(ahq (j+1)).map ah0=(mo++(ahq j).map ah0)++[(j:Int)]:=by rw[ah9,ahx,ae0];rfl
    rw[g8,ahx,ae8];exact U
   have⟨q,D,hM,f1,E,U⟩:=hP;subst hM;have b3:=U.sl 0 rfl;have⟨cp,_,_,_⟩:=b3.all;have⟨eb,g2,_⟩:=bv k;have a1:=G4 U 3 rfl cd aw;refine ab ?_;refine RO.bL (aR.refl _) a1 (λq9 o9 g9 f2 Y f3 hat hrd=>?_) (j:=k);rw[show pl[k]=pl.getD k []from(aZ _ _).symm]at Y;obtain⟨v9,rfl,Z⟩:=Y;have⟨ec,_,_,_⟩:=Z.all;refine RO.aW (v:=v9) (ab ?_) (hc:=hat 0 _ rfl);refine RO.cl (N6 T Z b3 aa aa λH7 w hl=>?_);have cE:=(hl.sl 0 rfl).all;have U:=((((U.cH hl).sub (us:=tS 3 1 ((fN (pl.getD k []) D).map aI) (fN (pl.getD k []) D).length true w::vV P Q B n A J vp o va vk vg v3 hI z R c f.length) (.cons_cons _ (.cons _ (ahM _)))).as 0 rfl (t':=tR 1 ((fN (pl.getD k []) D).map aI) (fN (pl.getD k []) D).length w) λg' hp=>tS.iu hp)).ie;have⟨cE,_,f4,_⟩:=cE;have cR:∀x,x∈fN (pl.getD k []) D↔sy (p b) B.i4 (aE B b) b k x:=λx=>by rw[G5,f1,W,sy,u,b4]
   have c8:=G6 (l:=D) eb;have hE:=CQ (l:=D) (a:=pl.getD k []);refine RO.push U 1 (λw0 H8 c9 U=>?_) (ws:=[w]) (hl:=im rfl cE f4 rfl rfl rfl);have⟨g3,_,_,_⟩:=(U.sl 1 rfl).all;have a2:=S.mz (l:=fN (pl.getD k []) D) (v:=w);generalize fN (pl.getD k []) D=N1 at*;have U:ak L H8 (vV P Q B n A J vp o va vk vg c9 hI (tR 1 (N1.map aI) N1.length w::z) R (c++[w]) (f.length+1)):=U;refine ab ?_;refine RO.bP (λ(ag:k<hI.aB.length)=>?_) (λ(ag:¬k<hI.aB.length)=>?_);rotate_left
   .refine ab ?_;exact Ru.wk (X _ (f++[N1]) _ _ c9 ((s.N8 c8 aa cR λh=>ag (by have:=h.1;rw[u]at this;exact this)).congr (λa j=>⟨λh=>by
     rcases h with(h|h)|h;·exact .inl h
     .exact .inr ⟨h.1,aa⟩
     exact .inr ⟨h.1,aa⟩,λh=>by
     rcases h with h|h;·exact .inl (.inl h)
     by_cases e:j=k;·exact .inr ⟨h.1,e⟩
     exact .inl (.inr ⟨h.1,aa⟩)⟩) λ_ _ _=>rfl) (by simp;omega) a2 (by rw[ae8];exact U))
   have c':(aE B b).aB.getD k default=hI.aB[k]:=by rw[u];exact aZ ag _
   have⟨t0,t1⟩:=e8 ag;refine ab ?_;refine RO.nE U.gr ba (λf5 f6 f7 ei a6 ej a8=>?_) (j:=k);obtain⟨g4,rfl,gg⟩:=a6;refine ab ?_;refine RO.aW (v:=aI hI.aB[k].to) (ab ?_) (hc:=(a8 U.gr).1 1 _ rfl);refine Ru.cond (λ(ht:0<=hI.aB[k].to)=>?_) (λ(ht:¬0<=hI.aB[k].to)=>?_);rotate_left
   .refine ab ?_;exact Ru.wk (X _ (f++[N1]) _ _ c9 ((s.N8 c8 aa cR λh=>ht (by have:=h.2;rw[c']at this;exact this)).congr (λa j=>⟨λh=>by
     rcases h with(h|h)|h;·exact .inl h
     .exact .inr ⟨h.1,aa⟩
     exact .inr ⟨h.1,aa⟩,λh=>by
     rcases h with h|h;·exact .inl (.inl h)
     by_cases e:j=k;·exact .inr ⟨h.1,e⟩
     exact .inl (.inr ⟨h.1,aa⟩)⟩) λ_ _ _=>rfl) (by simp;omega) a2 (by rw[ae8];exact U))
   have⟨ek,g5,_⟩:=bv (k+1);have a1:=G4 U 2 rfl cd aw;refine ab ?_;refine RO.bL (aR.refl _) a1 (λq9 o9 g9 f2 Y f3 hat hrd=>?_) (j:=k+1);rw[show pl[k+1]=pl.getD (k+1) []from(aZ _ _).symm]at Y;obtain⟨v9,rfl,Z⟩:=Y;have⟨ec,_,_,_⟩:=Z.all;refine RO.aW (v:=v9) (ab ?_) (hc:=hat 0 _ rfl);refine RO.nE U.gr ba (λf5 f6 f7 ei a6 ej a8=>?_) (j:=k);obtain⟨g6,rfl,gi⟩:=a6;refine ab ?_;refine RO.aW (v:=aI hI.aB[k].to) (ab ?_) (hc:=(a8 U.gr).1 1 _ rfl);refine RO.iE (ak.bM H8) 1 (ws:=[aI hI.aB[k].to]) (n:=1) (λH9 f8 hl=>?_);have f9:dh H9 [hI.aB[k].to] (.slice f8 0 1 1 true):=hl.sl 0 rfl;have U:=U.bN hl.gr;refine RO.cl (N6 T (hl.gr.sl Z) f9 aa aC λhF w2 d4=>?_);have a':=(d4.sl 0 rfl).all;have U:=((U.cH d4).as 0 rfl (t':=tR 1 ((fN (pl.getD (k+1) []) [hI.aB[k].to]).map aI) (fN (pl.getD (k+1) []) [hI.aB[k].to]).length w2) λg' hp=>tS.iu hp).ie;have⟨a',_,el,_⟩:=a';have f':∀x,x∈fN (pl.getD (k+1) []) [hI.aB[k].to]↔vU (p b) (aE B b) k x:=λx=>by rw[G5,abt,W,vU,c']
   have gb:=G6 (l:=[hI.aB[k].to]) ek;have et:=CQ (l:=[hI.aB[k].to]) (a:=pl.getD (k+1) []);rw[ahJ]at et;refine RO.push U 1 (λw0 hG gd U=>?_) (ws:=[w2]) (hl:=im rfl a' el rfl rfl rfl);have⟨g7,_,_,_⟩:=(U.sl 1 rfl).all;have ew:=a2.mz (l:=fN (pl.getD (k+1) []) [hI.aB[k].to]) (v:=w2);generalize fN (pl.getD (k+1) []) [hI.aB[k].to]=N2 at*;refine ab ?_;exact Ru.wk (X _ (f++[N1]++[N2]) _ _ gd ((s.aev c8 aa cR (by rw[u];exact ag) (by rw[c'];exact ht) gb aa f').congr (λa j=>⟨λh=>by
    rcases h with(h|h)|h;·exact .inl h
    .exact .inr ⟨h.1,aa⟩
    exact .inr ⟨h.1,aa⟩,λh=>by
    rcases h with h|h;·exact .inl (.inl h)
    by_cases e:j=k;·exact .inr ⟨h.1,e⟩
    exact .inl (.inr ⟨h.1,aa⟩)⟩) λ_ _ _=>rfl) (by simp;omega) ew (by rw[ae8,ae8];exact U))
  refine Ru.exitTo ?_;obtain rfl:k=pl.length:=aa;have gn:pl.length<=41:=by
   rcases ax with e|e;·rw[e];simp
   rw[e];have:=dx.2.1;omega
  refine ab ?_;refine Ru.wk (ih _ f p c z v3 (λa O=>by
   by_cases e:a=b;·subst e;rw[W];exact dy
   rw[cn a e];exact ds a aa) (s.congr (λa j=>?_) λ_ _ _=>rfl) aa S (U.sub (.cons_cons _ (.cons_cons _ (.cons _ (.cons _ (ahM _)))))));constructor
  .rintro(⟨h1,h2⟩|⟨rfl,h2⟩);·exact⟨aa,by rw[cn a aa];exact h2⟩
   exact⟨aa,by rw[W];exact h2⟩
  rintro⟨h1,h2⟩;by_cases e:a=b;·subst e;rw[W]at h2;exact .inr ⟨rfl,h2⟩
  rw[cn a e]at h2;exact .inl ⟨aa,h2⟩
 refine Ru.exitTo ?_;obtain rfl:b=B.aj.length:=aa;refine ab ?_;exact Ru.aL (h _ v3 f c z d ds s aa S (U.sub (.cons_cons _ (.cons_cons _ (aiC _)))))
theorem N9(c:dT B)(l:B.aO=J)(a:∀b,b<B.aj.length->mG B J b (C b))(h:jZ B C (λb j=>b<B.aj.length/\j<(C b).length) A):∀N∈A,∀x∈N,0<=x/\x<J:=λN e x d=>by
 have i:=c.p0;have k:=c.p1;obtain⟨_,_,b,j,⟨hb,_⟩,h1|⟨hj,f,h1⟩⟩:=h.snd N e
 .rcases(h1 x).1 d with h2|⟨_,h2|⟨_,h2,h3⟩⟩;·exact((a b hb).bd.2 j).2.2 x h2
  .have:=c.rg x (ahI.2 ⟨_,kq hb,ahj _ h2⟩);omega
  omega
 rcases(h1 x).1 d with h2|h2;·exact((a b hb).bd.2 (j+1)).2.2 x h2
 subst h2;rw[aZ hj]at f⊢;have:=(c.aB _ (kq hb) _ (abO hj)).r.t1;omega
theorem aex(h:M.Nodup)(hi:J<M.length)(hj:n<M.length)(e:M[J]=M[n]):J=n:=by
 have h2:=List.pairwise_iff_getElem.1 h;rcases Nat.lt_trichotomy J n with h3|h3|h3;·exact absurd e (h2 J n hi hj h3)
 .exact h3
 exact absurd e.symm (h2 n J hj hi h3)
def oU(d:ah)(B:G.aM)(e v3 v4:AV)(n c:Nat)(F:List Th)(a:List AV)(b:Nat->ah)(k:Nat):List Th:=[tS n9 1 (mF b n k) k true v4,tZ F,tS cW 1 a c true v3,tB cA d [.str B.i7,aI B.i4,aN n,e]]
theorem Oa(T:Tb ac)(hg:dc L B I)(hB:G.Sm B)(hR:dT B)(cd:B.aj.length<=30)(hn:B.aO=n)(cv:n<=200)(h:∀H' v a O cl c F,(∀b,b<B.aj.length->mG B n b (O b))->jZ B O (λb j=>b<B.aj.length/\j<(O b).length) a->cl.length=n->(∀v,v<n->(cl.getD v []).Pairwise (·<·)/\∀x,x∈cl.getD v []↔∃et∈a,(v:Int)∈et/\x∈et/\x≠v)->fG cl c F->ak L H' [tZ F,tS cW 1 c n true v]->N v H'):YN ac Wh [.agg I] L N:=by
 have d4:=hg.one;have cx:=hg;obtain⟨J,rfl,bz⟩:=hg;refine YF.code T.YE aC (au ?_);refine RO.bZ (ak.bM L) λH1 q U=>ab ?_;refine RO.bT U 0 ?_;refine RO.cl (aew T (bV.eY U.gr cx) hB hR cd hn cv λH2 v3 a c F O b0 Z d6 ay hl=>?_);have U:ak L H2 [tZ F,tS cW 1 c a.length true v3,tB cA q [.str B.i7,aI B.i4,aI B.aO,J]]:=U.cH hl;rw[hn]at U;have b3:=ay.len;have⟨d7,_,_,d'⟩:=(U.sl 1 rfl).all;have b4:=N9 hR hn b0 Z;have cy:∀et∈a,et.length<=1000:=λet hN=>(Z.snd et hN).2.1;have cE:∀et∈a,et.Nodup:=λet hN=>(Z.snd et hN).1;refine ab ?_;refine RO.ir U 1 λH3 v4 U=>?_;have U:ak L H3 (oU q B J v3 v4 n a.length F c (λ_=>q) 0++eU (λ_=>q) n []):=U;have⟨cR,_,_,_⟩:=(U.sl 0 rfl).all;refine ab ?_;refine Ru.nm λS1 M1 c8 b6=>Ru.bH b6 (up (P:=λk=>∀f v4 ids,ak L f (oU q B J v3 v4 n a.length F c ids k++eU ids n (ab7 k (ab7 n false)))->Ru ac _ S1 ([(p5,aN k),(p4,v4)]++pk M1 [p1,p3]) f) n (λk hk ih f v4 ids U=>?_) 0 aa _ v4 (λ_=>q) U);subst c8;subst b6;have⟨cR,_,_,ea⟩:=(U.sl 0 rfl).all;refine Ru.loop (ab ?_);refine Ru.cond (λc'=>?_) (λc'=>?_);·have ih:=ih (k+1) aa aa;refine ab ?_;refine RO.jq U (n:=n) (λH5 qr U=>?_) (hz:=by rw[eE];simp);rw[eE]at U;refine ab ?_;refine RO.push U 1 (λw H6 v6 U=>?_) (ws:=[.slice qr 0 n n true]);have⟨eb,_,_,_⟩:=(U.sl 1 rfl).all;refine ab ?_;refine Ru.wk (ih _ v6 (λi=>if i=k then qr else ids i) ?_);have U:=U.bO (ahA (l₁:=[_]));have e1:=G1 (ids:=ids) (n:=n) (M:=ab7 k (ab7 n false)) (r:=ab7 n false) (q:=qr);rw[aif,<-List.replicate_succ',aio]at e1;rw[e1];unfold oU;rw[G2,<-ae0];exact U
 refine Ru.exitTo ?_;obtain rfl:k=n:=aa;have dm:mE k k (ab7 k (ab7 k false)):=⟨aC,λb hb=>by rw[aZ (by simpa using hb)];simp⟩;have cf:∀b v,¬eZ (ab7 k (ab7 k false)) b v:=λb v m=>by
  unfold eZ cz at m;by_cases hb:b<k;·rw[show(ab7 k (ab7 k false)).getD b []=ab7 k false by rw[aZ (by simpa using hb),List.getElem_replicate]]at m;simp only[ahi,ahX]at m;split at m<;>simp at m
  rw[show(ab7 k (ab7 k false)).getD b []=[]by rw[ahi,ah1 (by simpa using hb)];rfl]at m;simp at m
 generalize dr:ab7 k (ab7 k false)=M0 at*;clear dr;refine ab ?_;refine Ru.nm λS2 M2 ds b7=>Ru.bH b7 (up (P:=λi=>∀f M,mE k k M->(∀v w:Nat,eZ M v w↔∃y,∃hy:y<a.length,y<i/\(v:Int)∈a[y]/\(w:Int)∈a[y]/\v≠w)->ak L f (oU q B J v3 v4 k a.length F c ids k++eU ids k M)->Ru ac _ S2 ([(p6,aN i)]++pk M2 [p1,p3,p4]) f) a.length (λi hi ih f M a1 a2 U=>?_) 0 aa _ M0 dm (λv w=>⟨λm=>absurd m (cf v w),λ⟨y,_,m,_⟩=>by omega⟩) U);subst ds;subst b7;refine Ru.loop (ab ?_);refine Ru.cond (λV=>?_) (λV=>?_)
 .have ih:=ih (i+1) aa aa;have a6:=abO V;have d5:=cy _ a6;have cn:=cE _ a6;have av:=b4 _ a6;refine ab ?_;refine Ru.nm λS3 M3 a8 P=>Ru.bH P (up (P:=λx=>∀f M',mE k k M'->(∀v w:Nat,eZ M' v w↔eZ M v w\/∃y,∃hy:y<a[i].length,y<x/\a[i][y]=v/\(w:Int)∈a[i]/\v≠w)->ak L f (oU q B J v3 v4 k a.length F c ids k++eU ids k M')->Ru ac _ S3 ([(p7,aN x)]++pk M3 [p1,p3,p4,p6]) f) a[i].length (λx hx r f M' aw b' U=>?_) 0 aa _ M a1 (λv w=>⟨.inl,λm=>m.resolve_right λ⟨y,_,m,_⟩=>by omega⟩) U);subst a8;subst P;have o:=ay.sl U 1 rfl (by rw[b3];exact U.sl 2 rfl);refine Ru.loop (ab ?_);refine RO.bL (aR.refl _) o (λq9 o9 c9 a' s ba hat hrd=>?_) (j:=i);obtain⟨v9,rfl,l⟩:=s;have⟨W,_,_,X⟩:=l.all;refine RO.aW (v:=v9) (ab ?_) (hc:=hat 0 _ rfl);refine Ru.cond (λC=>?_) (λC=>?_)
  .have r:=r (x+1) aa aa;obtain⟨z0,z1⟩:=av _ (abO C);obtain⟨z,hz⟩:∃z:Nat,a[i][x]=z:=⟨a[i][x].toNat,aa⟩;have bb:z<k:=aa;refine ab ?_;refine Ru.nm λS4 M4 dv ca=>Ru.bH ca (up (P:=λy=>∀f t,mE k k t->(∀v w:Nat,eZ t v w↔eZ M' v w\/v=z/\v≠w/\∃j,∃hj:j<a[i].length,j<y/\a[i][j]=w)->ak L f (oU q B J v3 v4 k a.length F c ids k++eU ids k t)->Ru ac _ S4 ([(p8,aN y)]++pk M4 [p1,p3,p4,p6,p7]) f) a[i].length (λy hy ag f t p Q U=>?_) 0 aa _ M' aw (λv w=>⟨.inl,λm=>m.resolve_right λ⟨_,_,j,_,m,_⟩=>by omega⟩) U);subst dv;subst ca;have o:=ay.sl U 1 rfl (by rw[b3];exact U.sl 2 rfl);refine Ru.loop (ab ?_);refine RO.bL (aR.refl _) o (λq9 o9 c9 a' s ba hat hrd=>?_) (j:=i);obtain⟨v9,rfl,l⟩:=s;have⟨W,_,_,X⟩:=l.all;refine RO.aW (v:=v9) (ab ?_) (hc:=hat 0 _ rfl);refine Ru.cond (λD=>?_) (λD=>?_)
   .have ag:=ag (y+1) aa aa;obtain⟨u0,u1⟩:=av _ (abO D);obtain⟨u,hu⟩:∃u:Nat,a[i][y]=u:=⟨a[i][y].toNat,aa⟩;have ec:u<k:=aa;refine ab ?_;refine Ru.cond (λR=>?_) (λR=>?_)
    .have dx:z≠u:=λe=>R (by
      have e2:a[i][y]=a[i][x]:=by rw[hz,hu,e]
      exact aex cn D C e2);obtain⟨q4,cap,ex,rfl⟩:=U.jp 0 rfl aa;have dy:=p.len;have E:=p.row z bb;have bc:=CN (ids:=ids) (n:=k) (k:=k) bb;have cp:(oU q B J v3 (.slice q4 0 k cap ex) k a.length F c ids k++eU ids k t)[4+z]?=some (tS 4 1 ((t.getD z []).map .bool) k true (.slice (ids z) 0 k k true)):=(AD (X:=oU q B J v3 (.slice q4 0 k cap ex) k a.length F c ids k) (l:=eU ids k t) (i:=z)).trans (vT aa);refine ab ?_;refine RO.bL (aR.refl _) o (λq9 o9 c9 a' s ba hat hrd=>?_) (j:=i);obtain⟨v9,rfl,l⟩:=s;have⟨W,_,_,X⟩:=l.all;refine RO.aW (v:=v9) (ab ?_) (hc:=hat 0 _ rfl);refine RO.fA (aR.refl _) l (λq8 o8 dz S=>?_) (j:=x);rw[hz]at S;refine RO.aW (v:=aN z) (ab ?_) (hc:=S);refine RO.cJ U 0 (hv:=bc) (ab ?_);refine RO.bL (aR.refl _) o (λq9 o9 c9 a' s ba hat hrd=>?_) (j:=i);obtain⟨v9,rfl,l⟩:=s;have⟨W,_,_,X⟩:=l.all;refine RO.aW (v:=v9) (ab ?_) (hc:=hat 0 _ rfl);refine RO.fA (aR.refl _) l (λq8 o8 dz S=>?_) (j:=y);rw[hu]at S;refine RO.aW (v:=aN u) (ab ?_) (hc:=S);refine RO.fD (f:=.bool) (zs:=t.getD z []) U (4+z) true E (λH9 U=>ab ?_) (hi:=cp);refine Ru.wk (ag _ (t.set z ((t.getD z []).set u true)) (p.set bb (by simpa using E)) (λv w=>?_) ?_)
     .unfold eZ at Q⊢;rw[N4 aa];by_cases e:v=z
      .subst e;rw[aF rfl,pU aa];by_cases e2:w=u;·subst e2;rw[aF rfl];exact⟨λ_=>.inr ⟨rfl,dx,y,D,aa,hu⟩,λ_=>rfl⟩
       rw[an e2,Q];refine or_congr aiY (and_congr aiY (and_congr aiY ⟨λ⟨j,hj,h1,h2⟩=>⟨j,hj,aa,h2⟩,λ⟨j,hj,h1,h2⟩=>⟨j,hj,?_,h2⟩⟩));have:j≠y:=λe=>by subst e;rw[hu]at h2;omega
       omega
      rw[an e,Q];simp[e]
     have e1:=N0 (X:=oU q B J v3 (.slice q4 0 k cap ex) k a.length F c ids k) (l:=eU ids k t) (i:=z) (t:=tS 4 1 (((t.getD z []).set u true).map .bool) k true (.slice (ids z) 0 k k true));rw[NZ aa]at e1;exact Eq.mp (congrArg (ak L H9) e1) U
    have R:y=x:=aix.1 R;subst R;refine ab ?_;refine Ru.wk (ag _ t p (λv w=>?_) U);rw[Q];refine or_congr aiY ⟨λ⟨h1,h2,j,hj,h3,A⟩=>⟨h1,h2,j,hj,aa,A⟩,λ⟨h1,h2,j,hj,h3,A⟩=>⟨h1,h2,j,hj,?_,A⟩⟩;have:j≠y:=λe=>by subst e;rw[hz]at A;exact h2 aa
    omega
   refine Ru.exitTo ?_;refine ab ?_;refine Ru.wk (r _ t p (λv w=>?_) U);rw[Q,b',or_assoc];refine or_congr aiY ?_;constructor
   .rintro(⟨j,hj,h1,h2⟩|⟨rfl,h2,j,hj,_,A⟩);·exact⟨j,hj,aa,h2⟩
    exact⟨x,C,aa,hz,by rw[<-A];exact abO hj,h2⟩
   rintro⟨j,hj,h1,h2,h3,A⟩;by_cases e:j=x;·subst e;obtain⟨j',bv,e'⟩:=ahd h3;exact .inr ⟨by rw[hz]at h2;omega,A,j',bv,aa,e'⟩
   exact .inl ⟨j,hj,aa,h2,h3,A⟩
  refine Ru.exitTo ?_;refine ab ?_;refine Ru.wk (ih _ M' aw (λv w=>?_) U);rw[b',a2];constructor
  .rintro(⟨j,hj,h1,h2⟩|⟨j,hj,_,h2,h3,A⟩);·exact⟨j,hj,aa,h2⟩
   exact⟨i,V,aa,by rw[<-h2];exact abO hj,h3,A⟩
  rintro⟨j,hj,h1,h2,h3,A⟩;by_cases e:j=i;·subst e;have⟨j',bv,e'⟩:=ahd h2;exact .inr ⟨j',bv,aa,e',h3,A⟩
  exact .inl ⟨j,hj,aa,h2,h3,A⟩
 refine Ru.exitTo ?_;have dy:=a1.len;refine ab ?_;refine RO.ir U 1 λH9 v9 U=>?_;have⟨d0,_,_,_⟩:=(U.sl 0 rfl).all;have U:=U.lQ;refine ab ?_;refine Ru.nm λS3 M3 a8 P=>Ru.bH P (up (P:=λj=>∀f F' d v9,fG (jJ M j) d F'->ak L f (tZ F'::tS cW 1 d j true v9::(oU q B J v3 v4 k a.length F c ids k++eU ids k M))->Ru ac _ S3 ([(dS,aN j),(p9,v9)]++pk M3 [p1,p4]) f) k (λj hj r f F' d v9 ax U=>?_) 0 aa _ [] [] v9 ⟨rfl,λb hb=>by simp[jJ]at hb⟩ U);subst a8;subst P;have⟨d0,_,_,_⟩:=(U.sl 1 rfl).all;refine Ru.loop (ab ?_);refine RO.eo U 5 (v:=aN k) (ab ?_);refine Ru.cond (λY=>?_) (λY=>?_)
 .have r:=r (j+1) aa aa;obtain⟨q4,cap,ex,rfl⟩:=U.jp 2 rfl aa;have bc:=CN (ids:=ids) (n:=k) (k:=k) Y;have E:=a1.row j Y;have hat:(tZ F'::tS cW 1 d j true v9::(oU q B J v3 (.slice q4 0 k cap ex) k a.length F c ids k++eU ids k M))[6+j]?=some (tS 4 1 ((M.getD j []).map .bool) k true (.slice (ids j) 0 k k true)):=(AD (X:=tZ F'::tS cW 1 d j true v9::oU q B J v3 (.slice q4 0 k cap ex) k a.length F c ids k) (l:=eU ids k M) (i:=j)).trans (vT aa);refine ab ?_;refine RO.cJ U 2 (hv:=bc) ?_;refine RO.cl (GW T (l:=M.getD j []) (by rw[E];exact U.sl (6+j) hat) aa λd1 w hl=>?_);have U:=((U.cH hl).as 0 rfl (t':=tR 1 ((fY (M.getD j [])).map aI) (fY (M.getD j [])).length w) λfp hp=>tS.iu hp).ie;have⟨d2,_,d3,_⟩:=(show Sl d1 1 ((fY (M.getD j [])).map aI) (fY (M.getD j [])).length w by obtain⟨_,hp⟩:=hl.get 0 rfl;exact cO.sl hp).all;refine ab ?_;refine RO.push U 1 (λw0 ei v2 U=>?_) (ws:=[w]) (hl:=im rfl d2 d3 rfl rfl rfl);have⟨ej,ek,el,_⟩:=(U.sl 1 rfl).all;refine ab ?_;refine Ru.wk (r _ (tR 1 ((fY (M.getD j [])).map aI) (fY (M.getD j [])).length w::F') (d++[w]) v2 ?_ U);have e1:jJ M (j+1)=jJ M j++[fY (M.getD j [])]:=by simp[jJ,ah9]
  rw[e1];exact ax.mz
 refine Ru.exitTo ?_;obtain rfl:j=k:=aa;refine ab ?_;refine Ru.aL (h _ v9 a O (jJ M j) d F' b0 Z (by simp[jJ]) (λv hv=>?_) ax (U.sub (.cons_cons _ (.cons_cons _ (aiC _)))));rw[jJ,aZ (by simpa using hv)];simp only[ahP,aiH];refine⟨NT _,λx=>?_⟩;rw[AC];constructor;·rintro⟨w,rfl,m⟩;have⟨y,hy,_,h1,h2,h3⟩:=(a2 v w).1 m;exact⟨_,abO hy,h1,h2,aa⟩
 rintro⟨et,hN,h1,h2,h3⟩;obtain⟨y,hy,rfl⟩:=ahd hN;have⟨x0,x1⟩:=b4 _ hN x h2;obtain⟨w,rfl⟩:∃w:Nat,x=w:=⟨x.toNat,aa⟩;exact⟨w,rfl,(a2 v w).2 ⟨y,hy,aa,h1,h2,aa⟩⟩
end
theorem mG.Ok(v:Vd B)(i:jG B)(j:b8 B F D)(o:eF B F D H)(c:gu B F D E)(p:B.aO=V)(hb:J<B.aj.length)(h:mG B V J A):CF B F D E J A:=by
 obtain⟨t,u,t1,k,l,⟨m,rfl⟩|⟨M,c2,o2,t2,d,e,q,r⟩⟩:=h;·refine .inr ⟨?_,rfl⟩;have s:=runK v.lU i v.cG j k l;cases f:F.getD J false with|false=>rfl|true=>rw[(s.cm J).2 f]at m;cases m
 exact aeK v i j o c p hb k l d e q r
theorem Hd(V:Vd B)(h:CF B F D E J A)(f:n<A.length)(x:Int):sy A B.i4 (aE B J) J n x↔(if n=0 then oO B D E J else de B D E J ((aE B J).aB.length - n)) x:=by
 obtain⟨j,hl,i⟩|⟨_,rfl⟩:=h;rotate_left;·simp at f
 have⟨_,h2⟩:=i n aa;by_cases c:n=0
 .subst c;unfold sy oO;rw[h2,aiW];by_cases d:J=0
  .subst d;have e:(aE B 0).i4=[]:=by rw[aE];exact V.fm.first
   rw[lB,aF rfl,e];constructor
   .rintro(h|⟨_,h|⟨_,h⟩⟩);·exact .inr h
    .cases h
    exact .inl (AB.2 h)
   rintro(h|h);·exact .inr ⟨rfl,.inr ⟨rfl,AB.1 h⟩⟩
   exact .inl h
  rw[lB,an d];constructor
  .rintro(h|⟨_,h|⟨h,_⟩⟩);·exact .inr h
   .exact .inl h
   exact absurd h d
  rintro(h|h);·exact .inr ⟨rfl,.inl h⟩
  exact .inl h
 rw[an c];unfold sy;rw[h2];exact⟨λh=>h.resolve_right λh=>c h.1,.inl⟩
theorem Ol(h:CF B F D E J A)(hj:n<A.length)(c:n<(aE B J).aB.length)(d:0<=((aE B J).aB.getD n default).to)(x:Int):vU A (aE B J) n x↔yB B D E J (n+1) x:=by obtain⟨e,hl,f⟩|⟨_,rfl⟩:=h;all_goals grind[vU,yB]
theorem aeL(hb:J∈H)(c:n<=(aE B J).aB.length):de B D A J ((aE B J).aB.length - n)∈iW B D A H:=by
 refine ahI.2 ⟨J,hb,?_⟩;by_cases hl:n<(aE B J).aB.length;·simp only[oP,ac6,ac2,ahI,ahR];exact .inl (.inr ⟨n,hl,by simp[pT]⟩)
 rw[show(aE B J).aB.length - n=0 by omega];exact ahu _ (abt.2 rfl)
theorem aeM(V:Vd B)(l:jG B)(m:b8 B F D)(k:eF B F D H)(f:gu B F D A)(o:B.aO=J)(h:∀r,r<B.aj.length->mG B J r (C r))(i:jZ B C (λr j=>r<B.aj.length/\j<(C r).length) E):∀N∈E,∃s∈iW B D A H,∀x,x∈N↔s x:=by
 intro N p;have⟨_,_,r,j,⟨hb,hj⟩,h1⟩:=i.snd N p;have hl:=(h r hb).Ok V l m k f o hb;have e:F.getD r false=true/\(C r).length=(aE B r).aB.length+1:=by
  rcases hl with⟨h1,h2,_⟩|⟨_,h2⟩;·exact⟨h1,h2⟩
  rw[h2]at hj;simp at hj
 have c:=(k.mem r).2 e.1;rcases h1 with h1|⟨d,q,h1⟩
 .refine⟨_,?_,λx=>(h1 x).trans (Hd V hl hj x)⟩;split;·exact NN (k:=0) c (Nat.zero_le _)
  grind[aeL]
 exact⟨_,NN (k:=j+1) c d,λx=>(h1 x).trans (Ol hl hj d q x)⟩
theorem aeN(V:Vd B)(t:jG B)(m:b8 B F D)(o:eF B F D H)(i:gu B F D A)(u:B.aO=J)(l:∀w,w<B.aj.length->mG B J w (C w))(d:jZ B C (λw j=>w<B.aj.length/\j<(C w).length) E){y:Int->Prop}(v:y∈iW B D A H):∃N∈E,∀x,y x->x∈N:=by
 have⟨w,hb,k,p,h⟩:=ad5 v;have q:=(o.mem w).1 hb;have c:=m.lt q;have hl:=(l w c).Ok V t m o i u c;have s:(C w).length=(aE B w).aB.length+1:=by
  rcases hl with⟨_,h2,_⟩|⟨h2,_⟩;·exact h2
  rw[q]at h2;cases h2
 cases k with
 |zero=>have⟨N,e,h1⟩:=d.c1 w 0 ⟨c,aa⟩;exact⟨N,e,λx f=>(h1 x).2 ((Hd V hl aa x).2 (by exact h x f))⟩
 |succ k=>
  by_cases r:0<=((aE B w).aB.getD k default).to;·have⟨N,e,h1⟩:=d.c2 w k ⟨c,aa⟩ p r;grind[Ol]
  have⟨N,e,h1⟩:=d.c1 w (k+1) ⟨c,aa⟩;refine⟨N,e,λx f=>(h1 x).2 ((Hd V hl aa x).2 ?_)⟩;rcases h x f with⟨h2,h3⟩|h2;·rw[aZ aa]at h2 r;have:=(V.oD _ (kq c) _ (Ax p (by rw[<-h2];exact h3))).1;omega
  grind
section
variable{ac:Nat->aX}
theorem nD.pO(h:nD B P)(b:nD B Y):P=Y:=by rcases h with⟨rfl,h1⟩|⟨rfl,h1,h2⟩|⟨rfl,h1,h2,h3⟩<;>rcases b with⟨rfl,a⟩|⟨rfl,a,c⟩|⟨rfl,a,c,d⟩<;>first|rfl|(exfalso;simp_all)
theorem ad6(T:Tb ac)(i:¬Vd B)(j:ny B)(k:ml B)(d:X.bk=true)(l:ac n=.code 8 [.tmp p2,.tmp p3] (NM X J V))(hb:ac J=.code 19 [.tmp p4,.tmp p5] (NK X)){cs:List AV}(hg:dc L B cs)(h:∀f e,nD B e->aR L f->N (.tuple [X,aI e]) f):YN ac n [.agg cs] L N:=by obtain⟨a,rfl,bz⟩:=hg;have⟨m,o,p,q⟩:=bz.all;refine YF.code l aC (au ?_);refine RO.bZ (ak.bM L) λr s U=>ab ?_;refine RO.bT U 0 ?_;refine RO.cl (fv:=.func J [] []) (av:=[.agg [.str B.i7,aI B.i4,aI B.aO,a],.func V [] []]) (YF.code hb aC ?_);refine au ?_;refine RO.bZ U λt u U=>ab ?_;refine RO.bT U 0 ?_;refine RO.cl (NO T i j k (cs:=[.str B.i7,aI B.i4,aI B.aO,a]) ⟨a,rfl,bV.block.gK U.gr bz⟩ λv e he b=>?_);have c:=he.ne;refine ab ?_;refine Ru.cond (λ_=>ab ?_) (λh=>absurd c h);refine Ru.jo (vs:=[X,aI e]) ⟨rfl,d,rfl,rfl,trivial⟩ (ab ?_);exact Ru.jo (vs:=[X,aI e]) ⟨rfl,d,rfl,rfl,trivial⟩ (h _ e he (U.gr.trans b))
theorem aeQ(T:Tb ac)(V:Vd B)(b:b8 B F D)(hg:dc L B I)(h:∀a,jG B->aR L a->N (aI 0) a):YN ac Fb [.agg I] L N:=MJ T hg V.fw V.MQ (λa hg c=>h a c.right hg) (λa hg d=>by have:=V.iw;rw[d]at this;cases this) (λa hg _ e=>absurd V.lU e) λa hg _ _ f i=>absurd (acZ V.lU (Aw V.fw V.iw).1 f V.cG V.gv b (V.oM F D b)) i
theorem aeR(T:Tb ac)(e:ny B)(f:ml B)(he:nD B P)(hg:dc L B I)(h:∀a,aR L a->N (aI P) a):YN ac Fb [.agg I] L N:=by
 refine MJ T hg e f (λa hg c=>?_) (λa hg b=>?_) (λa hg h1 d=>?_) λa hg h1 h2 _ i=>?_
 .rcases he with⟨rfl,h1⟩|⟨rfl,_,h1⟩|⟨rfl,_,_,h1⟩;·have:=c.acV;rw[h1]at this;cases this
  .exact absurd c.lU h1
  exact absurd c.right h1
 .rcases he with⟨rfl,_⟩|⟨rfl,h1,_⟩|⟨rfl,h1,_⟩;·exact h _ hg
  .rw[b]at h1;cases h1
  rw[b]at h1;cases h1
 .rcases he with⟨rfl,b⟩|⟨rfl,_⟩|⟨rfl,_,h2,_⟩;·rw[b]at h1;cases h1
  .exact h _ hg
  exact absurd h2 d
 rcases he with⟨rfl,b⟩|⟨rfl,_,d⟩|⟨rfl,_⟩;·rw[b]at h1;cases h1
 .exact absurd h2 d
 exact h _ hg
def rW(g:G.aM)(aA:List (List Int))(b:Nat):List Nat:=(fU g b (aA.getD b [])).map λw=>w.1.toNat
theorem aey(l:List Nat):cU (l.map aN)=true:=xB.2 λv a=>by obtain⟨_,_,rfl⟩:=ahm.1 a;rfl
theorem aez(T:Tb ac)(hg:dc L B I)(hB:G.Sm B)(S:jh B)(ba:B.aj.length<=30){p O:Bool}(V:jw B (-1) F A)(hD:∀b,fc B (-1) F A O b){W o:ah}(hO:vI L A X):∀(m b:Nat)(c:List Bool)(Y:ai)(us:List Th)(K:KT),fX c<=m->F.getD b false=true->c.getD b false=false->c.length=B.aj.length->ak L Y (tS 4 1 (c.map .bool) B.aj.length true (.slice o 0 B.aj.length B.aj.length true)::us)->(∀Z d new v,fR (rW B A) [b] c d new->d.length=B.aj.length->new.length+fX d=fX c->ak L Z (tS 3 1 (new.map aN) new.length true v::tS 4 1 (d.map .bool) B.aj.length true (.slice o 0 B.aj.length B.aj.length true)::us)->K (.tuple [v,.slice o 0 B.aj.length B.aj.length true]) Z)->YN ac WF [.agg I,.agg [.slice W 0 B.aj.length B.aj.length true,X,.bool p],aN b,.slice o 0 B.aj.length B.aj.length true] Y K:=by
 have bb:=hg.one;have⟨b0,b3,b4,b6⟩:=hO.all;have ag:=hg;obtain⟨vb,rfl,bz⟩:=hg;intro m;induction m with
 |zero=>intro b c Y us K hm hc hb hl U h;have⟨f,_⟩:=(V.snd b hc).ok S;have:=nj aa hb;omega
 |succ m ih=>
  intro b c Y us K hm hc hb hl U h;have⟨f,z⟩:=(V.snd b hc).ok S;have b7:=nj aa hb;have b':fX c<=30:=by exact aiw (List.length_filter_le ..) aa
  have bc:=V.iw b hc;have ca:=V.lo;have av:A.getD b []=A[b]:=aZ aa _;refine YF.code T.Y3 aC (ab ?_);refine RO.bZ U λH1 q4 U=>ab ?_;refine RO.bZ U λZ q5 U=>ab ?_;refine RO.ir U 1 λH3 e U=>?_;have⟨P,_,_,_⟩:=(U.sl 0 rfl).all;refine ab ?_;refine RO.fD (f:=AV.bool) (zs:=c) U 3 true hl (λH4 U=>ab ?_) (k:=b);refine RO.bT U 2 (ab ?_);refine RO.bL U.gr hO (λq9 o9 dr cd C cf hat hrd=>?_) (j:=b);rw[<-av]at C;obtain⟨v9,rfl,q⟩:=C;have q:=U.gr.sl q;have⟨cn,_,_,_⟩:=q.all;refine RO.aW (v:=v9) (RO.cl (Gl T (bV.eY U.gr ag) hB f (S.t3 b f) q aa z λH5 wv vs Fw cp aw=>?_)) (hc:=hat 0 _ rfl);have U:=U.cH aw;have ax:=oK S f z;have ay:=hD b hc;have cv:(fU B b (A.getD b [])).length<=12:=by
   have:=(hB.bl _ (abO f)).2.2.2.2.1;unfold fU;split;·simp
   split;·split<;>simp
   rw[ahs,aE,aZ f];omega
  have D:rW B A b=(fU B b (A.getD b [])).map λw=>w.1.toNat:=rfl;generalize hw:fU B b (A.getD b [])=w at*;have cx:(rW B A b).length=w.length:=by rw[D,ahs]
  have U:ak L H5 (tS 4 1 ((c.set b true).map .bool) B.aj.length true (.slice o 0 B.aj.length B.aj.length true)::tS 3 1 (([]:List Nat).map aN) ([]:List Nat).length true e::tS pG 2 (lz w vs) w.length true wv::tB mh q5 [.slice W 0 B.aj.length B.aj.length true,X,.bool p]::tB cA q4 [.str B.i7,aI B.i4,aI B.aO,vb]::tZ Fw::us):=by exact U.bO ((ahy (l₁:=[_,_,_,_,_])).trans (.cons _ ((ahy (l₁:=[_,_])).trans (.cons _ (ahy (l₁:=[_,_,_])).symm))))
  have a1:=(U.sl 2 rfl).all.1;refine ab ?_;refine Ru.nm λS1 M1 a2 E=>Ru.bH E (up (P:=λk=>∀HX a new e,fR (rW B A) ((rW B A b).take k) (c.set b true) a new->a.length=B.aj.length->new.length+fX a=fX (c.set b true)->ak L HX (tS 4 1 (a.map .bool) B.aj.length true (.slice o 0 B.aj.length B.aj.length true)::tS 3 1 (new.map aN) new.length true e::tS pG 2 (lz w vs) w.length true wv::tB mh q5 [.slice W 0 B.aj.length B.aj.length true,X,.bool p]::tB cA q4 [.str B.i7,aI B.i4,aI B.aO,vb]::tZ Fw::us)->Ru ac _ S1 ([(gQ,aN k),(dS,e),(p3,.slice o 0 B.aj.length B.aj.length true)]++pk M1 [p2,p4,p5,eD]) HX) w.length (λk hk i HX a new e r x a6 U=>?_) 0 aa _ (c.set b true) [] e .nil (by simpa using hl) aC U);subst a2;subst E;have⟨P,_,_,_⟩:=(U.sl 1 rfl).all;have J:=(U.sl 2 rfl).all;have cy:=J.2.2.2;have a1:=J.1;refine Ru.loop (ab ?_);refine Ru.cond (λj=>?_) (λj=>?_)
  .have i:=i (k+1) aa aa;have s:w.getD k (0,[])∈w:=by rw[aZ j];exact abO j
   have⟨⟨cE,cR⟩,_⟩:=ax _ s;have M:=(ay _ s).resolve_left aa;have a8:(rW B A b).take (k+1)=(rW B A b).take k++[(w.getD k (0,[])).1.toNat]:=by rw[(ahb (show k<(rW B A b).length by omega)).symm];congr 2;rw[aZ j];simp only[D,ahP]
   rw[a8]at i;have⟨y,c8⟩:=Gq (vs:=vs) j;generalize c9:w.getD k (0,[])=wj at*;obtain⟨t,ht⟩:∃t:Nat,wj.1=t:=⟨wj.1.toNat,aa⟩;rw[ht]at y;rw[ht,aeY]at i M;have c':t<B.aj.length:=aa;obtain⟨qw,cap,ex,rfl⟩:=U.jp 2 rfl aa;have a':(a.map AV.bool)[0+t*1]?=some (.bool (a.getD t false)):=by rw[show 0+t*1=t by omega,ahB,getElem?_pos a t aa,aZ aa];rfl
   refine ab ?_;refine RO.cJ U 2 (hv:=y) (ab ?_);refine RO.cJ U 0 (hv:=a') (ab ?_);refine Ru.d9 (λu=>?_) (λu=>?_)
   .have u:a.getD t false=false:=by simpa using u
    refine ab ?_;refine RO.bT U 4 (ab ?_);refine RO.bT U 3 (ab ?_);refine RO.cJ U 2 (hv:=y) (ab ?_);refine RO.cl (ih t a _ _ _ aa M.1 u x U λH6 n l v2 Q R bv U=>?_);have⟨N,_,_,_⟩:=(U.sl 0 rfl).all;refine ab ?_;refine RO.kI U 2 (U.sl 0 rfl) (λH7 v3 U=>?_) (h1:=aey _);have U:ak L H7 (tS 4 1 (n.map .bool) B.aj.length true (.slice o 0 B.aj.length B.aj.length true)::tS 3 1 ((new++l).map aN) (new++l).length true v3::tS pG 2 (lz w vs) w.length true (.slice qw 0 w.length cap ex)::tB mh q5 [.slice W 0 B.aj.length B.aj.length true,X,.bool p]::tB cA q4 [.str B.i7,aI B.i4,aI B.aO,vb]::tZ Fw::us):=by rw[ahx,ae8];exact U.tail
    have dm:=(U.sl 1 rfl).all.1;refine ab ?_;exact Ru.wk (i _ n (new++l) v3 (r.n6 Q) R (by rw[ae8];omega) U)
   have u:a.getD t false=true:=by simpa using u
   refine ab ?_;exact Ru.wk (i _ a new e (by simpa using r.n6 (.skip u .nil)) x a6 U)
  refine Ru.exitTo ?_;rw[aho aa]at r;refine ab ?_;refine RO.push U 1 (λw0 H6 v2 U=>?_) (ws:=[aN b]);have⟨N,_,_,_⟩:=(U.sl 1 rfl).all;refine ab ?_;refine Ru.jo (vs:=[v2,.slice o 0 B.aj.length B.aj.length true]) ⟨rfl,N,rfl,rfl,trivial⟩ (h _ a (new++[b]) v2 (.one hb r) x (by rw[ae8,ahJ];omega) ?_);rw[ahx,ae8];exact(U.bO (.swap ..)).sub (.cons_cons _ (.cons_cons _ (.cons _ (.cons _ (.cons _ (.cons _ (ahM _)))))))
theorem aeA(T:Tb ac)(hg:dc L B I)(M:G.Sm B)(R:dT B)(f:B.aj.length<=30)(h:∀O v(am:List Nat)a aA e d,jx B (-1) a aA e->(∀b,fc B (-1) a aA e b)->fR (rW B aA) [0] (ab7 B.aj.length false) d am.reverse->am.length<=30->ak L O [tS 3 1 (am.map aN) am.length true v]->N v O):YN ac Wi [.agg I] L N:=by
 have Q:=hg.one;have n:=hg;have r:=R.sh;have u:=r.ne;obtain⟨vb,rfl,bz⟩:=hg;have⟨ag,_,_,av⟩:=bz.all;refine YF.code T.YG aC (au ?_);refine RO.bZ (ak.bM L) λH1 q1 U=>ab ?_;refine RO.bT U 0 ?_;refine RO.cl (vK T (bV.eY U.gr n) M r f λH2 qc S aw F a aA e q P o hl=>?_);have U:=U.cH hl;have w:=o.len;have x:=q.lo;refine ab ?_;refine RO.dD U λs q3 U=>?_;have V:vI s aA (.slice S 0 B.aj.length B.aj.length true):=o.sl U 1 rfl (by rw[w,x];exact U.sl 2 rfl);refine ab ?_;refine RO.bT U 4 (ab ?_);refine RO.bT U 0 (ab ?_);refine RO.jq (ak.bM s) (n:=B.aj.length) (λW X hl=>?_) (hz:=by rw[eE];simp);rw[eE]at hl;have hl:ak s W [tS 4 1 ((ab7 B.aj.length false).map .bool) B.aj.length true (.slice X 0 B.aj.length B.aj.length true)]:=by rw[aio];exact hl
 refine ab ?_;refine RO.cl (aez T (bV.eY U.gr n) M r f q.toFlI P V _ 0 _ _ _ _ (aeE _) (q.c0 bt) (by simp[ahi,ahX,u]) aC hl λH5 d new v y _ z hl=>?_);have U:=U.cH hl;rw[vt]at z;have A:=U.sl 0 rfl;have⟨ax,_,_,ay⟩:=A.all;refine ab ?_;refine RO.ir U 1 λH6 l U=>?_;have⟨C,_,_,_⟩:=(U.sl 0 rfl).all;refine ab ?_;refine RO.sub (a:=(new.length:Int)) (b:=1) (ab ?_);refine Ru.nm λY Z D p=>Ru.bH p (up (P:=λk=>∀t l i,i+k=new.length->ak L t (tS 3 1 ((new.reverse.take k).map aN) k true l::_)->Ru ac _ Y ([(p6,l),(p7,aI ((i:Int) - 1))]++pk Z [p1,p3,p4]) t) new.length (λk hk m t l i hi U=>?_) 0 aa _ l new.length rfl U);subst D;subst p;have⟨C,_,_,_⟩:=(U.sl 0 rfl).all;refine Ru.loop (ab ?_);refine Ru.cond (λc=>?_) (λc=>?_)
 .have c:(0:Int)<=(i:Int) - 1:=c;obtain⟨j,rfl⟩:∃j,i=j+1:=⟨i - 1,aa⟩;have e1:((j+1:Nat):Int) - 1=(j:Int):=aa;have m:=m (k+1) aa aa;have E:k<new.reverse.length:=by rw[List.length_reverse];omega
  rw[e1];rw[(ahb E).symm,ahx,List.map_singleton,List.getElem_reverse]at m;have e2:new.length - 1 - k=j:=aa;simp only[e2]at m;refine ab ?_;refine RO.ic (aR.refl _) (U.sl 1 rfl) (λq9 o9 a1 J=>RO.aW (ab ?_) (hc:=J)) (j:=j);refine RO.push U 0 (λw0 H7 v2 U=>?_) (ws:=[aN new[j]]);have⟨a2,_,_,_⟩:=(U.sl 0 rfl).all;refine ab ?_;refine RO.sub (a:=(j:Int)) (b:=1) (ab ?_);exact Ru.wk (m _ v2 j aa U)
 refine Ru.exitTo ?_;have c:¬(0:Int)<=(i:Int) - 1:=c;obtain rfl:k=new.reverse.length:=by rw[List.length_reverse];omega
 rw[aid]at U;refine ab ?_;exact Ru.aL (h _ l new.reverse a aA e d q P (by rw[List.reverse_reverse];exact y) (by rw[List.length_reverse];omega) (U.sub (.cons_cons _ (aiC _))))
end
end Go.al.R
end
