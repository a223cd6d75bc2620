/- A part of the proof. No conditions. -/
import Derived.Test.YtjhkgigolpfcfaaGreatDoorA10
set_option linter.all false
set_option maxHeartbeats 16000000
open List renaming mem_cons_of_mem->aey,mem_cons_self->aeU,length_cons->akA
open Nat renaming le_of_ble_eq_true->akc
open Int renaming ofNat->ak1
noncomputable section
namespace Go.am.R
section
variable{ac:Nat->aG}
def pH:List G.Edge->Nat
 |[]=>0
 |e::l=>e.args.length+pH l
def mJ:List G.gV->Nat
 |[]=>0
 |b::l=>b.aD.length+pH b.aA.go+mJ l
def uc(g:G.bu):Bool:=decide (1500<g.al.length)||decide (6000<g.bp)||decide (6000<mJ g.al)
theorem OV{l:List G.Edge}{n:Nat}(h:∀e∈l,e.args.length<=n):pH l<=n*l.length:=by induction l with|nil=>simp[pH]|cons e l a=>grind[aeU,aey,pH,akA,Nat.mul_succ]
theorem OW{l:List G.gV}{n:Nat}(h:∀b∈l,b.aD.length+pH b.aA.go<=n):mJ l<=n*l.length:=by induction l with|nil=>simp[mJ]|cons e l a=>grind[aeU,aey,mJ,akA,Nat.mul_succ]
theorem aei(T:Tb ac){H:ai}{g:G.bu}{cs:List AV}(hg:iG H g cs)(n:G.Sm g){K:KT}(o:∀H',bm H H'->K (.bool (uc g)) H'):YN ac Xj [.agg cs] H K:=by
 obtain⟨y,rfl,cA⟩:=hg;have⟨hd,h1,_,P⟩:=cA.all;have hb:=n.nb;have hs:mJ g.al<=1000*g.al.length:=OW λb hb=>by have h1:=n.bl b hb;have h2:=OV (n.ed b hb);omega
 refine YF.code T.aca aB ?_;refine au ?_;refine RO.dL (aj.dc H) (λH1 q U=>?_);refine bD ?_;refine Ru.nm λS M p i=>?_;refine Ru.cC i (up (P:=λk=>∀d a,a+mJ (g.al.drop k)=mJ g.al->aj H d [tB fI q [.str g.name,aI g.params,aI g.bp,y]]->Ru ac _ S ([(aR,aN k),(p3,aN a)]++pk M [p1,p9,aO]) d) g.al.length (λk Q z d a r U=>?_) 0 af _ 0 aB U);subst p;subst i;refine Ru.loop ?_;refine bD ?_;refine Ru.cond (λh=>?_) (λh=>?_)
 .rw[aj9 h]at r;simp only[mJ]at r;have E:=n.bl _ (agB h);refine au ?_;refine RO.cZ U.gr cA λA o1 c1 hj c t hat hrd=>?_;have m:=c.one;obtain⟨R,V,W,rfl,_,u,B,X,Y,rfl,_,_,l⟩:=c;have⟨F,_,_,I⟩:=u.all;have⟨J,_,_,L⟩:=l.all;refine bD ?_;refine RO.fx U (λC D U=>?_);refine bD ?_;refine Ru.nm λS M p i=>?_;refine Ru.cC i (up (P:=λj=>∀d x,x+pH (g.al[k].aA.go.drop j)=a+(g.al[k].aD.length+pH g.al[k].aA.go)->aj H d [tB fI q [.str g.name,aI g.params,aI g.bp,y]]->Ru ac _ S ([(bK,aN j),(p3,aN x)]++pk M [p1,p9,aO,aR,bO,bL]) d) g.al[k].aA.go.length (λj hj v d x s U=>?_) 0 af _ (a+g.al[k].aD.length) (by simp;omega) U.tail);subst p;subst i;refine Ru.loop ?_;refine bD ?_;refine Ru.cond (λf=>?_) (λf=>?_);·rw[aj9 f]at s;simp only[pH]at s;refine au ?_;refine RO.cZ U.gr l λA o1 c1 hj c t hat hrd=>?_;have m:=c.one;obtain⟨B,rfl,w⟩:=c;have⟨N,_,_,O⟩:=w.all;refine bD ?_;refine RO.fx U (λC D U=>?_);refine bD ?_;exact Ru.wk (v (j+1) af af _ (x+g.al[k].aA.go[j].args.length) af U.tail)
  refine Ru.exitTo ?_;refine bD ?_;exact Ru.wk (z (k+1) af af _ x (by simp[List.drop_of_length_le (show g.al[k].aA.go.length<=j by omega),pH]at s;omega) U)
 simp only[List.drop_of_length_le (show g.al.length<=k by omega),mJ]at r;have e:a=mJ g.al:=af;subst e;refine Ru.exitTo ?_;refine bD ?_;refine RO.de (λh1=>?_) (λh1=>?_);·refine bD ?_;refine Ru.aV ?_;simpa[uc,h1]using o d U.gr
 refine bD ?_;refine RO.de (λ(h2:(6000:Int)<g.bp)=>?_) (λ(h2:¬(6000:Int)<g.bp)=>?_);·refine bD ?_;refine Ru.aV ?_;simpa[uc,h1,h2]using o d U.gr
 refine bD ?_;refine Ru.aV ?_;simpa[uc,h1,h2]using o d U.gr
section
section
variable{g:G.bu}{H:ai}{cs:List AV}
theorem aej(T:Tb ac)(hg:iG H g cs)(p:G.Sm g){K:KT}(h1:∀H',bm H H'->uc g=false->K (.bool true) H')(h2:∀H',bm H H'->K (.bool false) H'):YN ac Ws [.agg cs] H K:=by
 have F:=hg.one;obtain⟨W,rfl,cA⟩:=hg;have⟨J,a,L,N⟩:=cA.all;have hb:=p.nb;have hs:mJ g.al<=1000*g.al.length:=OW λb hb=>by have h1:=p.bl b hb;have h2:=OV (p.ed b hb);omega
 refine YF.code T.abc aB ?_;refine ah ?_;refine RO.dL (aj.dc H) (λH1 q U=>?_);refine ah ?_;refine Ru.nm λS M s m=>?_;refine Ru.cC m (up (P:=λk=>∀c,c+mJ (g.al.drop k)=mJ g.al->Ru ac _ S ([(p4,aN k),(p3,aN c)]++pk M [p1]) H1) g.al.length (λk X I c t=>?_) 0 af 0 aB);subst s;subst m;refine Ru.loop ?_;refine ah ?_;refine Ru.cond (λh=>?_) (λh=>?_)
 .rw[aj9 h]at t;simp only[mJ]at t;have O:=p.bl _ (agB h);refine ah ?_;refine RO.cZ U.gr cA (λu o1 c1 hj a i hat hrd=>?_) (j:=k);obtain⟨A,B,C,rfl,_,l,v,D,r,rfl,_,_,d⟩:=a;have⟨P,_,_,Q⟩:=l.all;have⟨n,_,_,o⟩:=d.all;refine ah ?_;refine Ru.nm λS M s m=>?_;refine Ru.cC m (up (P:=λj=>∀x,x+pH (g.al[k].aA.go.drop j)=c+(g.al[k].aD.length+pH g.al[k].aA.go)->Ru ac _ S ([(p5,aN j),(p3,aN x)]++pk M [p1,p4]) H1) g.al[k].aA.go.length (λj hj y x w=>?_) 0 af (c+g.al[k].aD.length) (by simp;omega));subst s;subst m;refine Ru.loop ?_;refine ah ?_;refine RO.cZ U.gr cA (λu o1 c1 hj a i hat hrd=>?_) (j:=k);obtain⟨A,B,C,rfl,_,l,v,D,r,rfl,_,_,d⟩:=a;have⟨n,_,_,o⟩:=d.all;refine ah ?_;refine RO.aW (v:=r) ?_ (hc:=hat 6 _ rfl);refine ah ?_;refine Ru.cond (λf=>?_) (λf=>?_);·rw[aj9 f]at w;simp only[pH]at w;refine ah ?_;refine RO.cZ U.gr cA (λu o1 c1 hj a i hat hrd=>?_) (j:=k);obtain⟨A,B,C,rfl,_,l,v,D,r,rfl,_,_,d⟩:=a;have⟨n,_,_,o⟩:=d.all;refine ah ?_;refine RO.aW (v:=r) ?_ (hc:=hat 6 _ rfl);refine ah ?_;refine RO.cZ U.gr d (λu o1 c1 hj a i hat hrd=>?_) (j:=j);obtain⟨v,rfl,z⟩:=a;have⟨R,_,_,V⟩:=z.all;refine ah ?_;exact Ru.wk (y (j+1) af af (x+g.al[k].aA.go[j].args.length) af)
  refine Ru.exitTo ?_;refine ah ?_;exact Ru.wk (I (k+1) af af x (by simp[List.drop_of_length_le (show g.al[k].aA.go.length<=j by omega),pH]at w;omega))
 simp only[List.drop_of_length_le (show g.al.length<=k by omega),mJ]at t;have e:c=mJ g.al:=af;subst e;refine Ru.exitTo ?_;have e1:ak1 6000=6000:=rfl;repeat'(first|refine rR ?_|refine RO.de (λ_=>?_) (λ_=>?_))
 .rename_i Y Z;by_cases E:mJ g.al<=6000;·rw[decide_eq_true E];exact Ru.aV (h1 _ U.gr (by simp only[uc,Bool.or_eq_false_iff,decide_eq_false_iff_not];omega))
  rw[decide_eq_false E];exact Ru.aV (h2 _ U.gr)
 all_goals exact Ru.aV (h2 _ U.gr)
theorem aek(T:Tb ac){t:List Nat}{K:KT}(h:K (aN (iu t)) H):YN ac W4 [.str t] H K:=by
 refine YF.code T.abV aB ?_;repeat'(first|refine rR ?_|(refine Ru.kN (λa=>?_) (λa=>?_)<;>rw[a]))
 all_goals first|(rw[qv,decide_eq_true_eq]at a;subst a;exact Ru.aV (by simpa[iu,Cu,Cv,Cw]using h))|skip
 simp only[qv,decide_eq_false_iff_not]at*;exact Ru.aV (by simpa[iu,Cu,Cv,Cw, *]using h)
end
end
structure rm where
 w:List Nat
 to:Bool
 sy:Int
 n:Bool
 lo:Int
 hi:Int
 nm:Int
 go:Int
def Jg(s:rm):AV:=.agg [.str s.w,.bool s.to,aI s.sy,.bool s.n,aI s.lo,aI s.hi,aI s.nm,aI s.go]
def OX:rm:=⟨[],false,0,false,0,0,0,0⟩
def ud(op:Nat):List (Nat×rm)->rm
 |[]=>OX
 |p::l=>if op=p.1 then p.2 else ud op l
def EY:List (Nat×rm):=[(1,⟨[105,110,116],true,0,true,(-1000000000),1000000000,0,0⟩),(2,⟨[98,111,111,108],true,0,true,0,1,0,0⟩),(3,⟨[116,101,120,116],true,0,false,0,0,1,0⟩),(4,⟨[117,110,105,116],true,0,false,0,0,0,0⟩),(11,⟨[102,110],true,0,false,0,0,2,0⟩),(40,⟨[99,108,111,115,101],true,(-1),false,0,0,2,0⟩),(14,⟨[112,114,105,109],true,(-1),false,0,0,3,0⟩),(15,⟨[110,101,119],true,(-1),false,0,0,4,0⟩),(16,⟨[103,101,116],true,1,true,0,5,5,0⟩),(17,⟨[112,117,116],false,2,true,0,5,5,0⟩),(18,⟨[99,97,115,101],true,(-1),false,0,0,6,0⟩),(13,⟨[99,97,108,108],true,(-2),false,0,0,0,0⟩),(21,⟨[116,104,114,111,119],false,1,false,0,0,0,0⟩),(23,⟨[115,112,97,119,110],false,1,false,0,0,0,0⟩),(24,⟨[99,104,97,110],true,0,true,1,8,0,0⟩),(25,⟨[115,101,110,100],false,2,false,0,0,0,0⟩),(26,⟨[114,101,99,118],true,1,false,0,0,0,0⟩),(31,⟨[121,105,101,108,100],false,0,false,0,0,0,0⟩),(32,⟨[111,117,116],false,1,false,0,0,0,0⟩),(33,⟨[105,110],true,0,false,0,0,0,0⟩),(34,⟨[99,111,108,108,101,99,116],false,0,false,0,0,0,0⟩),(35,⟨[119,101,97,107],true,1,false,0,0,0,0⟩)]
def yM:List (Nat×rm):=[(37,⟨[114,111,111,116],true,0,false,0,0,7,0⟩),(38,⟨[115,101,116,114,111,111,116],false,1,false,0,0,7,0⟩),(39,⟨[116,105,99,107],false,0,false,0,0,0,0⟩),(60,⟨[109,111,118,101],true,1,false,0,0,0,0⟩),(61,⟨[103,111],false,0,false,0,0,0,1⟩),(62,⟨[105,102],false,1,false,0,0,0,2⟩),(63,⟨[105,115],false,1,false,0,0,6,2⟩),(64,⟨[112,97,114,116],true,1,true,0,3,0,0⟩),(65,⟨[104,111,108,100],true,1,false,0,0,0,2⟩),(66,⟨[115,101,108,101,99,116],false,0,false,0,0,0,0⟩),(67,⟨[116,114,121],true,0,false,0,0,0,1⟩),(68,⟨[101,110,100],false,0,false,0,0,0,0⟩),(69,⟨[114,101,116],false,1,false,0,0,0,0⟩),(70,⟨[115,116,117,99,107],false,0,false,0,0,0,0⟩)]
def sA(op:Nat):rm:=ud op (EY++yM)
theorem ael(T:Tb ac){H:ai}{op:Nat}{K:KT}(a:∀H',bm H H'->K (Jg (ud op yM)) H'):YN ac Xs [aU op] H K:=by
 refine YF.code T.acm aB ?_;refine au ?_;refine RO.gI (aj.dc H) λH1 q U=>?_;refine ah ?_;iterate 14
  refine Ru.cond (λb=>?_) (λb=>?_);·subst b;refine ah ?_;refine RO.iT U 0 (λc U=>?_);refine ah ?_;exact Ru.lM (vs:=[_]) ⟨⟨q,0,rfl,U.agg 0⟩,trivial⟩ (a _ U.gr)
  refine ah ?_
 have e:ud op yM=OX:=by simp only[yM,ud, *,bP]
 rw[e]at a;refine RO.iT U 0 (λc U=>?_);refine ah ?_;exact Ru.lM (vs:=[_]) ⟨⟨q,0,rfl,U.agg 0⟩,trivial⟩ (a _ U.gr)
theorem Jh(T:Tb ac){H:ai}{op:Nat}{K:KT}(b:∀H',bm H H'->K (Jg (sA op)) H'):YN ac Xh [aU op] H K:=by
 refine YF.code T.ab8 aB ?_;refine au ?_;refine RO.gI (aj.dc H) λH1 q U=>?_;refine ah ?_;refine Ru.cond (λa=>?_) (λa=>?_);·subst a;refine ah ?_;refine RO.iT U 0 (λc U=>?_);refine ah ?_;exact Ru.lM (vs:=[_]) ⟨⟨q,0,rfl,U.agg 0⟩,trivial⟩ (b _ U.gr)
 refine ah ?_;iterate 21
  refine Ru.cond (λa=>?_) (λa=>?_);·subst a;refine ah ?_;refine RO.iT U 0 (λc U=>?_);refine ah ?_;exact Ru.lM (vs:=[_]) ⟨⟨q,0,rfl,U.agg 0⟩,trivial⟩ (b _ U.gr)
  refine ah ?_
 have e:sA op=ud op yM:=by simp only[sA,EY,akV,ak0,ud, *,bP]
 rw[e]at b;refine RO.cl (ael T λc hg=>?_);have U:=U.cI hg;refine RO.iT U 0 (λd U=>?_);refine ah ?_;exact Ru.lM (vs:=[_]) ⟨⟨q,0,rfl,U.agg 0⟩,trivial⟩ (b _ U.gr)
def ue(op:Nat)(m:Int):rm:=if op=13/\m=1 then⟨[102,114,101,101],true, -3,false,0,0,2,0⟩else sA op
theorem aem(T:Tb ac){H:ai}{op:Nat}{m:Int}{K:KT}(b:∀H',bm H H'->K (Jg (ue op m)) H'):YN ac W1 [aU op,aI m] H K:=by
 refine YF.code T.abS aB ?_;refine au ?_;refine RO.gI (aj.dc H) λH1 q U=>?_;repeat'(first|refine rR ?_|refine RO.de (λ_=>?_) (λ_=>?_))
 .rename_i a;refine Ru.cond (λc=>?_) (λc=>?_);·rw[ue,aK ⟨a,c⟩]at b;refine ah ?_;refine RO.iT U 0 (λd U=>?_);refine ah ?_;exact Ru.lM (vs:=[_]) ⟨⟨q,0,rfl,U.agg 0⟩,trivial⟩ (b _ U.gr)
  rw[ue,aq λh=>c h.2]at b;refine ah ?_;refine RO.cl (Jh T λd hg=>?_);have U:=U.cI hg;refine RO.iT U 0 (λe U=>?_);refine ah ?_;exact Ru.lM (vs:=[_]) ⟨⟨q,0,rfl,U.agg 0⟩,trivial⟩ (b _ U.gr)
 rename_i a;rw[ue,aq λh=>a h.1]at b;refine RO.cl (Jh T λd hg=>?_);have U:=U.cI hg;refine RO.iT U 0 (λe U=>?_);refine ah ?_;exact Ru.lM (vs:=[_]) ⟨⟨q,0,rfl,U.agg 0⟩,trivial⟩ (b _ U.gr)
end
end Go.am.R
end
