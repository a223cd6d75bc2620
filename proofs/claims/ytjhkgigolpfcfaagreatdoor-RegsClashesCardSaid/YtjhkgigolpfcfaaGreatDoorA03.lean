/- A part of the proof. No conditions. -/
import Derived.Test.YtjhkgigolpfcfaaGreatDoorA02
import Derived.ChangeKeysEq
import Derived.Laws.RangeString
import Derived.RangeFuncIn
import Derived.Orders
set_option linter.all false
open Option.some renaming injEq→acm
open Option renaming bind_eq_some_iff→acR,bind_eq_bind→adO,map_eq_some_iff→afi,pure_def→af1,map_some→ahb,getD_some→ahs,bind_some→ah5
open List renaming mem_cons→adC,mem_append→agI,map_cons→agN,length_append→agP,range→agV,length_map→agZ,getElem?_map→ahc,nodup_cons→ahg,length_cons→ahh,getElem?_eq_some_iff→ahv,cons_append→ahC,nil_append→ahH,getElem?_cons_succ→ahK,mem_range→ahV,map_nil→ahX,all_eq_true→ah1,pairwise_cons→ah4,flatMap_cons→ah8,mapM_cons→aic,mem_filter→aik
open Bool renaming false_eq_true→ac6,and_eq_true→agM,not_true→ag9,not_eq_true'→ahA,or_eq_true→ahT,eq_iff_iff→aij,and_self→aiq
open Nat renaming le_refl→adW,eq_of_beq_eq_true→agO,beq→agQ,le_of_ble_eq_true→agT,zero_add→agW,lt_of_lt_of_le→ag6,blt→aha,ble_eq_true_of_le→ahi,lt_or_ge→ahz,blt_eq→ahF,ble→ahG,beq_refl→ahQ,le_trans→ahY,add_zero→ail,sub_zero→aip
open Prod.mk renaming injEq→age
open Int renaming ofNat_eq_natCast→agL
open List.cons renaming injEq→ag4
open Array renaming length_toList→ahm,getD_eq_getD_getElem?→aho,getElem?_eq_none→ahE,getElem?_toList→ahP,getElem?_push→ahS,filter→aia,replicate→ain
open List.Perm renaming swap→ahw,refl→ais
open UInt8 renaming toNat→aib
open Ne renaming symm→aio
open Eq renaming mpr→aiu
open List.Pairwise renaming nil→aiv
noncomputable section
namespace Go.ak
section
variable[Ov]
section
variable{P:Program}{c:cJ}{ρ:aL}{H H':af}{w:World}{nt:Nat}{aa:am AV}{a:Act}{o:Oper}{ao:bO}{v:AV}
def F1(P:Program)(ρ:aL)(f:Nat):Prop:=∀{const:Bool}{t:TypeId}{d:ep},jy P f const t=some d→∀{g:Nat}{x y:AV}{r:Bool},dZ g d x y=some r→
 ∀{a b:Value},VR ρ x a→VR ρ y b→∀(n:Nat)(w:World),f≤n→(Op.equalIn n t a b).run P w=.ok r w
theorem KC{f:Nat}(h:F1 P ρ f){o q:List AV}{t u:Array Value}(v:be ρ o t.toList)(z:be ρ q u.toList)(n:Nat)(w:World)(i:f≤n):∀(fs:List Field)(l:List (Nat×Nat×Bool×ep))(g:Nat)(r:Bool),(fs.mapM λ(g:Field)=>if g.name= "_" then none else match jy P f false g.type,fE P g.type,oz P g.type with|some d,some s,some a=>some (g.offset,s,a,d)|_,_,_=>none)=some l→dZ.go g o q l=some r→(Op.eqFields n t u fs).run P w=.ok r w
 |[],l,g,r,h1,h2=>by simp only[List.mapM_nil,af1,acm]at h1;subst h1;unfold dZ.go at h2;simp only[acm]at h2;subst h2;simp[Op.eqFields]
 |G::fs,l,g,r,h1,h2=>by
  simp only[aic,adO,acR,af1,acm]at h1;obtain⟨p,b,D,j,rfl⟩:=h1;split at b;·cases b
  rename_i e;split at b
  ·rename_i d s a hd hs A;injection b with b;subst b;cases g with
   |zero=>simp[dZ.go]at h2
   |succ g=>
    simp only[dZ.go]at h2;split at h2
    ·rename_i x y k m;obtain⟨H,E,B⟩:=uT (P:=P) (w:=w) v A hs k;obtain⟨I,F,C⟩:=uT (P:=P) (w:=w) z A hs m;simp only[Op.eqFields,e,ne_eq,not_false_eq_true,bm,Sem.run_bind,E,F,Result.andThen_ok];split at h2;·rename_i he;rw[h hd he B C n w i];exact KC h v z n w i fs D g r j h2
     ·rename_i he;injection h2 with h2;subst h2;rw[h hd he B C n w i];simp
     cases h2
    cases h2
  cases b
theorem KD{f:Nat}(b:F1 P ρ f){m o:List AV}{p q:Array Value}(t:be ρ m p.toList)(u:be ρ o q.toList)(n:Nat)(w:World)(h:f≤n){e:TypeId}{s:Nat}{a:Bool}{d:ep}(hd:jy P f false e=some d)(hs:fE P e=some s)(j:oz P e=some a):∀(is:List Nat)(g:Nat)(r:Bool),dZ.go g m o (is.map λi=>(i*s,s,a,d))=some r→(Op.eqItems n e s p q is).run P w=.ok r w
 |[],g,r,h2=>by simp only[ahX]at h2;unfold dZ.go at h2;simp only[acm]at h2;subst h2;simp[Op.eqItems]
 |i::is,g,r,h2=>by
  cases g with
  |zero=>simp[dZ.go]at h2
  |succ g=>
   simp only[agN,dZ.go]at h2;split at h2
   ·rename_i x y k l;obtain⟨C,A,v⟩:=uT (P:=P) (w:=w) t j hs k;obtain⟨D,B,z⟩:=uT (P:=P) (w:=w) u j hs l;simp only[Op.eqItems,Sem.run_bind,A,B,Result.andThen_ok];split at h2;·rename_i he;rw[b hd he v z n w h];exact KD b t u n w h hd hs j is g r h2
    ·rename_i he;injection h2 with h2;subst h2;rw[b hd he v z n w h];simp
    cases h2
   cases h2
set_option maxHeartbeats 1000000 in theorem C4(ρ:aL)(f:Nat):F1 P ρ f:=by
 induction f with
 |zero=>intro const t d h;simp[jy]at h
 |succ f M=>
  intro const t d h g x y r he S T k m n w V;cases n with
  |zero=>omega
  |succ n=>
   have E:f≤n:=by omega
   unfold jy at h;split at h;all_goals(rename_i hu)
   ·injection h with h;subst h;unfold dZ at he;split at he<;>(try(rename_i u;cases u;done))<;>(try(cases he;done));injection he with he;rw[k.qQ,m.qQ,←he];exact run_equalIn_bool' w n t _ _ hu
   ·injection h with h;subst h;unfold dZ at he;split at he<;>(try(rename_i u;cases u;done))<;>(try(cases he;done));split at he;·rename_i N;injection he with he;obtain⟨W,h1,rfl⟩:=k.jz;obtain⟨X,h2,rfl⟩:=m.jz;have:=wF (h1.symm.trans (N.trans h2));subst this;rw[←he,fA];exact run_equalIn_int w n t _ _ _ _ hu
    cases he
   ·injection h with h;subst h;unfold dZ at he;split at he<;>(try(rename_i u;cases u;done))<;>(try(cases he;done));injection he with he;obtain⟨t1,h1,rfl⟩:=k.mM;obtain⟨t2,h2,rfl⟩:=m.mM;subst h1;subst h2;rw[←he,←Ks];exact run_equalIn_string w n t _ _ hu
   ·split at h
    ·rename_i Y J;injection h with h;subst h;unfold dZ at he;split at he<;>(try(rename_i u;cases u;done))<;>(try(cases he;done));·injection he with he;subst he;rw[k.CV,m.CV];simp[Op.equalIn,bW hu]
     ·injection he with he;subst he;obtain⟨b,z,h1,h2⟩:=m.nO;rw[k.CV,h2];simp[Op.equalIn,bW hu]
     ·injection he with he;subst he;obtain⟨b,z,h1,h2⟩:=k.nO;rw[m.CV,h2];simp[Op.equalIn,bW hu]
     rename_i _ i _ j _;split at he
     ·rename_i hb;have hb:=ac.gT.1 hb;subst hb;injection he with he;obtain⟨b,z,h1,rfl⟩:=k.nO;obtain⟨Z,z',v,rfl⟩:=m.nO;rw[h1]at v;injection v with v;injection v with e1 e2;subst e1;subst e2;simp only[Op.equalIn,Sem.run_bind,bW hu,Result.andThen_ok,jl J];rw[←he];have:((⟨b,z+i,none⟩:Addr)==⟨b,z+j,none⟩)=agQ i j:=by
       rw[aij,beq_iff_eq,Addr.mk.injEq];constructor
       ·intro h;have:i=j:=by omega
        subst this;exact ahQ _
       intro h;have:=agO h;subst this;simp
      simp[sameAddr,this]
     cases he
    cases h
   ·injection h with h;subst h;unfold dZ at he;split at he<;>(try(rename_i u;cases u;done))<;>(try(cases he;done));all_goals injection he with he;subst he
    ·rw[k.mN,m.mN];simp[Op.equalIn,bW hu]
    ·obtain⟨ad,O,h1,_⟩:=m.oB;rw[k.mN,h1];simp[Op.equalIn,bW hu]
    obtain⟨ad,O,h1,_⟩:=k.oB;rw[m.mN,h1];simp[Op.equalIn,bW hu]
   ·injection h with h;subst h;unfold dZ at he;split at he<;>(try(rename_i u;cases u;done))<;>(try(cases he;done));all_goals injection he with he;subst he
    ·rw[k.tV,m.tV];simp[Op.equalIn,bW hu]
    ·obtain⟨b,_,h1⟩:=m.oC;rw[k.tV,h1];simp[Op.equalIn,bW hu]
    obtain⟨b,_,h1⟩:=k.oC;rw[m.tV,h1];simp[Op.equalIn,bW hu]
   ·injection h with h;subst h;unfold dZ at he;split at he<;>(try(rename_i u;cases u;done))<;>(try(cases he;done));all_goals injection he with he;subst he
    ·rw[k.yO,m.yO];simp[Op.equalIn,bW hu]
    ·obtain⟨p,q,_,_,h1⟩:=m.CW;rw[k.yO,h1];simp[Op.equalIn,bW hu]
    ·obtain⟨p,q,_,_,h1⟩:=k.CW;rw[m.yO,h1];simp[Op.equalIn,bW hu]
    ·obtain⟨p,q,h1⟩:=m.CX;rw[k.yO,h1];simp[Op.equalIn,bW hu]
    obtain⟨p,q,h1⟩:=k.CX;rw[m.yO,h1];simp[Op.equalIn,bW hu]
   ·injection h with h;subst h;unfold dZ at he;split at he<;>(try(rename_i u;cases u;done))<;>(try(cases he;done))
    ·split at he;·injection he with he;subst he;rw[k.AD,m.AD];simp[Op.equalIn,bW hu]
     cases he
    ·injection he with he;subst he;obtain⟨p,_,h1⟩:=m.yN;rw[k.AD,h1];simp[Op.equalIn,bW hu]
    ·injection he with he;subst he;obtain⟨p,_,h1⟩:=k.yN;rw[m.AD,h1];simp[Op.equalIn,bW hu]
    rename_i t1 _ t2 _ _;split at he;·cases he
    rename_i K;injection he with he;subst he;obtain⟨p,_,rfl⟩:=k.yN;obtain⟨q,_,rfl⟩:=m.yN;have:¬t1=t2:=λe=>K (by subst e;exact ahQ _);simp only[Op.equalIn,Sem.run_bind,bW hu,Result.andThen_ok,ne_eq,this,not_false_eq_true,bm,Sem.run_pure]
   ·split at h;·cases h
    rename_i dW;rw[afi]at h;obtain⟨l,hl,rfl⟩:=h;unfold dZ at he;split at he<;>(try(rename_i u;cases u;done))<;>(try(cases he;done));rename_i A;cases A;obtain⟨H,B,rfl⟩:=k.sf;obtain⟨I,C,rfl⟩:=m.sf;have D:=congrArg (λ(o:Option TypeDesc)=>match o with|some (.struct fs)=>fs|_=> #[]) hu;change P.fieldsOf t=_ at D;rw[run_equalIn_struct w n t H I (by rw[hu,D]) (by simpa using dW),D];exact KC M B C n w E _ _ _ _ hl he
   ·split at h;·rename_i d s a hd hs Q;injection h with h;subst h;unfold dZ at he;split at he<;>(try(rename_i u;cases u;done))<;>(try(cases he;done));rename_i A;cases A;obtain⟨H,B,rfl⟩:=k.sf;obtain⟨I,C,rfl⟩:=m.sf;obtain⟨R,F,L⟩:=Kl hs;rw[run_equalIn_array w n H I hu F];have G:=congrArg (λ(o:Option TypeInfo)=>(o.map (·.size)).getD 0) F;change P.cellsOf _=_ at G;rw[G,show(Option.map (λi:TypeInfo=>i.size) (some R)).getD 0=s from L];exact KD M B C n w E hd hs Q _ _ _ he
    cases h
   cases h
end
section
variable{P:Program}{h:cJ}{ρ:aL}{H H':af}{w:World}{nt:Nat}{aa:am AV}{a:Act}{o:Oper}{ao:bO}{v:AV}
def F3(P:Program)(ρ:aL)(em:Bool)(f:Nat):Prop:=∀{const:Bool}{t:TypeId}{d:ep},jy P f const t=some d→∀{g:Nat}{x:AV},rW g d x=true→
 ∀{a:Value},VR ρ x a→∀(n:Nat)(w:World),f≤n→(Instr.checkKey em n t a).run P w=.ok () w
theorem KE{em:Bool}{f:Nat}(j:F3 P ρ em f){k:List AV}{m:Array Value}(o:be ρ k m.toList)(n:Nat)(w:World)(q:f≤n):∀(fs:List Field)(l:List (Nat×Nat×Bool×ep))(g:Nat),(fs.mapM λ(g:Field)=>if g.name= "_" then none else match jy P f false g.type,fE P g.type,oz P g.type with|some d,some s,some a=>some (g.offset,s,a,d)|_,_,_=>none)=some l→rW.go g k l=true→(forIn fs PUnit.unit λ(f:Field)r=>(if f.name≠ "_" then(do(Instr.checkKey em n f.type (←part f.type m f.offset));pure (ForInStep.yield PUnit.unit))else pure (ForInStep.yield PUnit.unit):Sem (ForInStep PUnit))).run P w=.ok PUnit.unit w
 |[],l,g,h1,h2=>by rfl
 |y::fs,l,g,h1,h2=>by
  simp only[aic,adO,acR,af1,acm]at h1;obtain⟨p,b,t,c,rfl⟩:=h1;split at b;·grind
  rename_i i;split at b
  ·rename_i d s a hd hs u;injection b with b;subst b;cases g with
   |zero=>trivial
   |succ g=>
    simp only[rW.go]at h2;split at h2;·rename_i x e;simp only[agM]at h2;obtain⟨z,A,v⟩:=uT (P:=P) (w:=w) o u hs e;have h3:=j hd h2.1 v n w q;have B:=KE j o n w q fs t g c h2.2;simp_all
    grind
  grind
theorem KF{em:Bool}{f:Nat}(c:F3 P ρ em f){j:List AV}{k:Array Value}(l:be ρ j k.toList)(n:Nat)(w:World)(m:f≤n){e:TypeId}{s:Nat}{a:Bool}{d:ep}(hd:jy P f false e=some d)(hs:fE P e=some s)(o:oz P e=some a):∀(is:List Nat)(g:Nat),rW.go g j (is.map λi=>(i*s,s,a,d))=true→(forIn is PUnit.unit λ(i:Nat)r=>(do(Instr.checkKey em n e (←part e k (i*(←sizeOf e))));pure (ForInStep.yield PUnit.unit):Sem (ForInStep PUnit))).run P w=.ok PUnit.unit w
 |[],g,h2=>by rfl
 |i::is,g,h2=>by
  cases g with
  |zero=>trivial
  |succ g=>
   simp only[agN,rW.go]at h2;split at h2;·rename_i x b;simp only[agM]at h2;obtain⟨q,t,p⟩:=uT (P:=P) (w:=w) l o hs b;have h3:=c hd h2.1 p n w m;have u:=KF c l n w m hd hs o is g h2.2;simp_all[List.forIn_cons,Sem.run_bind,jl,Result.andThen_ok,Sem.run_pure]
   grind
theorem R0(ρ:aL)(em:Bool)(f:Nat):F3 P ρ em f:=by
 induction f with
 |zero=>intro const t d u;simp[jy]at u
 |succ f k=>
  intro const t d u g x he q m n w r;cases n with
  |zero=>omega
  |succ n=>
   have e:f≤n:=by omega
   unfold jy at u;split at u;all_goals(rename_i hu)
   ·simp[Instr.checkKey,bW hu]
   ·simp[Instr.checkKey,bW hu]
   ·simp[Instr.checkKey,bW hu]
   ·simp[Instr.checkKey,bW hu]
   ·simp[Instr.checkKey,bW hu]
   ·simp[Instr.checkKey,bW hu]
   ·simp[Instr.checkKey,bW hu]
   ·injection u with u;subst u;unfold rW at he;cases x<;>cases he
   ·split at u;·cases u
    rw[afi]at u;obtain⟨l,hl,rfl⟩:=u;unfold rW at he;split at he<;>(try(rename_i j;cases j;done))<;>(try(cases he;done));rename_i b;cases b;obtain⟨o,c,rfl⟩:=m.sf;have i:=KE k c n w e _ _ _ hl he;simp only[Instr.checkKey,Sem.run_bind,bW hu,Result.andThen_ok,←Array.forIn_toList];rw[i];rfl
   ·split at u;·rename_i d s a hd hs p;injection u with u;subst u;unfold rW at he;split at he<;>(try(rename_i j;cases j;done))<;>(try(cases he;done));rename_i b;cases b;obtain⟨o,c,rfl⟩:=m.sf;have i:=KF k c n w e hd hs p _ _ he;simp only[Instr.checkKey,Sem.run_bind,bW hu,Result.andThen_ok];simp only[Std.Legacy.Range.forIn_eq_forIn_range',Std.Legacy.Range.size,aip,Nat.add_one_sub_one,Nat.div_one];rw[List.range_eq_range']at i;rw[i];rfl
    cases u
   cases u
theorem F4{t:TypeId}{d:ep}(a:rZ P t=some d):∃kd,P.underlying t=some kd∧jy P 16 false t=some d∧((kd=.bool∧d=.bool)∨(∃k,kd=.int k∧d=.int)∨(kd=.string∧d=.aC)∨∃l,d=.eW l):=by
 unfold rZ at a;split at a;all_goals(try(cases a;done))
 all_goals(rename_i hu;refine⟨_,hu,a,?_⟩)
 all_goals unfold jy at a;simp only[hu]at a
 ·grind
 ·grind
 ·grind
 all_goals grind[afi]
theorem F5{t:TypeId}{kd:TypeDesc}(hu:P.underlying t=some kd)(a:kd=.bool∨(∃k,kd=.int k)∨kd=.string)(em:Bool)(n:Nat)(x:Value)(w:World):(Instr.checkKey em (n+1) t x).run P w=.ok () w:=by rcases a with rfl|⟨k,rfl⟩|rfl<;>simp[Instr.checkKey,bW hu]
theorem C5{t:TypeId}{d:ep}(e:rZ P t=some d){k:AV}(a:jk d k=true){kv:Value}(b:VR ρ k kv)(em:Bool)(w:World):(Instr.checkKey em 10000 t kv).run P w=.ok () w:=by
 obtain⟨kd,hu,he,hd⟩:=F4 e;rcases hd with⟨rfl,rfl⟩|⟨c,rfl,rfl⟩|⟨rfl,rfl⟩|⟨l,rfl⟩;·exact F5 hu (.inl rfl) em 9999 kv w
 ·exact F5 hu (.inr (.inl ⟨_,rfl⟩)) em 9999 kv w
 ·exact F5 hu (.inr (.inr rfl)) em 9999 kv w
 exact R0 ρ em 16 he a b 10000 w (by simp)
def FR(ρ:aL)(n:Nat):Option (Nat×AV)→Option (Nat×Value)→Prop
 |none,none=>True
 |some (i,v),some (j,c)=>i=j∧VR ρ v c∧i<n
 |_,_=>False
theorem KG{t:TypeId}{d:ep}(j:jy P 16 false t=some d){k:AV}{kv:Value}(b:VR ρ k kv)(w:World):∀(es:List aR)(br:List MapEntry)(i:Nat)(r:Option (Nat×AV)),ch ρ es br→findKey d k es i=some r→∃a,(Instr.findAsking t kv br i).run P w=.ok a w∧FR ρ (i+es.length) r a
 |[],[],i,r,_,h2=>by simp only[findKey,acm]at h2;subst h2;exact⟨none,by rfl,trivial⟩
 |e::es,c::br,i,r,h1,h2=>by
  simp only[findKey]at h2;split at h2;·rename_i he;injection h2 with h2;subst h2;have:=C4 ρ 16 j he b h1.1 10000 w (by omega);refine⟨some (i,c.val),?_,rfl,h1.2.1,by simp⟩;simp[this,Instr.findAsking,Op.equal,Op.maxDepth,Sem.run_bind,Result.andThen_ok,bm,Sem.run_pure]
  ·rename_i he;have:=C4 ρ 16 j he b h1.1 10000 w (by omega);obtain⟨a,f,g⟩:=KG j b w es br (i+1) r h1.2.2.2 h2;refine⟨a,?_,by grind⟩;simp[this,f,Instr.findAsking,Op.equal,Op.maxDepth,Sem.run_bind,Result.andThen_ok,ac6,bK]
  grind
 |[],_::_,_,_,h1,_=>by trivial
 |_::_,[],_,_,h1,_=>by trivial
theorem R2{t:TypeId}{kd:TypeDesc}(hu:P.underlying t=some kd){x y:Value}{b:Bool}(c:Instr.sameNow kd x y=some b)(n:Nat)(w:World):(Op.equalIn (n+1) t x y).run P w=.ok b w:=by
 unfold Instr.sameNow at c;split at c
 ·split at c;·rename_i a;injection c with c;subst a;subst c;simp[Op.equalIn,bW hu]
  grind
 ·injection c with c;subst c;simp[Op.equalIn,bW hu]
 ·injection c with c;subst c;simp[Op.equalIn,bW hu]
 grind
theorem KH{t:TypeId}{kd:TypeDesc}(hu:P.underlying t=some kd){d:ep}(n:jy P 16 false t=some d){k:AV}{kv:Value}(g:VR ρ k kv)(w:World):∀(es:List aR)(br:List MapEntry)(i:Nat)(r:Option (Nat×AV))(a:Option (Nat×Value)),ch ρ es br→findKey d k es i=some r→Instr.findNow kd kv br i=some a→FR ρ (i+es.length) r a
 |[],[],i,r,a,_,h2,h3=>by simp only[findKey,acm]at h2;subst h2;simp only[Instr.findNow,acm]at h3;subst h3;trivial
 |e::es,c::br,i,r,a,h1,h2,h3=>by
  simp only[findKey]at h2;simp only[Instr.findNow]at h3;have KI:∀b f,dZ 64 d k e.key=some b→Instr.sameNow kd kv c.key=some f→b=f:=by intro b f j l;have e1:=C4 ρ 16 n j g h1.1 10000 w (by omega);have e2:=R2 hu l 9999 w;have m:=e1.symm.trans e2;injection m
  split at h2
  ·rename_i he;injection h2 with h2;subst h2;split at h3;·injection h3 with h3;subst h3;exact⟨rfl,h1.2.1,by simp⟩
   all_goals grind
  ·rename_i he;split at h3;·grind
   ·have:=KH hu n g w es br (i+1) r a h1.2.2.2 h2 h3;grind
   grind
  grind
 |[],_::_,_,_,_,h1,_,_=>by trivial
 |_::_,[],_,_,_,h1,_,_=>by trivial
theorem tY{t:TypeId}{d:ep}(j:rZ P t=some d){k:AV}{kv:Value}(b:VR ρ k kv)(w:World){es:List aR}{br:List MapEntry}(he:ch ρ es br){r:Option (Nat×AV)}(c:findKey d k es 0=some r):∃a,(Instr.findKey t kv br).run P w=.ok a w∧FR ρ es.length r a:=by obtain⟨kd,hu,e,_⟩:=F4 j;cases f:Instr.findNow kd kv br 0 with|some a=>have:=KH hu e b w es br 0 r a he c f;simp_all[agW,Instr.findKey,bW]|none=>obtain⟨a,g,i⟩:=KG e b w es br 0 r he c;simp_all[agW,Instr.findKey,bW]
theorem KJ{s t:ByteArray}(a:jO (s.data.toList.map aib) (t.data.toList.map aib)=true):s=t:=by rw[uS]at a;exact ByteArray.ext (Array.toList_inj.1 (FS (eq_of_beq a)))
theorem R3{a b:AV}(g:EU a b=true){x y:Value}(c:VR ρ a x)(d:VR ρ b y):x=y:=by
 unfold EU at g;split at g;·rw[c.qQ,d.qQ,eq_of_beq g]
 ·simp only[agM]at g;obtain⟨e,h1,rfl⟩:=c.jz;obtain⟨f,h2,rfl⟩:=d.jz;have:=agO g.1;have:=wF (h1.symm.trans (this.trans h2));have h3:=g.2;rw[fA]at h3;rw[this,eq_of_beq h3]
 ·obtain⟨t1,h1,rfl⟩:=c.mM;obtain⟨t2,h2,rfl⟩:=d.mM;subst h1;subst h2;rw[KJ g]
 cases g
theorem KK:∀{l m:List AV},yz l m=true→∀{x y:List Value},be ρ l x→be ρ m y→x=y|[],[],_,[],[],_,_=>rfl|a::l,b::m,e,c::x,d::y,h1,h2=>by simp only[yz,agM]at e;rw[R3 e.1 h1.1 h2.1,KK e.2 h1.2 h2.2]|[],_::_,e,_,_,_,_=>by simp[yz]at e|_::_,[],e,_,_,_,_=>by simp[yz]at e|[],[],_,_::_,_,e,_=>by simp[be]at e|[],[],_,[],_::_,_,e=>by simp[be]at e|_::_,_::_,_,[],_,e,_=>by simp[be]at e|_::_,_::_,_,_::_,[],_,e=>by simp[be]at e
theorem F6{t:TypeId}{d:ep}(F:rZ P t=some d){k:AV}{kv:Value}(m:VR ρ k kv):∀{es:List aR}{br:List MapEntry}(i0 i:Nat)(v:AV),ch ρ es br→findKey d k es i0=some (some (i0+i,v))→ww d k es i=true→∃c,br[i]?=some c∧c.key=kv
 |[],[],i0,i,v,_,f,_=>by trivial
 |e::es,c::br,i0,i,v,h1,f,hs=>by
  simp only[findKey]at f;cases i with
  |zero=>
   refine⟨c,rfl,?_⟩;split at f
   ·rename_i he;obtain⟨kd,hu,g,hd⟩:=F4 F;rcases hd with⟨rfl,rfl⟩|⟨A,rfl,rfl⟩|⟨rfl,rfl⟩|⟨l,rfl⟩;·unfold dZ at he;split at he<;>(try(rename_i g _;cases g;done))<;>(try(cases he;done));rename_i b;have a:=h1.1;rw[b]at a;injection he with he;rw[a.qQ,m.qQ,eq_of_beq he]
    ·unfold dZ at he;split at he<;>(try(rename_i g _;cases g;done))<;>(try(cases he;done));rename_i b;have a:=h1.1;rw[b]at a;split at he;·rename_i n;injection he with he;rw[fA]at he;obtain⟨B,e1,rfl⟩:=m.jz;obtain⟨C,e2,o⟩:=a.jz;have:=wF (e1.symm.trans (n.trans e2));rw[o,this,eq_of_beq he]
     cases he
    ·unfold dZ at he;split at he<;>(try(rename_i g _;cases g;done))<;>(try(cases he;done));rename_i b;have a:=h1.1;rw[b]at a;injection he with he;obtain⟨t1,e1,rfl⟩:=m.mM;obtain⟨t2,e2,o⟩:=a.mM;subst e1;subst e2;rw[o,KJ he]
    simp only[ww]at hs;split at hs;·rename_i D E n p;have a:=h1.1;rw[p]at a;obtain⟨x,q,e1⟩:=m.sf;obtain⟨y,r,e2⟩:=a.sf;have:=KK hs q r;rw[e1,e2,Array.toList_inj.1 this]
    ·cases hs
    rename_i h2 _;exact(h2 _ rfl).elim
   ·exfalso;have:∀(es:List aR)(j i:Nat)(v:AV),findKey d k es j=some (some (i,v))→j≤i:=by
     intro es;induction es with
     |nil=>intro j i v F;simp[findKey]at F
     |cons e es s=>
      intro j i v F;simp only[findKey]at F;split at F;·simp only[acm,age]at F;omega
      ·have:=s _ _ _ F;omega
      cases F
    have:=this _ _ _ _ f;omega
   cases f
  |succ i=>
   split at f;·simp only[acm,age]at f;omega
   ·obtain⟨u,w,z⟩:=F6 F m (i0+1) i v h1.2.2.2 (by rw[f];simp;omega) hs;exact⟨u,by simpa using w,z⟩
   cases f
 |[],_::_,_,_,_,h1,_,_=>by trivial
 |_::_,[],_,_,_,h1,_,_=>by trivial
end
section
variable{P:Program}{h:cJ}{ρ:aL}{H H':af}{w:World}{nt:Nat}{aa:am AV}{a:Act}{o:Oper}{ao:bO}{v:AV}
def _root_.Go.Value.qS:Value→Bool
 |.int .. |.float .. |.complex .. |.string .. =>false
 |_=>true
def AV.qS:AV→Bool
 |.int .. |.aC .. |.bX=>false
 |_=>true
theorem VR.qS{x:AV}{c:Value}(a:VR ρ x c)(k:x.qS=true):c.qS=true:=by cases x<;>cases c<;>first|(simp[VR]at a;done)|rfl|(simp[AV.qS]at k;done)
theorem R4{x y:Value}(a:x.qS=true)(t:TypeId):binOp .eql t x y=(do pure (.bool (←Op.equal t x y))):=by cases x<;>first|(simp[Value.qS]at a;done)|(cases y<;>rfl)
theorem R5{x y:Value}(a:x.qS=true)(t:TypeId):binOp .neq t x y=(do pure (.bool (!(←Op.equal t x y)))):=by cases x<;>first|(simp[Value.qS]at a;done)|(cases y<;>rfl)
theorem R6{g:Nat}{d:ep}{x y:AV}{r:Bool}(a:dZ g d x y=some r)(h1:d≠.int)(h2:d≠.aC):x.qS=true:=by unfold dZ at a;split at a<;>first|rfl|(exact absurd rfl h1)|(exact absurd rfl h2)|(cases a;done)
theorem F7{g:Nat}{d:ep}{x y:AV}{r:Bool}(a:dZ g d x y=some r):x.bB=true∧y.bB=true:=by unfold dZ at a;split at a<;>first|exact⟨rfl,rfl⟩|(cases a;done)
theorem KL{f:Nat}{c:Bool}{t:TypeId}{d:ep}(i:jy P f c t=some d):(d=.int→∃k,P.underlying t=some (.int k))∧(d=.aC→P.underlying t=some .string)∧(∀a e,d=.iface a e→a=c∧∃b,P.underlying t=some (.interface b)∧e=b.isEmpty):=by
 cases f with
 |zero=>simp[jy]at i
 |succ f=>
  unfold jy at i;split at i;all_goals(try(cases i;done))
  all_goals(rename_i hu)
  all_goals(try(injection i with i;subst i))
  all_goals(try(refine⟨λe=>?_,λe=>?_,λa g e=>?_⟩))
  all_goals(try(first|(cases e;done)|exact⟨_,hu⟩|exact hu))
  ·split at i;·injection i with i;subst i;cases e
   cases i
  ·split at i;·injection i with i;subst i;cases e
   cases i
  ·split at i;·injection i with i;subst i;cases e
   cases i
  ·injection e with e1 e2;exact⟨e1.symm,_,hu,e2.symm⟩
  ·split at i;·cases i
   rw[afi]at i;obtain⟨_,_,i⟩:=i;subst i;cases e
  ·split at i;·cases i
   rw[afi]at i;obtain⟨_,_,i⟩:=i;subst i;cases e
  ·split at i;·cases i
   rw[afi]at i;obtain⟨_,_,i⟩:=i;subst i;cases e
  ·split at i;·injection i with i;subst i;cases e
   cases i
  ·split at i;·injection i with i;subst i;cases e
   cases i
  split at i;·injection i with i;subst i;cases e
  cases i
theorem R7{t:TypeId}{a:Array (String×TypeId)}(b:P.underlying t=some (.interface a))(n:Nat)(w:World):(Op.eqGuardIn (n+1) t .nilIface .nilIface).run P w=.ok (!a.isEmpty) w:=by simp[b,Op.eqGuardIn,Sem.run_bind,bW,Result.andThen_ok,Sem.run_pure]
theorem R8{op:BinOp}{t:TypeId}{x y:Operand}{c j:AV}{e i:Value}(k:VR ρ c e)(m:VR ρ j i){g f:Nat}{d:ep}{r:Bool}(hd:jy P f (qO x||qO y) t=some d)(hg:yI P d t=true)(he:dZ g d c j=some r)(w:World):(eqGuard op t x y e i).run P w=.ok () w:=by
 have h0:op=.eql∨op=.neq∨(eqGuard op t x y e i).run P w=.ok () w:=by cases op<;>first|exact .inl rfl|exact .inr (.inl rfl)|exact .inr (.inr (by simp[eqGuard]))
 have h1:op=.eql∨op=.neq→(eqGuard op t x y e i)=eqGuard .eql t x y e i:=by rintro(rfl|rfl)<;>rfl
 have key:(eqGuard .eql t x y e i).run P w=.ok () w:=by
  unfold eqGuard;simp only[ag9,ac6,bK,pure_bind];split
  ·have h1:c=.nilIface:=by have a:=(F7 he).1;cases c<;>first|rfl|(simp[AV.bB]at a;done)|(simp[VR]at k)
   have h2:j=.nilIface:=by have a:=(F7 he).2;cases j<;>first|rfl|(simp[AV.bB]at a;done)|(simp[VR]at m)
   subst h1;subst h2;unfold dZ at he;split at he<;>(try(rename_i a;cases a;done))<;>(try(rename_i a _;cases a;done))<;>(try(cases he;done));split at he
   ·rename_i b;obtain⟨e1,p,e2,q⟩:=(KL hd).2.2 _ _ rfl;subst e1;have n:p.isEmpty=true→(Op.eqGuardIn Op.maxDepth t .nilIface .nilIface).run P w=.ok false w:=λo=>by have:=R7 e2 9999 w;rw[o]at this;exact this
    rw[q]at b;clear h0 h1 hd hg he k m;cases x<;>cases y<;>simp[qO]at b⊢<;>simp[n (by simpa using b)]
   cases he
  ·obtain⟨s,h1⟩:∃l,c=.agg l:=by have a:=(F7 he).1;cases c<;>first|exact⟨_,rfl⟩|(simp[AV.bB]at a;done)|(simp[VR]at k)
   subst h1;have:P.eqGuardType P.depth t=false:=by cases d with|eW l=>simpa[yI]using hg|_=>exfalso;clear h0 h1 hd hg k m;cases g<;>simp[dZ]at he
   simp[this]
  simp
 grind
theorem R9(C:dR P h ρ H w nt aa a){op:BinOp}{t:TypeId}{x y:Operand}{p:TypeId}(B:o.op=.binOp op t x y p){b:Bool}{d:ep}{u z:aG}(f:op=if b then .neq else .eql)(hd:jy P 16 (qO x||qO y) t=some d)(hg:yI P d t=true)(h1:gI P nt x=some u)(h2:gI P nt y=some z)(m:∀k,P.underlying t≠some (.int k))(n:P.underlying t≠some .string)(he:aB (.eq b d u z) aa H=some (v,H')):bx P h ρ w (execOp a.eval o) v H':=by
 have j:=C.gv h1;have A:=C.gv h2;simp only[aB,afi,age]at he;obtain⟨q,⟨r,l,rfl⟩,rfl,rfl⟩:=he;have i:=KL hd;have c:=VR.qS j (R6 l (λe=>by obtain⟨k,i⟩:=i.1 e;exact m k i) (λe=>n (i.2.1 e)));have g:=C4 ρ 16 hd l j A 10000 w (by omega);have s:=R8 (op:=op) (P:=P) j A hd hg l w;refine bx.val (c:=.bool (r !=b)) (w':=w) ?_ (cZ.bS C.I (by rfl));simp only[execOp,B,Sem.run_bind,s,Result.andThen_ok];cases b;·simp[f,c,g,ac6,bK,R4,Op.equal,Op.maxDepth,Sem.run_bind,Result.andThen_ok,Sem.run_pure,Bool.bne_false]
 simp[f,c,g,bm,R5,Op.equal,Op.maxDepth,Sem.run_bind,Result.andThen_ok,Sem.run_pure,Bool.bne_true]
theorem ch.kF{k v:AV}{kv a:Value}(b:VR ρ k kv)(d:VR ρ v a):∀{es:List aR}{br:List MapEntry}(i:Nat),ch ρ es br→ch ρ (kF v k es i) (br.modify i λe=>{e with key:=kv,val:=a})|[],[],i,_=>by simp[Go.ak.kF,ch]|e::es,c::br,0,f=>by simp_all[ch,Go.ak.kF,List.modify_zero_cons]|e::es,c::br,i+1,f=>by exact⟨f.1,f.2.1,f.2.2.1,ch.kF b d i f.2.2.2⟩|[],_::_,_,f=>by trivial|_::_,[],_,f=>by trivial
theorem ch.KM{v:AV}{a:Value}(b:VR ρ v a):∀{es:List aR}{br:List MapEntry}(i:Nat),ch ρ es br→ch ρ (es.modify i λe=>{e with val:=v}) (br.modify i λe=>{e with val:=a})|[],[],i,_=>by grind|e::es,c::br,0,d=>by simp_all[ch,List.modify_zero_cons]|e::es,c::br,i+1,d=>by exact⟨d.1,d.2.1,d.2.2.1,ch.KM b i d.2.2.2⟩|[],_::_,_,d=>by trivial|_::_,[],_,d=>by trivial
theorem ch.push{k v:AV}{kv a:Value}(n:Nat)(b:VR ρ k kv)(d:VR ρ v a):∀{es:List aR}{br:List MapEntry},ch ρ es br→ch ρ (es++[⟨k,v,n⟩]) (br++[{key:=kv,val:=a,born:=n}])|[],[],_=>by trivial|e::es,c::br,f=>by exact⟨f.1,f.2.1,f.2.2.1,ch.push n b d f.2.2.2⟩|[],_::_,f=>by trivial|_::_,[],f=>by trivial
theorem ch.erase:∀{es:List aR}{br:List MapEntry}(i:Nat),ch ρ es br→ch ρ (oX es i) (br.eraseIdx i)|[],[],i,_=>by trivial|e::es,c::br,0,a=>by simp_all[ch,oX,List.eraseIdx_cons_zero]|e::es,c::br,i+1,a=>by exact⟨a.1,a.2.1,a.2.2.1,ch.erase i a.2.2.2⟩|[],_::_,_,a=>by trivial|_::_,[],_,a=>by trivial
theorem ch.uP:∀{es:List aR}{br:List MapEntry}(i:Nat),i<es.length→ch ρ es br→∃c,br[i]?=some c∧c.born=uP es i|[],_,i,hi,_=>by grind|e::es,c::br,0,_,a=>by exact⟨c,rfl,a.2.2.1.symm⟩|e::es,c::br,i+1,hi,a=>by exact ch.uP (es:=es) i (by grind) a.2.2.2|_::_,[],_,_,a=>by trivial
theorem ch.pG(b:Nat):∀{es:List aR}{br:List MapEntry}(i0 i:Nat),ch ρ es br→pG b es i0=some i→i0≤i∧br.findIdx? (λe=>(e.born:Int)==(b:Int))=some (i - i0)∧∃e c,es[i - i0]?=some e∧br.find? (λe=>e.born==b)=some c∧VR ρ e.key c.key∧VR ρ e.val c.val
 |[],_,_,_,_,p=>by trivial
 |e::es,c::br,i0,i,p,a=>by
  simp only[Go.ak.pG]at a;split at a
  ·rename_i hb;have hb:=agO hb;injection a with a;subst a;have d:c.born=b:=by rw[←p.2.2.1];exact hb
   refine⟨adW _,by grind,e,c,by simp,by grind,p.1,p.2.1⟩
  rename_i hb;have hb:¬e.born=b:=λq=>hb (by rw[q];exact ahQ _);have d:¬c.born=b:=by rw[←p.2.2.1];exact hb
  have f:¬(c.born:Int)=(b:Int):=by omega
  obtain⟨g,j,k,l,m,n,o⟩:=ch.pG b (i0+1) i p.2.2.2 a;grind
 |_::_,[],_,_,p,_=>by trivial
theorem AI{b:Nat}(w:World){a:Obj}(g:w.heap[b]?=some a)(d:∀c e f,a≠.cells c e f)(o:Obj):(setObj b o).run P w=.ok () {w with heap:=w.heap.setIfInBounds b o}:=by cases a with|cells c e f=>grind|_=>simp[g,setObj,Sem.run]
theorem map_set(g:bt P h ρ H w){id:ac}{es:List aR}{a:Nat}(e:H.get id=.map es a){b:Nat}(hb:ρ id=some (b,0)){es':List aR}{ces':Array MapEntry}(he:ch ρ es' ces'.toList)(c:Nat)(gJ:jR ces' c){w1:World}(e1:w1.heap=w.heap)(e2:w1.os=w.os)(i:w1.tape=w.tape)(j:w1.output=w.output):∃w',(setObj b (.map ces' c)).run P w1=.ok () w'∧bt P h ρ (H.set id (.map es' c)) w'∧d9 h w w':=by
 have f:H.get id≠.none:=by rw[e];simp
 obtain⟨br,d,_⟩:=qR g e hb;refine⟨_,AI w1 (by rw[e1];exact d) (λ_ _ _=>by simp) _,?_⟩;have:=g.se (i:=id) (o':=.map es' c) (ob':=.map ces' c) f (by rw[e];rfl) hb rfl (by simp only[OR];exact⟨trivial,trivial,gJ,he⟩) (by simp[gB]) (w':={w1 with heap:=w1.heap.setIfInBounds b (.map ces' c)}) (by simp only[e1]) e2 i j;rw[e]at this;exact this
theorem KN(k:Value)(w:World):∃w',(Instr.keyThatStays k k).run P w=.ok k w'∧w'.heap=w.heap∧w'.os=w.os∧w'.tape=w.tape∧w'.output=w.output:=by
 unfold Instr.keyThatStays;split;·simp
 cases a:(Question.extern "map.whichKeyStays" 2).forced;·exact⟨w.drew,by simp_all,rfl,rfl,rfl,rfl⟩
 simp_all
end
section
variable{P:Program}{f:cJ}{ρ:aL}{H H':af}{w:World}{nt:Nat}{aa:am AV}{a:Act}{v:AV}
theorem bt.congr(h:bt P f ρ H w){a:af}(c:a.next=H.next)(hg:∀j,a.get j=H.get j):bt P f ρ a w:=⟨λi hi=>by rw[hg]at hi⊢;exact h.ev i hi,λi j b x y d hi hj=>by rw[hg]at hi hj;rw[hg,hg];exact h.kH i j b x y d hi hj,λi j hi=>by rw[hg]at hi⊢;rw[c];exact h.aK i j hi,λi b x hi e=>by rw[hg]at hi e;exact h.wr i b x hi e,λi hi=>by rw[c]at hi;rw[hg];exact h.dV i hi,h.new,h.lT,λi b x g hi=>by rw[hg]at hi⊢;exact h.jQ i b x g hi,h.fu,λi b x hi=>by rw[hg]at hi;exact h.rd i b x hi,λi hi=>by rw[hg,c];exact⟨(h.un i hi).1,(h.un i hi).2.1,λj=>by rw[hg];exact(h.un i hi).2.2 j⟩,h.eT⟩
theorem F8{w:World}{b:Nat}{a:Obj}(h:w.heap[b]?=some a):w.heap.setIfInBounds b a=w.heap:=by grind
theorem bt.KO(h:bt P f ρ H w){i:ac}{c:b9}(hi:H.get i≠.none)(j:(H.get i).kW=false)(k:(H.get i).aK=[])(d:c.aK=[])(l:∀x a,OR P ρ (H.get i) x a→OR P ρ c x a∧∀q,gB P q c a):bt P f ρ (H.set i c) w:=by obtain⟨b,x,a,e,hl,hb,g⟩:=h.aF hi;obtain⟨h1,h2⟩:=l x a g;have:=(h.se (w':=w) hi j e d h1 (h2 _) (by rw[F8 hb]) rfl rfl rfl).1;rw[k]at this;exact this
def aR.kv(e:aR):AV×AV:=(e.key,e.val)
theorem dG.cO{es:List aR}{l m:List MapEntry}(d:l.Perm m):dG ρ es l→∃a,a.Perm es∧dG ρ a m:=by
 induction d generalizing es with
 |nil=>intro h;exact⟨es,ais _,h⟩
 |cons x _ g=>intro h;cases es with|nil=>simp[dG]at h|cons e es=>simp only[dG]at h;obtain⟨a,p,q⟩:=g h.2.2;exact⟨e::a,p.cons e,by simp only[dG];exact⟨h.1,h.2.1,q⟩⟩
 |swap x y r=>intro h;match es,h with|[],h=>simp[dG]at h|[_],h=>simp[dG]at h|e1::e2::es,h=>simp only[dG]at h;exact⟨e2::e1::es,ahw ..,by simp only[dG];exact⟨h.2.2.1,h.2.2.2.1,h.1,h.2.1,h.2.2.2.2⟩⟩
 |trans _ _ b c=>intro h;obtain⟨e1,p1,i⟩:=b h;obtain⟨e2,p2,j⟩:=c i;exact⟨e2,p2.trans p1,j⟩
theorem dG.C6{es a:List aR}(g:es.Perm a):∀{l:List MapEntry},dG ρ es l→∃b,b.Perm l∧dG ρ a b:=by
 induction g with
 |nil=>intro l h;exact⟨l,ais _,h⟩
 |cons x _ i=>intro l h;cases l with|nil=>simp[dG]at h|cons c l=>simp only[dG]at h;obtain⟨b,p,q⟩:=i h.2.2;exact⟨c::b,p.cons c,by simp only[dG];exact⟨h.1,h.2.1,q⟩⟩
 |swap x y r=>intro l h;match l,h with|[],h=>simp[dG]at h|[_],h=>simp[dG]at h|c1::c2::l,h=>simp only[dG]at h;exact⟨c2::c1::l,ahw ..,by simp only[dG];exact⟨h.2.2.1,h.2.2.2.1,h.1,h.2.1,h.2.2.2.2⟩⟩
 |trans _ _ d e=>intro l h;obtain⟨e1,p1,j⟩:=d h;obtain⟨e2,p2,k⟩:=e j;exact⟨e2,p2.trans p1,k⟩
theorem dG.kv:∀{es a:List aR}{m:List MapEntry},es.map aR.kv=a.map aR.kv→dG ρ es m→dG ρ a m
 |[],[],m,_,h=>h
 |e::es,d::a,m,b,h=>by simp only[agN,ag4,aR.kv,age]at b;cases m with|nil=>trivial|cons c m=>simp only[dG]at h⊢;rw[←b.1.1,←b.1.2];exact⟨h.1,h.2.1,dG.kv b.2 h.2.2⟩
 |[],_::_,_,b,_=>by grind
 |_::_,[],_,b,_=>by grind
def yT:List aR→List MapEntry→List aR
 |e::es,c::m=>{e with born:=c.born}::yT es m
 |_,_=>[]
theorem dG.exact:∀{es:List aR}{m:List MapEntry},dG ρ es m→ch ρ (yT es m) m∧(yT es m).map aR.kv=es.map aR.kv|[],[],_=>by trivial|e::es,c::m,h=>by obtain⟨h1,h2⟩:=dG.exact h.2.2;simp only[yT,ch,agN,h2];exact⟨⟨h.1,h.2.1,by simp,h1⟩,by rfl⟩|[],_::_,h=>by trivial|_::_,[],h=>by trivial
theorem ch.open:∀{es:List aR}{m:List MapEntry},ch ρ es m→dG ρ es m|[],[],_=>by trivial|e::es,c::m,h=>by exact⟨h.1,h.2.1,ch.open h.2.2.2⟩|[],_::_,h=>by trivial|_::_,[],h=>by trivial
theorem KP(h:bt P f ρ H w){id:ac}{es:List aR}(g:H.get id=.dB es):∃(c i:List aR)(a:Nat),c.Perm es∧i.map aR.kv=c.map aR.kv∧bt P f ρ (H.set id (.map i a)) w:=by obtain⟨b,x,j,e,hl,hb,d⟩:=h.aF (i:=id) (by rw[g];simp);rw[g]at d;cases j<;>simp only[OR]at d;rename_i br a;obtain⟨rfl,gJ,l,h1,h2⟩:=d;obtain⟨c,p1,p2⟩:=dG.cO h1 h2;obtain⟨p3,p4⟩:=dG.exact p2;refine⟨c,yT c br.toList,a,p1,p4,?_⟩;have:=(h.se (i:=id) (o':=.map (yT c br.toList) a) (ob':=.map br a) (w':=w) (by rw[g];simp) (by rw[g];rfl) e rfl (by simp only[OR];exact⟨trivial,trivial,gJ,p3⟩) (by simp[gB]) (by rw[F8 hb]) rfl rfl rfl).1;rw[g]at this;exact this
theorem F9(h:bt P f ρ H w){id:ac}{c es d:List aR}{b:Nat}(e:H.get id=.map c b)(g:d.Perm es)(i:c.map aR.kv=d.map aR.kv):bt P f ρ (H.set id (.dB es)) w:=by refine h.KO (by rw[e];simp) (by rw[e];rfl) (by rw[e];rfl) rfl ?_;intro x j a;rw[e]at a;cases j<;>simp only[OR]at a⊢;obtain⟨rfl,rfl,gJ,h3⟩:=a;obtain⟨l,p1,p2⟩:=dG.C6 g (dG.kv i (ch.open h3));exact⟨⟨by trivial,gJ,l,p1,p2⟩,λq=>by simp[gB]⟩
theorem KQ{d:ep}{k:AV}:∀{es a:List aR},es.map aR.kv=a.map aR.kv→gf.go d k es=gf.go d k a|[],[],_=>rfl|e::es,b::a,h=>by simp only[agN,ag4,aR.kv,age]at h;simp only[gf.go,KQ h.2,h.1.1,h.1.2]|[],_::_,h=>by grind|_::_,[],h=>by grind
theorem R'{d:ep}{k:AV}{es a:List aR}(h:es.Perm a):gf.go d k es=gf.go d k a:=by
 induction h with
 |nil=>rfl
 |cons x _ g=>simp only[gf.go,g]
 |swap x y r=>
  simp only[gf.go];cases h1:dZ 64 d k x.key with
  |none=>cases h2:dZ 64 d k y.key with|none=>simp|some b=>cases b<;>simp
  |some q=>cases h2:dZ 64 d k y.key with|none=>cases q<;>simp|some b=>cases h3:gf.go d k r with|none=>cases q<;>cases b<;>simp|some r=>cases r<;>cases q<;>cases b<;>simp
 |trans _ _ c e=>exact c.trans e
theorem KR{d:ep}{k v:AV}:∀{es a:List aR},es.map aR.kv=a.map aR.kv→(lz d k v es).map aR.kv=(lz d k v a).map aR.kv
 |[],[],_=>rfl
 |e::es,b::a,h=>by
  simp only[agN,ag4,aR.kv,age]at h;have:mf d k e=mf d k b:=by simp only[mf,h.1.1]
  simp only[lz,agN,KR h.2,this,ag4,and_true];grind[aR.kv]
 |[],_::_,h=>by grind
 |_::_,[],h=>by grind
theorem C7{d:ep}{k:AV}:∀{es a:List aR},es.map aR.kv=a.map aR.kv→(mg d k es).map aR.kv=(mg d k a).map aR.kv
 |[],[],_=>rfl
 |e::es,b::a,h=>by
  simp only[agN,ag4,aR.kv,age]at h;have:mf d k e=mf d k b:=by simp only[mf,h.1.1]
  simp only[mg,this];split;·exact C7 h.2
  simp only[agN,C7 h.2,ag4,and_true];simp[h,aR.kv]
 |[],_::_,h=>by grind
 |_::_,[],h=>by grind
theorem Sc(d:ep)(k v:AV)(es:List aR):lz d k v es=es.map λe=>if mf d k e then{e with key:=k,val:=v}else e:=by induction es with|nil=>rfl|cons e es a=>simp[a,lz,agN]
theorem Sd(d:ep)(k:AV)(es:List aR):mg d k es=es.filter λe=>!mf d k e:=by induction es with|nil=>rfl|cons e es a=>simp only[mg,List.filter_cons,a];cases mf d k e<;>simp
theorem Se(d:ep)(k v:AV){es a:List aR}(h:es.Perm a):(lz d k v es).Perm (lz d k v a):=by grind[Sc]
theorem KS(d:ep)(k:AV){es a:List aR}(h:es.Perm a):(mg d k es).Perm (mg d k a):=by grind[Sd]
theorem yU{d:ep}{k v:AV}:∀{es:List aR},gf.go d k es=some none→lz d k v es=es∧mg d k es=es∧∀i,findKey d k es i=some none
 |[],_=>⟨rfl,rfl,λ_=>rfl⟩
 |e::es,h=>by
  simp only[gf.go]at h;split at h;·grind
  ·rename_i r h1 h2;injection h with h;subst h;obtain⟨a,b,c⟩:=yU (v:=v) h2;simp[h1,a,b,c,mf,lz,mg,findKey]
  grind
theorem C8{d:ep}{k v x:AV}:∀{es:List aR},gf.go d k es=some (some x)→∀i0,∃i,findKey d k es i0=some (some (i0+i,x))∧i<es.length∧kF v k es i=lz d k v es∧oX es i=mg d k es
 |[],h,_=>by simp_all[gf.go]
 |e::es,h,i0=>by
  simp only[gf.go]at h;split at h;·rename_i h1 h2;injection h with h;injection h with h;subst h;obtain⟨a,b,_⟩:=yU (v:=v) h2;simp[h1,a,b,mf,findKey,kF,lz,bm,oX,mg]
  ·rename_i r h1 h2;injection h with h;subst h;obtain⟨i,a,b,c,g⟩:=C8 (v:=v) h2 (i0+1);have:mf d k e=false:=by simp[mf,h1]
   refine⟨i+1,by grind[findKey],by grind,?_,?_⟩;all_goals simp[this,c,g,kF,lz,oX,mg]
  grind
theorem Ga{d:ep}(hd:tx d=true)(k:AV):∀(es:List aR)(i:Nat),i<es.length→ww d k es i=true
 |[],i,h=>by grind
 |e::es,0,_=>by cases d<;>first|rfl|(simp[tx]at hd)
 |e::es,i+1,h=>by exact Ga hd k es i (by grind)
def bO.KT:bO→Option aG
 |.lookup _ _ _ m _|.ju _ m _ _|.delete _ m _=>some m
 |_=>none
def wI(aa:am AV)(H:af)(ao:bO):Prop:=∀a id es,ao.KT=some a→gv aa a=.map id→H.get id≠.dB es
theorem Gb{s:Sem Next}{ao:bO}(n:∀{L H1:af}{v:AV},bt P f ρ L w→wI aa L ao→aB ao aa L=some (v,H1)→bx P f ρ w s v H1)(Q:bt P f ρ H w)(he:aB ao aa H=some (v,H')):bx P f ρ w s v H':=by
 by_cases M:wI aa H ao;·exact n Q M he
 simp only[wI,Classical.not_forall,not_imp,ne_eq,Classical.not_not]at M;obtain⟨N,id,es,A,B,I⟩:=M;obtain⟨D,b,a,F,G,p⟩:=KP Q I;have t:wI aa (H.set id (.map b a)) ao:=by intro ag ar E h1 h2;rw[A]at h1;injection h1 with h1;subst h1;rw[B]at h2;injection h2 with h2;subst h2;rw[af.aD,aH rfl];simp
 have hg:(H.set id (.map b a)).get id=.map b a:=by rw[af.aD,aH rfl]
 have l:∀{v:AV}{esy es1 E:List aR}{c:Nat}{H1 J:af},bx P f ρ w s v H1→H1.get id=.map esy c→(∀j,j≠id→H1.get j=H.get j)→H1.next=H.next→es1.Perm E→esy.map aR.kv=es1.map aR.kv→J.get id=.dB E→(∀j,j≠id→J.get j=H.get j)→J.next=H.next→bx P f ρ w s v J:=by
  intro v esy es1 E c H1 J R S T V W X Y Z g8;obtain⟨q,w',hr,O,x1,x2,x3,x4⟩:=R;refine⟨q,w',hr,O,x1,x2,(F9 x3 S W X).congr (by rw[g8];exact V.symm) ?_,x4⟩;intro j;rw[af.aD];by_cases e:j=id;·subst e;rw[aH rfl,Y]
  rw[an e,T j e,Z j e]
 have o:∀d k,gf d k es=gf d k b:=by
  intro d k;unfold gf;split;·rw[←R' F,←KQ G]
  rfl
 have g:∀{d:ep}{k:AV}{r:Option AV},gf d k b=some r→tx d=true∧gf.go d k b=some r:=by
  intro d k r h;unfold gf at h;split at h;·exact⟨by assumption,h⟩
  cases h
 cases ao<;>simp only[bO.KT,acm,reduceCtorEq]at A;all_goals subst A
 case lookup d z ok N k=>
  simp only[aB]at he;split at he;·cases he
  rename_i m;simp only[B,I,o]at he;split at he;·rename_i x C;obtain⟨h1,h2⟩:=g C;obtain⟨i,u,_⟩:=C8 (v:=x) h2 0;obtain⟨rfl,rfl⟩:=he;refine l (n p t (v:=if ok=true then .tuple [x,.bool true]else x) (H1:=H.set id (.map b a)) ?_) hg (λj hj=>by rw[af.aD,an hj]) rfl F G I (λ_ _=>rfl) rfl;simp only[aB,B,hg,u,m,ac6,bK]
  ·rename_i C;obtain⟨h1,h2⟩:=g C;obtain⟨_,_,u⟩:=yU (v:=z) h2;obtain⟨rfl,rfl⟩:=he;refine l (n p t (v:=if ok=true then .tuple [z,.bool false]else z) (H1:=H.set id (.map b a)) ?_) hg (λj hj=>by rw[af.aD,an hj]) rfl F G I (λ_ _=>rfl) rfl;simp only[aB,B,hg,u,m,ac6,bK]
  cases he
 case ju d N k x=>
  simp only[aB]at he;split at he;·cases he
  rename_i m;simp only[B,I,o]at he;split at he;·rename_i y C;obtain⟨h1,h2⟩:=g C;obtain⟨i,u,K,f3,_⟩:=C8 (v:=gv aa x) h2 0;obtain⟨rfl,rfl⟩:=he;refine l (esy:=kF (gv aa x) (gv aa k) b i) (es1:=lz d (gv aa k) (gv aa x) D) (c:=a) (n p t (v:=.aiw) (H1:=(H.set id (.map b a)).set id (.map (kF (gv aa x) (gv aa k) b i) a)) ?_) (by rw[af.aD,aH rfl]) (λj hj=>by rw[af.aD,an hj,af.aD,an hj]) rfl (Se d _ _ F) (by rw[f3];exact KR G) (by rw[af.aD,aH rfl]) (λj hj=>by rw[af.aD,an hj]) rfl;simp only[aB,B,hg,u,m,ac6,bK,agW,Ga h1 _ _ _ K,bm]
  ·rename_i C;obtain⟨h1,h2⟩:=g C;obtain⟨_,_,u⟩:=yU (v:=gv aa x) h2;obtain⟨rfl,rfl⟩:=he;refine l (esy:=b++[⟨gv aa k,gv aa x,a⟩]) (es1:=D++[⟨gv aa k,gv aa x,0⟩]) (c:=a+1) (n p t (v:=.aiw) (H1:=(H.set id (.map b a)).set id (.map (b++[⟨gv aa k,gv aa x,a⟩]) (a+1))) ?_) (by rw[af.aD,aH rfl]) (λj hj=>by rw[af.aD,an hj,af.aD,an hj]) rfl (F.append_right _) (by simp[G,aR.kv]) (by rw[af.aD,aH rfl]) (λj hj=>by rw[af.aD,an hj]) rfl;simp only[aB,B,hg,u,m,ac6,bK]
  cases he
 case delete d N k=>
  simp only[aB]at he;split at he;·cases he
  rename_i m;simp only[B,I,o]at he;split at he;·rename_i r C;obtain⟨h1,h2⟩:=g C;obtain⟨rfl,rfl⟩:=he;cases r with|some y=>obtain⟨i,u,K,_,f4⟩:=C8 (v:=gv aa k) h2 0;refine l (esy:=oX b i) (es1:=mg d (gv aa k) D) (c:=a) (n p t (v:=.aiw) (H1:=(H.set id (.map b a)).set id (.map (oX b i) a)) ?_) (by rw[af.aD,aH rfl]) (λj hj=>by rw[af.aD,an hj,af.aD,an hj]) rfl (KS d _ F) (by rw[f4];exact C7 G) (by rw[af.aD,aH rfl]) (λj hj=>by rw[af.aD,an hj]) rfl;simp only[aB,B,hg,u,m,ac6,bK,agW]|none=>obtain⟨_,K,u⟩:=yU (v:=gv aa k) h2;refine l (esy:=b) (es1:=mg d (gv aa k) D) (c:=a) (n p t (v:=.aiw) (H1:=(H.set id (.map b a)).set id (.map b a)) ?_) (by rw[af.aD,aH rfl]) (λj hj=>by rw[af.aD,an hj,af.aD,an hj]) rfl (KS d _ F) (by rw[←C7 G,K]) (by rw[af.aD,aH rfl]) (λj hj=>by rw[af.aD,an hj]) rfl;simp only[aB,B,hg,u,m,ac6,bK]
  cases he
end
section
variable{P:Program}{f:cJ}{ρ:aL}{H H':af}{w:World}{nt:Nat}{aa:am AV}{a:Act}{o:Oper}{ao:bO}{v:AV}
theorem Sf(h:dR P f ρ H w nt aa a){t:TypeId}{m k:Operand}{ok:Bool}(D:o.op=.lookup t m k ok)(g:bN P nt o=some ao)(S:wI aa H ao)(he:aB ao aa H=some (v,H')):bx P f ρ w (execOp a.eval o) v H':=by
 simp only[bN,D,adO,acR]at g;obtain⟨d,hd,g⟩:=g;split at g
 ·rename_i W e;simp only[acR,af1,acm]at g;obtain⟨kd,n,z,T,X,h1,N,h2,rfl⟩:=g;obtain⟨zv,B,C,V⟩:=tW T;have E:=h.gv h1;have F:=h.gv h2;simp only[aB]at he;split at he;·cases he
  rename_i r;have r:jk kd (gv aa N)=true:=by simpa using r
  have s:=λem w=>C5 n r F em (P:=P) w;have l:∀{c:Value},VR ρ z c→VR ρ (if ok=true then .tuple [z,.bool false]else z) (if ok=true then .tuple #[c,.bool false]else c):=by
   intro c g;cases ok;·exact g
   simp[VR,be,g]
  have u:∀{x:AV}{c:Value},VR ρ x c→VR ρ (if ok=true then .tuple [x,.bool true]else x) (if ok=true then .tuple #[c,.bool true]else c):=by
   intro x c g;cases ok;·exact g
   simp[VR,be,g]
  split at he
  ·rename_i G;simp only[acm,age]at he;obtain⟨rfl,rfl⟩:=he;rw[G]at E;have J:=E.tV;obtain⟨q,y,A⟩:=tY (P:=P) n F w (es:=[]) (br:=[]) (by simp[ch]) (r:=none) rfl;have K:q=none:=by cases q<;>simp_all[FR]
   subst K;refine bx.val (c:=if ok=true then .tuple #[zv,.bool false]else zv) (w':=w) ?_ (cZ.bS h.I (l (C ρ)));simp only[execOp,D,Instr.lookup,Sem.run_bind,bW hd,Result.andThen_ok,J,Sem.run_pure,s,y,B]
  ·rename_i id G;rw[G]at E;obtain⟨b,hb,J⟩:=E.oC;split at he
   ·rename_i es O L;obtain⟨br,Q,R⟩:=qR h.I L hb;split at he
    ·rename_i i x M;simp only[acm,age]at he;obtain⟨rfl,rfl⟩:=he;obtain⟨q,y,A⟩:=tY (P:=P) n F w R M;obtain⟨⟨j,c⟩,rfl⟩:∃p,q=some p:=by cases q with|none=>simp[FR]at A|some p=>exact⟨p,rfl⟩
     simp only[FR]at A;refine bx.val (c:=if ok=true then .tuple #[c,.bool true]else c) (w':=w) ?_ (cZ.bS h.I (u A.2.1));simp only[execOp,D,Instr.lookup,Sem.run_bind,bW hd,Result.andThen_ok,J,Sem.run_pure,s,y,nP Q]
    ·rename_i M;simp only[acm,age]at he;obtain⟨rfl,rfl⟩:=he;obtain⟨q,y,A⟩:=tY (P:=P) n F w R M;have K:q=none:=by cases q<;>simp_all[FR]
     subst K;refine bx.val (c:=if ok=true then .tuple #[zv,.bool false]else zv) (w':=w) ?_ (cZ.bS h.I (l (C ρ)));simp only[execOp,D,Instr.lookup,Sem.run_bind,bW hd,Result.andThen_ok,J,Sem.run_pure,s,y,nP Q,B]
    cases he
   ·rename_i es L;exact absurd L (S _ _ _ rfl G)
   cases he
  cases he
 grind
theorem Sg(h:dR P f ρ H w nt aa a){t:TypeId}{m k:Operand}{ok:Bool}(b:o.op=.lookup t m k ok)(c:bN P nt o=some ao)(he:aB ao aa H=some (v,H')):bx P f ρ w (execOp a.eval o) v H':=Gb (λd e he=>Sf ⟨h.E,d⟩ b c e he) h.I he
theorem bx.skip{s:Sem Next}{w':World}(h:s.run P w=.ok .skip w')(a:cZ P f ρ w v H' undef w'):bx P f ρ w s v H':=⟨undef,w',.inr ⟨h,rfl⟩,a⟩
theorem Gc{n i:Nat}{x:AV}{a:Option (Nat×Value)}(h:FR ρ n (some (i,x)) a):∃c,a=some (i,c)∧VR ρ x c∧i<n:=by cases a with|none=>trivial|some p=>obtain⟨j,c⟩:=p;obtain⟨rfl,h2,h3⟩:=h;grind
theorem Gd{n:Nat}{a:Option (Nat×Value)}(h:FR ρ n none a):a=none:=by grind[FR]
theorem Sh(h:dR P f ρ H w nt aa a){t:TypeId}{m k x:Operand}(n:o.op=.mapUpdate t m k x∨o.op=.insert t m k x)(p:bN P nt o=some ao)(W:wI aa H ao)(he:aB ao aa H=some (v,H')):bx P f ρ w (execOp a.eval o) v H':=by
 have N:∃d,ia P t=some d∧∃E e,d=.map E e∧∃kd,rZ P E=some kd∧∃y,gI P nt m=some y∧∃j,gI P nt k=some j∧∃q,gI P nt x=some q∧ao=.ju kd y j q:=by rcases n with n|n<;>simp only[bN,n,adO,acR]at p<;>obtain⟨d,hd,p⟩:=p<;>refine⟨d,hd,?_⟩<;>split at p<;>(try(cases p;done))<;>simp only[acR,af1,acm]at p<;>obtain⟨kd,l,y,h1,j,h2,q,h3,X⟩:=p<;>exact⟨_,_,rfl,kd,l,y,h1,j,h2,q,h3,X.symm⟩
 obtain⟨d,hd,E,e,rfl,kd,l,y,h1,j,h2,q,h3,rfl⟩:=N;have A:(execOp a.eval o)=(do Instr.mapUpdate t (a.eval m) (a.eval k) (a.eval x);pure .skip):=by rcases n with n|n<;>simp only[execOp,n]
 have Q:=h.gv h1;have u:=h.gv h2;have R:=h.gv h3;simp only[aB]at he;split at he;·grind
 rename_i s;have s:jk kd (gv aa j)=true:=by simpa using s
 have B:=λem w=>C5 l s u em (P:=P) w;split at he
 ·rename_i id S;rw[S]at Q;obtain⟨b,hb,T⟩:=Q.oC;split at he
  ·rename_i es g r;obtain⟨br,D,z⟩:=qR h.I r hb;split at he
   ·rename_i i Y F;split at he;case isFalse=>grind
    rename_i O;obtain⟨rfl,rfl⟩:=he;obtain⟨Z,G,J⟩:=tY (P:=P) l u w z F;obtain⟨c,rfl,f3,f4⟩:=Gc J;obtain⟨ce,V,q2⟩:=F6 l u 0 i Y z (by grind) O;obtain⟨w1,r1,r2,r3,r4,r5⟩:=KN (P:=P) (a.eval k) w;obtain⟨w',K,L,M⟩:=map_set (P:=P) h.I r hb (es':=kF (gv aa q) (gv aa j) es i) (ces':=br.modify i λe=>{e with key:=a.eval k,val:=a.eval x}) (by simp[u,R,z,Array.toList_modify,ch.kF]) g (jR.modify (wH h.I r hb D) i (λ_=>rfl)) r2 r3 r4 r5;refine bx.skip (w':=w') ?_ ⟨ρ,cz.refl ρ,VR.aiw ρ,L,M⟩;have C:((br[i]?).map (·.key)).getD (a.eval k)=a.eval k:=by rw[ahP]at V;rw[V];simpa using q2
    simp only[A,Instr.mapUpdate,Sem.run_bind,bW hd,Result.andThen_ok,T,Sem.run_pure,B,G,nP D,C,r1,K]
   ·rename_i F;obtain⟨rfl,rfl⟩:=he;obtain⟨Z,G,J⟩:=tY (P:=P) l u w z F;have:=Gd J;subst this;obtain⟨w',K,L,M⟩:=map_set (P:=P) h.I r hb (es':=es++[⟨gv aa j,gv aa q,g⟩]) (ces':=br.push {key:=a.eval k,val:=a.eval x,born:=g}) (by simp[u,R,z,Array.toList_push,ch.push]) (g+1) (jR.push (wH h.I r hb D) rfl) (w1:=w) rfl rfl rfl rfl;refine bx.skip (w':=w') ?_ ⟨ρ,cz.refl ρ,VR.aiw ρ,L,M⟩;simp only[A,Instr.mapUpdate,Sem.run_bind,bW hd,Result.andThen_ok,T,Sem.run_pure,B,G,nP D,K]
   grind
  ·rename_i es r;exact absurd r (W _ _ _ rfl S)
  grind
 grind
theorem KU(h:dR P f ρ H w nt aa a){t:TypeId}{m k x:Operand}(b:o.op=.mapUpdate t m k x∨o.op=.insert t m k x)(c:bN P nt o=some ao)(he:aB ao aa H=some (v,H')):bx P f ρ w (execOp a.eval o) v H':=Gb (λd e he=>Sh ⟨h.E,d⟩ b c e he) h.I he
theorem KW{d:ep}{k:AV}:∀(es:List aR)(j i:Nat)(v:AV),findKey d k es j=some (some (i,v))→j≤i
 |[],j,i,v,h=>by simp_all[findKey]
 |e::es,j,i,v,h=>by
  simp only[findKey]at h;split at h;·grind
  ·have:=KW es _ _ _ h;omega
  grind
theorem ch.KX{d:ep}{k:AV}{kv:Value}(b:VR ρ k kv):∀{es:List aR}{br:List MapEntry}(i0 i:Nat)(x:AV),ch ρ es br→findKey d k es i0=some (some (i0+i,x))→ch ρ (Go.ak.kF x k es i) (br.modify i λe=>{e with key:=kv})
 |[],_,i0,i,x,_,a=>by simp[findKey]at a
 |e::es,c::br,i0,i,x,h,a=>by
  simp only[findKey]at a;cases i with
  |zero=>
   split at a;·simp only[acm,age]at a;exact⟨b,by rw[←a.2];exact h.2.1,h.2.2.1,h.2.2.2⟩
   ·have:=KW es _ _ _ a;omega
   cases a
  |succ i=>
   refine⟨h.1,h.2.1,h.2.2.1,?_⟩;split at a;·simp only[acm,age]at a;omega
   ·exact ch.KX b (i0+1) i x h.2.2.2 (by rw[a,show i0+1+i=i0+(i+1)by omega])
   cases a
 |_::_,[],_,_,_,h,_=>by simp[ch]at h
theorem Si(h:dR P f ρ H w nt aa a){t:TypeId}{m k:Operand}(E:o.op=.mapEntry t m k)(l:bN P nt o=some ao)(he:aB ao aa H=some (v,H')):bx P f ρ w (execOp a.eval o) v H':=by
 simp only[bN,E,adO,acR]at l;obtain⟨d,hd,l⟩:=l;split at l
 ·simp only[acR,af1,acm]at l;obtain⟨kd,j,z,V,om,h1,n,h2,rfl⟩:=l;obtain⟨zv,N,A,ag⟩:=tW V;have Q:=h.gv h1;have r:=h.gv h2;simp only[aB]at he;split at he;·cases he
  rename_i p;have p:jk kd (gv aa n)=true:=by simpa using p
  have B:=λem w=>C5 j p r em (P:=P) w;split at he
  ·rename_i id W;rw[W]at Q;obtain⟨b,hb,R⟩:=Q.oC;split at he
   ·rename_i es g u;obtain⟨br,D,s⟩:=qR h.I u hb;split at he
    ·rename_i i F y;split at he;case isFalse=>cases he
     rename_i O;obtain⟨rfl,rfl⟩:=he;obtain⟨X,G,J⟩:=tY (P:=P) j r w s y;obtain⟨c,rfl,Y,Z⟩:=Gc J;obtain⟨ce,S,q2⟩:=F6 j r 0 i F s (by rw[y,agW]) O;obtain⟨w1,r1,r2,r3,r4,r5⟩:=KN (P:=P) (a.eval k) w;rw[ahP]at S;obtain⟨ar,T,q4⟩:=ch.uP i Z s;rw[ahP]at T;obtain⟨w',K,L,M⟩:=map_set (P:=P) h.I u hb (es':=kF F (gv aa n) es i) (ces':=br.modify i λe=>{e with key:=a.eval k}) (by rw[Array.toList_modify];exact ch.KX r 0 i F s (by rw[y,agW])) g (jR.modify (wH h.I u hb D) i (λ_=>rfl)) r2 r3 r4 r5;refine bx.val (c:=.tuple #[c,goInt (uP es i)]) (w':=w') ?_ ⟨ρ,cz.refl ρ,?_,L,M⟩
     ·have C:((br[i]?).map (·.key)).getD (a.eval k)=a.eval k:=by rw[S];simpa using q2
      have q:((br[i]?).map (λx=>(x.born:Int))).getD 0=(uP es i:Int):=by rw[T];simp[q4]
      simp only[execOp,E,Instr.mapEntry,Sem.run_bind,bW hd,Result.andThen_ok,R,Sem.run_pure,B,G,nP D,C,r1,K,q]
     simp only[VR,be];exact⟨Y,VR.goInt ρ _,trivial⟩
    ·rename_i y;obtain⟨rfl,rfl⟩:=he;obtain⟨X,G,J⟩:=tY (P:=P) j r w s y;have:=Gd J;subst this;obtain⟨w',K,L,M⟩:=map_set (P:=P) h.I u hb (es':=es++[⟨gv aa n,z,g⟩]) (ces':=br.push {key:=a.eval k,val:=zv,born:=g}) (by rw[Array.toList_push];exact ch.push g r (A ρ) s) (g+1) (jR.push (wH h.I u hb D) rfl) (w1:=w) rfl rfl rfl rfl;refine bx.val (c:=.tuple #[zv,goInt g]) (w':=w') ?_ ⟨ρ,cz.refl ρ,?_,L,M⟩;·simp only[execOp,E,Instr.mapEntry,Sem.run_bind,bW hd,Result.andThen_ok,R,Sem.run_pure,B,G,nP D,N,K]
     exact⟨A ρ,VR.goInt ρ _,trivial⟩
    cases he
   cases he
  cases he
 cases l
theorem Sj(h:dR P f ρ H w nt aa a){t:TypeId}{m s x:Operand}(j:o.op=.entryStore t m s x)(n:bN P nt o=some ao)(he:aB ao aa H=some (v,H')):bx P f ρ w (execOp a.eval o) v H':=by
 simp only[bN,j,adO,acR,af1,acm]at n;obtain⟨G,h1,os,h2,y,h3,rfl⟩:=n;have p:=h.gv h1;have q:=h.gv h2;have z:=h.gv h3;simp only[aB]at he;split at he
 ·rename_i id k b A hs;rw[A]at p;rw[hs]at q;obtain⟨J,hb,B⟩:=p.oC;obtain⟨K,_,hi⟩:=q.jz;split at he
  ·rename_i es c g;obtain⟨br,r,u⟩:=qR h.I g hb;split at he
   ·rename_i i C;obtain⟨rfl,rfl⟩:=he;obtain⟨_,d,_⟩:=ch.pG b 0 i u C;obtain⟨w',D,E,F⟩:=map_set (P:=P) h.I g hb (es':=es.modify i λe=>{e with val:=gv aa y}) (ces':=br.modify i λe=>{e with val:=a.eval x}) (by simp[z,u,Array.toList_modify,ch.KM]) c (jR.modify (wH h.I g hb r) i (λ_=>rfl)) (w1:=w) rfl rfl rfl rfl;refine bx.skip (w':=w') ?_ ⟨ρ,cz.refl ρ,VR.aiw ρ,E,F⟩;have d:br.findIdx? (λe=>(e.born:Int)==(b:Int))=some i:=by rw[aip]at d;obtain⟨l⟩:=br;simpa using d
    simp only[execOp,j,Instr.entryStore,Sem.run_bind,B,Sem.run_pure,Result.andThen_ok,nP r,hi,asInt,asIntOf,agL,d,D]
   grind
  grind
 grind
theorem Sk(h:dR P f ρ H w nt aa a){c:Call}(O:o.op=.call c)(hb:c.callee=.builtin .delete)(r:bN P nt o=some ao)(Q:wI aa H ao)(he:aB ao aa H=some (v,H')):bx P f ρ w (execOp a.eval o) v H':=by
 simp only[bN,O,hb,adO,acR]at r;obtain⟨t,B,d,hd,r⟩:=r;obtain⟨A,k⟩:=uU (P:=P) (a:=a) O hb w;split at r
 ·simp only[acR,af1,acm]at r;obtain⟨kd,l,V,⟨R,L,h1⟩,M,⟨S,N,h2⟩,rfl⟩:=r;have s:=h.gv h1;have C:=h.gv h2;have m:(c.args.map a.eval)[0]?=some (a.eval R):=by simp[L]
  have n:(c.args.map a.eval)[1]?=some (a.eval S):=by simp[N]
  simp only[aB]at he;split at he;·grind
  rename_i p;have p:jk kd (gv aa M)=true:=by simpa using p
  have q:=λem w=>C5 l p C em (P:=P) w;split at he;·rename_i u;obtain⟨rfl,rfl⟩:=he;rw[u]at s;have x:=s.tV;refine bx.val (c:=.tuple #[]) (w':=w) ?_ (cZ.bS h.I (VR.aiw ρ));rw[k];simp only[builtin,Builtin.delete_,B,m,n,Sem.run_bind,bW hd,Result.andThen_ok,x,q,Sem.run_pure]
  ·rename_i id u;rw[u]at s;obtain⟨b,e,x⟩:=s.oC;split at he
   ·rename_i es g j;obtain⟨br,y,z⟩:=qR h.I j e;split at he;·rename_i i W D;obtain⟨rfl,rfl⟩:=he;obtain⟨T,E,F⟩:=tY (P:=P) l C w z D;obtain⟨X,rfl,Y,Z⟩:=Gc F;obtain⟨w',G,J,K⟩:=map_set (P:=P) h.I j e (es':=oX es i) (ces':=br.eraseIdxIfInBounds i) (by simp[z,Array.toList_eraseIdxIfInBounds,ch.erase]) g (jR.erase (wH h.I j e y) i) (w1:=w) rfl rfl rfl rfl;refine bx.val (c:=.tuple #[]) (w':=w') ?_ ⟨ρ,cz.refl ρ,VR.aiw ρ,J,K⟩;rw[k];simp only[builtin,Builtin.delete_,B,m,n,Sem.run_bind,bW hd,Result.andThen_ok,x,q,Sem.run_pure,nP y,E,G]
    ·rename_i D;obtain⟨rfl,rfl⟩:=he;obtain⟨T,E,F⟩:=tY (P:=P) l C w z D;have:=Gd F;subst this;obtain⟨w',G,J,K⟩:=map_set (P:=P) h.I j e (es':=es) (ces':=br) z g (wH h.I j e y) (w1:=w) rfl rfl rfl rfl;refine bx.val (c:=.tuple #[]) (w':=w') ?_ ⟨ρ,cz.refl ρ,VR.aiw ρ,J,K⟩;rw[k];simp only[builtin,Builtin.delete_,B,m,n,Sem.run_bind,bW hd,Result.andThen_ok,x,q,Sem.run_pure,nP y,E,G]
    grind
   ·rename_i es j;exact absurd j (Q _ _ _ rfl u)
   grind
  grind
 grind
theorem Sn(h:dR P f ρ H w nt aa a){c:Call}(b:o.op=.call c)(hb:c.callee=.builtin .delete)(d:bN P nt o=some ao)(he:aB ao aa H=some (v,H')):bx P f ρ w (execOp a.eval o) v H':=Gb (λe g he=>Sk ⟨h.E,e⟩ b hb d g he) h.I he
theorem Sp(h:dR P f ρ H w nt aa a){c:Call}(s:o.op=.call c)(hb:c.callee=.builtin .clear){x:aG}(E:ao=.yu x)(g:bN P nt o=some ao)(he:aB ao aa H=some (v,H')):bx P f ρ w (execOp a.eval o) v H':=by
 simp only[bN,s,hb,adO,acR]at g;obtain⟨t,u,d,hd,g⟩:=g;obtain⟨n,i⟩:=uU (P:=P) (a:=a) s hb w;split at g;·simp_all[acR,af1,acm]
 ·simp only[acR,af1,acm]at g;obtain⟨od,⟨z,r,l⟩,rfl⟩:=g;have m:=h.gv l;have j:(c.args.map a.eval)[0]?=some (a.eval z):=by simp[r]
  simp only[aB]at he;split at he;·rename_i p;obtain⟨rfl,rfl⟩:=he;rw[p]at m;have q:=m.tV;refine bx.val (c:=.tuple #[]) (w':=w) ?_ (cZ.bS h.I (VR.aiw ρ));rw[i];simp[builtin,Builtin.clear_,u,j,bW hd,q]
  ·rename_i id p;rw[p]at m;obtain⟨b,k,q⟩:=m.oC;split at he;·rename_i es e y;obtain⟨rfl,rfl⟩:=he;obtain⟨br,A,F⟩:=qR h.I y k;obtain⟨w',B,C,D⟩:=map_set (P:=P) h.I y k (es':=[]) (ces':= #[]) (by trivial) e jR.clear (w1:=w) rfl rfl rfl rfl;refine bx.val (c:=.tuple #[]) (w':=w') ?_ ⟨ρ,cz.refl ρ,VR.aiw ρ,C,D⟩;rw[i];simp only[builtin,Builtin.clear_,u,j,Sem.run_bind,bW hd,Result.andThen_ok,q,nP A,B,Sem.run_pure]
   grind
  grind
 grind
end
section
variable{P:Program}{g:cJ}{ρ:aL}{H H':af}{w:World}{nt:Nat}{aa:am AV}{a:Act}{o:Oper}{ao:bO}{v:AV}
theorem Sq(h:dR P g ρ H w nt aa a){t:TypeId}{x:Operand}(u:o.op=.range t x)(f:bN P nt o=some ao)(he:aB ao aa H=some (v,H')):bx P g ρ w (execOp a.eval o) v H':=by
 simp only[bN,u,adO,acR]at f;obtain⟨d,hd,f⟩:=f;split at f
 ·simp only[acR,af1,acm]at f;obtain⟨z,h1,rfl⟩:=f;have i:=h.gv h1;simp only[aB]at he;split at he
  ·rename_i s k;obtain⟨rfl,rfl⟩:=he;rw[k]at i;obtain⟨t',D,l⟩:=i.mM;obtain⟨n,p,q⟩:=h.I.alloc (o:=.oq s s 0) (ob:=.stringIter t' 0) (0,0) (by trivial) (by simp) rfl (by trivial);refine bx.val (c:=.pointer (some ⟨w.heap.size,0,none⟩)) (w':={w with heap:=w.heap.push (.stringIter t' 0)}) ?_ ⟨_,n,?_,p,q⟩;·simp only[execOp,u,Instr.range,Sem.run_bind,bW hd,Result.andThen_ok,l,Sem.run_pure,run_newObj]
   simp[VR,aL.fy]
  grind
 ·simp only[acR,af1,acm]at f;obtain⟨z,h1,rfl⟩:=f;have i:=h.gv h1;simp only[aB]at he;split at he
  ·rename_i k;obtain⟨rfl,rfl⟩:=he;rw[k]at i;have l:=i.tV;obtain⟨n,p,q⟩:=h.I.alloc (o:=.mapIter none 0 [] 0) (ob:=.mapIter none 0 #[] 0) (0,0) (by trivial) (by simp) rfl (by trivial);refine bx.val (c:=.pointer (some ⟨w.heap.size,0,none⟩)) (w':={w with heap:=w.heap.push (.mapIter none 0 #[] 0)}) ?_ ⟨_,n,?_,p,q⟩;·simp only[execOp,u,Instr.range,Sem.run_bind,bW hd,Result.andThen_ok,l,Sem.run_pure,run_newObj]
   simp[VR,aL.fy]
  ·rename_i m k;rw[k]at i;obtain⟨b,hb,l⟩:=i.oC;split at he
   ·rename_i es e A;obtain⟨rfl,rfl⟩:=he;obtain⟨br,B,E⟩:=qR h.I A hb;have r:cz ρ (ρ.add H.next w.heap.size 0 (0,0)):=aL.sd _ _ _ (h.I.dV _ (adW _)).2 (λj c y C f=>by have:=h.I.fu j c y C;omega);obtain⟨n,p,q⟩:=h.I.alloc (o:=.mapIter (some m) e [] e) (ob:=.mapIter (some b) e #[] e) (0,0) (by trivial) (by simp) rfl (by simp only[OR];exact⟨trivial,by exact(r _ _ hb).1,by simp,by simp,by simp⟩);refine bx.val (c:=.pointer (some ⟨w.heap.size,0,none⟩)) (w':={w with heap:=w.heap.push (.mapIter (some b) e #[] e)}) ?_ ⟨_,n,?_,p,q⟩;·simp only[execOp,u,Instr.range,Sem.run_bind,bW hd,Result.andThen_ok,l,Sem.run_pure,run_newObj,nP B]
    simp[VR,aL.fy]
   grind
  grind
 grind
theorem yV{b:Nat}{a:Obj}(h:w.heap[b]?=some a)(d:∀c e f,a≠.cells c e f):(getObj b).run P w=.ok a w:=by cases a with|cells c e f=>grind|_=>simp[h,getObj,Sem.run]
theorem Sr(h:dR P g ρ H w nt aa a){E:Operand}{d:Bool}(x:o.op=.next E d)(n:bN P nt o=some ao)(he:aB ao aa H=some (v,H')):bx P g ρ w (execOp a.eval o) v H':=by
 cases d with
 |false=>simp only[bN,x,ac6,bK,adO,acR,af1,acm]at n;obtain⟨F,h1,rfl⟩:=n;simp[aB]at he
 |true=>
  simp only[bN,x,bm,adO,acR,af1,acm]at n;obtain⟨F,h1,rfl⟩:=n;have A:=h.gv h1;simp only[aB]at he;split at he
  ·rename_i id G;rw[G]at A;obtain⟨b,z,hb,B⟩:=A.nO;split at he
   ·rename_i s D K hi;have q:H.get id≠.none:=by rw[hi];simp
    obtain⟨M,N,J,y,f,r,j⟩:=h.I.aF q;rw[hb]at y;injection y with y;injection y with e1 e2;subst e1;subst e2;rw[hi]at j;cases J<;>simp only[OR]at j;rename_i bs p;obtain⟨rfl,rfl,co,e⟩:=j;have i:(getObj b).run P w=.ok (.stringIter bs p) w:=yV r (λ_ _ _=>by simp);have L:bs.size=s.length:=by rw[←co,agZ,ahm];rfl
    split at he
    ·simp only[acm,age]at he;obtain⟨rfl,rfl⟩:=he;have l:¬p<bs.size:=by have:=List.drop_eq_nil_iff.1 e.symm;omega
     refine bx.val (c:=.tuple #[.bool false]) (w':=w) ?_ (cZ.bS h.I (by simp[VR,be]));simp only[execOp,x,Instr.next,B,ail,Sem.run_bind,i,Result.andThen_ok,l,bK,Sem.run_pure]
    rename_i c m;split at he
    ·rename_i f;simp only[acm,age]at he;obtain⟨rfl,rfl⟩:=he;have f:c<128:=ag6 (Nat.lt_succ_self c) (agT f);have k:s[p]?=some c:=by
      have:(s.drop p)[0]?=some c:=by rw[←e];rfl
      rw[List.getElem?_drop]at this;simpa using this
     have C:p<bs.size:=by have:=(ahv.1 k).1;omega
     have t:p<bs.data.size:=C;have n:(bs.data[p]).toNat=c:=by rw[←co,ahc,ahP,getElem?_pos bs.data p t]at k;simpa using k
     have u:Utf8.decode bs p=(c,1):=by
      have hg:(bs.get! (p+0)).toNat=c:=by rw[ail,ByteArray.get!];rw[getElem!_pos bs.data p t];exact n
      simp only[Utf8.decode,hg,show c<0x80 from f,bm]
     have hu:=h.I.se (i:=id) (o':=.oq s m (p+1)) (ob':=.stringIter bs (p+1)) q (by rw[hi];rfl) hb rfl (by simp only[OR];refine⟨trivial,trivial,co,?_⟩;rw[←List.drop_drop,←e];rfl) (by simp[gB]) (w':={w with heap:=w.heap.setIfInBounds b (.stringIter bs (p+1))}) rfl rfl rfl rfl;rw[hi]at hu;refine bx.val (c:=.tuple #[.bool true,goInt p,.int .i32 c]) (w':={w with heap:=w.heap.setIfInBounds b (.stringIter bs (p+1))}) ?_ ⟨ρ,cz.refl ρ,?_,hu.1,hu.2⟩;·simp only[execOp,x,Instr.next,B,ail,Sem.run_bind,i,Result.andThen_ok,C,bm,u,AI w r (λ_ _ _=>by simp),Sem.run_pure]
     simp only[VR,be];exact⟨trivial,VR.goInt ρ p,by simp[kc],trivial⟩
    cases he
   cases he
  cases he
theorem Ss(h:dR P g ρ H w nt aa a){G:Operand}(B:o.op=.entry G)(C:bN P nt o=some ao)(he:aB ao aa H=some (v,H')):bx P g ρ w (execOp a.eval o) v H':=by
 simp only[bN,B,adO,acR,af1,acm]at C;obtain⟨X,h1,rfl⟩:=C;have D:=h.gv h1;simp only[aB]at he;split at he
 ·rename_i id J;rw[J]at D;obtain⟨b,z,hb,K⟩:=D.nO;split at he
  ·rename_i m y seen F hi;have t:H.get id≠.none:=by rw[hi];simp
   obtain⟨Y,Z,L,q,W,u,c⟩:=h.I.aF t;rw[hb]at q;injection q with q;injection q with e1 e2;subst e1;subst e2;rw[hi]at c;cases L<;>simp only[OR]at c;rename_i E M s t';obtain⟨rfl,d,rfl,j,rfl⟩:=c;have p:(getObj b).run P w=.ok (.mapIter E M s t') w:=yV u (λ_ _ _=>by simp);cases E with
   |none=>simp[o0]at d
   |some mb=>
    simp only[o0]at d;split at he
    ·rename_i bn es A hl N;split at he
     ·rename_i f;have f:=agO f;subst f;obtain⟨br,O,Q⟩:=qR h.I N d;split at he
      ·rename_i i R;obtain⟨_,_,e0,c0,r,S,T,V⟩:=ch.pG bn 0 i Q R;split at he
       ·rename_i e1 x;simp only[acm,age]at he;obtain⟨rfl,rfl⟩:=he;rw[aip,x]at r;injection r with r;subst r;have k:s.back?=some bn:=by rw[←j]at hl;obtain⟨l⟩:=s;simpa using hl
        have n:br.find? (λe=>e.born==bn)=some c0:=by obtain⟨l⟩:=br;simpa using S
        refine bx.val (c:=.tuple #[c0.key,c0.val]) (w':=w) ?_ (cZ.bS h.I (by simp only[VR,be];exact⟨T,V,trivial⟩));simp[execOp,B,Instr.entry,K,p,k,nP O,n]
       cases he
      cases he
     cases he
    cases he
  cases he
 grind
theorem ch.filter{p:aR→Bool}{q:MapEntry→Bool}(a:∀(e:aR)(c:MapEntry),e.born=c.born→p e=q c):∀{es:List aR}{br:List MapEntry},ch ρ es br→ch ρ (es.filter p) (br.filter q)
 |[],[],_=>by grind
 |e::es,c::br,h=>by
  simp only[List.filter_cons,a e c h.2.2.1];split;·exact⟨h.1,h.2.1,h.2.2.1,ch.filter a h.2.2.2⟩
  exact ch.filter a h.2.2.2
 |[],_::_,h=>by trivial
 |_::_,[],h=>by trivial
theorem ch.get:∀{es:List aR}{br:List MapEntry},ch ρ es br→∀(i:Nat)(c:MapEntry),br[i]?=some c→∃e:aR,es[i]?=some e∧VR ρ e.key c.key∧VR ρ e.val c.val∧e.born=c.born|[],[],_,i,c,h=>by grind|e::es,c::br,h,0,a,b=>by simp_all[ch]|e::es,c::br,h,i+1,a,b=>by simpa using ch.get h.2.2.2 i a b|[],_::_,h,_,_,_=>by trivial|_::_,[],h,_,_,_=>by grind
theorem ch.append:∀{es:List aR}{br:List MapEntry}{b:List aR}{a:List MapEntry},ch ρ es br→ch ρ b a→ch ρ (es++b) (br++a)|[],[],_,_,_,h=>by grind|e::es,c::br,_,_,h,d=>by exact⟨h.1,h.2.1,h.2.2.1,ch.append h.2.2.2 d⟩|[],_::_,_,_,h,_=>by trivial|_::_,[],_,_,h,_=>by trivial
theorem ch.KY(n:Nat):∀{es:List aR}{br:List MapEntry},ch ρ es br→es.all (λe=>ahG n e.born)=br.all (λe=>decide (e.born≥n))|[],[],_=>rfl|e::es,c::br,h=>by simp only[List.all_cons,ch.KY n h.2.2.2,h.2.2.1];grind[decide_eq_true,ahi,decide_eq_false,ahG,absurd,agT]|[],_::_,h=>by trivial|_::_,[],h=>by trivial
theorem KZ(h:dR P g ρ H w nt aa a){it:aG}(D:bN P nt o=some (.lx it)){cs:List (Option aR)}{T:Option aR→AV×af}(he:tz H (gv aa it)=some (cs,T)):∃i c,i<cs.length∧cs[i]?=some c∧bx P g ρ w (execOp a.eval o) (T c).1 (T c).2:=by
 obtain⟨x,ho,hx⟩:∃x,o.op=.next x false∧gI P nt x=some it:=by
  unfold bN at D;simp only[adO,af1]at D;split at D;all_goals(try(exfalso;(repeat'(first|(cases D;done)|(rw[acR]at D;obtain⟨_,_,D⟩:=D)|split at D));done))
  rename_i x s ho;cases s with|true=>simp only[bm,acR,acm,reduceCtorEq,and_false,exists_false]at D|false=>simp only[ac6,bK,acR,acm,bO.lx.injEq]at D;obtain⟨y,h1,rfl⟩:=D;exact⟨x,ho,h1⟩
 have g1:=h.gv hx;unfold tz at he;split at he
 ·rename_i id hv;rw[hv]at g1;obtain⟨b,z,hb,ar⟩:=g1.nO;split at he
  ·rename_i hi;simp only[acm,age]at he;obtain⟨rfl,rfl⟩:=he;obtain⟨b',z',ob,L,bb,N,t⟩:=h.I.aF (i:=id) (by rw[hi];simp);rw[hb]at L;injection L with L;injection L with e1 e2;subst e1;subst e2;rw[hi]at t;cases ob<;>simp only[OR]at t;rename_i m' k p t';obtain⟨rfl,h1,_⟩:=t;have:m'=none:=by cases m'<;>simp[o0]at h1;rfl
   subst this;refine⟨0,none,by simp,rfl,bx.val (c:=.tuple #[.bool false]) (w':=w) ?_ (cZ.bS h.I (by simp[VR,be]))⟩;simp only[execOp,ho,Instr.next,ar,ail,Sem.run_bind,yV N (λ_ _ _=>by simp),Result.andThen_ok,Sem.run_pure]
  ·rename_i m b4 seen b5 hi;split at he
   ·rename_i es l hm;split at he;·cases he
    rename_i X;simp only[acm,age]at he;obtain⟨rfl,rfl⟩:=he;obtain⟨b',z',ob,L,bb,N,t⟩:=h.I.aF (i:=id) (by rw[hi];simp);rw[hb]at L;injection L with L;injection L with e1 e2;subst e1;subst e2;rw[hi]at t;cases ob<;>simp only[OR]at t;rename_i m' k p t';obtain⟨rfl,h1,rfl,h3,rfl⟩:=t;obtain⟨E,rfl⟩:∃E,m'=some E:=by cases m' with|none=>simp[o0]at h1|some E=>exact⟨E,rfl⟩
    have av:ρ m=some (E,0):=h1;obtain⟨br,k1,k2⟩:=qR h.I hm av;have Y:∀n,p.contains n=seen.contains n:=λn=>by rw[←h3,Array.contains_toList]
    have hl:=k2.filter (p:=λe=>!seen.contains e.born) (q:=λe=>!p.contains e.born) (λe c F=>by rw[F,Y]);have fS:=hl.filter (p:=λe=>aha e.born k) (q:=λe=>decide (e.born<k)) (λe c F=>by
     rw[F];by_cases q:c.born<k;·rw[decide_eq_true q];exact aiu ahF q
     rw[decide_eq_false q];cases hb:aha c.born k with|false=>rfl|true=>exact absurd (Eq.mp ahF hb) q);have G:=hl.filter (p:=λe=>!aha e.born k) (q:=λe=>decide (e.born≥k)) (λe c F=>by
     rw[F];by_cases q:c.born<k;·rw[decide_eq_false (by omega),show aha c.born k=true from aiu ahF q];rfl
     rw[decide_eq_true (by omega)];cases hb:aha c.born k with|false=>rfl|true=>exact absurd (Eq.mp ahF hb) q);have d:=fS.append G;have O:(!p.isEmpty&&!br.isEmpty&&br.all λe=>decide (e.born≥t'))=false:=by
     have e1:p.isEmpty=seen.isEmpty:=by rw[←h3,Array.isEmpty_toList]
     have e2:br.isEmpty=es.isEmpty:=by have hh:=ch.length k2;rw[←Array.isEmpty_toList];cases a2:br.toList<;>rw[a2]at hh<;>cases es<;>first|rfl|simp at hh
     have e3:=k2.KY t';rw[e1,e2,←Array.all_toList,←e3];simpa using X
    generalize bc:(es.filter λe=>!seen.contains e.born).filter (λe=>aha e.born k)=M at fS d⊢;generalize b6:(es.filter λe=>!seen.contains e.born).filter (λe=>!aha e.born k)=nA at G d⊢;generalize V:(br.toList.filter λe=>!p.contains e.born).filter (λe=>decide (e.born<k))=oL at fS d;generalize bd:(br.toList.filter λe=>!p.contains e.born).filter (λe=>decide (e.born≥k))=nL at G d;have B:M.isEmpty=oL.isEmpty:=by have hh:=ch.length fS;clear bc V fS d;cases M<;>cases oL<;>first|rfl|simp at hh
    have a6:(M++nA).length=(oL++nL).length:=ch.length d;let r:List (Option MapEntry):=(if oL.isEmpty then[none]else[])++(oL++nL).map some;have Q:r.length=((if M.isEmpty then[none]else[])++(M++nA).map some:List (Option aR)).length:=by simp only[r,agP,agZ,B]at a6⊢;split<;>simp<;>omega
    have R:0<r.length:=by simp only[r,agP,agZ];cases oL with|nil=>simp;omega|cons a b=>simp;omega
    have bv:∃(j:Nat)(A:World),j<r.length∧(A=w∨A=w.drew)∧(choose (Question.mapNext r.length)).run P w=.ok j A:=by
     by_cases hf:r.length≤1;·exact⟨0,w,R,Or.inl rfl,by simp[choose,Sem.run,Question.forced,hf]⟩
     exact⟨_,w.drew,Nat.mod_lt _ R,Or.inr rfl,by simp only[choose,Sem.run,Question.forced,decide_eq_true_eq,hf,bK,Question.cut];rfl⟩
    obtain⟨j,A,hj,ax,a8⟩:=bv;have S:A.heap=w.heap:=by rcases ax with rfl|rfl<;>rfl
    have ay:bt P g ρ H A:=h.I.yM S;have a1:d9 g w A:=by rcases ax with rfl|rfl;exact d9.refl g _;exact(d9.refl g _).drew
    have J:((if(aia (λe:MapEntry=>decide (e.born<k)) (aia (λe:MapEntry=>!p.contains e.born) br)).isEmpty=true then #[none]else #[])++Array.map some (aia (λe:MapEntry=>decide (e.born<k)) (aia (λe:MapEntry=>!p.contains e.born) br)++aia (λe:MapEntry=>decide (e.born≥k)) (aia (λe:MapEntry=>!p.contains e.born) br))).toList=r:=by
     simp only[r,Array.toList_append,Array.toList_map,Array.toList_filter,V,bd];congr 1;have:(aia (λe:MapEntry=>decide (e.born<k)) (aia (λe:MapEntry=>!p.contains e.born) br)).isEmpty=oL.isEmpty:=by rw[←V,←Array.toList_filter,←Array.toList_filter,Array.isEmpty_toList]
     rw[this];split<;>rfl
    generalize Z:((if(aia (λe:MapEntry=>decide (e.born<k)) (aia (λe:MapEntry=>!p.contains e.born) br)).isEmpty=true then #[none]else #[])++Array.map some (aia (λe:MapEntry=>decide (e.born<k)) (aia (λe:MapEntry=>!p.contains e.born) br)++aia (λe:MapEntry=>decide (e.born≥k)) (aia (λe:MapEntry=>!p.contains e.born) br)))=CA at J;have ag:CA.size=r.length:=by rw[←J,ahm]
    have v:(execOp a.eval o).run P w=((match r[j]? with|some (some e)=>(do setObj b (.mapIter (some E) k (p.push e.born) l);pure (.value (.tuple #[.bool true,e.key,e.val])))|some none=>pure (.value (.tuple #[.bool false]))|none=>stuck "Next: no such candidate"):Sem Next).run P A:=by simp only[execOp,ho,Instr.next,ar,ail,Sem.run_bind,yV N (λ_ _ _=>by simp),Result.andThen_ok,nP k1,O,ac6,bK,Z,ag,a8];rw[←ahP,J];cases f:r[j]? with|none=>simp only[stuck,Sem.run_bind];rfl|some c'=>cases c' with|none=>simp|some e=>simp only[Sem.run_bind,Sem.run_pure];cases Sem.run P (setObj b (.mapIter (some E) k (p.push e.born) l)) A<;>rfl
    have K:=hj;rw[Q]at K;cases f:r[j]? with
    |none=>rw[List.getElem?_eq_none_iff]at f;omega
    |some c'=>
     rw[f]at v;cases c' with
     |none=>
      have b0:((if M.isEmpty then[none]else[])++(M++nA).map some:List (Option aR))[j]?=some none:=by
       simp only[r]at f;by_cases he:oL.isEmpty=true;·rw[B];simp only[he,bm]at f⊢;cases j with|zero=>simp|succ j=>simp only[List.singleton_append,ahK,ahc,afi]at f;obtain⟨_,_,h⟩:=f;cases h
       have W:oL.isEmpty=false:=by simpa using he
       simp only[W,ac6,bK,ahH,ahc,afi]at f;obtain⟨_,_,h⟩:=f;cases h
      refine⟨j,none,K,b0,bx.val (c:=.tuple #[.bool false]) (w':=A) ?_ ⟨ρ,cz.refl ρ,by simp[VR,be],ay,a1⟩⟩;rw[v];simp
     |some e=>
      obtain⟨C,b3,v1,v2,v3⟩:∃C:aR,((if M.isEmpty then[none]else[])++(M++nA).map some:List (Option aR))[j]?=some (some C)∧VR ρ C.key e.key∧VR ρ C.val e.val∧C.born=e.born:=by
       simp only[r]at f;by_cases he:oL.isEmpty=true;·rw[B];simp only[he,bm]at f⊢;cases j with|zero=>simp at f|succ j=>simp only[List.singleton_append,ahK,ahc,afi]at f⊢;obtain⟨e0,h0,u⟩:=f;injection u with u;subst u;obtain⟨C,q1,q2,q3,q4⟩:=d.get j e0 h0;exact⟨C,⟨C,q1,rfl⟩,q2,q3,q4⟩
       rw[B];have W:oL.isEmpty=false:=by simpa using he
       simp only[W,ac6,bK,ahH,ahc,afi]at f⊢;obtain⟨e0,h0,u⟩:=f;injection u with u;subst u;obtain⟨C,q1,q2,q3,q4⟩:=d.get j e0 h0;exact⟨C,⟨C,q1,rfl⟩,q2,q3,q4⟩
      have a':A.heap[b]?=some (.mapIter (some E) k p t'):=by rw[S];exact N
      have ba:=AI (P:=P) A a' (λ_ _ _=>by simp) (.mapIter (some E) k (p.push e.born) l);have hu:=ay.se (i:=id) (o':=.mapIter (some m) k (seen++[C.born]) l) (ob':=.mapIter (some E) k (p.push e.born) l) (w':={A with heap:=A.heap.setIfInBounds b (.mapIter (some E) k (p.push e.born) l)}) (by rw[hi];simp) (by rw[hi];rfl) hb rfl (by simp only[OR];exact⟨trivial,av,trivial,by rw[Array.toList_push,h3,v3],trivial⟩) (by simp[gB]) rfl rfl rfl rfl;rw[hi]at hu;refine⟨j,some C,K,b3,bx.val (c:=.tuple #[.bool true,e.key,e.val]) (w':=_) ?_ ⟨ρ,cz.refl ρ,by simp[VR,be,v1,v2],hu.1,a1.trans hu.2⟩⟩;rw[v];simp only[Sem.run_bind,ba,Result.andThen_ok,Sem.run_pure]
   cases he
  cases he
 grind
end
section
variable{P:Program}{g:cJ}{ρ:aL}{H H':af}{w:World}{nt:Nat}{aa:am AV}{a:Act}{o:Oper}{ao:bO}{v:AV}
theorem St(h:dR P g ρ H w nt aa a){op:BinOp}{t t':TypeId}{x y:Operand}(n:o.op=.binOp op t x y t')(b:bN P nt o=some ao)(he:aB ao aa H=some (v,H')):bx P g ρ w (execOp a.eval o) v H':=by
 have hu:∃d,P.underlying t=some d:=by simp only[bN,n,adO,ia]at b;cases hu:P.underlying t with|none=>rw[hu]at b;simp at b|some d=>exact⟨d,rfl⟩
 obtain⟨d,hu⟩:=hu;by_cases hint:∃k,d=.int k
 ·obtain⟨k,rfl⟩:=hint;by_cases hs:op=.shl∨op=.shr;·grind[Ro]
  exact Rn h n hu (by grind) b he
 by_cases c:d=.string;·subst c;exact Rt h n hu b he
 have p:∀k,P.underlying t≠some (.int k):=λk e=>by rw[hu]at e;injection e with e;exact hint ⟨k,e⟩
 have q:P.underlying t≠some .string:=λe=>by rw[hu]at e;injection e with e;exact c e
 have key:∃j i l m,op=(if j then .neq else .eql)∧jy P 16 (qO x||qO y) t=some i∧yI P i t=true∧gI P nt x=some l∧gI P nt y=some m∧ao=.eq j i l m:=by
  simp only[bN,n,adO,ia,hu,ah5]at b;cases op<;>cases d<;>first|(exact absurd ⟨_,rfl⟩ hint)|(exact absurd rfl c)|(simp at b;done)|skip
  all_goals
   simp only[acR]at b;obtain⟨i,f,b⟩:=b;split at b;case isFalse=>cases b
   rename_i hg;simp only[acR,af1,acm]at b;obtain⟨l,h1,m,h2,h3⟩:=b;first|exact⟨false,i,l,m,rfl,f,hg,h1,h2,h3.symm⟩|exact⟨true,i,l,m,rfl,f,hg,h1,h2,h3.symm⟩
 obtain⟨j,i,l,m,r,f,hg,h1,h2,rfl⟩:=key;exact R9 h n r f hg h1 h2 p q he
theorem Su(h:dR P g ρ H w nt aa a){c:Call}{b:Builtin}(d:o.op=.call c)(hb:c.callee=.builtin b)(e:bN P nt o=some ao)(he:aB ao aa H=some (v,H')):bx P g ρ w (execOp a.eval o) v H':=by cases b with|len=>grind[RI]|cap=>grind[RK]|append=>grind[RX]|copy=>grind[RY]|delete=>grind[Sn]|min=>exact Kx (isMax:=false) h d hb e he|max=>exact Kx (isMax:=true) h d hb e he|clear=>have f:=e;simp only[bN,d,hb,adO,acR]at f;grind[acR,af1,acm,RZ,Sp]|_=>simp_all[bN]
theorem AJ(h:dR P g ρ H w nt aa a)(j:bN P nt o=some ao)(he:aB ao aa H=some (v,H')):bx P g ρ w (execOp a.eval o) v H':=by
 cases l:o.op with
 |move x=>grind[Ko]
 |assign x=>exact Ko h (.inr l) j he
 |pick c x y=>grind[Rc]
 |alloc e=>grind[Re]
 |box e x=>grind[Rf]
 |build t eW=>grind[RM]
 |buildSlice t len eW=>grind[RN]
 |insert t m k x=>exact KU h (.inr l) j he
 |load t x=>grind[Rg]
 |store t x y=>grind[Ri]
 |nilCheck x=>grind[Rj]
 |binOp op t x y t'=>grind[St]
 |unOp op t x=>grind[Rv]
 |convert s d x=>grind[RR]
 |makeInterface t x=>grind[Rw]
 |makeFunc f x y=>grind[Rx,bN]
 |makeMap t r=>grind[Ry,bN]
 |makeSlice t x y=>grind[RQ]
 |slice t x lo hi p=>grind[RG]
 |fieldAddr t x i=>grind[RA]
 |field t x i=>grind[Rz]
 |indexAddr t x i=>grind[RC]
 |index t x i=>grind[RD]
 |lookup t m k ok=>grind[Sg]
 |mapUpdate t m k x=>grind[KU]
 |mapEntry t m k=>grind[Si]
 |entryStore t m s x=>grind[Sj]
 |range t x=>grind[Sq]
 |next n s=>grind[Sr]
 |entry n=>grind[Ss]
 |typeAssert x q t ok=>grind[RS]
 |extract x i=>grind[RB]
 |call c=>cases hb:c.callee with|builtin b=>grind[Su]|value f=>simp only[bN,l,hb,adO,acR,af1,acm]at j;obtain⟨_,_,_,_,rfl⟩:=j;trivial|invoke r m=>simp_all[bN]
 |_=>simp_all[bN]
end
section
variable{P:Program}{h:cJ}{ρ:aL}{H H':af}{w:World}{nt:Nat}{aa:am AV}
def mi(ρ:aL):List ac→List Deferred→Prop
 |[],[]=>True
 |i::l,d::m=>(∃r,ρ i=some (r,0)∧d={target:=.collected r,args:= #[]})∧mi ρ l m
 |_,_=>False
theorem mi.mono{ρ a:aL}(b:cz ρ a):∀{l:List ac}{m:List Deferred},mi ρ l m→mi a l m|[],[],_=>trivial|_::_,_::_,k=>⟨by obtain⟨⟨r,h1,h2⟩,_⟩:=k;exact⟨r,(b _ _ h1).1,h2⟩,mi.mono b k.2⟩|[],_::_,k=>by trivial|_::_,[],k=>by trivial
structure iv(ρ:aL)(nt:Nat)(fr:Fr)(ro:Option Nat)(a:Act):Prop where
 E:iU ρ nt fr.aa a.tmps
 D:mi ρ fr.bF a.defers
 R:o0 ρ fr.bD ro
theorem iv.mono{ρ b:aL}(c:cz ρ b){fr:Fr}{ro:Option Nat}{a:Act}(k:iv ρ nt fr ro a):iv b nt fr ro a:=⟨k.E.mono c,k.D.mono c,by
 have:=k.R;revert this;cases fr.bD<;>cases ro<;>simp only[o0]<;>intro q;·simp
 ·omega
 ·omega
 exact(c _ _ q).1⟩
def yW(k:List Item):cG→List Item→Prop
 |.none,t=>t=k
 |.exit id,t=>∃a,t=.code (.exit id)::a∧exitTo id a=exitTo id k
 |.ret,t=>∃a,t=.code .ret::a
def pb(f:Value)(args:Array Value):Sem Next:=do
 let d←Deferred.ofValue f args
 invoke d.target d.args
def sj(fr:Frame):Prop:=
 match fr.todo with
 |.inRegion _ _::_|.inRangeFunc _::_=>True
 |_=>False
theorem C9{fr:Frame}{cs:List Frame}{s:Sem Next}{w w':World}{v:Value}(a:s.run P w=.ok (.value v) w'):(stepG.apply P true fr cs none s w).bare=.go {frame:=fr.finish v,callers:=cs,status:=.running,dying:=none} w':=by simp[a,stepG.apply]
theorem Ge{fr:Frame}{cs:List Frame}{s:Sem Next}{w w':World}(a:s.run P w=.ok .skip w'):(stepG.apply P true fr cs none s w).bare=.go {frame:=fr.finish undef,callers:=cs,status:=.running,dying:=none} w':=by simp[a,stepG.apply]
theorem La{fr:Frame}(a:sj fr){cs:List Frame}{s:Sem Next}{w w':World}{f:FuncId}{args:Array Value}(c:s.run P w=.ok (.enter f args) w'):(stepG.apply P true fr cs none s w).bare=.go {frame:=Frame.enter P f args .normal,callers:=fr::cs,status:=.running,dying:=none} w':=by obtain⟨fn,tmps,b,defers,mode,kind,ro⟩:=fr;unfold sj at a;simp only at a;split at a<;>first|(exact False.elim a)|simp[stepG.apply,c]
theorem Sv{fr:Frame}(a:sj fr){cs:List Frame}{s:Sem Next}{w w':World}{l:Nat}{f:FuncId}{tmps:Array Value}{assign body:Code}(b:s.run P w=.ok (.round l f tmps assign body) w'):(stepG.apply P true fr cs none s w).bare=.go {frame:=Frame.round l f tmps assign body .normal,callers:=fr::cs,status:=.running,dying:=none} w':=by simp[a,b,sj,False.elim,stepG.apply]
theorem Lb:∀(l:List AV)(p:Nat)(t:am AV)(i:Nat),(kx l (ac.dj p) t).get .aiw (ac.dj i)=if p≤i∧i<p+l.length then l.getD (i - p) .aiw else t.get .aiw (ac.dj i)
 |[],p,t,i=>by rw[kx,an (by simp only[List.length_nil];omega)]
 |v::l,p,t,i=>by
  rw[kx,show(ac.dj p).succ=ac.dj (p+1)from rfl,Lb l (p+1),am.aD];simp only[ahh];by_cases h1:p+1≤i∧i<p+1+l.length;·rw[aH h1,aH (by omega),show i - p=(i - (p+1))+1 by omega];simp
  rw[an h1];by_cases h2:i=p;·subst h2;rw[aH rfl,aH (by omega)];simp
  rw[an (λe=>h2 (ac.bH e)),an (by omega)]
theorem Gf:∀p:ac,(am.aJ:am AV).get .aiw p=.aiw|.xH=>rfl|.xO p=>by exact Gf p|.xI p=>by exact Gf p
theorem Gg{l:List AV}{args:Array Value}(f:be ρ l args.toList)(a:l.length≤nt):iU ρ nt (kx l .xH .aJ) (args++ain (nt - args.size) undef):=by
 have hl:l.length=args.size:=by have:=be.length f;simpa using this
 refine⟨by grind,λt b=>?_⟩;have:=Lb l 0 .aJ t;rw[show ac.dj 0=.xH from rfl]at this;rw[this,Gf];by_cases h1:t<l.length
 ·obtain⟨c,d,e⟩:=be.get f t l[t] (by simp);have h2:t<args.size:=by omega
  simp_all
 rw[an (by omega)];have:(args++ain (nt - args.size) undef).getD t undef=undef:=by rw[aho,Array.getElem?_append_right (by omega),Array.getElem?_replicate];split<;>rfl
 rw[this];exact VR.aiw ρ
theorem Lc:∀{ps:List Tmp}{a:List AV}{cs:List Value}{aa:am AV}{tmps:Array Value},iU ρ nt aa tmps→be ρ a cs→a.length=ps.length→iU ρ nt (ow (ps.map ac.dj) a aa) ((ps.zip cs).foldl (λtmps(p:Tmp×Value)=>tmps.setIfInBounds p.1 p.2) tmps)|[],[],[],aa,tmps,d,_,_=>by trivial|p::ps,v::a,c::cs,aa,tmps,d,b,hl=>by simp only[agN,ow,List.zip_cons_cons,List.foldl_cons];exact Lc (d.set b.1) b.2 (by grind)|[],_::_,_,_,_,_,_,hl=>by grind|_::_,[],_,_,_,_,_,hl=>by grind|_,[],_::_,_,_,_,b,_=>by trivial|_,_::_,[],_,_,_,b,_=>by trivial
theorem C':∀{l:List ac}{j:List Deferred}{H H':af}{w:World},bt P h ρ H w→mi ρ l j→jw H l=some H'→∀(fr:Frame)(cs:List Frame),fr.mode=.returning→∃w',Steps P (lone {fr with defers:=j} cs w) (lone {fr with defers:=[]} cs w')∧bt P h ρ H' w'∧d9 h w w'
 |[],[],H,H',w,m,_,y,fr,cs,_=>by grind[jw,acm,Steps.refl,d9.refl]
 |i::l,d::j,H,H',w,m,e,y,fr,cs,n=>by
  obtain⟨⟨r,o,rfl⟩,e⟩:=e;simp only[jw]at y;split at y
  ·rename_i hi;have f:H.get i≠.none:=by rw[hi];simp
   obtain⟨v,x,p,k,u,g,a⟩:=m.aF f;rw[o]at k;injection k with k;injection k with e1 e2;subst e1;subst e2;rw[hi]at a;cases p<;>simp only[OR]at a;rename_i cs';obtain⟨_,b⟩:=a;have b:=b trivial;subst b;have hu:=m.se (i:=i) (o':=.deferred true) (ob':=.deferred none) f (by rw[hi];rfl) o rfl (by simp only[OR];exact⟨trivial,λy=>by cases y⟩) (by simp[gB]) (w':={w with heap:=w.heap.setIfInBounds r (.deferred none)}) rfl rfl rfl rfl;rw[hi]at hu;obtain⟨w',q,s,t⟩:=C' hu.1 e y fr cs n;have c:(Instr.takeDeferred r).run P w=.ok [] {w with heap:=w.heap.setIfInBounds r (.deferred none)}:=by simp only[Instr.takeDeferred,Sem.run_bind,yV g (λ_ _ _=>by simp),Result.andThen_ok,AI w g (λ_ _ _=>by simp),Sem.run_pure]
   refine⟨w',.head (step_lone_go (fr':={fr with defers:=j}) (cs':=cs) (w':={w with heap:=w.heap.setIfInBounds r (.deferred none)}) ?_) q,s,hu.2.trans t⟩;simp[stepG,n,unwind,Sem.runT_eq,c]
  grind
 |[],_::_,_,_,_,_,e,_,_,_,_=>by trivial
 |_::_,[],_,_,_,_,e,_,_,_,_=>by trivial
def Da(tmps:Array Value):ResultVar→Sem Value
 |.tmp t=>pure (tmps.getD t undef)
 |.cell a t=>do loadVar t (←asAddr (tmps.getD a undef))
theorem Sw(fn:Func)(tmps:Array Value):results fn tmps=(do let a←fn.results.mapM (Da tmps)pure (if b:a.size=1 then a[0]else .tuple a)):=rfl
theorem Gh(j:bt P h ρ H w){aa:am AV}{tmps:Array Value}(i:iU ρ nt aa tmps):∀{k:List ResultVar}{d:List iH}{l:List AV},k.mapM (Aw P nt)=some d→gG aa H d=some l→∃e:List Value,be ρ l e∧(k.mapM (Da tmps)).run P w=.ok e w
 |[],d,l,h1,h2=>by simp_all[List.mapM_nil,af1,acm,gG,be]
 |r::k,d,l,h1,h2=>by
  simp only[aic,adO,acR,af1,acm]at h1;obtain⟨A,a,x,f,rfl⟩:=h1;cases r with
  |tmp t=>
   simp only[Aw]at a;split at a
   ·rename_i m;injection a with a;subst a;simp only[gG,afi]at h2;obtain⟨B,p,rfl⟩:=h2;obtain⟨e,n,o⟩:=Gh j i f p;refine⟨tmps.getD t undef::e,?_,?_⟩;·exact⟨i.2 t m,n⟩
    simp[o,aic,Da,Sem.run_bind,Sem.run_pure,Result.andThen_ok]
   grind
  |cell ad t=>
   simp only[Aw]at a;split at a
   ·rename_i g s hg hs;split at a
    ·rename_i m;injection a with a;subst a;simp only[gG]at h2;split at h2;·rename_i v C y q;injection h2 with h2;subst h2;obtain⟨b,hb,c,z,u⟩:=Kq j (i.2 ad m) hg (λD=>by grind) (λD=>by grind) y;obtain⟨e,n,o⟩:=Gh j i f q;simp[u,n,hb,z,o,be,aic,Da,asAddr,Sem.run_bind,Sem.run_pure,Result.andThen_ok]
     grind
    grind
   grind
theorem Gi(e:bt P h ρ H w){aa:am AV}{tmps:Array Value}{fn:Func}(f:iU ρ fn.ntmps aa tmps){b:List iH}{l:List AV}(h1:fn.results.toList.mapM (Aw P fn.ntmps)=some b)(h2:gG aa H b=some l):∃c,(results fn tmps).run P w=.ok c w∧VR ρ (iu l) c:=by obtain⟨d,a,g⟩:=Gh e f h1 h2;have hl:=be.length a;rw[Sw,Array.mapM_eq_mapM_toList];simp only[Sem.run_bind,Sem.run_map,g,Result.andThen_ok,Sem.run_pure];match l,d,a,hl with|[],[],_,_=>exact⟨.tuple #[],by simp,by simp[iu,VR,be]⟩|[v],[c],a,_=>exact⟨c,by simp,by simp only[be]at a;exact a.1⟩|v::i::l,c::c2::d,a,_=>refine⟨.tuple (c::c2::d).toArray,by simp,?_⟩;simp only[iu,VR];exact a
end
section
variable{P:Program}
abbrev dF:Nat→(Nat→Prop)→Prop:=λn k=>∀i,i<n→k i
def yX(P:Program)(d:cJ)(e:aL)(w:World)(s:Sem Next)(fr:Frame)(cs:List Frame)(K:AV→af→Prop):Prop:=
 ∃v H' c w' fr1 a b,K v H'∧cZ P d e w v H' c w'∧
  (stepG.apply P true fr cs none s w).bare=.go {frame:=fr1,callers:=a,status:=.running,dying:=none} b∧Steps P (lone fr1 a b) (lone (fr.finish c) cs w')
def wJ(P:Program)(f:FuncId)(g:List AV→af→Option (AV×af)):Prop:=
 ∀{c:cJ}{a:aL}{H H':af}{w:World}{args:List AV}{v:AV}{argv:Array Value},g args H=some (v,H')→be a args argv.toList→bt P c a H w→∀(fr:Frame)(cs:List Frame),sj fr→
  yX P c a w (callFunc f argv) fr cs λd b=>d=v∧b=H'
def ua(P:Program)(ab:Nat→aE)(n:Nat):Prop:=
 ∀{b:cJ}{a:aL}{H:af}{w:World}{c:AV}{args:List AV}{K:AV→af→Prop}{fv:Value}{argv:Array Value},gS False dF ab n c args H K→VR a c fv→be a args argv.toList→bt P b a H w→
  ∀(fr:Frame)(cs:List Frame),sj fr→yX P b a w (pb fv argv) fr cs K
def iV(P:Program)(d:cJ)(f:aL)(g:Nat)(w:World)(b:Frame)(k:List Item)(cs:List Frame)(m:Machine)(K:cG→Fr→af→Prop):Prop:=
 ∃j c H' a e w' t,K j c H'∧cz f a∧iv a g c b.roundOf e∧bt P d a H' w'∧d9 d w w'∧yW k j t∧Steps P m (lone (b.atR e t) cs w')
def wK(P:Program)(t:Nat)(g:am AV→af→Option (am AV×af)):Prop:=
 ∀{f:cJ}{e:aL}{H H':af}{w:World}{d:Nat}{fr:Fr}{c1 c2:Code}{x y:bp}{c:am AV}{b:Frame}{a:Act},eO P d c1=some x→eO P d c2=some y→Ov.code t=.seq x y→g fr.aa H=some (c,H')→iv e d fr b.roundOf a→bt P f e H w→
  ∀(k:List Item)(cs:List Frame),iV P f e d w b k cs (lone (b.atR a (.code (.seq c1 c2)::k)) cs w) λj fr1 H1=>j=.none∧fr1={fr with aa:=c}∧H1=H'
structure j9(P:Program)(ab:Nat→aE):Prop where
 code:∀f nt rs body,ab f=.code nt rs body→∃fn,P.funcs[f]?=some fn∧tH P fn=some (.code nt rs body)∧(fn.name== "runtime.NumGoroutine")=false
 gZ:∀f g,ab f=.gZ g→wJ P f g
 eB:∀t g,ab t=.eB g→wK P t g
def yY(P:Program)(ab:Nat→aE)(n:Nat):Prop:=
 ∀{f:cJ}{d:aL}{H:af}{w:World}{e:Nat}{fr:Fr}{c:bp}{cc:Code}{K:cG→Fr→af→Prop}{b:Frame}{a:Act},eO P e cc=some c→exec False dF ab n c fr H K→iv d e fr b.roundOf a→bt P f d H w→
  ∀(k:List Item)(cs:List Frame),iV P f d e w b k cs (lone (b.atR a (.code cc::k)) cs w) K
def yZ(P:Program)(a:Nat)(az:Array Oper):List Nat→List aS→Prop
 |[],[]=>True
 |i::is,x::l=>(∃o,az[i]?=some o∧sa P a az o=some x)∧yZ P a az is l
 |_,_=>False
def Db(P:Program)(ab:Nat→aE)(n:Nat):Prop:=
 ∀{e:cJ}{c:aL}{H:af}{w:World}{d:Nat}{fr:Fr}{l:List aS}{is:List Nat}{az:Array Oper}{K:Fr→af→Prop}{b:Frame}{a:Act},yZ P d az is l→Go.ak.az False dF ab n l fr H K→iv c d fr b.roundOf a→bt P e c H w→
  ∀(k:List Item)(cs:List Frame),iV P e c d w b k cs (lone (b.atR a (.inRegion az is::k)) cs w) λj fr H=>(match j with|.none=>True|_=>False)∧K fr H
theorem iV.iJ{d:cJ}{e:aL}{f:Nat}{w:World}{b:Frame}{k:List Item}{cs:List Frame}{m g:Machine}{K:cG→Fr→af→Prop}(h:Steps P m g)(i:iV P d e f w b k cs g K):iV P d e f w b k cs m K:=by obtain⟨j,a,H',c,l,w',t,h1,h2,h3,n,o,p,q⟩:=i;exact⟨j,a,H',c,l,w',t,h1,h2,h3,n,o,p,h.trans q⟩
theorem iV.uX{c:cJ}{f a:aL}{g:Nat}{w h:World}{b:Frame}{k:List Item}{cs:List Frame}{m:Machine}{K:cG→Fr→af→Prop}(he:cz f a)(i:d9 c w h)(l:iV P c a g h b k cs m K):iV P c f g w b k cs m K:=by obtain⟨j,d,H',e,n,w',t,h1,h2,h3,o,p,q,r⟩:=l;exact⟨j,d,H',e,n,w',t,h1,he.trans h2,h3,o,i.trans p,q,r⟩
theorem iV.mono{d:cJ}{e:aL}{nt:Nat}{w:World}{b:Frame}{k:List Item}{cs:List Frame}{m:Machine}{K f:cG→Fr→af→Prop}(g:iV P d e nt w b k cs m K)(h:∀j fr H,K j fr H→f j fr H):iV P d e nt w b k cs m f:=by obtain⟨j,a,H',c,i,w',t,h1,h2⟩:=g;exact⟨j,a,H',c,i,w',t,h _ _ _ h1,h2⟩
theorem iv.put{b:aL}{e:Nat}{fr:Fr}{ro:Option Nat}{a:Act}(h:iv b e fr ro a){v:AV}{c:Value}(f:VR b v c)(d:Option Tmp):iv b e {fr with aa:=aM fr.aa (d.map ac.dj) v} ro (a.put d c):=by cases d with|none=>trivial|some d=>exact⟨h.E.set f,h.D,h.R⟩
theorem AL{b:Nat}{az:Array Oper}{o:Oper}{x:aS}(h:sa P b az o=some x):x.dst=o.dst.map ac.dj∧x.jv=[]∧x.re=[]∧x.op=(if((bN P b o).getD .oW).As&&!yK o.op then .oW else(bN P b o).getD .oW)∧((o.guard=none∧x.guard=none)∨∃j a g d,o.guard=some (j,a)∧az[j]?=some g∧g.dst=some d∧d<b∧x.guard=some (ac.dj d,a)):=by
 unfold sa at h;split at h;·rename_i d g hd hg;injection h with h;subst h;refine⟨?_,rfl,rfl,rfl,?_⟩;all_goals grind[Kg,acm,Kh,acR]
 grind
theorem Gj{aa:am AV}{g:Option (ac×Bool)}(h:ft aa g=true):lA aa g=true:=by
 cases g with
 |none=>rfl
 |some g=>
  simp only[ft]at h;simp only[lA];split at h;·rename_i he;rw[he];rfl
  cases h
theorem Ld{k:aL}{f:Nat}{fr:Fr}{ro:Option Nat}{a:Act}(h:iv k f fr ro a){az:Array Oper}{o:Oper}{x:aS}(l:sa P f az o=some x)(b:lA fr.aa x.guard=true):Region.wanted o (yielded az a.tmps)=ft fr.aa x.guard:=by
 obtain⟨_,_,_,_,hg⟩:=AL l;rcases hg with⟨h1,h2⟩|⟨j,e,g,d,h1,h2,h3,i,m⟩;·simp[h2,h1,Region.wanted,ft]
 rw[m]at b⊢;simp only[lA]at b;have c:=h.E.2 d i;have hs:d<a.tmps.size:=by rw[h.E.1];exact i
 have n:a.tmps[d]?=some (a.tmps.getD d undef):=by rw[aho,getElem?_pos a.tmps d hs];rfl
 simp only[Region.wanted,h1,yielded,h2,h3,ah5,n,ft];cases he:fr.aa.get .aiw (ac.dj d)with|bool q=>rw[he]at c;rw[c.qQ];cases q<;>cases e<;>rfl|bX=>rw[he]at b;simp[AV.bB]at b|_=>rw[he]at c;cases p:a.tmps.getD d undef<;>rw[p]at c<;>first|rfl|(simp[VR]at c;done)
end
section
variable{P:Program}
theorem iV.Dc{d:cJ}{c:aL}{H:af}{w:World}{e:Nat}{fr:Fr}{K:cG→Fr→af→Prop}{b:Frame}{a:Act}(f:iv c e fr b.roundOf a)(g:bt P d c H w)(h:K .none fr H)(k:List Item)(cs:List Frame):iV P d c e w b k cs (lone (b.atR a k) cs w) K:=⟨.none,fr,H,c,a,w,k,h,cz.refl c,f,g,d9.refl d w,rfl,Steps.refl _ _⟩
theorem Lg{a:Nat}{o:Oper}{f:aG}{args:List aG}(b:yK o.op=true)(d:bN P a o=some (.call f args)):∃c g,o.op=.call c∧c.callee=.value g∧gI P a g=some f∧uR P a c.args=some args:=by
 unfold yK at b;split at b
 ·rename_i c e;split at b;·simp_all[bN,adO,acR,af1,acm]
  grind
 grind
theorem AM{a:Nat}{o:Oper}{x:bO}(b:bN P a o=some x):∀c,o.op≠.defer c:=by grind[bN]
theorem Sx{ab:Nat→aE}{n:Nat}(M:ua P ab n)(V:Db P ab n):Db P ab (n+1):=by
 intro R Q H w A fr l is az K b a Y he B C k cs;cases l with
 |nil=>cases is with|cons i is=>trivial|nil=>exact .iJ (.one stepR_region_end) (.Dc B C ⟨trivial,he⟩ k cs)
 |cons x l=>
  cases is with
  |nil=>trivial
  |cons i is=>
   obtain⟨⟨o,z,hx⟩,Y⟩:=Y;obtain⟨xd,xh,xr,X,_⟩:=AL hx;have hg:=Ld B hx;have after:∀{r:aL}{H':af}{w':World}{v:AV}{c:Value},cz Q r→VR r v c→bt P R r H' w'→d9 R w w'→Steps P (lone (b.atR a (.inRegion az (i::is)::k)) cs w) (lone (b.atR (a.put o.dst c) (.inRegion az is::k)) cs w')→Go.ak.az False dF ab n l {fr with aa:=aM fr.aa x.dst v} H' K→iV P R Q A w b k cs (lone (b.atR a (.inRegion az (i::is)::k)) cs w) λj fr H=>(match j with|.none=>True|_=>False)∧K fr H:=by intro r H' w' v c h D s F hs J;have T:=(B.mono h).put D o.dst;rw[←xd]at T;exact .uX h F (.iJ hs (V Y J T s k cs))
   have u:∀c,(b.atR a (.inRegion az (i::is)::k)).finish c=b.atR (a.put o.dst c) (.inRegion az is::k):=by intro c;rw[Frame.finish_atR,z];rfl
   simp only[Go.ak.az,xh,xr,eM,d8,fh,bm]at he;cases L:ft fr.aa x.guard with
   |false=>
    rw[L]at he hg;simp only[ac6,bK]at he;split at he;case isFalse=>grind
    rename_i Z;have hg:=hg Z;have dW:=stepR_op_skip (P:=P) (b:=b) (a:=a) (k:=k) (cs:=cs) (w:=w) (ops:=az) (i:=i) (rest:=is) (by simp[z,hg]);rw[z]at dW;exact after (cz.refl Q) (VR.aiw Q) C (d9.refl R w) (.one dW) he
   |true=>
    have hg:=hg (Gj L);rw[L]at he hg;simp only[bm]at he;have e:=stepGR_op (P:=P) (b:=b) (a:=a) (k:=k) (cs:=cs) (w:=w) (rest:=is) z hg;have plain:∀{v:AV}{H':af},aB x.op fr.aa H=some (v,H')→Go.ak.az False dF ab n l {fr with aa:=aM fr.aa x.dst v} H' K→iV P R Q A w b k cs (lone (b.atR a (.inRegion az (i::is)::k)) cs w) λj fr H=>(match j with|.none=>True|_=>False)∧K fr H:=by
     intro v H' t J;have p:bN P A o=some x.op:=by
      rw[X]at t;rw[X];split at t;·simp[aB]at t
      rename_i G;rw[an G];cases I:bN P A o with|none=>rw[I]at t;simp[aB]at t|some q=>rfl
     rw[Oper.semAt_eq _ _ _ (AM p)]at e;obtain⟨c,w',y,r,h,D,s,F⟩:=AJ (dR.mk B.E C) p t;refine after h D s F (.one (step_lone_go ?_)) J;rw[e,←u];rcases y with S|⟨S,rfl⟩;·exact C9 S
     exact Ge S
    split at he
    ·rename_i f args d;have m:bN P A o=some (.call f args)∧yK o.op=true:=by
      rw[X]at d;split at d;·cases d
      rename_i G;rw[d]at G;simp only[bO.As,Bool.true_and,ahA,Bool.not_eq_false]at G;refine⟨?_,G⟩;cases I:bN P A o with|none=>rw[I]at d;cases d|some q=>rw[I]at d;simp only[ahs]at d;rw[d]
     obtain⟨c,g,ho,ag,h1,h2⟩:=Lg m.2 m.1;rw[Oper.semAt_eq _ _ _ (AM m.1)]at e;have W:execOp a.eval o=pb (a.eval g) (c.args.map a.eval):=by simp only[execOp,ho,resolve,ag,pb]
     rw[W]at e;have N:be Q (args.map (gv fr.aa)) (c.args.map a.eval).toList:=by rw[Array.toList_map];exact yR B.E C h2
     obtain⟨v,H',c',w',fr1,ax,w1,F,⟨r,h,D,s,O⟩,hb,hs⟩:=M he (yQ h1 B.E C) N C (b.atR a (.inRegion az (i::is)::k)) cs (by trivial);refine after h D s O ?_ F;rw[←u];exact .head (step_lone_go (by grind)) hs
    ·rename_i it d;have p:bN P A o=some (.lx it):=by
      rw[X]at d;split at d;·cases d
      cases I:bN P A o with|none=>rw[I]at d;cases d|some q=>rw[I]at d;simp only[ahs]at d;rw[d]
     split at he;·rename_i av ay G;obtain⟨j,cd,hj,ar,c,w',y,r,h,D,s,F⟩:=KZ (dR.mk B.E C) p G;have he:=he j hj;simp only[ar]at he;rw[Oper.semAt_eq _ _ _ (AM p)]at e;refine after h D s F (.one (step_lone_go ?_)) he;rw[e,←u];rcases y with S|⟨S,rfl⟩;all_goals grind[C9,Ge]
     grind
    grind
end
section
variable{P:Program}
def Lh(P:Program)(ab:Nat→aE)(n:Nat):Prop:=
 ∀{e:cJ}{c:aL}{H:af}{w:World}{d:Nat}{fr:Fr}{l:List aS}{id:Nat}{az:Array Oper}{K:Fr→af→Prop}{b:Frame}{a:Act},wC P d az true=some l→Go.ak.az False dF ab n l fr H K→iv c d fr b.roundOf a→bt P e c H w→
  ∀(k:List Item)(cs:List Frame),iV P e c d w b k cs (lone (b.atR a (.code (.region id az true)::k)) cs w) λj fr H=>(match j with|.none=>True|_=>False)∧K fr H
theorem yW.sn{x:Item}(a:∀id k,exitTo id (x::k)=exitTo id k){k:List Item}{j:cG}{t:List Item}(hj:match j with|.none=>False|_=>True)(h:yW (x::k) j t):yW k j t:=by cases j with|none=>grind|exit id=>obtain⟨b,h1,h2⟩:=h;exact⟨b,h1,h2.trans (a id k)⟩|ret=>exact h
theorem Sy{b:Nat}{az:Array Oper}{l:List aS}(h:wC P b az false=some l):yZ P b az (agV az.size) l:=by
 simp only[wC,adO,acR,Bool.not_false,bm,af1,acm]at h;obtain⟨c,h,rfl⟩:=h;have key:∀(da a:List Oper)(l:List aS),az.toList=da++a→a.mapM (sa P b az)=some l→yZ P b az (List.range' da.length a.length) l:=by
  intro da a;induction a generalizing da with
  |nil=>intro l _ h;simp at h;subst h;simp[yZ]
  |cons o a f=>
   intro l e h;simp only[aic,adO,acR,af1,acm]at h;obtain⟨x,g,c,d,rfl⟩:=h;simp only[ahh,List.range'_succ,yZ];refine⟨⟨o,?_,g⟩,?_⟩;·rw[←ahP,e];simp
   have:=f (da++[o]) c (by rw[e];simp) d;simpa using this
 have:=key [] az.toList c rfl h;simp_all[List.range_eq_range']
section
variable{b:Frame}{a:Act}{k:List Item}{cs:List Frame}{w:World}
theorem Li{c:Code}:step P (lone (b.atR a (.code (.scope c)::k)) cs w)=.next (lone (b.atR a (.code c:: .inScope c::k)) cs w):=step_lone_go (by rfl)
theorem Lj{c:Code}:step P (lone (b.atR a (.inScope c::k)) cs w)=.next (lone (b.atR a k) cs w):=step_lone_go (by rfl)
end
theorem y6{i:cJ}{c:aL}{H:af}{w:World}(j:bt P i c H w){l:ac}{st:rV}{cq:cG}{fn:Nat}{aa:am AV}{g:List ac}{as h:bp}{d:ac}(hl:H.get l=.loop st cq fn aa g as h d){b:Nat}{x:Nat}(hb:c l=some (b,x)):∃r,x=0∧w.heap[b]?=some (.loop r)∧pI st r.state∧pJ cq r.pending∧c d=some (r.defers,0)∧r.params.toList.map ac.dj=g∧∃f,iU c f aa r.tmps∧(∀p∈r.params.toList,p<f)∧eO P f r.assign=some as∧eO P f r.body=some h:=by obtain⟨o,q,k,e,m,n,a⟩:=j.aF (i:=l) (by grind);rw[hb]at e;injection e with e;injection e with e1 e2;subst e1;subst e2;rw[hl]at a;cases k<;>simp only[OR]at a;grind
theorem AN{b:Nat}{r:Loop}{w:World}(h:w.heap[b]?=some (.loop r)):(Instr.getLoop b).run P w=.ok r w:=by simp[h,Instr.getLoop,Sem.run_bind,yV,Result.andThen_ok,Sem.run_pure]
theorem Gk{e:cJ}{f:aL}{H:af}{w:World}(j:bt P e f H w){l:ac}{st:rV}{cq:cG}{fn:Nat}{aa:am AV}{g:List ac}{as h:bp}{d:ac}(hl:H.get l=.loop st cq fn aa g as h d){b:Nat}(hb:f l=some (b,0)){r:Loop}(k:w.heap[b]?=some (.loop r)){st':rV}{pend':cG}{s':LoopState}{p':Option Code}(h1:pI st' s')(h2:pJ pend' p')(c:Nat):(setObj b (.loop {r with state:=s',pending:=p'})).run P w=.ok () {w with heap:=w.heap.setIfInBounds b (.loop {r with state:=s',pending:=p'})}∧bt P e f (H.set l (.loop st' pend' c aa g as h d)) {w with heap:=w.heap.setIfInBounds b (.loop {r with state:=s',pending:=p'})}∧d9 e w {w with heap:=w.heap.setIfInBounds b (.loop {r with state:=s',pending:=p'})}:=by
 obtain⟨p,_,a,q,s,m,n,o⟩:=y6 j hl hb;rw[k]at a;injection a with a;injection a with a;subst a;have i:H.get l≠.none:=by rw[hl];simp
 have hu:=j.se (i:=l) (o':=.loop st' pend' c aa g as h d) (ob':=.loop {r with state:=s',pending:=p'}) i (by rw[hl];rfl) hb rfl (by simp only[OR];exact⟨trivial,h1,h2,m,n,o⟩) (by simp[gB]) (w':={w with heap:=w.heap.setIfInBounds b (.loop {r with state:=s',pending:=p'})}) rfl rfl rfl rfl;rw[hl]at hu;exact⟨AI w k (λ_ _ _=>by simp) _,hu.1,hu.2⟩
end
section
variable{P:Program}
theorem Sz{ab:Nat→aE}{n:Nat}(S:ua P ab n){W:cJ}{z:aL}{H:af}{w:World}{A:Nat}{fr:Fr}{f:Operand}{of:aG}{q:Array Tmp}{as B:Code}{F G:bp}{K:cG→Fr→af→Prop}{b:Frame}{a:Act}(hf:gI P A f=some of)(ba:eO P A as=some F)(bb:eO P A B=some G)(bc:∀p∈q.toList,p<A)(he:exec False dF ab (n+1) (.rangeFunc of (q.toList.map ac.dj) F G) fr H K)(L:iv z A fr b.roundOf a)(X:bt P W z H w)(k:List Item)(cs:List Frame):iV P W z A w b k cs (lone (b.atR a (.code (.rangeFunc f q as B)::k)) cs w) K:=by
 have J:∀{g:aL}{H1:af}{i:World}{fr1:Fr}{mark:List Deferred}{d:ac}{bd':Nat},cz z g→d9 W w i→bt P W g H1 i→iv g A fr1 b.roundOf {a with defers:=mark++a.defers}→g d=some (bd',0)→fr1.aa=fr.aa→(Instr.enterLoop b.fn a.tmps q as B b.roundOf).run P w=.ok (i.heap.size,mark) {i with heap:=i.heap.push (.loop {state:=.ready,pending:=none,fn:=b.fn,tmps:=a.tmps,params:=q,assign:=as,body:=B,defers:=bd'})}→(gS False dF ab n (gv fr1.aa of) [.yield H1.next] (H1.new (.loop .ready .none 0 fr1.aa (q.toList.map ac.dj) F G d)) λ_ H'=>match H'.get H1.next with
  |.loop st cq fn aa q as B d=>match st with|.busy=>False|_=>K cq fr1 (H'.set H1.next (.loop .exhausted cq fn aa q as B d))
  |_=>False)→iV P W z A w b k cs (lone (b.atR a (.code (.rangeFunc f q as B)::k)) cs w) K:=by
  intro g H1 i fr1 mark d bd' s bd O Z hd ay a1 bv;have a2:∀j c y,g j=some (c,y)→c=i.heap.size→g.k i.heap.size=(0,0):=λj c y e hc=>by have:=O.fu j c y e;omega
  have t:cz g (g.add H1.next i.heap.size 0 (0,0)):=aL.sd _ _ _ (O.dV _ (adW _)).2 a2;obtain⟨M,q2,q3⟩:=O.alloc (o:=.loop .ready .none 0 fr1.aa (q.toList.map ac.dj) F G d) (ob:=.loop {state:=.ready,pending:=none,fn:=b.fn,tmps:=a.tmps,params:=q,assign:=as,body:=B,defers:=bd'}) (0,0) (by simp[gB]) (by simp) rfl (by simp only[OR];exact⟨trivial,by simp[pI],by simp[pJ],(t _ _ hd).1,by trivial,A,by rw[ay];exact(L.E.mono s).mono t,bc,ba,bb⟩);have b0:VR (g.add H1.next i.heap.size 0 (0,0)) (gv fr1.aa of) (a.eval f):=yQ (a:={a with defers:=mark++a.defers}) hf (Z.E.mono M) q2;obtain⟨v,H',c,w',b3,b4,w2,hK,⟨b5,m,hv,ag,T⟩,hb,hs⟩:=S bv b0 (args:=[.yield H1.next]) (argv:= #[.func (.yield i.heap.size) #[] #[]]) (by simp only[be,VR];exact⟨⟨aL.fy ..,by trivial,by trivial⟩,trivial⟩) q2 (b.atR {a with defers:=mark++a.defers} (.inRangeFunc i.heap.size::k)) cs (by simp[sj,Frame.atR]);rw[finish_atR_inRangeFunc]at hs;split at hK
  ·rename_i st cq fn aa ar av ax d' hl;have u:=(m _ _ (aL.fy g H1.next i.heap.size 0 (0,0))).1;obtain⟨r,_,C,g1,N,_⟩:=y6 ag hl u;have b6:st≠.busy∧K cq fr1 (H'.set H1.next (.loop .exhausted cq fn aa ar av ax d')):=by cases st<;>first|exact hK.elim|exact⟨by simp,hK⟩
   obtain⟨s1,s2,s3⟩:=Gk ag hl u C (st':=.exhausted) (s':=.exhausted) (pend':=cq) (p':=r.pending) (by simp[pI]) N fn;have a6:(Instr.endLoop i.heap.size).run P w'=.ok r.pending {w' with heap:=w'.heap.setIfInBounds i.heap.size (.loop {r with state:=.exhausted,pending:=r.pending})}:=by
    have dW:(r.state==.busy)=false:=by cases hs:r.state<;>rw[hs]at g1<;>cases st<;>simp_all[pI]
    simp only[Instr.endLoop,Sem.run_bind,AN C,Result.andThen_ok,dW,ac6,bK,Sem.run_pure];have:(setObj i.heap.size (.loop {r with state:=.exhausted})).run P w'=_:=s1;rw[this];rfl
   have I:step P (lone (b.atR a (.code (.rangeFunc f q as B)::k)) cs w)=.next (lone b3 b4 w2):=by
    refine step_lone_go ?_;rw[←hb];have Q:=Frame.eval_atR b {a with defers:=mark++a.defers} (.inRangeFunc i.heap.size::k);simp only[Frame.atR]at Q;have a8:(({a with defers:=mark++a.defers}:Act)).eval=a.eval:=by funext x;cases x<;>rfl
    rw[a8]at Q;have a':(do let d←resolve a.eval {callee:=.value f,args:= #[.const (.func (.yield i.heap.size) #[] #[])],argTypes:= #[]} 0;invoke d.target d.args)=pb (a.eval f) #[.func (.yield i.heap.size) #[] #[]]:=by simp[pb,resolve,Act.eval]
    simp only[stepG,stepG.exec,Frame.atR,Sem.runT_eq,a1,GStep.bare_after,Q,a']
   have V:yW k cq ((r.pending.map Item.code).toList++k):=by cases hp:r.pending with|none=>rw[hp]at N;cases cq<;>simp_all[pJ,yW]|some cc=>rw[hp]at N;cases cq with|none=>simp[pJ]at N|exit id=>cases cc<;>simp only[pJ]at N;subst N;exact⟨k,rfl,rfl⟩|ret=>cases cc<;>simp only[pJ]at N;exact⟨k,rfl⟩
   refine⟨cq,fr1,_,b5,{a with defers:=mark++a.defers},_,_,b6.2,s.trans (M.trans m),(Z.mono M).mono m,s2,bd.trans (q3.trans (T.trans s3)),V,.head I (hs.trans (.one (stepR_endRangeFunc a6)))⟩
  exact hK.elim
 simp only[exec]at he;cases C:b.roundOf with
 |none=>
  have o:fr.bD=none:=by have:=L.R;rw[C]at this;cases h:fr.bD<;>rw[h]at this<;>simp_all[o0]
  rw[o]at he;simp only at he;have s:cz z (z.add H.next w.heap.size 0 (0,0)):=aL.sd _ _ _ (X.dV _ (adW _)).2 (λj c y e hc=>by have:=X.fu j c y e;omega);obtain⟨M,q2,q3⟩:=X.alloc (o:=.deferred false) (ob:=.deferred (some [])) (0,0) (by simp[gB]) (by simp) rfl (by simp[OR]);refine J (fr1:=⟨fr.aa,H.next::fr.bF,none⟩) (mark:=[{target:=.collected w.heap.size,args:= #[]}]) (d:=H.next) (bd':=w.heap.size) M q3 q2 ⟨L.E.mono M,?_,?_⟩ (aL.fy ..) rfl ?_ he;·simp only[ahC,ahH,mi];refine⟨?_,L.D.mono M⟩;exact⟨w.heap.size,aL.fy ..,rfl⟩
  ·simp only[C,o0]
  simp only[C,Instr.enterLoop,Sem.run_bind,run_newObj,Result.andThen_ok,Sem.run_pure]
 |some l=>
  obtain⟨Y,o⟩:∃Y,fr.bD=some Y:=by have:=L.R;rw[C]at this;cases h:fr.bD with|none=>rw[h]at this;simp[o0]at this|some Y=>exact⟨Y,rfl⟩
  have b':z Y=some (l,0):=by have:=L.R;rw[C,o]at this;exact this
  rw[o]at he;simp only at he;split at he;·rename_i st cq fn aa ar av ax d' hl;obtain⟨r,_,ca,_,_,g3,_⟩:=y6 X hl b';refine J (mark:=[]) (d:=d') (bd':=r.defers) (cz.refl z) (d9.refl W w) X (by simpa using L) g3 rfl ?_ he;simp[Instr.enterLoop,C,AN ca]
  exact he.elim
theorem Steps.SA{m b a:Machine}(h:Steps P m a)(hs:step P m=.next b)(d:a≠m):Steps P b a:=by obtain⟨n,c⟩:=h;cases n with|zero=>simp_all[runN,Stepped.next.injEq,absurd]|succ n=>simp only[runN,hs]at c;exact⟨n,c⟩
theorem SB{ab:Nat→aE}(ht:j9 P ab){n:Nat}(o:yY P ab n)(J:Db P ab n)(F:Lh P ab n)(G:ua P ab n):yY P ab (n+1):=by
 intro Wr M H w nt fr c cc K b a d he z A k cs;induction cc generalizing k c with
 |skip=>simp only[eO,acm]at d;subst d;simp only[exec]at he;exact .iJ (.one stepR_skip) (.Dc z A he k cs)
 |label l=>simp only[eO,acm]at d;subst d;simp only[exec]at he;exact .iJ (.one stepR_label) (.Dc z A he k cs)
 |region id az L=>
  simp only[eO,afi]at d;obtain⟨l,hl,rfl⟩:=d;simp only[exec]at he;cases L with
  |false=>refine .iJ (.one stepR_region) ((J (Sy hl) he z A k cs).mono ?_);rintro j fr H⟨h1,h2⟩;cases j<;>first|exact h2|exact h1.elim
  |true=>refine(F hl he z A k cs).mono ?_;rintro j fr H⟨h1,h2⟩;cases j<;>first|exact h2|exact h1.elim
 |seq x y V W=>
  simp only[eO]at d;split at d
  ·rename_i S a6 C N;injection d with d;split at d
   ·rename_i t X;subst d;simp only[exec]at he;split at he
    ·rename_i g hg;split at he;·rename_i a2 H' Y;refine(ht.eB t g hg C N (Ov.Q6 _ _ X).symm Y z A k cs).mono ?_;rintro j fr1 H1⟨rfl,rfl,rfl⟩;exact he
     exact he.elim
    exact he.elim
   subst d;simp only[exec]at he;obtain⟨j,q,H',r,B,w',t,h1,h2,h3,s,u,v,D⟩:=o C he z A (.code y::k) cs;refine .iJ (.one stepR_seq) (.iJ D ?_);cases j with|none=>rw[show t=.code y::k from v];exact .uX h2 u (o N h1 h3 s k cs)|exit id=>exact⟨.exit id,q,H',r,B,w',t,h1,h2,h3,s,u,v.sn (λ_ _=>rfl) trivial,Steps.refl _ _⟩|ret=>exact⟨.ret,q,H',r,B,w',t,h1,h2,h3,s,u,v.sn (λ_ _=>rfl) trivial,Steps.refl _ _⟩
  cases d
 |cond c0 x y V W=>
  simp only[eO]at d;split at d
  ·rename_i oc S a6 h0 C N;injection d with d;subst d;simp only[exec]at he;have O:=yQ h0 z.E A;split at he;·rename_i h;rw[h]at O;exact .iJ (.one (stepR_cond O.qQ)) (o C he z A k cs)
   ·rename_i h;rw[h]at O;exact .iJ (.one (stepR_cond O.qQ)) (o N he z A k cs)
   exact he.elim
  cases d
 |block id x T=>
  simp only[eO,afi]at d;obtain⟨S,C,rfl⟩:=d;simp only[exec]at he;obtain⟨j,q,H',r,B,w',t,h1,h2,h3,s,u,v,D⟩:=o C he z A (.inBlock id::k) cs;refine .iJ (.one stepR_block) (.iJ D ?_);cases j with
  |none=>rw[show t=.inBlock id::k from v];exact .iJ (.one stepR_inBlock) ⟨.none,q,H',r,B,w',k,h1,h2,h3,s,u,rfl,Steps.refl _ _⟩
  |exit i=>
   obtain⟨Q,rfl,I⟩:=v;simp only at h1;split at h1
   ·rename_i hi;have hi:=agO hi;subst hi;have:exitTo i Q=some k:=by rw[I];simp[exitTo]
    exact .iJ (.one (stepR_exit this)) ⟨.none,q,H',r,B,w',k,h1,h2,h3,s,u,rfl,Steps.refl _ _⟩
   rename_i hi;have Z:(id==i)=false:=by have:¬id=i:=λe=>hi (by subst e;exact ahQ _);simpa using this
   exact⟨.exit i,q,H',r,B,w',_,h1,h2,h3,s,u,⟨Q,rfl,by rw[I];simp[exitTo,Z]⟩,Steps.refl _ _⟩
  |ret=>exact⟨.ret,q,H',r,B,w',t,h1,h2,h3,s,u,v,Steps.refl _ _⟩
 |loop x T=>have ag:=d;simp only[eO,afi]at d;obtain⟨S,C,rfl⟩:=d;simp only[exec]at he;obtain⟨j,q,H',r,B,w',t,h1,h2,h3,s,u,v,D⟩:=o C he z A (.inLoop x::k) cs;refine .iJ (.one stepR_loop) (.iJ D ?_);cases j with|none=>rw[show t=.inLoop x::k from v];obtain⟨j2,ar,H2,av,a8,w2,t2,e1,e2,e3,e4,e5,R,e7⟩:=o ag h1 h3 s k cs;have hs:=Steps.SA e7 stepR_loop (by intro e;have:t2=.code (.loop x)::k:=congrArg (λm:Machine=>(m.gs.getD 0 (default:Goroutine)).frame.todo) e;cases j2 with|none=>have h:=R;rw[show t2=k from h]at this;have:=congrArg List.length this;simp at this|exit id=>obtain⟨Q,h,_⟩:=R;rw[h]at this;cases this|ret=>obtain⟨Q,h⟩:=R;rw[h]at this;cases this);exact⟨j2,ar,H2,av,a8,w2,t2,e1,h2.trans e2,e3,e4,u.trans e5,R,.head stepR_inLoop hs⟩|exit id=>exact⟨.exit id,q,H',r,B,w',t,h1,h2,h3,s,u,v.sn (λ_ _=>rfl) trivial,Steps.refl _ _⟩|ret=>exact⟨.ret,q,H',r,B,w',t,h1,h2,h3,s,u,v.sn (λ_ _=>rfl) trivial,Steps.refl _ _⟩
 |scope x T=>simp only[eO]at d;obtain⟨j,q,H',r,B,w',t,h1,h2,h3,s,u,v,D⟩:=T d he (.inScope x::k);refine .iJ (.one Li) (.iJ D ?_);cases j with|none=>rw[show t=.inScope x::k from v];exact .iJ (.one Lj) ⟨.none,q,H',r,B,w',k,h1,h2,h3,s,u,rfl,Steps.refl _ _⟩|exit id=>exact⟨.exit id,q,H',r,B,w',t,h1,h2,h3,s,u,v.sn (λ_ _=>rfl) trivial,Steps.refl _ _⟩|ret=>exact⟨.ret,q,H',r,B,w',t,h1,h2,h3,s,u,v.sn (λ_ _=>rfl) trivial,Steps.refl _ _⟩
 |rangeFunc f ps as bd=>
  simp only[eO]at d;split at d
  ·rename_i of a' ba h0 ax ay;split at d;·rename_i a1;injection d with d;subst d;exact Sz G h0 ax ay (λp hp=>by have:=ah1.1 a1 p hp;simpa using this) he z A k cs
   cases d
  cases d
 |exit id=>simp only[eO,acm]at d;subst d;simp only[exec]at he;exact⟨.exit id,fr,H,M,a,w,_,he,cz.refl M,z,A,d9.refl Wr w,⟨k,rfl,rfl⟩,Steps.refl _ _⟩
 |ret=>simp only[eO,acm]at d;subst d;simp only[exec]at he;exact⟨.ret,fr,H,M,a,w,_,he,cz.refl M,z,A,d9.refl Wr w,⟨k,rfl⟩,Steps.refl _ _⟩
 |goto l=>simp[eO]at d
 |refuse bb=>simp[eO]at d
end
section
variable{P:Program}
theorem SC{ab:Nat→aE}(ht:j9 P ab){n:Nat}(i:yY P ab n):ua P ab (n+1):=by
 intro Wr W H w fa args K fv argv he hf ha hI fr cs hat;simp only[gS]at he;split at he
 ·rename_i f first e;obtain⟨x,y,hx,hy,rfl⟩:=hf.CW;have eS:be W (first++args++e) ((x++argv++y).toList):=by simp only[Array.toList_append];exact be.append (be.append hx ha) hy
  have I:pb (.func (.func f) x y) argv=callFunc f (x++argv++y):=by simp[pb,Deferred.ofValue,invoke]
  split at he;·exact he.elim
  ·exact he.elim
  ·rename_i g hg;split at he;·rename_i v H' ba;obtain⟨v',cx,c,w',fr1,bb,T,⟨rfl,rfl⟩,hp,hb,hs⟩:=ht.gZ f g hg ba eS hI fr cs hat;exact⟨_,_,c,w',fr1,bb,T,he,hp,hb,hs⟩
   exact he.elim
  rename_i nt rs body hg;obtain⟨fn,M,X,Q⟩:=ht.code f nt rs body hg;split at he;case isFalse=>exact he.elim
  rename_i N;have N:=agT N;simp only[tH,adO,acR,af1,acm,aE.code.injEq]at X;obtain⟨cc,Y,cf,R,bc,bd,e1,e2,e3⟩:=X;subst e1;subst e2;subst e3;have o:(callFunc f (x++argv++y)).run P w=.ok (.enter f (x++argv++y)) w:=by simp only[callFunc,Sem.run_bind,run_program,Result.andThen_ok,M,Q,Y,Option.isNone_some,ac6,bK,Sem.run_pure]
  let b:Frame:={(default:Frame)with fn:=f,kind:=.normal};let a:Act:={tmps:=(x++argv++y)++ain (fn.ntmps - (x++argv++y).size) undef,defers:=[]};have z:Frame.enter P f (x++argv++y) .normal=b.atR a [.code cc]:=by simp only[Frame.enter,Frame.atR,M,Y,b,a,ahb,ahs,ah5];rfl
  have hF:iv W fn.ntmps ⟨kx (first++args++e) .xH .aJ,[],none⟩ b.roundOf a:=⟨Gg eS N,trivial,trivial⟩;obtain⟨j,Z,H',bv,a',w',t,h1,h2,h3,h4,h5,h6,h7⟩:=i R he hF hI [] (fr::cs);have a1:∃L:Frame,L={b.atR a' L.todo with mode:=.returning}∧step P (lone (b.atR a' t) (fr::cs) w')=.next (lone L (fr::cs) w'):=by cases j with|none=>rw[show t=[]from h6];exact⟨_,rfl,stepR_end rfl⟩|exit id=>exact h1.elim|ret=>obtain⟨k0,rfl⟩:=h6;exact⟨_,rfl,stepR_ret rfl⟩
  obtain⟨L,k,dW⟩:=a1;have m:(match jw H' Z.bF with
   |some H=>match gG Z.aa H bc with|some l=>K (iu l) H|none=>False
   |none=>False):=by cases j with|none=>exact h1|exit id=>exact h1.elim|ret=>exact h1
  split at m
  ·rename_i H2 hm;split at m
   ·rename_i l hl;have a2:L={L with defers:=a'.defers}:=by rw[k];rfl
    obtain⟨G,s1,s2,s3⟩:=C' h4 h3.D hm L (fr::cs) (by rw[k]);rw[←a2]at s1;obtain⟨c,hc,hv⟩:=Gi s2 h3.E bd hl;refine⟨iu l,H2,c,G,_,_,_,m,⟨bv,h2,hv,s2,h5.trans s3⟩,La hat o,?_⟩;rw[z];refine h7.trans (.head dW (s1.trans (.one ?_)));refine step_leave_returned ⟨by rw[k],rfl,by rw[k];rfl,fn,by rw[k];exact M,?_⟩;rw[k];exact hc
   exact m.elim
  exact m.elim
 ·rename_i l;obtain⟨bl,O,rfl⟩:=hf.CX;have I:pb (.func (.yield bl) #[] #[]) argv=Instr.yield bl argv:=by simp[pb,Deferred.ofValue,invoke]
  rw[I];split at he
  ·rename_i st cq cy aa ps as ds d hl;obtain⟨r,_,hr,g1,g2,g3,g4,nt,g5,g6,g7,g8⟩:=y6 hI hl O;split at he
   ·split at he;case isFalse=>exact he.elim
    rename_i q;have b0:argv.size=r.params.size:=by have e1:=be.length ha;rw[←g4]at q;simp at e1 q;omega
    have o:(Instr.yield bl argv).run P w=.ok (.round bl r.fn ((r.params.zip argv).foldl (λtmps(t,a)=>tmps.setIfInBounds t a) r.tmps) r.assign r.body) w:=by simp only[Instr.yield,Sem.run_bind,AN hr,Result.andThen_ok,b0,ne_eq,not_true_eq_false,bK,Sem.run_pure]
    let b:Frame:={(default:Frame)with fn:=r.fn,kind:=.normal,roundOf:=some bl};let a:Act:={tmps:=(r.params.zip argv).foldl (λtmps(t,a)=>tmps.setIfInBounds t a) r.tmps,defers:=[]};have A:Frame.round bl r.fn a.tmps r.assign r.body .normal=b.atR a [.code r.assign,.beginRound,.code r.body]:=rfl;have hE:iU W nt (ow ps args aa) a.tmps:=by
     have:=Lc (ps:=r.params.toList) g5 ha (by rw[q,←g4,agZ]);rw[g4]at this;have e2:a.tmps=(r.params.toList.zip argv.toList).foldl (λtmps(p:Tmp×Value)=>tmps.setIfInBounds p.1 p.2) r.tmps:=by show(r.params.zip argv).foldl _ _=_;rw[←Array.foldl_toList,Array.toList_zip]
     rw[e2];exact this
    have hF:iv W nt ⟨ow ps args aa,[],some l⟩ b.roundOf a:=⟨hE,trivial,O⟩;obtain⟨j,fr1,H1,cE,dv,T,t,h1,h2,h3,h4,h5,h6,h7⟩:=i g7 he hF hI [.beginRound,.code r.body] (fr::cs);split at h1
    ·rename_i S b3 cv c8 qT c9 d1 ag;rw[show t=[.beginRound,.code r.body]from h6]at h7;have s:=(h2 _ _ O).1;obtain⟨V,_,ar,q1,q2,q3,q4,c',q5,q6,q7,q8⟩:=y6 h4 ag s;obtain⟨s1,s2,s3⟩:=Gk h4 ag s ar (st':=.busy) (s':=.busy) (pend':=S) (p':=V.pending) (by simp[pI]) q2 b3;have B:V.state=.ready:=by cases hs:V.state<;>rw[hs]at q1<;>simp_all[pI]
     have C:(Instr.beginRound bl).run P T=.ok () {T with heap:=T.heap.setIfInBounds bl (.loop {V with state:=.busy,pending:=V.pending})}:=by simp only[Instr.beginRound,Sem.run_bind,AN ar,Result.andThen_ok];have:(setObj bl (.loop {V with state:=.busy})).run P T=_:=s1;rw[this];simp only[Result.andThen_ok,B,Sem.run_pure]
     obtain⟨j2,dm,H2,b4,cp,G,t2,e1,e2,e3,e4,e5,e6,e7⟩:=i g8 h1 h3 s2 [] (fr::cs);have F:Steps P (lone (Frame.round bl r.fn a.tmps r.assign r.body .normal) (fr::cs) w) (lone (b.atR cp t2) (fr::cs) G):=by rw[A];exact h7.trans (.head (stepR_beginRound rfl C) e7)
     split at e1
     ·rename_i dr cn av a6 b5 b6 b' d2 ax;have J:=(e2 _ _ s).1;obtain⟨r2,_,ay,z1,z2,z3,z4,z5⟩:=y6 e4 ax J;have aq:∀(j:cG)(u:Option Code)(st':rV)(s':LoopState),pI st' s'→pJ j u→s'=(if u.isNone then .ready else .done)→K (.bool u.isNone) (H2.set l (.loop st' j av a6 b5 b6 b' d2))→(∀{v:Value}{w':World},(Instr.endRound bl u).run P G=.ok v w'→step P (lone (b.atR cp t2) (fr::cs) G)=.next (lone (fr.finish v) cs w'))→yX P Wr W w (Instr.yield bl argv) fr cs K:=by
       intro j u st' s' y1 y2 y3 y4 y5;obtain⟨u1,u2,u3⟩:=Gk e4 ax J ay (st':=st') (s':=s') (pend':=j) (p':=u) y1 y2 av;have a8:(Instr.endRound bl u).run P G=.ok (.bool u.isNone) {G with heap:=G.heap.setIfInBounds bl (.loop {r2 with state:=s',pending:=u})}:=by simp only[Instr.endRound,Sem.run_bind,AN ay,Result.andThen_ok,←y3,u1,Sem.run_pure]
       exact⟨_,_,.bool u.isNone,_,_,_,_,y4,⟨b4,h2.trans e2,by simp[VR],u2,h5.trans (s3.trans (e5.trans u3))⟩,Sv hat o,F.trans (.one (y5 a8))⟩
      cases j2 with|none=>have ca:t2=[]:=e6;subst ca;exact aq .none none .ready .ready (by simp[pI]) (by simp[pJ]) rfl e1 (λh=>stepR_round_end rfl rfl h)|exit id=>obtain⟨k0,rfl,cd⟩:=e6;exact aq (.exit id) (some (.exit id)) .done .done (by simp[pI]) (by simp[pJ]) rfl e1 (λh=>stepR_round_exit rfl rfl cd h)|ret=>obtain⟨k0,rfl⟩:=e6;exact aq .ret (some .ret) .done .done (by simp[pI]) (by simp[pJ]) rfl e1 (λh=>stepR_round_ret rfl rfl h)
     exact e1.elim
    exact h1.elim
   exact he.elim
  exact he.elim
 exact he.elim
end
section
variable{P:Program}{aa env':am AV}{H H1 H':af}{v:AV}
theorem lU:∀{x:aG},(∀p∈x.cH,aa.get .aiw p=env'.get .aiw p)→gv aa x=gv env' x|.t p,h=>h p (by simp[aG.cH])|.c _,_=>rfl
theorem Dd:∀{l:List aG},(∀p∈l.flatMap aG.cH,aa.get .aiw p=env'.get .aiw p)→l.map (gv aa)=l.map (gv env')|[],_=>rfl|x::l,h=>by simp only[ah8,agI]at h;simp only[agN,lU (x:=x) λp a=>h p (.inl a),Dd (l:=l) λp a=>h p (.inr a)]
theorem wL{x:Option aG}(h:∀p∈yJ x,aa.get .aiw p=env'.get .aiw p)(d y:Nat):ji aa x d y=ji env' x d y:=by cases x with|none=>rfl|some x=>simp only[ji,lU (x:=x) h]
theorem Gl:∀{a:List (Nat×Nat×aG)},(∀p∈a.flatMap (λp=>p.2.2.cH),aa.get .aiw p=env'.get .aiw p)→∀l,nI aa l a=nI env' l a
 |[],_,_=>rfl
 |(off,size,x)::a,h,l=>by
  simp only[ah8,agI]at h;simp only[nI,lU (x:=x) λp b=>h p (.inl b)];split
  ·split;·exact Gl (λp b=>h p (.inr b)) _
   rfl
  rfl
theorem Gm{op:bO}(h:∀p∈op.cH,aa.get .aiw p=env'.get .aiw p)(H:af):aB op aa H=aB op env' H:=by
 cases op<;>simp only[bO.cH,agI]at h;case build i j=>grind[aB,Gl]
 case buildSlice e n i j=>grind[aB,Gl]
 case iG f a b=>grind[aB,Dd]
 case pF b l=>grind[aB,Dd]
 case yr n s x a b c=>simp only[aB,lU (x:=x) λp g=>h p (.inl g),wL (x:=a) λp g=>h p (.inr (.inl g)),wL (x:=b) λp g=>h p (.inr (.inr (.inl g))),wL (x:=c) λp g=>h p (.inr (.inr (.inr g)))]
 case gR e s x a b c=>simp only[aB,lU (x:=x) λp g=>h p (.inl g),wL (x:=a) λp g=>h p (.inr (.inl g)),wL (x:=b) λp g=>h p (.inr (.inr (.inl g))),wL (x:=c) λp g=>h p (.inr (.inr (.inr g)))]
 case wt x a b=>grind[aB,lU,wL]
 case pick c a b=>grind[aB,lU]
 case ju d m k v=>simp only[aB,lU (x:=m) λp g=>h p (.inl g),lU (x:=k) λp g=>h p (.inr (.inl g)),lU (x:=v) λp g=>h p (.inr (.inr g))]
 case entryStore m k v=>simp only[aB,lU (x:=m) λp g=>h p (.inl g),lU (x:=k) λp g=>h p (.inr (.inl g)),lU (x:=v) λp g=>h p (.inr (.inr g))]
 all_goals first|rfl|(simp only[aB,lU h];done)|(rename_i x y;simp only[aB,lU (x:=x) λp g=>h p (.inl g),lU (x:=y) λp g=>h p (.inr g)];done)
theorem SD{op:bO}(f:op.plain=true)(he:aB op aa H=some (v,H1)):H1=H∧∀H',aB op aa H'=some (v,H'):=by
 cases op<;>(try(simp[bO.plain]at f;done));case gR e s x lo hi g=>
  cases lo with
  |some q=>simp[bO.plain]at f
  |none=>
   simp only[aB,Option.isNone_none,Bool.or_true,Bool.true_or,bm]at he⊢;split at he;·simp only[adO,acR,acm,age]at he;obtain⟨m,e1,d,e2,l,c,rfl,rfl⟩:=he;exact⟨rfl,λH'=>by simp[e1,e2,c]⟩
   ·simp only[adO,acR,acm,age]at he;obtain⟨m,e1,d,e2,l,c,rfl,rfl⟩:=he;exact⟨rfl,λH'=>by simp[e1,e2,c]⟩
   cases he
 case wt x a b=>
  simp only[aB]at he⊢;split at he;·simp only[adO,acR,acm,age]at he;obtain⟨d,e2,l,c,rfl,rfl⟩:=he;exact⟨rfl,λH'=>by simp[e2,c]⟩
  cases he
 case mH x a=>
  simp only[aB]at he⊢;split at he;·rw[afi]at he;obtain⟨q,h1,h2⟩:=he;rw[age]at h2;obtain⟨rfl,rfl⟩:=h2;exact⟨rfl,λH'=>by rw[h1];rfl⟩
  cases he
 all_goals simp only[aB]at he⊢;first|(simp only[acm,age]at he;obtain⟨rfl,rfl⟩:=he;exact⟨rfl,λ_=>rfl⟩)|(simp only[afi,age]at he;obtain⟨a,h1,rfl,rfl⟩:=he;exact⟨rfl,λ_=>by simp[h1]⟩)|(split at he<;>first|(cases he;done)|(simp only[acm,age]at he;obtain⟨rfl,rfl⟩:=he;exact⟨rfl,λ_=>rfl⟩)|(simp only[afi,age]at he;obtain⟨a,h1,rfl,rfl⟩:=he;exact⟨rfl,λ_=>by simp[h1]⟩)|(simp only[adO,acR,acm,age]at he;obtain⟨m,e1,d,e2,l,c,rfl,rfl⟩:=he;exact⟨rfl,λH'=>by simp[e1,e2,c]⟩)|(simp only[adO,acR,acm,age]at he;obtain⟨d,e2,l,c,rfl,rfl⟩:=he;exact⟨rfl,λH'=>by simp[e2,c]⟩)|(split at he<;>first|(cases he;done)|(simp only[acm,age]at he;obtain⟨rfl,rfl⟩:=he;exact⟨rfl,λ_=>by simp[*]⟩)|(simp only[afi,age]at he;obtain⟨a,h1,rfl,rfl⟩:=he;exact⟨rfl,λ_=>by simp[*]⟩)|(split at he<;>first|(cases he;done)|(simp only[acm,age]at he;obtain⟨rfl,rfl⟩:=he;exact⟨rfl,λ_=>by simp[*]⟩))))
def bO.target(aa:am AV):bO→Option ac
 |.aW a|.fZ _ a|.wu a|.wp a=>jd (gv aa a)
 |.lookup _ _ _ m _=>jd (gv aa m)
 |.gR _ _ x _ _ b=>match gv aa x with
  |.slice id _ _ _ false=>if b.isSome then none else some id
  |_=>none
 |_=>none
theorem Lk{id:ac}{off n:Nat}{l:List AV}(h:fj H id off n=some l):H.get id≠.none∧∀H',H'.get id=H.get id→fj H' id off n=some l:=by grind[fj]
theorem Ll{a:AV}{n:Nat}{g:Bool}(h:ja H a n g=some v):∃id off,a=.aw id off∧H.get id≠.none∧∀H',H'.get id=H.get id→ja H' a n g=some v:=by
 unfold ja at h⊢;split at h
 ·rename_i id off;split at h;·rename_i l hl;obtain⟨h1,h2⟩:=Lk hl;grind
  grind
 grind
theorem Lm{op:bO}(p:op.j8=true)(he:aB op aa H=some (v,H1)):H1=H∧(∀j,op.target aa=some j→H.get j≠.none)∧∀H',(∀j,op.target aa=some j→H'.get j=H.get j)→aB op aa H'=some (v,H'):=by
 cases op<;>(try(simp[bO.j8]at p;done));case aW a=>simp only[aB,afi,age]at he⊢;obtain⟨q,h1,rfl,rfl⟩:=he;obtain⟨id,off,r,h2,h3⟩:=Ll h1;refine⟨rfl,λj hj=>?_,λH' hj=>⟨q,h3 H' (hj id ?_),by rfl,by simp⟩⟩;all_goals simp_all[bO.target,jd,acm]
 case fZ n a=>simp only[aB,afi,age]at he⊢;obtain⟨q,h1,rfl,rfl⟩:=he;obtain⟨id,off,r,h2,h3⟩:=Ll h1;refine⟨rfl,λj hj=>?_,λH' hj=>⟨q,h3 H' (hj id ?_),by rfl,by simp⟩⟩;all_goals simp_all[bO.target,jd,acm]
 case wu x=>
  simp only[aB]at he⊢;split at he;·rename_i b;obtain⟨rfl,rfl⟩:=he;refine⟨rfl,λj hj=>?_,λH' hj=>by rfl⟩;simp_all[bO.target,jd]
  ·rename_i id b;split at he;·rename_i hi;obtain⟨rfl,rfl⟩:=he;refine⟨rfl,λj hj=>?_,λH' hj=>?_⟩;all_goals simp_all[bO.target,jd,acm]
   ·rename_i hi;obtain⟨rfl,rfl⟩:=he;refine⟨rfl,λj hj=>?_,λH' hj=>?_⟩;all_goals simp_all[bO.target,jd,acm]
   grind
  grind
 case wp x=>
  simp only[aB]at he⊢;split at he;·rename_i b;obtain⟨rfl,rfl⟩:=he;refine⟨rfl,λj hj=>?_,λH' hj=>by rfl⟩;simp_all[bO.target,jd]
  ·rename_i id off len c e b;split at he;·rename_i l hl;simp only[afi,age]at he;obtain⟨q,h1,rfl,rfl⟩:=he;obtain⟨h2,h3⟩:=Lk hl;refine⟨rfl,λj hj=>?_,λH' hj=>?_⟩;all_goals simp_all[bO.target,jd,acm]
   grind
  grind
 case lookup d z ok m k=>
  simp only[aB]at he⊢;split at he;·cases he
  rename_i f;split at he;·rename_i b;simp only[acm,age]at he;obtain⟨rfl,rfl⟩:=he;refine⟨rfl,λj hj=>?_,λH' hj=>by simp[b,f]⟩;simp[bO.target,b,jd]at hj
  ·rename_i id b;have i:bO.target aa (.lookup d z ok m k)=some id:=by simp only[bO.target,b,jd]
   split at he;all_goals(try(cases he;done))
   all_goals
    rename_i hi;refine⟨?_,λj hj=>?_,λH' hj=>?_⟩;·split at he<;>first|(cases he;done)|(simp only[acm,age]at he;exact he.2.symm)
    ·rw[i]at hj;injection hj with hj;subst hj;rw[hi];simp
    have:=hj id i;simp only[b,f,this,hi,ac6,bK];split at he<;>first|(cases he;done)|(simp only[acm,age]at he;rename_i t;simp only[t,he.1])
  cases he
 case gR e s x lo hi o=>
  simp only[aB]at he⊢;split at he;·rename_i b;simp only[adO,acR,acm,age]at he;obtain⟨m,e1,u,e2,l,w,rfl,rfl⟩:=he;refine⟨rfl,λj hj=>?_,λH' hj=>by grind⟩;simp_all[bO.target]
  ·rename_i id off len cap ex b;simp only[adO,acR]at he;obtain⟨m,e1,u,e2,l,w,he⟩:=he;split at he
   ·rename_i h;obtain⟨rfl,rfl⟩:=he;refine⟨rfl,λj hj=>?_,λH' hj=>?_⟩
    ·cases lo with
     |none=>trivial
     |some lo=>
      simp only[bO.target,b]at hj;cases ex with
      |true=>grind
      |false=>
       simp only at hj;split at hj;·grind
       rename_i g;injection hj with hj;subst hj;simp only[Bool.false_or,Option.isNone_some,Bool.or_false,ahT,g,false_or]at h;grind[rX]
    have y:(ex||o.isSome||lo.isNone||rX H' id e)=true:=by cases ex with|true=>simp|false=>cases g:o.isSome with|true=>simp|false=>rw[g]at h;have:=hj id (by simp[bO.target,b,g]);simpa[rX,this]using h
    grind
   grind
  grind
inductive lV where
 |aw
 |slice(len cap:Nat)(exact:Bool)
 |map
def lV.of(n:lV)(i:ac):AV:=
 match n with
 |.aw=>.aw i 0
 |.slice l c e=>.slice i 0 l c e
 |.map=>.map i
theorem lV.name(n:lV)(i:ac):jd (n.of i)=some i:=by cases n<;>rfl
def b9.lW:b9→Prop
 |.cells _ _ _ rw aK _=>rw=true∧aK=[]
 |.map es _=>es=[]
 |.oq _ _ _=>True
 |_=>False
theorem SE{op:bO}(d:op.mh=true)(he:aB op aa H=some (v,H1)):∃(n:lV)(ev:b9),v=n.of H.next∧H1=H.new ev∧ev.lW∧∀H',aB op aa H'=some (n.of H'.next,H'.new ev):=by
 cases op<;>(try(simp[bO.mh]at d;done));case alloc e a=>simp only[aB,acm,age]at he⊢;obtain⟨rfl,rfl⟩:=he;exact⟨.aw,_,rfl,rfl,⟨rfl,rfl⟩,λ_=>⟨rfl,rfl⟩⟩
 case j7=>simp only[aB,acm,age]at he⊢;obtain⟨rfl,rfl⟩:=he;exact⟨.map,_,rfl,rfl,rfl,λ_=>⟨rfl,rfl⟩⟩
 case box e x=>
  simp only[aB]at he⊢;split at he;·rename_i h1;obtain⟨rfl,rfl⟩:=he;exact⟨.aw,_,rfl,rfl,⟨rfl,rfl⟩,λ_=>by simp only[h1,bm];rfl⟩
  grind
 case buildSlice e n a f=>
  simp only[aB]at he⊢;split at he
  ·split at he;·rename_i h1;obtain⟨rfl,rfl⟩:=he;exact⟨.slice n n true,_,rfl,rfl,⟨rfl,rfl⟩,λ_=>by simp only[h1,bm];rfl⟩
   grind
  grind
 case wn e x=>
  simp only[aB]at he⊢;split at he;·rename_i s hs;obtain⟨rfl,rfl⟩:=he;exact⟨.slice s.length s.length false,_,rfl,rfl,⟨rfl,rfl⟩,λ_=>rfl⟩
  grind
 case jr e b s a x y=>
  simp only[aB]at he⊢;split at he
  ·rename_i l c hl g;split at he;·rename_i h1;obtain⟨rfl,rfl⟩:=he;exact⟨.slice l c true,_,rfl,rfl,⟨rfl,rfl⟩,λ_=>by simp only[h1,bm];rfl⟩
   grind
  grind
 case qI x=>
  simp only[aB]at he⊢;split at he;·obtain⟨rfl,rfl⟩:=he;exact⟨.aw,_,rfl,rfl,trivial,λ_=>rfl⟩
  grind
theorem SF{a b:AV}(h:hZ a b=true):a=b:=by
 have h1:∀{a b:AV},fM a b=true→a=b:=by intro a b h;cases a<;>cases b<;>simp only[fM,ac6]at h<;>first|rfl|(simp only[beq_iff_eq]at h;rw[h])|(simp only[agM,Nat.beq_eq,fA,beq_iff_eq]at h;obtain⟨rfl,rfl⟩:=h;rfl)|(simp only[uS,beq_iff_eq]at h;rw[h])|(simp only[agM,Nat.beq_eq,ac.gT]at h;obtain⟨rfl,rfl⟩:=h;rfl)|(simp only[ac.gT]at h;rw[h])|(simp only[agM,Nat.beq_eq,ac.gT,beq_iff_eq]at h;obtain⟨⟨⟨⟨rfl,rfl⟩,rfl⟩,rfl⟩,rfl⟩:=h;rfl)
 have h2:∀{l m:List AV},ou l m=true→l=m:=by intro l;induction l with|nil=>intro m h;cases m<;>simp[ou]at h;rfl|cons a l c=>intro m h;cases m with|nil=>simp[ou]at h|cons b m=>simp only[ou,agM]at h;rw[h1 h.1,c h.2]
 unfold hZ at h;split at h;·grind
 ·grind
 ·simp only[agM,Nat.beq_eq]at h;grind
 grind
end
section
variable{P:Program}{h:cJ}{ρ:aL}{H:af}{w:World}
theorem Gn{H a:af}(hg:∀j,a.get j=H.get j∨a.get j=.none)(i j:ac)(hi:i∈(a.get j).aK):i∈(H.get j).aK:=by
 rcases hg j with e|e;·rw[e]at hi;exact hi
 rw[e]at hi;cases hi
theorem bt.sub(l:bt P h ρ H w){H2:af}(d:H2.next=H.next)(hg:∀j,H2.get j=H.get j∨H2.get j=.none):bt P h ρ H2 w:=by
 have a:∀j,H2.get j≠.none→H2.get j=H.get j:=λj hj=>(hg j).resolve_right hj;have f:=Gn hg;constructor;·intro i hi;have e:=a i hi;rw[e]at hi⊢;exact l.ev i hi
 ·intro i j b x y c hi hj;have e:=a i hi;have g:=a j hj;rw[e]at hi⊢;rw[g]at hj⊢;exact l.kH i j b x y c hi hj
 ·intro i j hi;obtain⟨h1,h2⟩:=l.aK i j (f i j hi);grind
 ·intro i b x hi;have e:=a i hi;rw[e]at hi⊢;exact l.wr i b x hi
 ·intro i hi;rw[d]at hi;obtain⟨h1,h2⟩:=l.dV i hi;exact⟨by rcases hg i with e|e<;>rw[e];exact h1,h2⟩
 ·exact l.new
 ·exact l.lT
 ·intro i b x k hi;have e:=a i hi;rw[e]at hi⊢;exact l.jQ i b x k hi
 ·exact l.fu
 ·intro i b x hi;have e:=a i hi;rw[e]at hi;exact l.rd i b x hi
 ·intro i hi;obtain⟨h1,h2,h3⟩:=l.un i hi;exact⟨by rcases hg i with e|e<;>rw[e];exact h1,by rw[d];exact h2,λj hj=>h3 j (f i j hj)⟩
 exact l.eT
def cJ.ka(h:cJ)(ρ:aL)(hl:ac→Prop)(dd:ac→Prop):cJ where
 w b:=h.w b∧∀i x,hl i→ρ i≠some (b,x)
 r b:=h.r b∧∀i x,hl i→ρ i≠some (b,x)
 un i:=h.un i∨hl i∨dd i
 eT i:=h.eT i∨dd i
theorem so{o:b9}(a:o.lW):o.kW=false∧o.aK=[]∧o≠.none:=by cases o<;>simp[b9.lW]at a<;>simp[b9.kW,b9.aK];omega
theorem bt.ka(z:bt P h ρ H w){hl dd:ac→Prop}(p:∀i,hl i→(H.get i).lW)(hd:∀i,dd i→H.get i=.none∧ρ i=none∧i.al<H.next.al∧∀j,i∉(H.get j).aK){H2:af}(g:H2.next=H.next)(hg:∀j,H2.get j=H.get j∨H2.get j=.none)(q:∀i,hl i→H2.get i=.none):bt P (h.ka ρ hl dd) ρ H2 w:=by
 have hs:=z.sub g hg;have m:∀j,H2.get j≠.none→H2.get j=H.get j:=λj hj=>(hg j).resolve_right hj;have r:=Gn hg;have mP:∀j b x,H2.get j≠.none→ρ j=some (b,x)→∀i y,hl i→ρ i≠some (b,y):=by
  intro j b x hj t i y hi u;obtain⟨l,s,d⟩:=so (p i hi);have n:i≠j:=λe=>hj (e▸q i hi);have o:H.get j≠.none:=by rw[←m j hj];exact hj
  rcases z.kH i j b y x n d o u t with⟨f,_⟩|⟨f,_⟩;·have:=(z.aK i j f).2 d;rw[l]at this;cases this
  rw[s]at f;cases f
 constructor;·exact hs.ev
 ·exact hs.kH
 ·exact hs.aK
 ·intro i b x hi v e;exact⟨hs.wr i b x hi v e,λk y c=>mP i b x hi e k y c⟩
 ·exact hs.dV
 ·intro k c;have a:∀i x,hl i→ρ i≠some (k,x):=λi x _ e=>by have:=z.fu i k x e;omega
  exact⟨⟨(z.new k c).1,a⟩,⟨(z.new k c).2,a⟩⟩
 ·exact hs.lT
 ·exact hs.jQ
 ·exact hs.fu
 ·intro i b x hi e;exact⟨hs.rd i b x hi e,λk y c=>mP i b x hi e k y c⟩
 ·intro i hi;rcases hi with hi|hi|hi;·exact hs.un i hi
  ·obtain⟨l,s,d⟩:=so (p i hi);refine⟨q i hi,by rw[g];exact z.CR d,λj hj=>?_⟩;have:=(z.aK i j (r i j hj)).2 d;rw[l]at this;cases this
  obtain⟨h0,h1,h2,h3⟩:=hd i hi;exact⟨by rcases hg i with e|e<;>rw[e];exact h0,by rw[g];exact h2,λj hj=>h3 j (r i j hj)⟩
 intro i hi;rcases hi with hi|hi;·exact⟨.inl (hs.eT i hi).1,(hs.eT i hi).2⟩
 exact⟨.inr (.inr hi),(hd i hi).2.1⟩
theorem bt.Gp(N:bt P h ρ H w){hl dd:ac→Prop}(A:∀i,hl i→(H.get i).lW){l:aL}{H':af}{w':World}(o:cz ρ l)(f:bt P (h.ka ρ hl dd) l H' w')(p:d9 (h.ka ρ hl dd) w w'){H2:af}(J:H2.next=H'.next)(h1:∀i,hl i→H2.get i=H.get i)(h2:∀i,¬hl i→H2.get i=H'.get i):bt P h l H2 w'∧d9 h w w':=by
 have c:∀i,hl i→∃b x q,ρ i=some (b,x)∧l i=some (b,x)∧l.k b=ρ.k b∧w.heap[b]?=some q∧w'.heap[b]?=some q∧OR P ρ (H.get i) x q:=by intro i hi;obtain⟨b,x,q,e,D,hb,K⟩:=N.aF (so (A i hi)).2.2;exact⟨b,x,q,e,(o _ _ e).1,(o _ _ e).2,hb,by rw[p.block b D λB=>B.2 i x hi e];exact hb,K⟩
 have v:∀i j,i∈(H2.get j).aK→¬hl i∧¬hl j∧i∈(H'.get j).aK:=by
  intro i j hj;by_cases d:hl j;·rw[h1 j d,(so (A j d)).2.1]at hj;cases hj
  rw[h2 j d]at hj;exact⟨λhi=>(f.un i (.inr (.inl hi))).2.2 j hj,d,hj⟩
 refine⟨⟨?_,?_,?_,?_,?_,?_,?_,?_,?_,?_,?_,?_⟩,⟨p.os,p.tape,p.output,p.size,λk h1 B=>p.block k h1 λE=>B E.1⟩⟩
 ·intro i hi;by_cases a:hl i;·grind[OR.mono]
  rw[h2 i a]at hi⊢;exact f.ev i hi
 ·intro i j b x y t hi hj s m;by_cases a:hl i
  ·obtain⟨b1,C,_,g,n,_⟩:=c i a;rw[n]at s;injection s with s;injection s with F G;subst F;subst G;by_cases d:hl j;·obtain⟨b2,L,_,c1,c2,_⟩:=c j d;rw[c2]at m;injection m with m;injection m with r u;subst r;subst u;rw[h1 i a]at hi⊢;rw[h1 j d]at hj⊢;exact N.kH i j _ _ _ t hi hj g c1
   rw[h2 j d]at hj;exact absurd g ((f.rd j _ y hj m).2 i _ a)
  by_cases d:hl j;·obtain⟨b2,L,_,c1,c2,_⟩:=c j d;rw[c2]at m;injection m with m;injection m with r u;subst r;rw[h2 i a]at hi;exact absurd c1 ((f.rd i _ x hi s).2 j _ d)
  rw[h2 i a]at hi⊢;rw[h2 j d]at hj⊢;exact f.kH i j b x y t hi hj s m
 ·intro i j hj;obtain⟨g,n,a3⟩:=v i j hj;obtain⟨b1,b2⟩:=f.aK i j a3;grind
 ·intro i b x hi z e;by_cases a:hl i;·obtain⟨b1,C,_,g,n,_⟩:=c i a;rw[n]at e;injection e with e;injection e with e1 e2;subst e1;rw[h1 i a]at hi z;exact N.wr i _ _ hi z g
  rw[h2 i a]at hi z;exact(f.wr i b x hi z e).1
 ·intro i hi;rw[J]at hi;obtain⟨g,n⟩:=f.dV i hi;grind
 ·intro k I;exact N.new k (ahY p.size I)
 ·exact f.lT
 ·intro i b x q hi e hb;by_cases a:hl i;·obtain⟨b1,C,M,g,n,a3,a4,a5,_⟩:=c i a;rw[n]at e;injection e with e;injection e with e1 e2;subst e1;rw[a5]at hb;injection hb with hb;subst hb;rw[h1 i a]at hi⊢;rw[a3];exact N.jQ i _ _ _ hi g a4
  rw[h2 i a]at hi⊢;exact f.jQ i b x q hi e hb
 ·exact f.fu
 ·intro i b x hi e;by_cases a:hl i;·obtain⟨b1,C,_,g,n,_⟩:=c i a;rw[n]at e;injection e with e;injection e with e1 e2;subst e1;rw[h1 i a]at hi;exact N.rd i _ _ hi g
  rw[h2 i a]at hi;exact(f.rd i b x hi e).1
 ·intro i hi;obtain⟨g,n,a3⟩:=f.un i (.inl hi);have a:¬hl i:=λa=>(so (A i a)).2.2 (N.un i hi).1;grind
 intro i hi;exact⟨(N.eT i hi).1,(f.eT i (.inl hi)).2⟩
mutual
theorem VR.qU{j r m:aL}(J:∀i x y,j i=some x→r i=some y→m i=some x∧m.k x.1=j.k x.1):∀(v:AV)(c d:Value),VR j v c→VR r v d→VR m v c
 |.tuple l,.tuple cs,.tuple s,k,q=>by exact be.qU J l cs.toList s.toList k q
 |.agg l,.agg cs,.agg s,k,q=>by exact be.qU J l cs.toList s.toList k q
 |.bool _,.bool _,_,k,_=>by trivial
 |.int _ _,.int _ _,_,k,_=>by trivial
 |.aC _,.string _,_,k,_=>by trivial
 |.aw i o,.pointer (some a),.pointer (some B),k,q=>by
  obtain⟨b,x,e,rfl⟩:=k;obtain⟨w,C,z,_⟩:=q;exact⟨b,x,(J _ _ _ e z).1,rfl⟩
 |.ls,.pointer none,_,_,_=>by trivial
 |.slice i o len cap ex,.slice (some a) n c,.slice (some B) F p,k,q=>by
  obtain⟨h1,h2,h3,D,b,x,e,E,G⟩:=k;obtain⟨_,_,_,_,w,C,z,_⟩:=q
  exact⟨h1,h2,h3,D,b,x,(J _ _ _ e z).1,E,by grind⟩
 |.aP,.slice none 0 0,_,_,_=>by trivial
 |.map i,.map (some b),.map (some w),k,q=>by grind[VR]
 |.cL,.map none,_,_,_=>by trivial
 |.func f a b,.func (.func g) c d,.func (.func H) p A,k,q=>by
  exact⟨k.1,be.qU J a c.toList p.toList k.2.1 q.2.1,be.qU J b d.toList A.toList k.2.2 q.2.2⟩
 |.yield i,.func (.yield b) c d,.func (.yield w) p A,k,q=>by grind[VR]
 |.nilFunc,.nilFunc,_,_,_=>by trivial
 |.iface t v,.iface u c,.iface I p,k,q=>by exact⟨k.1,VR.qU J v c p k.2 q.2⟩
 |.nilIface,.nilIface,_,_,_=>by trivial
 |.bX,_,_,_,_=>by trivial
theorem be.qU{a e b:aL}(f:∀i x y,a i=some x→e i=some y→b i=some x∧b.k x.1=a.k x.1):∀(l:List AV)(m n:List Value),be a l m→be e l n→be b l m
 |[],[],_,_,_=>by trivial
 |v::l,c::m,d::n,k,q=>by exact⟨VR.qU f v c d k.1 q.1,be.qU f l m n k.2 q.2⟩
end
theorem OR.qU{d g f:aL}(F:∀i x y,d i=some x→g i=some y→f i=some x∧f.k x.1=d.k x.1){o:b9}(m:o.lW){t u:Nat}{b j:Obj}(k:OR P d o t b)(q:OR P g o u j):OR P f o t b:=by
 cases o with
 |cells c n e rw aK fz=>cases b<;>simp only[OR]at k⊢;cases j<;>simp only[OR]at q;obtain⟨v,w,A,B⟩:=k;obtain⟨_,_,C,_⟩:=q;refine⟨v,w,λi hi=>?_,B⟩;obtain⟨y,e1,D⟩:=A i hi;obtain⟨z,_,E⟩:=C i hi;exact⟨y,e1,VR.qU F _ _ _ D E⟩
 |map es c=>simp only[b9.lW]at m;subst m;cases b<;>simp only[OR]at k⊢;refine⟨k.1,k.2.1,k.2.2.1,?_⟩;have:=k.2.2.2;generalize(Array.toList _)=l at this⊢;cases l with|nil=>simp[ch]|cons a l=>simp[ch]at this
 |oq s r p=>cases b<;>simp only[OR]at k⊢;exact k
 |_=>simp[b9.lW]at m
end
section
variable{P:Program}{d:cJ}{ρ:aL}{H:af}{w:World}{nt:Nat}{aa:am AV}{a:Act}{o:Oper}{op:bO}
theorem qV(n:ac):∀p:ac,af.get ⟨.aJ,n⟩ p=.none:=by
 have:∀p:ac,(am.aJ:am b9).get .none p=.none:=by intro p;induction p with|xH=>rfl|xO p a=>exact a|xI p a=>exact a
 trivial
theorem bt.empty(h:bt P d ρ H w){n:ac}(c:H.next.al≤n.al):bt P ⟨λb=>w.heap.size≤b,λb=>w.heap.size≤b,λj=>ρ j=none∧j.al<n.al,λj=>ρ j=none∧j.al<n.al⟩ ρ ⟨.aJ,n⟩ w:=by
 constructor;·intro i hi;exact absurd (qV n i) hi
 ·intro i j b x y _ hi;exact absurd (qV n i) hi
 ·intro i j hj;rw[qV]at hj;cases hj
 ·intro i b x hi;exact absurd (qV n i) hi
 ·intro i hi;exact⟨qV n i,(h.dV i (ahY c hi)).2⟩
 ·intro k a;exact⟨a,a⟩
 ·exact h.lT
 ·intro i b x e hi;exact absurd (qV n i) hi
 ·exact h.fu
 ·intro i b x hi;exact absurd (qV n i) hi
 ·intro i hi;exact⟨qV n i,hi.2,λj hj=>by rw[qV]at hj;cases hj⟩
 intro i hi;exact⟨hi,hi.1⟩
theorem SG(h:bt P d ρ H w)(hE:iU ρ nt aa a.tmps)(S:bN P nt o=some op){n:lV}{ev:b9}(hy:ev.lW)(he:∀H':af,aB op aa H'=some (n.of H'.next,H'.new ev)){i:ac}(h1:ρ i=none)(h2:i.al<H.next.al)(h3:¬d.un i)(h4:∀j,i∉(H.get j).aK):bx P d ρ w (execOp a.eval o) (n.of i) (H.set i ev):=by
 obtain⟨f1,f2,T⟩:=so hy;obtain⟨c,w',Q,v,X,E,I,F⟩:=AJ (dR.mk hE (h.empty (n:=H.next) (adW _))) S (he _);obtain⟨c2,w2,_,ag,xb,_,Ib,_⟩:=AJ (dR.mk hE (h.empty (n:=H.next.succ) (by rw[ac.gz];omega))) S (he _);have ga:(af.new ⟨.aJ,H.next⟩ ev).get H.next=ev:=by rw[af.dt,aH rfl]
 have gb:(af.new ⟨.aJ,H.next.succ⟩ ev).get H.next.succ=ev:=by rw[af.dt,aH rfl]
 obtain⟨s,C,L,e1,e2,e3⟩:=I.ev H.next (by rw[ga];exact T);obtain⟨bb,yb,a1,_,_,d3⟩:=Ib.ev H.next.succ (by rw[gb];exact T);rw[ga]at e3;rw[gb]at d3;have ay:w.heap.size≤s:=I.rd H.next s C (by rw[ga];exact T) e1;have R:∀j z,v j=some z→j≠H.next→ρ j=some z:=by
  intro j z J hj;cases hr:ρ j with
  |some z'=>have:=(X _ _ hr).1;rw[this]at J;exact J
  |none=>
   exfalso;rcases Nat.lt_trichotomy j.al H.next.al with hl|hl|hl;·have:=(I.eT j ⟨hr,hl⟩).2;rw[this]at J;cases J
   ·exact hj (ac.tL hl)
   have:=(I.dV j (by show H.next.succ.al≤_;rw[ac.gz];omega)).2;rw[this]at J;cases J
 have ar:ag H.next=none:=(Ib.eT H.next ⟨(h.dV _ (adW _)).2,by rw[ac.gz];omega⟩).2;have q:cz ρ (ρ.add i s C (v.k s)):=aL.sd s C _ h1 (λj c y e S=>by have:=(X _ _ e).2;simp only at this;rw[S]at this;exact this.symm);have av:OR P (ρ.add i s C (v.k s)) ev C L:=by
  refine OR.qU ?_ hy e3 d3;intro j x y hx M;have hj:j≠H.next:=λe=>by rw[e,ar]at M;cases M
  have:=R j x hx hj;exact⟨(q _ _ this).1,by rw[(q _ _ this).2,(X _ _ this).2]⟩
 have fS:∀k,k<w.heap.size→w'.heap[k]?=w.heap[k]?:=λk t=>F.block k t (by show¬w.heap.size≤k;omega);refine⟨c,w',Q,ρ.add i s C (v.k s),q,?_,?_,⟨F.os,F.tape,F.output,F.size,λk t _=>fS k t⟩⟩
 ·cases n with
  |aw=>obtain⟨b,x,m,u⟩:=VR.nO E;rw[e1]at m;injection m with m;injection m with G K;subst G;subst K;rw[u];exact⟨_,_,aL.fy ..,rfl⟩
  |slice l cp ex=>
   simp only[lV.of]at E⊢;cases c with
   |slice ad l' c'=>cases ad with|none=>simp[VR]at E|some ad=>simp only[VR]at E⊢;obtain⟨p1,p2,p3,p4,b,x,m,u,G⟩:=E;rw[e1]at m;injection m with m;injection m with K q5;subst K;subst q5;exact⟨p1,p2,p3,p4,_,_,aL.fy ..,u,by rw[aL.tP];exact G⟩
   |_=>simp[VR]at E
  |map=>obtain⟨b,m,u⟩:=VR.oC E;rw[e1]at m;injection m with m;injection m with G K;subst G;subst K;rw[u];simp only[lV.of,VR];exact aL.fy ..
 have hg:∀j,(H.set i ev).get j=if j=i then ev else H.get j:=λj=>af.aD _ _ _ _;have D:∀j k,j∈((H.set i ev).get k).aK→k≠i∧j≠i∧j∈(H.get k).aK:=by
  intro j k hj;rw[hg]at hj;by_cases e:k=i;·rw[aH e,f2]at hj;cases hj
  rw[an e]at hj;exact⟨e,λe2=>h4 k (e2▸hj),hj⟩
 have f:∀j,j≠i→(ρ.add i s C (v.k s)) j=ρ j:=λj hj=>by simp[aL.add,hj]
 constructor
 ·intro j hj;rw[hg]at hj⊢;by_cases e:j=i;·subst e;rw[aH rfl];exact⟨s,C,L,aL.fy ..,e2,av⟩
  rw[an e]at hj⊢;obtain⟨b,x,V,g1,Y,Z,g4⟩:=h.aF hj;exact⟨b,x,V,by rw[f j e];exact g1,by rw[fS b Y];exact Z,OR.mono q g4⟩
 ·intro j k b x y N hj t A B;rw[hg]at hj t;rw[hg,hg];by_cases e:j=i;·subst e;have p:k≠j:=λe=>N e.symm;rw[aL.fy]at A;injection A with A;injection A with A _;rw[f k p]at B;have:=h.fu k b y B;omega
  by_cases p:k=i;·subst p;rw[aL.fy]at B;injection B with B;injection B with B _;rw[f j e]at A;have:=h.fu j b x A;omega
  rw[an e]at hj⊢;rw[an p]at t⊢;rw[f j e]at A;rw[f k p]at B;exact h.kH j k b x y N hj t A B
 ·intro j k hj;obtain⟨g1,Y,Z⟩:=D j k hj;obtain⟨m,u⟩:=h.aK j k Z;exact⟨m,λO=>by rw[hg,an Y]at O⊢;exact u O⟩
 ·intro j b x hj hf e;rw[hg]at hj hf;by_cases p:j=i;·subst p;rw[aL.fy]at e;injection e with e;injection e with e _;exact(h.new b (by omega)).1
  rw[an p]at hj hf;rw[f j p]at e;exact h.wr j b x hj hf e
 ·intro j hj;have r:j≠i:=λe=>by subst e;have:H.next.al≤j.al:=hj;omega
  obtain⟨m,u⟩:=h.dV j hj;exact⟨by rw[hg,an r];exact m,by rw[f j r];exact u⟩
 ·intro k t;exact h.new k (ahY F.size t)
 ·intro g ax;exact(q _ _ (h.lT g ax)).1
 ·intro j b x V hj e hb;rw[hg]at hj⊢;by_cases p:j=i;·subst p;rw[aH rfl];rw[aL.fy]at e;injection e with e;injection e with W e5;subst W;rw[aL.tP];have:=I.jQ H.next _ _ V (by rw[ga];exact T) e1 hb;rw[ga]at this;exact this
  rw[an p]at hj⊢;rw[f j p]at e;rw[(q _ _ e).2];exact h.jQ j b x V hj e (by rw[←fS b (h.fu j b x e)];exact hb)
 ·intro j b x e;by_cases p:j=i;·subst p;rw[aL.fy]at e;injection e with e;injection e with W _;subst W;exact I.fu _ _ _ e1
  rw[f j p]at e;exact ag6 (h.fu j b x e) F.size
 ·intro j b x hj e;rw[hg]at hj;by_cases p:j=i;·subst p;rw[aL.fy]at e;injection e with e;injection e with W _;exact(h.new b (by omega)).2
  rw[an p]at hj;rw[f j p]at e;exact h.rd j b x hj e
 ·intro j hj;obtain⟨m,u,G⟩:=h.un j hj;have r:j≠i:=λe=>h3 (e▸hj);exact⟨by rw[hg,an r];exact m,u,λk t=>G k (D j k t).2.2⟩
 intro j hj;have r:j≠i:=λe=>h3 (e▸(h.eT j hj).1);exact⟨(h.eT j hj).1,by rw[f j r];exact(h.eT j hj).2⟩
end
section
variable{P:Program}{nt:Nat}{az:Array Oper}{l:List aS}{anc:Array Nat}
def ke(anc:Array Nat)(i j:Nat):Prop:=(anc.getD i 0).testBit j=true
def In(L:Array Bool)(i:Nat):Prop:=L.getD i false=true
def lX(az:Array Oper)(i j:Nat):Prop:=∃o e,az[i]?=some o∧e∈o.after.toList∧Region.binds .any e=true∧e.on=j
theorem Ln(a:Array Nat)(j:Nat):∀(es:List Edge)(s:Nat),(es.foldl (λs e=>if Region.binds .any e then s|||2^e.on|||a.getD e.on 0 else s) s).testBit j=true→s.testBit j=true∨∃e∈es,Region.binds .any e=true∧(j=e.on∨(a.getD e.on 0).testBit j=true)|[],s,h=>.inl h|e::es,s,h=>by simp only[List.foldl_cons]at h;rcases Ln a j es _ h with h1|⟨b,he,h1⟩;all_goals grind
def ub(a:Array Nat)(o:Oper):Array Nat:=a.push (o.after.foldl (λs e=>if Region.binds .any e then s|||2^e.on|||a.getD e.on 0 else s) 0)
theorem SH(az:Array Oper):Region.before az=az.toList.foldl ub #[]:=by unfold Region.before;rw[←Array.foldl_toList];rfl
theorem Lo(az:Array Oper):∀(b da:List Oper)(a:Array Nat),az.toList=da++b→a.size=da.length→(∀i j,(a.getD i 0).testBit j=true→∃k,lX az i k∧k<i∧(j=k∨(a.getD k 0).testBit j=true)∨(lX az i j))→∀i j,((b.foldl ub a).getD i 0).testBit j=true→∃k,lX az i k∧k<i∧(j=k∨((b.foldl ub a).getD k 0).testBit j=true)∨(lX az i j)
 |[],_,_,_,_,h=>h
 |o::b,da,a,p,hs,h=>by
  refine Lo az b (da++[o]) _ (by grind) (by simp[hs,ub]) ?_;intro i j c;have f:∀k,k<a.size→(ub a o).getD k 0=a.getD k 0:=by intro k l;simp only[ub,aho];rw[ahS,an (by omega)]
  have g:∀k,a.size≤k→a.getD k 0=0:=by intro k l;simp[aho,ahE l]
  rcases Nat.lt_trichotomy i a.size with hl|hl|hl
  ·rw[f i hl]at c;obtain⟨k,l|l⟩:=h i j c;·grind
   simp_all
  ·subst hl;have d:(ub a o).getD a.size 0=o.after.foldl (λs e=>if Region.binds .any e then s|||2^e.on|||a.getD e.on 0 else s) 0:=by simp only[ub,aho];rw[ahS,aH rfl];rfl
   rw[d,←Array.foldl_toList]at c;have n:az[a.size]?=some o:=by rw[←ahP,p,hs];simp
   rcases Ln a j _ _ c with h0|⟨e,he,hb,h1⟩;·grind
   rcases h1 with h1|h1;·exact⟨0,.inr ⟨o,e,n,he,hb,h1.symm⟩⟩
   have m:e.on<a.size:=by
    rcases ahz e.on a.size with q|q;·exact q
    rw[g _ q]at h1;simp at h1
   exact⟨e.on,.inl ⟨⟨o,e,n,he,hb,rfl⟩,m,.inr (by grind)⟩⟩
  grind[ub,aho,ahE]
theorem SJ(az:Array Oper){i j:Nat}(h:ke (Region.before az) i j):∃k,lX az i k∧k<i∧(j=k∨ke (Region.before az) k j)∨lX az i j:=by rw[SH]at h⊢;exact Lo az az.toList [] #[] rfl rfl (λi j h=>by grind) i j h
theorem uY{S:Nat→Prop}(a:∀i,S i→∀j,lX az i j→S j):∀(i:Nat),(∀j,lX az i j→S j)→∀j,ke (Region.before az) i j→S j:=by intro i;induction i using Nat.strongRecOn with|ind i b=>grind[SJ]
theorem SK(h:Av az=true){i j:Nat}(hd:lX az i j):j<i:=by
 obtain⟨o,e,h1,h2,h3,rfl⟩:=hd;unfold Av at h;rw[ah1]at h;have a:(o,i)∈az.toList.zipIdx:=by rw[List.mem_zipIdx_iff_getElem?];rw[ahP];exact h1
 grind[Array.all_eq_true_iff_forall_mem]
theorem SL{L:Array Bool}(U:L.size=az.size){i:Nat}(h:i∈Region.ready .any az L):i<az.size∧¬In L i∧∀j,lX az i j→In L j:=by
 simp only[Region.ready,aik,ahV,agM,ahA]at h;obtain⟨h1,h2,h3⟩:=h;refine⟨h1,?_,?_⟩;·simp_all[In,aho,getElem?_pos,ahs]
 rintro j⟨o,e,a,b,c,rfl⟩;grind[Array.all_eq_true_iff_forall_mem,In]
theorem SM{L:Array Bool}(U:L.size=az.size)(he:Av az=true)(h:Region.ready .any az L=[]):∀i,i<az.size→In L i:=by
 intro i;induction i using Nat.strongRecOn with
 |ind i d=>
  intro hi;by_cases a:In L i;·omega
  have:i∈Region.ready .any az L:=by
   simp only[Region.ready,aik,ahV,agM,ahA];refine⟨hi,?_,?_⟩
   ·have b:i<L.size:=by omega
    unfold In at a;simp only[aho,getElem?_pos L i b,ahs]at a⊢;simpa using a
   rw[getElem?_pos az i hi];simp only[ahb,ahs,Array.all_eq_true_iff_forall_mem];intro e c;cases hb:Region.binds .any e with|false=>simp|true=>have hd:lX az i e.on:=⟨az[i],e,getElem?_pos az i hi,by simpa using c,hb,rfl⟩;have b:=SK he hd;have:=d e.on b (by omega);simp only[ag9,Bool.false_or];exact this
  grind
def y7(L:Array Bool)(n:Nat):Nat:=((agV n).filter λi=>!L.getD i false).length
theorem Lq{p q:Nat→Bool}{i:Nat}:∀(r:List Nat),r.Nodup→i∈r→p i=true→q i=false→(∀j,j≠i→q j=p j)→(r.filter q).length+1=(r.filter p).length
 |[],_,h,_,_,_=>by grind
 |a::r,b,h,c,d,hj=>by
  rw[ahg]at b;by_cases e:a=i;·grind[List.filter_congr]
  have f:i∈r:=by
   rcases adC.1 h with q|q;·exact absurd q.symm e
   exact q
  have:=Lq r b.2 f c d hj;grind
theorem Gq{L:Array Bool}{i:Nat}(hi:i<L.size)(j:Nat):In (L.setIfInBounds i true) j↔j=i∨In L j:=by unfold In;by_cases e:i=j;all_goals simp_all[aio]
theorem SN{L:Array Bool}{n i:Nat}(U:L.size=n)(hi:i<n)(h:¬In L i):y7 (L.setIfInBounds i true) n+1=y7 L n:=by
 refine Lq (i:=i) _ List.nodup_range (by grind) ?_ ?_ ?_;·simp_all[In]
 ·simp_all
 intro j hj;have:=Gq (L:=L) (i:=i) (by omega) j;unfold In at this;simp only[hj,false_or]at this;cases h1:L.getD j false<;>cases h2:(L.setIfInBounds i true).getD j false<;>simp_all
theorem SO{L:Array Bool}{n i:Nat}(hi:i<n)(h:¬In L i):0<y7 L n:=by apply List.length_pos_of_mem (a:=i);simp_all[In,aho]
def gh(l:List aS)(i:Nat)(t:ac):Prop:=∃x,l[i]?=some x∧x.dst=some t
def Mk(l:List aS)(aa:am AV)(i:Nat)(j:ac):Prop:=∃x d,l[i]?=some x∧x.op.mh=true∧x.dst=some d∧jd (aa.get .aiw d)=some j
def Ch(l:List aS)(i:Nat):Prop:=∃x,l[i]?=some x∧x.op.iT=true
theorem SP{op:bO}(h:op.iT=true):op.mh=false∧op.j8=false∧op.plain=false:=by cases op<;>simp[bO.iT]at h<;>simp[bO.mh,bO.j8,bO.plain]
theorem y8{op:bO}(h:op.mh=true):op.iT=false∧op.j8=false∧op.plain=false:=by cases op<;>simp[bO.mh]at h<;>simp[bO.iT,bO.j8,bO.plain]
theorem y9{op:bO}(h:op.j8=true):op.iT=false∧op.mh=false∧op.plain=false:=by cases op<;>(try(simp[bO.j8]at h;done))<;>simp[bO.iT,bO.mh,bO.plain];rename_i lo _ _;cases lo;all_goals trivial
theorem qW{i j:Nat}(h:tF l anc i j=true){x y:aS}(c:l[i]?=some x)(f:l[j]?=some y):i≠j∧¬ke anc i j∧(∀d,x.dst=some d→y.dst≠some d∧(d∈y.lB→ke anc j i))∧(∀d,y.dst=some d→d∈x.lB→ke anc j i∧x.op.j8=false)∧(x.op.iT=true→ke anc j i∧∀k,ke anc i k→ke anc j k):=by
 unfold tF at h;rw[c,f]at h;simp only[agM,bne_iff_ne,ne_eq,ahA]at h;obtain⟨⟨⟨⟨h1,h2⟩,h3⟩,a⟩,b⟩:=h;refine⟨h1,by simp_all[ke],?_,?_,?_⟩
 ·intro d hd;rw[hd]at h3;simp only[agM,ahT,ahA]at h3;refine⟨λe=>?_,λg=>?_⟩;·grind
  rcases h3.2 with h|h;·exact h
  grind
 ·intro d hd g;rw[hd]at a;simp only[ahT,agM,ahA]at a;rcases a with h|h;·grind
  trivial
 intro m;simp only[m,ag9,Bool.false_or,agM,beq_iff_eq]at b;refine⟨b.1,λk n=>?_⟩;unfold ke at n⊢;grind
theorem AO:∀{ap:List Nat},yL l anc ap=true→ap.Pairwise (λi j=>tF l anc i j=true)∧∀i∈ap,∃x,l[i]?=some x∧tG x=true|[],_=>⟨aiv,λi h=>by grind⟩|i::a,h=>by simp only[yL,agM,ah1]at h;obtain⟨⟨h1,h2⟩,h3⟩:=h;obtain⟨b,c⟩:=AO h3;grind[ah4]
theorem Lr{b:Type}{R:b→b→Prop}:∀{s:List b},s.Pairwise R→∀{i j:b},i∈s→j∈s→i=j∨R i j∨R j i
 |[],_,i,_,h,_=>by grind
 |a::s,h,i,j,hi,hj=>by
  rw[ah4]at h;rcases adC.1 hi with e|e;·grind
  rcases adC.1 hj with c|c;·grind
  exact Lr h.2 e c
theorem gh.inj{ap:List Nat}(f:yL l anc ap=true){i j:Nat}(hi:i∈ap)(hj:j∈ap){t:ac}(h1:gh l i t)(h2:gh l j t):i=j:=by
 obtain⟨x,a,b⟩:=h1;obtain⟨y,c,d⟩:=h2;rcases Lr (AO f).1 hi hj with e|e|e;·omega
 ·exact absurd d ((qW e a c).2.2.1 t b).1
 exact absurd b ((qW e c a).2.2.1 t d).1
def jx(aa:am AV)(a:List ac):List ac:=a.filterMap λp=>jd (aa.get .aiw p)
theorem De(aa:am AV):∀(a:List ac)(H:af)(j:ac),(eM aa H a).1.get j=(if j∈jx aa a then .none else H.get j)∧(eM aa H a).1.next=H.next∧∀H',(d8 H' (eM aa H a).2).get j=(if j∈jx aa a then H.get j else H'.get j)∧(d8 H' (eM aa H a).2).next=H'.next
 |[],H,j=>by simp[eM,jx,d8]
 |p::a,H,j=>by
  unfold eM;cases f:jd (aa.get .aiw p)with
  |none=>have:=De aa a H j;simpa[jx,f]using this
  |some i=>
   have b:=De aa a (H.set i .none) j;simp only;have c:∀q,q∈jx aa (p::a)↔q=i∨q∈jx aa a:=by intro q;simp[jx,f]
   refine⟨?_,by rw[b.2.1];rfl,λH'=>⟨?_,?_⟩⟩
   ·rw[b.1,af.aD];by_cases e:j=i;·subst e;simp[c]
    by_cases d:j∈jx aa a<;>simp[c,e,d]
   ·rw[d8,af.aD,(b.2.2 H').1,af.aD];by_cases e:j=i;·subst e;simp[c]
    by_cases d:j∈jx aa a<;>simp[c,e,d]
   rw[d8,af.fR];exact(b.2.2 H').2
theorem Ls{seen:List Nat}{i:Nat}{aa:am AV}{j:ac}:j∈jx aa (Au l anc seen i)↔∃k∈seen,¬ke anc i k∧Mk l aa k j:=by
 simp only[jx,Au,List.mem_filterMap];constructor
 ·rintro⟨p,⟨k,a,h1⟩,h2⟩;split at h1
  ·rename_i r b;split at h1;·rename_i c;simp only[agM,ahA]at c;exact⟨k,a,by simp_all[ke],r,p,b,c.1,h1,h2⟩
   grind
  grind
 rintro⟨k,a,h1,r,d,b,h2,h3,e⟩;refine⟨d,⟨k,a,?_⟩,e⟩;simp_all[ke,Bool.not_false,aiq,bm]
theorem SQ{seen:List Nat}{i k:Nat}(a:k∈seen){r:aS}(b:l[k]?=some r)(h1:r.op.j8=true)(h2:¬ke anc i k){d:ac}(hd:r.dst=some d):(⟨d,r.op,r.guard⟩:i9)∈j8 l anc seen i:=by simp only[j8,List.mem_filterMap];refine⟨k,a,?_⟩;simp_all[ke,Bool.not_false,aiq,bm,ahb]
theorem Lt{aa:am AV}{H:af}:∀{re:List i9},fh aa H re=true→∀r∈re,ft aa r.guard=true→∃H1,aB r.op aa H=some (aa.get .aiw r.dst,H1)
 |[],_,r,h,_=>by cases h
 |a::re,h,r,b,hg=>by
  simp only[fh,agM]at h;rcases adC.1 b with e|e
  ·subst e;rw[hg]at h;simp only[bm]at h;have:=h.1;split at this;·rename_i w H1 c;rw[c,SF this];exact⟨H1,rfl⟩
   cases this
  exact Lt h.2 r e hg
end
end
end Go.ak
end
