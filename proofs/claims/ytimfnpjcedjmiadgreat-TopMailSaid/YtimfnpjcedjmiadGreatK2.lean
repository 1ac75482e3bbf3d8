/- Lemmas. -/
import Derived.Test.YtimfnpjcedjmiadGreatK1
import Derived.Deep.AppendSrc
import Derived.Laws.IdiomRangeMap
set_option maxRecDepth 100000
set_option maxHeartbeats 64000000
set_option linter.all false
namespace Go.Proofs.YtimfnpjcedjmiadGreat
open Go.RowKit
abbrev zaM:=Nat->Nat->Option Value
inductive An where
 |fix (v:Value)
 |cur (ao:Option Addr) (n cap g:Nat)
abbrev zaJ:=Nat->Option An
def noG:zaJ:=λ_=>none
def An.le:An->An->Prop
 | .fix v,.fix v'=>v'=v
 | .cur ao n cap g,.cur ao' n' cap' g'=>g<=g'/\(g'=g->ao'=ao/\n'=n/\cap'=cap)
 |_,_=>False
theorem An.le_refl(a:An):a.le a:=by cases a<;>simp [An.le]
theorem An.le_trans{a b c:An}(h:An.le a b)(k:An.le b c):a.le c:=by
 cases a<;>cases b<;>cases c<;>simp only[An.le] at * <;>first|contradiction|(exact h.elim)|(exact k.elim)|(subst h;exact k)|skip
 obtain⟨h1,h2⟩:=h;obtain⟨k1,k2⟩:=k;refine⟨Nat.le_trans h1 k1,λe=>?_⟩;have e1:=Nat.le_antisymm (e▸k1) h1;obtain⟨rfl,rfl,rfl⟩:=h2 e1;obtain⟨rfl,rfl,rfl⟩:=k2 (e.trans e1.symm);exact⟨rfl,rfl,rfl⟩
def Gle(μ μ':zaJ):Prop:= ∀i a,μ i=some a-> ∃a',μ' i=some a'/\a.le a'
theorem Gle.refl(μ:zaJ):Gle μ μ:=λ_ a h=>⟨a,h,a.le_refl⟩
theorem Gle.trans{μ μ' μ'':zaJ}(h:Gle μ μ')(k:Gle μ' μ''):Gle μ μ'':=λi a ha=>
 let ⟨b,hb,hab⟩:=h i a ha
 let ⟨c,hc,hbc⟩:=k i b hb
 ⟨c,hc,An.le_trans hab hbc⟩
theorem Gle.none(μ:zaJ):Gle noG μ:=λi a h=>by cases h
inductive AV where
 |any
 |v (x:Value)
 |err (k:Int)
 |sl (sz:Nat) (rows:List (List AV)) (own:Option (Nat×Nat))
 |adr (cells:List AV)
 |agg (l:List AV)
 |tup (l:List AV)
 |box (id off:Nat)
 |arr (id g n:Nat)
 |elt (id g sz i o:Nat)
 |tl (id g sz i n:Nat)
 |map (id:Nat)
 |clo (f:Nat) (caps:List AV)
 deriving Inhabited
inductive RepV (σ:zaM):zaJ->AV->Value->Prop
 |any (μ:zaJ) (x:Value):RepV σ μ .any x
 |v (μ:zaJ) (x:Value):RepV σ μ (.v x) x
 |err (μ:zaJ) (k:Int):RepV σ μ (.err k) (errv k)
 |sl (μ:zaJ) (sz:Nat) (rows:List (List AV)) (own:Option (Nat×Nat)) (ao:Option Addr) (cap b off:Nat) (f:Nat->Nat->Value)
   (hcap:rows.length<=cap) (hmax:cap<=maxLen) (hao:rows=[]\/ao=some ⟨b,off,none⟩) (hrow: ∀r,r∈rows->r.length=sz)
   (hst: ∀(i j:Nat) (r:List AV) (av:AV),rows[i]? =some r->r[j]? =some av->σ b (off+i*sz+j)=some (f i j))
   (hr: ∀(i j:Nat) (r:List AV) (av:AV),rows[i]? =some r->r[j]? =some av->RepV σ noG av (f i j))
   (hone: ∀(i j:Nat) (r:List AV) (av:AV),rows[i]? =some r->r[j]? =some av->(f i j).oneCell'=true)
   (hown: ∀id g,own=some (id,g)-> ∃a,μ id=some a/\(An.cur ao rows.length cap g).le a):RepV σ μ (.sl sz rows own) (.slice ao rows.length cap)
 |adr (μ:zaJ) (cells:List AV) (b off:Nat) (f:Nat->Value)
   (hst: ∀(j:Nat) (av:AV),cells[j]? =some av->σ b (off+j)=some (f j)) (hr: ∀(j:Nat) (av:AV),cells[j]? =some av->RepV σ noG av (f j)) (hone: ∀(j:Nat) (av:AV),cells[j]? =some av->(f j).oneCell'=true):RepV σ μ (.adr cells) (.pointer (some ⟨b,off,none⟩))
 |agg (μ:zaJ) (l:List AV) (cs:Array Value) (hl:l.length=cs.size) (hr: ∀(i:Nat) (av:AV) (x:Value),l[i]? =some av->cs[i]? =some x->RepV σ μ av x):RepV σ μ (.agg l) (.agg cs)
 |tup (μ:zaJ) (l:List AV) (cs:Array Value) (hl:l.length=cs.size) (hr: ∀(i:Nat) (av:AV) (x:Value),l[i]? =some av->cs[i]? =some x->RepV σ μ av x):RepV σ μ (.tup l) (.tuple cs)
 |box (μ:zaJ) (id off b:Nat) (h:μ id=some (.fix (.pointer (some ⟨b,0,none⟩)))):RepV σ μ (.box id off) (.pointer (some ⟨b,off,none⟩))
 |arr (μ:zaJ) (id g n:Nat) (ao:Option Addr) (m cap:Nat) (a:An) (hn:n<=m) (hm:m<=cap) (hmax:cap<=maxLen) (h:μ id=some a) (hl:(An.cur ao m cap g).le a):RepV σ μ (.arr id g n) (.slice ao n cap)
 |elt (μ:zaJ) (id g sz i o b m cap:Nat) (a:An) (h:μ id=some a) (hl:(An.cur (some ⟨b,0,none⟩) m cap g).le a):RepV σ μ (.elt id g sz i o) (.pointer (some ⟨b,i*sz+o,none⟩))
 |tl (μ:zaJ) (id g sz i n:Nat) (ao:Option Addr) (m cap:Nat) (a:An) (hi:i<=n) (hn:n<=m) (hm:m<=cap) (hmax:cap<=maxLen) (h:μ id=some a) (hl:(An.cur ao m cap g).le a):RepV σ μ (.tl id g sz i n) (.slice (if cap=i then ao else ao.map (·.add (i*sz))) (n-i) (cap-i))
 |map (μ:zaJ) (id r:Nat) (h:μ id=some (.fix (.map (some r)))):RepV σ μ (.map id) (.map (some r))
 |clo (μ:zaJ) (f:Nat) (caps:List AV) (cs:Array Value) (hl:caps.length=cs.size) (hr: ∀(i:Nat) (av:AV) (x:Value),caps[i]? =some av->cs[i]? =some x->RepV σ μ av x):RepV σ μ (.clo f caps) (.func (.func f) #[] cs)
theorem RepV.mono{σ σ':zaM}{μ μ':zaJ}{av:AV}{x:Value}(h:RepV σ μ av x)(hs: ∀b o y,σ b o=some y->σ' b o=some y)(hm:Gle μ μ'):RepV σ' μ' av x:=by
 induction h generalizing μ' with
 |any=>exact .any _ _
 |v=>exact .v _ _
 |err=>exact .err _ _
 |sl μ sz rows own ao cap b off f hcap hmax hao hrow hst hr hone hown ih=>
  exact .sl μ' sz rows own ao cap b off f hcap hmax hao hrow (λi j r av h1 h2=>hs _ _ _ (hst i j r av h1 h2)) (λi j r av h1 h2=>ih i j r av h1 h2 (Gle.refl _)) hone (λid g h=>let ⟨a,ha,hle⟩:=hown id g h;let ⟨a',ha',hle'⟩:=hm id a ha;⟨a',ha',An.le_trans hle hle'⟩)
 |adr μ cells b off f hst hr hone ih=>exact .adr μ' cells b off f (λj av h=>hs _ _ _ (hst j av h)) (λj av h=>ih j av h (Gle.refl _)) hone
 |agg μ l cs hl hr ih=>exact .agg μ' l cs hl (λi av x h1 h2=>ih i av x h1 h2 hm)
 |tup μ l cs hl hr ih=>exact .tup μ' l cs hl (λi av x h1 h2=>ih i av x h1 h2 hm)
 |box μ id off b h=>
  obtain⟨a',h1,h2⟩:=hm id _ h;cases a' with
  |fix v=>simp only[An.le] at h2;subst h2;exact .box μ' id off b h1
  |cur=>exact h2.elim
 |arr μ id g n ao m cap a hn hmm hmax h hl=>obtain⟨a',h1,h2⟩:=hm id a h;exact .arr μ' id g n ao m cap a' hn hmm hmax h1 (An.le_trans hl h2)
 |elt μ id g sz i o b m cap a h hl=>obtain⟨a',h1,h2⟩:=hm id a h;exact .elt μ' id g sz i o b m cap a' h1 (An.le_trans hl h2)
 |tl μ id g sz i n ao m cap a hi hn hmm hmax h hl=>obtain⟨a',h1,h2⟩:=hm id a h;exact .tl μ' id g sz i n ao m cap a' hi hn hmm hmax h1 (An.le_trans hl h2)
 |map μ id r h=>
  obtain⟨a',h1,h2⟩:=hm id _ h;cases a' with
  |fix v=>simp only[An.le] at h2;subst h2;exact .map μ' id r h1
  |cur=>exact h2.elim
 |clo μ f caps cs hl hr ih=>exact .clo μ' f caps cs hl (λi av x h1 h2=>ih i av x h1 h2 hm)
theorem RepV.lift{σ:zaM}{μ:zaJ}{av:AV}{x:Value}(h:RepV σ noG av x):RepV σ μ av x:=h.mono (λ_ _ _ h=>h) (Gle.none μ)
def AV.free0:AV->Bool
 | .sl _ _ (some _)| .box _ _| .agg _| .tup _| .arr _ _ _| .elt _ _ _ _ _| .tl _ _ _ _ _| .map _| .clo _ _=>false
 |_=>true
def AV.free1:AV->Bool
 | .agg l=>l.all AV.free0
 |x=>x.free0
def AV.free:AV->Bool
 | .tup l=>l.all AV.free1
 |x=>x.free1
theorem RepV.free0{σ:zaM}{μ μ':zaJ}{av:AV}{x:Value}(h:RepV σ μ av x)(hf:av.free0=true):RepV σ μ' av x:=by
 cases h with
 |any=>exact .any _ _
 |v=>exact .v _ _
 |err=>exact .err _ _
 |sl _ sz rows own ao cap b off f hcap hmax hao hrow hst hr hone hown=>
  cases own with
  |none=>exact .sl _ sz rows none ao cap b off f hcap hmax hao hrow hst hr hone (λid g h=>by cases h)
  |some id=>simp [AV.free0] at hf
 |adr _ cells b off f hst hr hone=>exact .adr _ cells b off f hst hr hone
 |_=>simp [AV.free0] at hf
theorem RepV.free1{σ:zaM}{μ μ':zaJ}{av:AV}{x:Value}(h:RepV σ μ av x)(hf:av.free1=true):RepV σ μ' av x:=by
 cases av with
 |agg l=>
  cases h with
  |agg _ _ cs hl hr=>exact .agg _ l cs hl (λi av x h1 h2=>(hr i av x h1 h2).free0 (List.all_eq_true.1 hf _ (List.mem_of_getElem? h1)))
 |_=>exact h.free0 hf
theorem RepV.free{σ:zaM}{μ μ':zaJ}{av:AV}{x:Value}(h:RepV σ μ av x)(hf:av.free=true):RepV σ μ' av x:=by
 cases av with
 |tup l=>
  cases h with
  |tup _ _ cs hl hr=>exact .tup _ l cs hl (λi av x h1 h2=>(hr i av x h1 h2).free1 (List.all_eq_true.1 hf _ (List.mem_of_getElem? h1)))
 |_=>exact h.free1 hf
structure OPred where
 rep:zaM->World->Nat->(Nat->Prop)->Prop
 ext: ∀{σ σ' w w' x D},rep σ w x D->(∀b,D b->w'.heap[b]? =w.heap[b]? /\ ∀o,σ' b o=σ b o)->(∀b o y,σ b o=some y->σ' b o=some y)->rep σ' w' x D
 live: ∀{σ w x D b},rep σ w x D->D b->b<w.heap.size
def KeyW:Option IntKind->Value->Prop
 |some k,v=> ∃m,v=.int k m
 |none,v=> ∃a b,v=.agg #[.int .i64 a,.int .i64 b]
def zdJ(σ:zaM)(es:Array MapEntry)(clock:Nat)(f:Value->Option (List AV)):Prop:=
 (∀e,e∈es.toList->e.born<clock/\ ∃l,f e.key=some l/\e.val.cells.size=l.length/\(∀y∈e.val.cells.toList,y.oneCell'=true)/\ ∀(i:Nat) (av:AV),l[i]? =some av-> ∃y,e.val.cells[i]? =some y/\RepV σ noG av y) ∧
 (∀k l,f k=some l-> ∃e,e∈es.toList/\e.key=k) ∧
 (∀e,e∈es.toList->f e.key≠none) ∧
 es.toList.Pairwise (λa b=>a.key≠b.key/\a.born≠b.born)
inductive Res where
 |gone
 |cells (l:List AV)
 |grow (E sz g:Nat)
 |arr (fr:Bool) (E sz g:Nat) (rows:List (List AV))
 |map (kk:Option IntKind) (agg:Bool) (f:Value->Option (List AV))
 |siter (s:ByteArray) (pos:Nat)
 |alias (id:Nat)
 |miter (it:Nat) (kk:Option IntKind) (agg:Bool) (f:Value->Option (List AV)) (seen:Value->Bool) (last:Option Value)
 |obj (p:OPred)
def blkA:Option Addr->Option Nat
 |some a=>some a.block
 |none=>none
def gOf(fr:Bool)(μ:zaJ):zaJ:=if fr then noG else μ
def bigE:Nat:=1099511627776
def ownA(w:World)(E sz:Nat)(v:Value)(n:Nat)(xs:List Value):Prop:=
 xs.length=n*sz/\((v=.slice none 0 0/\n=0) ∨
  ∃g cap cur F fz,v=.slice (some ⟨g,0,none⟩) n cap/\w.heap[g]? =some (.cells cur F fz)/\n<=cap/\cap<=maxLen/\cur.size=cap*sz/\cur.toList.take (n*sz)=xs/\(E<bigE->F=E/\fz=(0,0))/\(fz=(0,0)\/cur.size<=fz.1))
theorem zlX{w:World}{E sz:Nat}{v:Value}{n:Nat}{xs:List Value}(h:w.ownsRow 0 E sz v n xs):ownA w E sz v n xs:=by
 refine⟨h.1,?_⟩;rcases h.2 with h2|⟨g,cap,cur,h1,_,h2,h3,h4,h5,h6⟩
 .exact .inl h2
 .exact .inr ⟨g,cap,cur,E,(0,0),h1,h2,h3,h4,h5,h6,λ_=>⟨rfl,rfl⟩,.inl rfl⟩
theorem ownA_row{w:World}{E sz:Nat}{v:Value}{n:Nat}{xs:List Value}(h:ownA w E sz v n xs)(hE:Nat.blt E 1099511627776=true):w.ownsRow 0 E sz v n xs:=by
 refine⟨h.1,?_⟩;rcases h.2 with h2|⟨g,cap,cur,F,fz,h1,h2,h3,h4,h5,h6,h7,_⟩
 .exact .inl h2
 .obtain⟨rfl,rfl⟩:=h7 (Nat.le_of_ble_eq_true hE);exact .inr ⟨g,cap,cur,h1,Nat.zero_le _,h2,h3,h4,h5,h6⟩
theorem zhw{w w':World}{E sz n:Nat}{ao:Option Addr}{n' cap:Nat}{xs:List Value}(h:ownA w E sz (.slice ao n' cap) n xs)(hb: ∀k,blkA ao=some k->w'.heap[k]? =w.heap[k]?):ownA w' E sz (.slice ao n' cap) n xs:=by
 obtain⟨h1,h2⟩:=h;refine⟨h1,?_⟩;rcases h2 with h2|⟨g,cap,cur,F,fz,e,h4,h5⟩
 .exact .inl h2
 .simp only[Value.slice.injEq] at e;obtain⟨rfl,rfl,rfl⟩:=e;exact .inr ⟨g,_,cur,F,fz,rfl,by rw[hb g rfl];exact h4,h5⟩
theorem ownA_lt{w:World}{E sz n:Nat}{ao:Option Addr}{n' cap k:Nat}{xs:List Value}(h:ownA w E sz (.slice ao n' cap) n xs)(hk:blkA ao=some k):k<w.heap.size:=by
 rcases h.2 with⟨e,_⟩|⟨g,cap,cur,F,fz,e,hg,_⟩
 .exact Y75
 .exact Y87
theorem zkA{w:World}{E sz n m cap:Nat}{ao:Option Addr}{xs:List Value}{k o:Nat}{x:Value}(h:ownA w E sz (.slice ao m cap) n xs)(hk:blkA ao=some k)(hx:xs[o]? =some x):w.cell? ⟨k,o,none⟩=some x:=by
 rcases h.2 with⟨e,_⟩|⟨g,cap,cur,F,fz,e,hg,h1,h2,h3,h4,_⟩
 .exact Y75
 .exact Y76
def ROk(σ:zaM)(μ:zaJ)(w:World)(id:Nat)(D:Nat->Prop):Res->Prop
 | .gone=> ∀b,¬D b
 | .cells l=> ∃(b:Nat) (c:Array Value) (T:TypeId),μ id=some (.fix (.pointer (some ⟨b,0,none⟩)))/\w.heap[b]? =some (.cells c T (0,0))/\c.size=l.length ∧
   (∀(i:Nat) (av:AV),l[i]? =some av-> ∃x,c[i]? =some x/\RepV σ μ av x)/\(∀o,σ b o=none)/\ ∀k,D k↔k=b
 | .grow E sz g=> ∃ao n cap xs,μ id=some (.cur ao n cap g)/\w.ownsRow 0 E sz (.slice ao n cap) n xs/\(∀k,D k-> ∀o,n*sz<=o->σ k o=none)/\ ∀k,D k↔blkA ao=some k
 | .arr fr E sz g rows=> ∃ao cap xs,μ id=some (.cur ao rows.length cap g)/\ownA w E sz (.slice ao rows.length cap) rows.length xs/\(∀r,r∈rows->r.length=sz) ∧
   (∀(i j:Nat) (r:List AV) (av:AV),rows[i]? =some r->r[j]? =some av-> ∃y,xs[i*sz+j]? =some y/\RepV σ (gOf fr μ) av y/\y.oneCell'=true)/\(∀k,D k-> ∀o,σ k o=none)/\ ∀k,D k↔blkA ao=some k
 | .map kk ag f=> ∃(r:Nat) (es:Array MapEntry) (clock:Nat),μ id=some (.fix (.map (some r)))/\w.heap[r]? =some (.map es clock)/\zdJ σ es clock f/\(∀e,e∈es.toList->KeyW kk e.key/\(ag=true↔ ∃cs,e.val=.agg cs))/\(∀o,σ r o=none)/\ ∀k,D k↔k=r
 | .siter s pos=> ∃r:Nat,μ id=some (.fix (.pointer (some ⟨r,0,none⟩)))/\w.heap[r]? =some (.stringIter s pos)/\(∀o,σ r o=none)/\ ∀k,D k↔k=r
 | .alias _=>(∃v,μ id=some (.fix v))/\ ∀b,¬D b
 | .miter it kk ag f seen last=> ∃(r bm:Nat) (es:Array MapEntry) (clock since c0:Nat) (sn:Array Nat),μ it=some (.fix (.pointer (some ⟨r,0,none⟩)))/\μ id=some (.fix (.map (some bm)))/\r≠bm/\w.heap[r]? =some (.mapIter (some bm) since sn c0)/\w.heap[bm]? =some (.map es clock) ∧
   zdJ σ es clock f/\(∀e,e∈es.toList->KeyW kk e.key/\(ag=true↔ ∃cs,e.val=.agg cs))/\(∀e,e∈es.toList->e.born<since)/\(since<=c0/\since<=clock)/\(∀e,e∈es.toList->(sn.contains e.born=true↔seen e.key=true))/\(∀k,last=some k->c0=clock/\ ∃e,e∈es.toList/\sn.back?=some e.born/\e.key=k)/\(∀o,σ r o=none)/\(∀o,σ bm o=none)/\ ∀k,D k↔(k=r\/k=bm)
 | .obj p=> ∃b:Nat,μ id=some (.fix (.pointer (some ⟨b,0,none⟩)))/\p.rep σ w b D
theorem zfl{w w':World}{B E sz n:Nat}{ao:Option Addr}{n' cap:Nat}{xs:List Value}(h:w.ownsRow B E sz (.slice ao n' cap) n xs)(hb: ∀k,blkA ao=some k->w'.heap[k]? =w.heap[k]?):w'.ownsRow B E sz (.slice ao n' cap) n xs:=by
 obtain⟨h1,h2⟩:=h;refine⟨h1,?_⟩;rcases h2 with h2|⟨g,cap,cur,e,h3,h4,h5⟩
 .exact .inl h2
 .simp only[Value.slice.injEq] at e;obtain⟨rfl,rfl,rfl⟩:=e;exact .inr ⟨g,_,cur,rfl,h3,by rw[hb g rfl];exact h4,h5⟩
theorem znO{w:World}{B E sz n:Nat}{ao:Option Addr}{n' cap k:Nat}{xs:List Value}(h:w.ownsRow B E sz (.slice ao n' cap) n xs)(hk:blkA ao=some k):k<w.heap.size:=by
 rcases h.2 with⟨e,_⟩|⟨g,cap,cur,e,_,hg,_⟩
 .exact Y75
 .exact Y87
theorem ROk.live{σ:zaM}{μ:zaJ}{w:World}{id:Nat}{D:Nat->Prop}{r:Res}(h:ROk σ μ w id D r){b:Nat}(hb:D b):b<w.heap.size:=by
 cases r with
 |gone=>exact absurd hb (h b)
 |cells l=>obtain⟨b',c,T,_,h2,_,_,_,h6⟩:=h;obtain rfl:=(h6 b).1 hb;exact (Array.getElem?_eq_some_iff.1 h2).1
 |grow E sz g=>obtain⟨ao,n,cap,xs,_,h2,_,h4⟩:=h;exact znO h2 ((h4 b).1 hb)
 |arr fr E sz g rows=>obtain⟨ao,cap,xs,_,h2,_,_,_,h4⟩:=h;exact ownA_lt h2 ((h4 b).1 hb)
 |map kk ag f=>obtain⟨r,es,c,_,h2,_,_,_,h6⟩:=h;obtain rfl:=(h6 b).1 hb;exact (Array.getElem?_eq_some_iff.1 h2).1
 |siter s p=>obtain⟨r,_,h2,_,h6⟩:=h;obtain rfl:=(h6 b).1 hb;exact (Array.getElem?_eq_some_iff.1 h2).1
 |alias j=>exact absurd hb (h.2 b)
 |miter it kk ag f seen last=>
  obtain⟨r,bm,es,ck,sc,c0,sn,_,_,_,h2,h3,_,_,_,_,_,_,_,_,h6⟩:=h;rcases (h6 b).1 hb with e|e
  .subst e;exact (Array.getElem?_eq_some_iff.1 h2).1
  .subst e;exact (Array.getElem?_eq_some_iff.1 h3).1
 |obj p=>obtain⟨b',_,h2⟩:=h;exact p.live h2 hb
theorem zdJ.mono{σ σ':zaM}{es:Array MapEntry}{clock:Nat}{f:Value->Option (List AV)}(h:zdJ σ es clock f)(hs: ∀b o y,σ b o=some y->σ' b o=some y):zdJ σ' es clock f:=by
 obtain⟨h1,h2⟩:=h;refine⟨λe he=>?_,h2⟩;obtain⟨g0,l,g1,g2,g3,g4⟩:=h1 e he;exact⟨g0,l,g1,g2,g3,λi av hi=>let ⟨y,hy,hr⟩:=g4 i av hi;⟨y,hy,hr.mono hs (Gle.refl _)⟩⟩
theorem zcq{fr:Bool}{μ μ':zaJ}(h:Gle μ μ'):Gle (gOf fr μ) (gOf fr μ'):=by
 cases fr with
 |true=>exact Gle.refl _
 |false=>exact h
theorem ROk.ext{σ σ':zaM}{μ μ':zaJ}{w w':World}{id:Nat}{D:Nat->Prop}{r:Res}(h:ROk σ μ w id D r)(hid:μ' id=μ id)(hg:Gle μ μ')
  (hw: ∀b,D b->w'.heap[b]? =w.heap[b]? /\ ∀o,σ' b o=σ b o) (hs: ∀b o y,σ b o=some y->σ' b o=some y):ROk σ' μ' w' id D r:=by
 cases r with
 |gone=>exact h
 |cells l=>
  obtain⟨b,c,T,h1,h2,h3,h4,h5,h6⟩:=h;obtain⟨e1,e2⟩:=hw b ((h6 b).2 rfl);exact⟨b,c,T,hid▸h1,e1▸h2,h3,λi av hi=>let ⟨x,hx,hr⟩:=h4 i av hi;⟨x,hx,hr.mono hs hg⟩,λo=>by rw[e2];exact h5 o,h6⟩
 |grow E sz g=>
  obtain⟨ao,n,cap,xs,h1,h2,h3,h4⟩:=h;exact⟨ao,n,cap,xs,hid▸h1,zfl h2 (λk hk=>(hw k ((h4 k).2 hk)).1),λk hk o ho=>by rw[(hw k hk).2];exact h3 k hk o ho,h4⟩
 |arr fr E sz g rows=>
  obtain⟨ao,cap,xs,h1,h2,h3,h4,h5,h6⟩:=h;exact⟨ao,cap,xs,hid▸h1,zhw h2 (λk hk=>(hw k ((h6 k).2 hk)).1),h3,λi j r av g1 g2=>let ⟨y,hy,hr,ho⟩:=h4 i j r av g1 g2;⟨y,hy,hr.mono hs (zcq hg),ho⟩,λk hk o=>by rw[(hw k hk).2];exact h5 k hk o,h6⟩
 |map kk ag f=>
  obtain⟨r,es,c,h1,h2,h3,h4,h5,h6⟩:=h;obtain⟨e1,e2⟩:=hw r ((h6 r).2 rfl);exact⟨r,es,c,hid▸h1,e1▸h2,h3.mono hs,h4,λo=>by rw[e2];exact h5 o,h6⟩
 |siter s p=>
  obtain⟨r,h1,h2,h5,h6⟩:=h;obtain⟨e1,e2⟩:=hw r ((h6 r).2 rfl);exact⟨r,hid▸h1,e1▸h2,λo=>by rw[e2];exact h5 o,h6⟩
 |alias j=>exact⟨by rw[hid];exact h.1,h.2⟩
 |miter it kk ag f seen last=>
  obtain⟨r,bm,es,ck,sc,c0,sn,h1,h2,hne,h3,h4,h5,h7,h8,h9,h10,hl,h11,h12,h6⟩:=h;obtain⟨e1,e2⟩:=hw r ((h6 r).2 (.inl rfl));obtain⟨e3,e4⟩:=hw bm ((h6 bm).2 (.inr rfl));obtain⟨a',ha',hle⟩:=hg it _ h1;cases a' with
  |fix v=>
   simp only[An.le] at hle;subst hle;exact⟨r,bm,es,ck,sc,c0,sn,ha',hid▸h2,hne,e1▸h3,e3▸h4,h5.mono hs,h7,h8,h9,h10,hl,λo=>by rw[e2];exact h11 o,λo=>by rw[e4];exact h12 o,h6⟩
  |cur=>exact hle.elim
 |obj p=>
  obtain⟨b,h1,h2⟩:=h;exact⟨b,hid▸h1,p.ext h2 hw hs⟩
structure MemOk (σ:zaM) (μ:zaJ) (w:World) (m:List Res) (Ds:Nat->Nat->Prop):Prop where
 ok: ∀(id:Nat) (r:Res),m[id]? =some r->ROk σ μ w id (Ds id) r
 apart: ∀i j b,Ds i b->Ds j b->i=j
 out: ∀id,m.length<=id->μ id=none/\ ∀b,¬Ds id b
theorem MemOk.lt{σ:zaM}{μ:zaJ}{w:World}{m:List Res}{Ds:Nat->Nat->Prop}(h:MemOk σ μ w m Ds){id b:Nat}(hb:Ds id b):id<m.length:=by
 rcases Nat.lt_or_ge id m.length with g|g
 .exact g
 .exact absurd hb ((h.out id g).2 b)
theorem MemOk.live{σ:zaM}{μ:zaJ}{w:World}{m:List Res}{Ds:Nat->Nat->Prop}(h:MemOk σ μ w m Ds){id b:Nat}(hb:Ds id b):b<w.heap.size:=
 (h.ok id _ (List.getElem?_eq_getElem (h.lt hb))).live hb
structure AS where
 fr:List (Nat×AV)
 mem:List Res
def look:List (Nat×AV)->Nat->Option AV
 |[],_=>none
 |(k,v)::l,t=>if k=t then some v else look l t
def ofV:Value->AV
 | .nilIface=>.err 0
 | .agg cs=>.agg (cs.toList.map .v)
 |x=>.v x
theorem zkp(σ:zaM)(μ:zaJ)(x:Value):RepV σ μ (ofV x) x:=by
 cases x with
 |nilIface=>exact zjC▸RepV.err μ 0
 |agg cs=>exact .agg _ _ _ (by simp) (λi av x h1 h2=>by
   simp only[List.getElem?_map,Array.getElem?_toList,h2,Option.map_some,Option.some.injEq] at h1;subst h1;exact .v _ x)
 |_=>exact .v _ _
def AS.eval(A:AS):Operand->AV
 | .tmp t=>(look A.fr t).getD .any
 | .const x=>ofV x
 | .global _=>.any
 | .func f=>.clo f []
def AS.put(A:AS)(d:Option Tmp)(v:AV):AS:=
 match d with
 |none=>A
 |some t=>{ A with fr:=(t,v)::A.fr }
def zed(σ:zaM)(w:World):Prop:= ∀b o x,σ b o=some x->w.cell? ⟨b,o,none⟩=some x
theorem zed.lt{σ:zaM}{w:World}(h:zed σ w){b o:Nat}{y:Value}(hs:σ b o=some y):b<w.heap.size:=
 World.block_lt_of_cell? w _ (h b o y hs)
structure Keeps (fp:Nat->Prop) (w w':World):Prop where
 os:w'.os=w.os
 tape:w'.tape=w.tape
 output:w'.output=w.output
 size:w.heap.size<=w'.heap.size
 block: ∀k,k<w.heap.size-> ¬fp k->w'.heap[k]? =w.heap[k]?
structure Start where
 w:World
 σ:zaM
 μ:zaJ
 k:Nat
 zero: ∀i ao n cap g,μ i=some (.cur ao n cap g)->g=0
structure Rel (n:Nat) (fp:Nat->Prop) (w0:Start) (σ:zaM) (μ:zaJ) (Ds:Nat->Nat->Prop) (A:AS) (a:Act) (w:World):Prop where
 defers:a.defers=[]
 size:a.tmps.size=n
 frame: ∀t av,look A.fr t=some av->RepV σ μ av (a.tmps.getD t undef)
 agree:zed σ w
 mem:MemOk σ μ w A.mem Ds
 own: ∀id b,Ds id b->w0.w.heap.size<=b\/fp b
 keeps:Keeps fp w0.w w
 old: ∀b o,b<w0.w.heap.size-> ¬fp b->σ b o=w0.σ b o
 mono: ∀b o y,w0.σ b o=some y->σ b o=some y
 gle:Gle w0.μ μ
 kout: ∀i,w0.k<=i->w0.μ i=none
 klen:w0.k<=A.mem.length
section
variable {n:Nat} {fp:Nat->Prop} {w0:Start} {σ:zaM} {μ:zaJ} {Ds:Nat->Nat->Prop} {A:AS} {a:Act} {w:World}
theorem Rel.eval(h:Rel n fp w0 σ μ Ds A a w)(x:Operand):RepV σ μ (A.eval x) (a.eval x):=by
 cases x with
 |tmp t=>
  show RepV σ μ ((look A.fr t).getD .any) (a.tmps.getD t undef);cases hl:look A.fr t with
  |none=>exact .any _ _
  |some av=>exact h.frame t av hl
 |const x=>exact zkp σ μ x
 |global g=>exact .any _ _
 |func f=>exact .clo _ f [] #[] rfl (λi av x h=>by simp at h)
theorem Rel.put(h:Rel n fp w0 σ μ Ds A a w)(d:Option Tmp){av:AV}{x:Value}(hx:RepV σ μ av x)(hd: ∀t,d=some t->t<n):Rel n fp w0 σ μ Ds (A.put d av) (a.put d x) w:=by
 cases d with
 |none=>exact h
 |some t=>
  have ht:t<a.tmps.size:=by rw[h.size];exact hd t rfl
  refine⟨h.defers,by simpa[Act.put,AS.put] using h.size,?_,h.agree,h.mem,h.own,h.keeps,h.old,h.mono,h.gle,h.kout,h.klen⟩;intro u bv hu;simp only[AS.put,look] at hu;show RepV σ μ bv ((a.tmps.setIfInBounds t x).getD u undef);by_cases htu:t=u
  .subst htu;simp only[if_true,Option.some.injEq] at hu;subst hu;simpa[ht] using hx
  .simp only[if_neg htu] at hu;have:=h.frame u bv hu;simpa[Array.getElem?_setIfInBounds_ne htu] using this
theorem Rel.put_skip(h:Rel n fp w0 σ μ Ds A a w)(d:Option Tmp)(hd: ∀t,d=some t->t<n):Rel n fp w0 σ μ Ds (A.put d (.v (.tuple #[]))) (a.put d undef) w:=h.put d (.v _ _) hd
def updG(μ:zaJ)(id:Nat)(a:An):zaJ:=λi=>if i=id then some a else μ i
def updD(Ds:Nat->Nat->Prop)(id:Nat)(D:Nat->Prop):Nat->Nat->Prop:=λi=>if i=id then D else Ds i
theorem zeG{id:Nat}{an:An}(h: ∀a,μ id=some a->a.le an):Gle μ (updG μ id an):=by
 intro i a ha;unfold updG;split
 .rename_i e;subst e;exact⟨an,rfl,h a ha⟩
 .exact⟨a,ha,a.le_refl⟩
def putR(m:List Res)(id:Nat)(r:Res):List Res:=if id<m.length then m.set id r else m++[r]
theorem zlo{m:List Res}{id:Nat}{r:Res}(h:id<=m.length):m.length<=(putR m id r).length/\id<(putR m id r).length/\(∀i,(putR m id r).length<=i->m.length<=i/\i≠id):=by
 unfold putR;split
 .rename_i g;simp only[List.length_set];exact⟨Nat.le_refl _,g,λi hi=>⟨hi,by omega⟩⟩
 .simp only[List.length_append,List.length_singleton];exact⟨by omega,by omega,λi hi=>⟨by omega,by omega⟩⟩
theorem putR_get{m:List Res}{id i:Nat}{r:Res}(h:id<=m.length):(putR m id r)[i]? =if i=id then some r else m[i]? :=by
 unfold putR;split
 .rename_i hlt;rw[List.getElem?_set];by_cases e:id=i
  .subst e;simp [hlt]
  .rw[if_neg e,if_neg (λx=>e x.symm)]
 .rename_i hge;have:id=m.length:=by omega
  subst this;rw[List.getElem?_append];split
  .rw[if_neg (by omega)]
  .split
   .rename_i e;subst e;simp
   .rw[List.getElem?_eq_none (by simp;omega),List.getElem?_eq_none (by omega)]
theorem MemOk.upd{m:List Res}(h:MemOk σ μ w m Ds){id:Nat}{r:Res}{D:Nat->Prop}{an:An}{σ':zaM}{w':World}(hid:id<=m.length)
  (hfr: ∀b,b<w.heap.size-> ¬Ds id b->w'.heap[b]? =w.heap[b]? /\ ∀o,σ' b o=σ b o) (hs: ∀b o y,σ b o=some y->σ' b o=some y)
  (hr:ROk σ' (updG μ id an) w' id D r) (hD: ∀b,D b->Ds id b\/w.heap.size<=b) (hle: ∀a,μ id=some a->a.le an):MemOk σ' (updG μ id an) w' (putR m id r) (updD Ds id D):=by
 have hne: ∀i b,i≠id->Ds i b-> ¬Ds id b:=λi b hi h1 h2=>hi (h.apart i id b h1 h2);refine⟨?_,?_,?_⟩
 .intro i r' hi;rw[putR_get hid] at hi;unfold updD;split at hi
  .rename_i e;subst e;rw[if_pos rfl];obtain rfl:=Option.some.inj hi;exact hr
  .rename_i e;rw[if_neg e];refine (h.ok i r' hi).ext (by unfold updG;rw[if_neg e]) (zeG hle) (λb hb=>hfr b (h.live hb) (hne i b e hb)) hs
 .intro i j b hi hj;unfold updD at hi hj;split at hi<;>split at hj
  .omega
  .rename_i e1 e2;rcases hD b hi with g|g
   .exact absurd g (hne j b e2 hj)
   .exact absurd (h.live hj) (by omega)
  .rename_i e1 e2;rcases hD b hj with g|g
   .exact absurd g (hne i b e1 hi)
   .exact absurd (h.live hi) (by omega)
  .exact h.apart i j b hi hj
 .intro i hi;obtain⟨g1,g2⟩:=(zlo hid).2.2 i hi;unfold updG updD;rw[if_neg g2,if_neg g2];exact h.out i g1
theorem Rel.upd(h:Rel n fp w0 σ μ Ds A a w){id:Nat}{r:Res}{D:Nat->Prop}{an:An}{σ':zaM}{w':World}(hid:id<=A.mem.length)
  (hsz:w.heap.size<=w'.heap.size) (hos:w'.os=w.os) (htape:w'.tape=w.tape) (hout:w'.output=w.output)
  (hfr: ∀b,b<w.heap.size-> ¬Ds id b->w'.heap[b]? =w.heap[b]? /\ ∀o,σ' b o=σ b o) (hs: ∀b o y,σ b o=some y->σ' b o=some y) (hag:zed σ' w')
  (hr:ROk σ' (updG μ id an) w' id D r) (hD: ∀b,D b->Ds id b\/w.heap.size<=b) (hle: ∀a,μ id=some a->a.le an):
  Rel n fp w0 σ' (updG μ id an) (updD Ds id D) { A with mem:=putR A.mem id r } a w':=by
 have hg:=zeG hle;have hfr': ∀b,b<w0.w.heap.size-> ¬fp b->w'.heap[b]? =w.heap[b]? /\ ∀o,σ' b o=σ b o:=λb hb hf=>
  hfr b (Nat.lt_of_lt_of_le hb h.keeps.size) (λhd=>by rcases h.own id b hd with g|g;omega;exact hf g)
 refine⟨h.defers,h.size,λt av ht=>(h.frame t av ht).mono hs hg,hag,h.mem.upd hid hfr hs hr hD hle,?_,?_,?_,?_,h.gle.trans hg,h.kout,Nat.le_trans h.klen (zlo hid).1⟩
 .intro i b hb;unfold updD at hb;split at hb
  .rcases hD b hb with g|g
   .exact h.own id b g
   .exact .inl (Nat.le_trans h.keeps.size g)
  .exact h.own i b hb
 .exact⟨hos.trans h.keeps.os,htape.trans h.keeps.tape,hout.trans h.keeps.output,Nat.le_trans h.keeps.size hsz,λk hk hf=>by rw[(hfr' k hk hf).1];exact h.keeps.block k hk hf⟩
 .intro b o hb hf;rw[(hfr' b hb hf).2];exact h.old b o hb hf
 .exact λb o y hy=>hs _ _ _ (h.mono b o y hy)
end
end Go.Proofs.YtimfnpjcedjmiadGreat
namespace Go.Proofs.YtimfnpjcedjmiadGreat
open Go.RowKit
inductive Vc (p:Prop):Prop
 |mk (h:p):Vc p
def tt(b:Bool)(p:Prop):Prop:=
 match b with
 |true=>p
 |false=>False
theorem zaB{b:Bool}{p:Prop}(h:tt b p):b=true/\p:=by cases b with
 |true=>exact⟨rfl,h⟩
 |false=>exact h.elim
def neg(w:Bool):Bool:=
 match w with
 |true=>false
 |false=>true
theorem zlh{w:Bool}:neg w= !w:=by cases w<;>rfl
def In64(x:Int):Prop:= -9223372036854775808<=x/\x<=9223372036854775807
theorem zc0{x:Int}(h:In64 x):IntKind.i64.wrap x=x:=by
 rw[IntKind.wrap_i64];unfold In64 at h;omega
structure Nice {α:Type} (T:(α->Prop)->Prop):Prop where
 mono: ∀{K K':α->Prop},(∀v,K v->K' v)->T K->T K'
 det: ∀{K:α->Prop},T K-> ∃v,T (λu=>u=v)/\K v
theorem Nice.at{α:Type}(v:α):Nice (λK=>K v):=⟨λh k=>h v k,λh=>⟨v,rfl,h⟩⟩
theorem Nice.no{α:Type}:Nice (λ_:α->Prop=>False):=⟨λ_ k=>k,λh=>h.elim⟩
theorem Nice.and{α:Type}{p:Prop}{T:(α->Prop)->Prop}(h:Nice T):Nice (λK=>p/\T K):=
 ⟨λk x=>⟨x.1,h.mono k x.2⟩,λx=>let ⟨v,a,b⟩:=h.det x.2;⟨v,⟨x.1,a⟩,b⟩⟩
theorem Nice.tt{α:Type}{b:Bool}{T:(α->Prop)->Prop}(h:Nice T):Nice (λK=>tt b (T K)):=by
 cases b with
 |true=>exact h
 |false=>exact Nice.no
theorem Nice.bind{α β:Type}{T:(α->Prop)->Prop}{U:α->(β->Prop)->Prop}(h:Nice T)(k: ∀x,Nice (U x)):Nice (λK=>T (λx=>U x K)):=
 ⟨λf x=>h.mono (λv y=>(k v).mono f y) x,λx=>by
  obtain⟨v,h1,h2⟩:=h.det x;obtain⟨u,h3,h4⟩:=(k v).det h2;exact⟨u,h.mono (λw e=>by subst e;exact h3) h1,h4⟩⟩
theorem Nice.if{α:Type}{b:Bool}{T U:(α->Prop)->Prop}(h:Nice T)(k:Nice U):Nice (λK=>(b=true->T K)/\(b=false->U K)):=by
 cases b with
 |true=>exact⟨λf x=>⟨λe=>h.mono f (x.1 e),λe=>by cases e⟩,λx=>let ⟨v,a,b⟩:=h.det (x.1 rfl);⟨v,⟨λ_=>a,λe=>by cases e⟩,b⟩⟩
 |false=>exact⟨λf x=>⟨(λe=>by cases e),λe=>k.mono f (x.2 e)⟩,λx=>let ⟨v,a,b⟩:=k.det (x.2 rfl);⟨v,⟨(λe=>by cases e),λ_=>a⟩,b⟩⟩
theorem Nice.congr{α:Type}{T U:(α->Prop)->Prop}(h:Nice T)(e: ∀K,U K=T K):Nice U:=by
 have:U=T:=funext e;rw[this];exact h
theorem Nice.map{α β:Type}{T:(α->Prop)->Prop}(h:Nice T)(f:α->β):Nice (λK:β->Prop=>T (λx=>K (f x))):=
 h.bind (U:=λx K=>K (f x)) λx=>Nice.at (f x)
def fzX(x:Value)(K:Value->Prop):Prop:=
 match x with
 | .int k n=>K (.int k n)
 | .bool b=>K (.bool b)
 | .string s=>K (.string s)
 |x=>K x
theorem fzX_eq{x:Value}{K:Value->Prop}:fzX x K=K x:=by cases x<;>rfl
def fzN(n:Nat)(K:Nat->Prop):Prop:=
 match n with
 |0=>K 0
 |1=>K 1
 |2=>K 2
 |3=>K 3
 |4=>K 4
 |5=>K 5
 |6=>K 6
 |7=>K 7
 |8=>K 8
 |9=>K 9
 |10=>K 10
 |11=>K 11
 |12=>K 12
 |13=>K 13
 |14=>K 14
 |15=>K 15
 |n=>K n
theorem fzN_eq{n:Nat}{K:Nat->Prop}:fzN n K=K n:=by unfold fzN;split<;>rfl
def fzJ(n:Nat)(K:Nat->Prop):Prop:=
 match n with
 |0=>K 0
 |1=>K 1
 |2=>K 2
 |3=>K 3
 |4=>K 4
 |5=>K 5
 |6=>K 6
 |7=>K 7
 |8=>K 8
 |9=>K 9
 |10=>K 10
 |11=>K 11
 |12=>K 12
 |13=>K 13
 |14=>K 14
 |15=>K 15
 |16=>K 16
 |17=>K 17
 |18=>K 18
 |19=>K 19
 |20=>K 20
 |21=>K 21
 |22=>K 22
 |23=>K 23
 |24=>K 24
 |25=>K 25
 |26=>K 26
 |27=>K 27
 |28=>K 28
 |29=>K 29
 |30=>K 30
 |31=>K 31
 |32=>K 32
 |33=>K 33
 |34=>K 34
 |35=>K 35
 |36=>K 36
 |37=>K 37
 |38=>K 38
 |39=>K 39
 |40=>K 40
 |41=>K 41
 |42=>K 42
 |43=>K 43
 |44=>K 44
 |45=>K 45
 |46=>K 46
 |47=>K 47
 |48=>K 48
 |49=>K 49
 |50=>K 50
 |51=>K 51
 |52=>K 52
 |53=>K 53
 |54=>K 54
 |55=>K 55
 |56=>K 56
 |57=>K 57
 |58=>K 58
 |59=>K 59
 |60=>K 60
 |61=>K 61
 |62=>K 62
 |63=>K 63
 |n=>K n
theorem fzJ_eq{n:Nat}{K:Nat->Prop}:fzJ n K=K n:=by unfold fzJ;split<;>rfl
def cntK(n:Nat):(Nat->Prop)->Prop:=Nat.rec (motive:=λ_=>(Nat->Prop)->Prop) (λK=>K 0) (λ_ ih K=>ih λm=>K (m+1)) n
theorem cntK_eq{n:Nat}{K:Nat->Prop}:cntK n K=K n:=by
 induction n generalizing K with
 |zero=>rfl
 |succ n ih=>exact ih (K:=λm=>K (m+1))
def fzW(n:Nat)(K:Nat->Prop):Prop:=cntK n λm=>fzJ m K
theorem zow{n:Nat}{K:Nat->Prop}:fzW n K=K n:=by unfold fzW;rw[cntK_eq,fzJ_eq]
def fzB(n:Nat)(K:Nat->Prop):Prop:=fzN (n / 16) λi=>fzN (n%16) λj=>fzN (i*16+j) K
theorem fzB_eq{n:Nat}{K:Nat->Prop}:fzB n K=K n:=by unfold fzB;rw[fzN_eq,fzN_eq,fzN_eq];congr 1;omega
def fzO(o:Option (Nat×Nat))(K:Option (Nat×Nat)->Prop):Prop:=
 match o with
 |none=>K none
 |some (i,g)=>fzW i λi=>fzN g λg=>K (some (i,g))
theorem fzO_eq{o:Option (Nat×Nat)}{K:Option (Nat×Nat)->Prop}:fzO o K=K o:=by
 cases o with
 |none=>rfl
 |some p=>obtain⟨i,g⟩:=p;simp [fzO,fzN_eq,zow]
def fz0(v:AV)(K:AV->Prop):Prop:=
 match v with
 | .any=>K .any
 | .v x=>fzX x λx=>K (.v x)
 | .err k=>K (.err k)
 | .sl a b c=>fzN a λa=>fzO c λc=>K (.sl a b c)
 | .adr c=>K (.adr c)
 | .agg l=>K (.agg l)
 | .tup l=>K (.tup l)
 | .box i o=>fzW i λi=>fzW o λo=>K (.box i o)
 | .arr i g n=>fzW i λi=>fzN g λg=>K (.arr i g n)
 | .elt i g s j o=>fzW i λi=>fzN g λg=>fzN s λs=>fzN o λo=>K (.elt i g s j o)
 | .tl i g s j n=>fzW i λi=>fzN g λg=>fzN s λs=>K (.tl i g s j n)
 | .map i=>fzW i λi=>K (.map i)
 | .clo f c=>K (.clo f c)
theorem fz0_eq{v:AV}{K:AV->Prop}:fz0 v K=K v:=by cases v<;>simp [fz0,fzX_eq,fzO_eq,fzN_eq,zow]
def fzL:List AV->(List AV->Prop)->Prop
 |[],K=>K []
 |a::l,K=>fz0 a λa=>fzL l λl=>K (a::l)
theorem fzL_eq: ∀{l:List AV} {K:List AV->Prop},fzL l K=K l
 |[],K=>rfl
 |a::l,K=>by simp [fzL,fz0_eq,fzL_eq (l:=l)]
def fz1(v:AV)(K:AV->Prop):Prop:=
 match v with
 | .adr c=>fzL c λc=>K (.adr c)
 | .agg l=>fzL l λl=>K (.agg l)
 | .clo f c=>fzL c λc=>K (.clo f c)
 |v=>fz0 v K
theorem fz1_eq{v:AV}{K:AV->Prop}:fz1 v K=K v:=by cases v<;>simp [fz1,fzL_eq,fz0_eq]
def fzL1:List AV->(List AV->Prop)->Prop
 |[],K=>K []
 |a::l,K=>fz1 a λa=>fzL1 l λl=>K (a::l)
theorem fzL1_eq: ∀{l:List AV} {K:List AV->Prop},fzL1 l K=K l
 |[],K=>rfl
 |a::l,K=>by simp [fzL1,fz1_eq,fzL1_eq (l:=l)]
def fz(v:AV)(K:AV->Prop):Prop:=
 match v with
 | .tup l=>fzL1 l λl=>K (.tup l)
 |v=>fz1 v K
theorem fz_eq{v:AV}{K:AV->Prop}:fz v K=K v:=by cases v<;>simp [fz,fzL1_eq,fz1_eq]
def fzR(r:Res)(K:Res->Prop):Prop:=
 match r with
 | .gone=>K .gone
 | .cells l=>fzL l λl=>K (.cells l)
 | .grow e s g=>fzN s λs=>fzN g λg=>K (.grow e s g)
 | .arr f e s g r=>fzN s λs=>fzN g λg=>K (.arr f e s g r)
 |r=>K r
theorem fzR_eq{r:Res}{K:Res->Prop}:fzR r K=K r:=by cases r<;>simp [fzR,fzL_eq,fzN_eq]
def fzM:List Res->(List Res->Prop)->Prop
 |[],K=>K []
 |a::l,K=>fzR a λa=>fzM l λl=>K (a::l)
theorem fzM_eq: ∀{l:List Res} {K:List Res->Prop},fzM l K=K l
 |[],K=>rfl
 |a::l,K=>by simp [fzM,fzR_eq,fzM_eq (l:=l)]
def lk(fr:List (Nat×AV))(t:Nat):AV:=(look fr t).getD .any
def lkK:List (Nat×AV)->Nat->(AV->Prop)->Prop
 |[],_,K=>K .any
 |(u,v)::l,t,K=>match Nat.beq u t with
  |true=>K v
  |false=>lkK l t K
theorem zdx: ∀{fr:List (Nat×AV)} {t:Nat} {K:AV->Prop},lkK fr t K=K (lk fr t)
 |[],t,K=>rfl
 |(u,v)::l,t,K=>by
  simp only[lkK,lk,look];cases h:Nat.beq u t with
  |true=>rw[if_pos (Nat.eq_of_beq_eq_true h)];rfl
  |false=>rw[if_neg (Nat.ne_of_beq_eq_false h)];exact zdx
def evV(fr:List (Nat×AV))(x:Operand)(K:AV->Prop):Prop:=
 match x with
 | .tmp t=>lkK fr t K
 | .const v=>fz (ofV v) K
 | .global _=>K .any
 | .func f=>K (.clo f [])
def evO(fr:List (Nat×AV))(x:Operand):AV:=AS.eval ⟨fr,[]⟩ x
theorem ziX{fr:List (Nat×AV)}{mem:List Res}{x:Operand}:(⟨fr,mem⟩:AS).eval x=evO fr x:=by cases x<;>rfl
theorem evV_eq{fr:List (Nat×AV)}{x:Operand}{K:AV->Prop}:evV fr x K=K (evO fr x):=by
 cases x with
 |tmp t=>simp only[evV,zdx];rfl
 |const v=>simp only[evV,fz_eq];rfl
 |global g=>rfl
 |func f=>rfl
def evL(fr:List (Nat×AV)):List Operand->(List AV->Prop)->Prop
 |[],K=>K []
 |x::l,K=>evV fr x λv=>evL fr l λvs=>K (v::vs)
theorem evL_eq{fr:List (Nat×AV)}: ∀{l:List Operand} {K:List AV->Prop},evL fr l K=K (l.map (evO fr))
 |[],K=>rfl
 |x::l,K=>by simp only[evL,evV_eq,List.map_cons];rw[evL_eq (l:=l)]
def nthK{α:Type}:List α->Nat->(α->Prop)->Prop
 |[],_,_=>False
 |a::_,0,K=>K a
 |_::l,i+1,K=>nthK l i K
theorem zaH{α:Type}: ∀{l:List α} {i:Nat} {K:α->Prop},nthK l i K-> ∃r,l[i]? =some r/\K r
 |[],i,K,h=>h.elim
 |a::l,0,K,h=>⟨a,rfl,h⟩
 |a::l,i+1,K,h=>by obtain⟨r,h1,h2⟩:=zaH (l:=l) (i:=i) h;exact⟨r,by simpa using h1,h2⟩
theorem zbh{α:Type}: ∀{l:List α} {i:Nat} {K:α->Prop} {r:α},l[i]? =some r->K r->nthK l i K
 |[],i,K,r,h,k=>by simp at h
 |a::l,0,K,r,h,k=>by simp at h;subst h;exact k
 |a::l,i+1,K,r,h,k=>zbh (l:=l) (i:=i) (by simpa using h) k
theorem za0{α:Type}{l:List α}{i:Nat}:Nice (nthK l i):=by
 cases h:l[i]? with
 |none=>
  refine Nice.congr Nice.no λK=>propext ⟨λx=>?_,False.elim⟩;obtain⟨r,h1,_⟩:=zaH x;rw[h] at h1;cases h1
 |some a=>
  refine Nice.congr (Nice.at a) λK=>propext ⟨λx=>?_,λx=>zbh h x⟩;obtain⟨r,h1,h2⟩:=zaH x;rw[h] at h1;obtain rfl:=Option.some.inj h1;exact h2
def za7(P:Program)(t:TypeId):Option (Bool×Nat):=
 match P.underlying t,P.info? t with
 |some (.struct _),some i=>some (true,i.size)
 |some (.array _ _),some i=>some (true,i.size)
 |some _,some i=>some (false,i.size)
 |_,_=>none
def zlt(P:Program)(t:TypeId)(f:Nat):Option (Nat×TypeId):=
 match P.underlying t with
 |some (.struct fs)=>(fs[f]?).map λx=>(x.offset,x.type)
 |_=>none
def zlR(P:Program)(t:TypeId):Option TypeId:=
 match P.underlying t with
 |some (.slice e)=>some e
 |_=>none
def zgz(P:Program)(t:TypeId)(f:Nat):Option (Nat×Bool×Nat):=(zlt P t f).bind λp=>(za7 P p.2).map λq=>(p.1,q.1,q.2)
def zd1(P:Program)(t:TypeId):Option Value:=(P.info? t).bind (·.zero)
def znT(P:Program)(t:TypeId):Option Nat:=(zlR P t).bind λe=>(za7 P e).map (·.2)
theorem zd7{P:Program}{t:TypeId}{sz:Nat}(h:znT P t=some sz): ∃e b,zlR P t=some e/\za7 P e=some (b,sz):=by
 unfold znT at h;cases h1:zlR P t with
 |none=>simp [h1] at h
 |some e=>
  cases h2:za7 P e with
  |none=>simp [h1,h2] at h
  |some q=>obtain⟨b,n⟩:=q;simp [h1,h2] at h;subst h;exact⟨e,b,rfl,h2⟩
theorem za9{P:Program}{t e:TypeId}(h:zlR P t=some e):P.underlying t=some (.slice e):=by
 unfold zlR at h;split at h
 .rename_i e' hu;simp only[Option.some.injEq] at h;subst h;exact hu
 .cases h
def zgP(P:Program)(t:TypeId):Bool:=match P.underlying t with|some .string=>true|_=>false
theorem zbp{P:Program}{t:TypeId}(h:zgP P t=true):P.underlying t=some .string:=by
 unfold zgP at h;split at h
 .assumption
 .cases h
def zqN(P:Program)(t:TypeId):Bool:=match P.underlying t with|some .bool=>true|_=>false
theorem znF{P:Program}{t:TypeId}(h:zqN P t=true):P.underlying t=some .bool:=by
 unfold zqN at h;split at h
 .assumption
 .cases h
def isPtr(P:Program)(t:TypeId):Bool:=match P.underlying t with|some (.pointer _)=>true|_=>false
theorem zil{P:Program}{t:TypeId}(h:isPtr P t=true): ∃e,P.underlying t=some (.pointer e):=by
 unfold isPtr at h;split at h
 .exact⟨_,by assumption⟩
 .cases h
def zkT(P:Program)(t:TypeId):Bool:=match P.underlying t with|some (.interface _)=>true|_=>false
theorem zl0{P:Program}{t:TypeId}(h:zkT P t=true): ∃ms,P.underlying t=some (.interface ms):=by
 unfold zkT at h;split at h
 .exact⟨_,by assumption⟩
 .cases h
def isSl(P:Program)(t:TypeId):Bool:=(zlR P t).isSome
def zfr(P:Program)(t:TypeId):Bool:=match P.underlying t with|some (.interface _)=>false|some _=>true|none=>false
def zoV:Operand->Bool
 | .const _=>true
 |_=>false
def EqOk(P:Program)(op:BinOp)(t:TypeId)(xs ys:Array Value)(b:Bool):Prop:=
 ∀(x y:Operand) (w:World),(do eqGuard op t x y (.agg xs) (.agg ys);binOp op t (.agg xs) (.agg ys)).run P w=.ok (.bool b) w
inductive StopEq (P:Program) (op:BinOp) (t:TypeId) (l m:List AV) (K:AV->Prop):Prop
 |mk (xs ys:List Value) (b:Bool) (h1:l=xs.map .v) (h2:m=ys.map .v) (h3:EqOk P op t xs.toArray ys.toArray b) (h4:K (.v (.bool b))):StopEq P op t l m K
def binI(op:BinOp)(k:IntKind)(a b:Int)(K:AV->Prop):Prop:=
 match op with
 | .add=>match k with
  | .i64=>Vc (In64 (a+b))/\K (.v (.int .i64 (a+b)))
  |k=>K (.v (.int k (k.wrap (a+b))))
 | .sub=>match k with
  | .i64=>Vc (In64 (a-b))/\K (.v (.int .i64 (a-b)))
  |k=>K (.v (.int k (k.wrap (a-b))))
 | .mul=>match k with
  | .i64=>Vc (In64 (a*b))/\K (.v (.int .i64 (a*b)))
  |k=>K (.v (.int k (k.wrap (a*b))))
 | .quo=>match k with
  | .i64=>Vc (b≠0)/\Vc (In64 (a.tdiv b))/\K (.v (.int .i64 (a.tdiv b)))
  |k=>Vc (b≠0)/\K (.v (.int k (k.wrap (a.tdiv b))))
 | .rem=>Vc (b≠0)/\K (.v (.int k (a.tmod b)))
 | .and=>K (.v (.int k (k.wrap (BitVec.ofInt k.bits a&&&BitVec.ofInt k.bits b).toNat)))
 | .or=>K (.v (.int k (k.wrap (BitVec.ofInt k.bits a|||BitVec.ofInt k.bits b).toNat)))
 | .xor=>K (.v (.int k (k.wrap (BitVec.ofInt k.bits a^^^BitVec.ofInt k.bits b).toNat)))
 | .eql=>K (.v (.bool (a==b)))
 | .neq=>K (.v (.bool (a != b)))
 | .lss=>K (.v (.bool (decide (a<b))))
 | .leq=>K (.v (.bool (decide (a<=b))))
 | .gtr=>K (.v (.bool (decide (b<a))))
 | .geq=>K (.v (.bool (decide (b<=a))))
 |_=>False
def shI(op:BinOp)(k:IntKind)(a b:Int)(K:AV->Prop):Prop:=
 match op with
 | .shl=>Vc (0<=b)/\K (.v (.int k (k.wrap (a*2^(min b.toNat k.bits)))))
 | .shr=>Vc (0<=b)/\K (.v (.int k (a.fdiv (2^(min b.toNat k.bits)))))
 |_=>False
def isSh(op:BinOp):Bool:=
 match op with
 | .shl| .shr=>true
 |_=>false
def kEq(a b:IntKind):Bool:=
 match a,b with
 | .i8,.i8| .i16,.i16| .i32,.i32| .i64,.i64| .u8,.u8| .u16,.u16| .u32,.u32| .u64,.u64=>true
 |_,_=>false
theorem zfP{a b:IntKind}(h:kEq a b=true):a=b:=by cases a<;>cases b<;>first|rfl|cases h
def binB(op:BinOp)(a b:Bool)(K:AV->Prop):Prop:=
 match op with
 | .eql=>K (.v (.bool (a==b)))
 | .neq=>K (.v (.bool (!(a==b))))
 |_=>False
def binS(op:BinOp)(a b:ByteArray)(K:AV->Prop):Prop:=
 match op with
 | .add=>Vc (a.size+b.size<=9223372036854775807)/\K (.v (.string (a++b)))
 | .eql=>K (.v (.bool (a.toList==b.toList)))
 | .neq=>K (.v (.bool (!(a.toList==b.toList))))
 |_=>False
def binN(op:BinOp)(b:Bool)(K:AV->Prop):Prop:=
 match op with
 | .eql=>K (.v (.bool b))
 | .neq=>K (.v (.bool (neg b)))
 |_=>False
def binE(op:BinOp)(k j:Int)(K:AV->Prop):Prop:=
 match op with
 | .eql=>Vc (j=0)/\K (.v (.bool (k==0)))
 | .neq=>Vc (j=0)/\K (.v (.bool (k != 0)))
 |_=>False
def binV(P:Program)(op:BinOp)(t:TypeId)(c:Bool)(a b:AV)(K:AV->Prop):Prop:=
 match a with
 | .v (.int k x)=>match b with
  | .v (.int k' y)=>match isSh op with
   |true=>shI op k x y K
   |false=>tt (kEq k k') (binI op k x y K)
  |_=>False
 | .v (.bool x)=>match b with
  | .v (.bool y)=>tt (zqN P t) (binB op x y K)
  |_=>False
 | .v (.string x)=>match b with
  | .v (.string y)=>binS op x y K
  |_=>False
 | .v (.pointer none)=>match b with
  | .v (.pointer none)=>tt (isPtr P t) (binN op true K)
  |_=>False
 | .box _ _=>match b with
  | .v (.pointer none)=>tt (isPtr P t) (binN op false K)
  |_=>False
 | .err x=>match b with
  | .err y=>tt c (tt (zkT P t) (binE op x y K))
  |_=>False
 | .agg l=>match b with
  | .agg m=>StopEq P op t l m K
  |_=>False
 |_=>False
def fldV(fp:Option (Nat×Bool×Nat))(v:AV)(K:AV->Prop):Prop:=
 match v with
 | .agg l=>match fp with
  |some (off,true,k)=>tt (Nat.ble (off+k) l.length) (K (.agg ((l.drop off).take k)))
  |some (off,false,_)=>nthK l off K
  |none=>False
 |_=>False
def faV(fp:Option (Nat×Bool×Nat))(v:AV)(K:AV->Prop):Prop:=
 match fp with
 |some (off,_,k)=>tt (Nat.blt 0 k) (match v with
  | .adr l=>K (.adr (l.drop off))
  | .box id o=>K (.box id (o+off))
  | .elt i g s j o=>K (.elt i g s j (o+off))
  |_=>False)
 |none=>False
def AV.one:AV->Bool
 | .any| .agg _| .tup _=>false
 | .v x=>x.oneCell'
 |_=>true
def AV.cells:AV->Option (List AV)
 | .agg l=>if l.all AV.one then some l else none
 |av=>if av.one then some [av] else none
def zcy(v:AV)(K:List AV->Prop):Prop:=
 match v with
 | .agg l=>tt (l.all AV.one) (K l)
 |v=>tt v.one (K [v])
theorem zb0{v:AV}{K:List AV->Prop}(h:zcy v K): ∃l,v.cells=some l/\K l:=by
 unfold zcy at h;split at h
 .obtain⟨h1,h2⟩:=zaB h;exact⟨_,by simp only[AV.cells];rw[if_pos h1],h2⟩
 .rename_i hx;obtain⟨h1,h2⟩:=zaB h;refine⟨_,?_,h2⟩;cases v with
  |agg l=>exact absurd rfl (hx l)
  |_=>simp only[AV.cells];rw[if_pos h1]
theorem zna{v:AV}{K:List AV->Prop}(h: ∀l,v≠ .agg l):zcy v K=tt v.one (K [v]):=by
 cases v<;>first|rfl|exact absurd rfl (h _)
theorem zbi{v:AV}:Nice (zcy v):=by
 by_cases h: ∃l,v=.agg l
 .obtain⟨l,rfl⟩:=h;exact Nice.congr (T:=λK=>tt (l.all AV.one) (K l)) (Nice.tt (Nice.at l)) (λK=>rfl)
 .exact Nice.congr (T:=λK=>tt v.one (K [v])) (Nice.tt (Nice.at [v])) (λK=>zna λl e=>h ⟨l,e⟩)
def zf3(fp:Option (Nat×Bool×Nat))(c:Option (List AV))(l:Option (List AV)):Option (List AV):=
 match fp,c,l with
 |some (off,_,n),some c,some l=>if c.length=n/\off+n<=l.length then some (l.take off++c++l.drop (off+n)) else none
 |_,_,_=>none
def zfd(pl:Nat->Option (Nat×Bool×Nat))(ev:Operand->AV):Option (List AV)->List (Nat×Operand)->Option (List AV)
 |l,[]=>l
 |l,(i,x)::ps=>zfd pl ev (zf3 (pl i) (ev x).cells l) ps
def bldV(pl:Nat->Option (Nat×Bool×Nat))(fr:List (Nat×AV)):List (Nat×Operand)->List AV->(List AV->Prop)->Prop
 |[],l,K=>K l
 |(i,x)::ps,l,K=>evV fr x λv=>zcy v λc=>match pl i with
  |some (off,_,k)=>tt (Nat.beq c.length k) (tt (Nat.ble (off+k) l.length) (fzL (l.take off++c++l.drop (off+k)) λl=>bldV pl fr ps l K))
  |none=>False
theorem zi1{pl:Nat->Option (Nat×Bool×Nat)}{fr:List (Nat×AV)}: ∀{ps:List (Nat×Operand)} {l:List AV} {K:List AV->Prop},bldV pl fr ps l K-> ∃l',zfd pl (evO fr) (some l) ps=some l'/\K l'
 |[],l,K,h=>⟨l,rfl,h⟩
 |(i,x)::ps,l,K,h=>by
  simp only[bldV,evV_eq] at h;obtain⟨c,h1,h⟩:=zb0 h;split at h
  .rename_i off b k hf;obtain⟨h2,h⟩:=zaB h;obtain⟨h3,h⟩:=zaB h;rw[fzL_eq] at h;obtain⟨l',h4,h5⟩:=zi1 h;refine⟨l',?_,h5⟩;simp only[zfd,h1,hf,zf3];rw[if_pos ⟨Nat.eq_of_beq_eq_true h2,Nat.le_of_ble_eq_true h3⟩];exact h4
  .exact h.elim
theorem zjp{pl:Nat->Option (Nat×Bool×Nat)}{fr:List (Nat×AV)}: ∀{ps:List (Nat×Operand)} {l:List AV},Nice (bldV pl fr ps l)
 |[],l=>Nice.at l
 |(i,x)::ps,l=>by
  refine Nice.congr ?_ λK=>by simp only[bldV,evV_eq,fzL_eq];exact rfl
  refine zbi.bind (U:=λc K=>match pl i with
   |some (off,_,k)=>Go.Proofs.YtimfnpjcedjmiadGreat.tt (Nat.beq c.length k) (Go.Proofs.YtimfnpjcedjmiadGreat.tt (Nat.ble (off+k) l.length) (bldV pl fr ps (l.take off++c++l.drop (off+k)) K))
   |none=>False) λc=>?_
  split
  .exact Nice.tt (Nice.tt zjp)
  .exact Nice.no
def zpu(P:Program)(t:TypeId)(K:List AV->Prop):Prop:=
 match P.underlying t with
 |some (.struct fs)=>match zd1 P t with
  |some z=>tt (fs.toList.all (λf=>(P.info? f.type).isSome)) (fzL (z.cells.toList.map .v) K)
  |none=>False
 |some (.array _ e)=>match zd1 P t with
  |some z=>tt (za7 P e).isSome (fzL (z.cells.toList.map .v) K)
  |none=>False
 |_=>False
theorem zmZ{P:Program}{t:TypeId}:Nice (zpu P t):=by
 refine Nice.congr ?_ λK=>by simp only[zpu,fzL_eq];exact rfl
 split
 .split
  .exact Nice.tt (Nice.at _)
  .exact Nice.no
 .split
  .exact Nice.tt (Nice.at _)
  .exact Nice.no
 .exact Nice.no
def zmf(P:Program)(t:TypeId)(i:Nat):Option (Nat×Bool×Nat):=
 match P.underlying t with
 |some (.struct _)=>zgz P t i
 |some (.array _ e)=>(za7 P e).map λq=>(i*q.2,q.1,q.2)
 |_=>none
def zaG(s:ByteArray)(i:Nat):Nat:=(s.data.toList.getD i 0).toNat
def zfB(sh:Option (Bool×Nat))(off:Nat)(l:List AV)(K:AV->Prop):Prop:=
 match sh with
 |some (true,k)=>tt (Nat.ble (off+k) l.length) (K (.agg ((l.drop off).take k)))
 |some (false,_)=>nthK l off K
 |none=>False
theorem zd5{sh:Option (Bool×Nat)}{off:Nat}{l:List AV}:Nice (zfB sh off l):=by
 unfold zfB;split
 .exact Nice.tt (Nice.at _)
 .exact za0
 .exact Nice.no
inductive StopRow (rows:List (List AV)) (i:Nat) (K:List AV->Prop):Prop
 |mk (r:List AV) (h:rows[i]? =some r) (k:K r):StopRow rows i K
theorem StopRow.nice{rows:List (List AV)}{i:Nat}:Nice (StopRow rows i):=
 ⟨λf ⟨r,h,k⟩=>⟨r,h,f r k⟩,λ⟨r,h,k⟩=>⟨r,⟨r,h,rfl⟩,k⟩⟩
def ldV(sh:Option (Bool×Nat))(v:AV)(mem:List Res)(K:AV->Prop):Prop:=
 match v with
 | .adr cells=>zfB sh 0 cells K
 | .box id off=>nthK mem id λr=>match r with
  | .cells l=>zfB sh off l K
  |_=>False
 | .elt id g sz i o=>nthK mem id λr=>match r with
  | .arr _ _ s g' rows=>tt (Nat.beq g g') (tt (Nat.beq s sz) (StopRow rows i λl=>zfB sh o l K))
  |_=>False
 |_=>False
theorem zl4{sh:Option (Bool×Nat)}{v:AV}{mem:List Res}:Nice (ldV sh v mem):=by
 cases v with
 |adr c=>exact zd5
 |box id off=>
  refine za0.bind (U:=λ(r:Res) K=>match r with| .cells l=>zfB sh off l K|_=>False) λr=>?_;cases r<;>first|exact zd5|exact Nice.no
 |elt id g sz i o=>
  refine za0.bind (U:=λ(r:Res) K=>match r with| .arr _ _ s g' rows=>Go.Proofs.YtimfnpjcedjmiadGreat.tt (Nat.beq g g') (Go.Proofs.YtimfnpjcedjmiadGreat.tt (Nat.beq s sz) (StopRow rows i λl=>zfB sh o l K))|_=>False) λr=>?_;cases r<;>first|exact Nice.tt (Nice.tt (StopRow.nice.bind λ_=>zd5))|exact Nice.no
 |_=>exact Nice.no
def zjr(v:AV)(mem:List Res)(K:Nat->List (List AV)->Prop):Prop:=
 match v with
 | .sl sz rows _=>K sz rows
 | .arr id g n=>nthK mem id λr=>match r with
  | .arr _ _ s g' rows=>tt (Nat.beq g g') (K s (rows.take n))
  |_=>False
 |_=>False
inductive StopIdx (rows:List (List AV)) (i:Int) (K:AV->Prop):Prop
 |mk (r:List AV) (h0:0<=i) (h:rows[i.toNat]? =some r) (k:K (.adr r)):StopIdx rows i K
theorem StopIdx.nice{rows:List (List AV)}{i:Int}:Nice (StopIdx rows i):=
 ⟨λf ⟨r,h0,h,k⟩=>⟨r,h0,h,f _ k⟩,λ⟨r,h0,h,k⟩=>⟨.adr r,⟨r,h0,h,rfl⟩,k⟩⟩
inductive StopAt (len:Nat) (i:Int) (K:Nat->Prop):Prop
 |mk (h0:0<=i) (h:i<len) (k:K i.toNat):StopAt len i K
theorem StopAt.nice{len:Nat}{i:Int}:Nice (StopAt len i):=
 ⟨λf ⟨h0,h,k⟩=>⟨h0,h,f _ k⟩,λ⟨h0,h,k⟩=>⟨_,⟨h0,h,rfl⟩,k⟩⟩
def arrT(P:Program)(t:TypeId):Option (Nat×Nat):=
 match P.underlying t with
 |some (.array len e)=>(za7 P e).map λq=>(len,q.2)
 |_=>none
def idxV(P:Program)(t:TypeId)(mem:List Res)(v i:AV)(K:AV->Prop):Prop:=
 match i with
 | .v (.int _ i)=>match v with
  | .sl sz' rows _=>match znT P t with
   |some sz=>tt (Nat.beq sz sz') (StopIdx rows i K)
   |none=>False
  | .arr id g n=>match znT P t with
   |some sz=>nthK mem id λr=>match r with
    | .arr _ _ s g' _=>tt (Nat.beq g g') (tt (Nat.beq s sz) (Vc (0<=i/\i<n)/\K (.elt id g sz i.toNat 0)))
    |_=>False
   |none=>False
  | .box id off=>match arrT P t with
   |some (len,sz)=>StopAt len i λj=>K (.box id (off+j*sz))
   |none=>False
  | .elt id g s j o=>match arrT P t with
   |some (len,sz)=>StopAt len i λq=>K (.elt id g s j (o+q*sz))
   |none=>False
  |_=>False
 |_=>False
def ixV(P:Program)(t:TypeId)(v i:AV)(K:AV->Prop):Prop:=
 match i with
 | .v (.int _ i)=>match v with
  | .v (.string s)=>tt (zgP P t) (Vc (0<=i/\i<s.size)/\K (.v (.int .u8 (zaG s i.toNat))))
  | .agg l=>match P.underlying t with
   |some (.array len e)=>match za7 P e with
    |some (b,sz)=>StopAt len i λj=>zfB (some (b,sz)) (j*sz) l K
    |none=>False
   |_=>False
  |_=>False
 |_=>False
def zcP(fr:List (Nat×AV))(x:Option Operand)(K:Option Int->Prop):Prop:=
 match x with
 |none=>K none
 |some x=>evV fr x λv=>match v with
  | .v (.int _ i)=>K (some i)
  |_=>False
def hi0(h:Option Int)(n:Nat):Int:=h.getD n
def subV(P:Program)(t:TypeId)(v:AV)(lo hi:Option Int)(K:AV->Prop):Prop:=
 match v with
 | .v (.string s)=>tt (zgP P t) (match lo with
  |none=>match hi with
   |none=>K (.v (.string s))
   |some h=>Vc (0<=h/\h<=s.size)/\K (.v (.string (s.extract 0 h.toNat)))
  |some l=>match hi with
   |none=>Vc (0<=l/\l<=s.size)/\K (.v (.string (s.extract l.toNat s.size)))
   |some h=>Vc (0<=l/\l<=h/\h<=s.size)/\K (.v (.string (s.extract l.toNat h.toNat))))
 | .sl sz' rows _=>match znT P t with
  |some sz=>tt (Nat.beq sz sz') (tt (Nat.blt 0 sz) (match lo with
   |none=>match hi with
    |none=>K (.sl sz rows none)
    |some h=>Vc (0<=h/\h<=rows.length)/\K (.sl sz (rows.take h.toNat) none)
   |some l=>match hi with
    |none=>Vc (0<=l/\l<=rows.length)/\K (.sl sz (rows.drop l.toNat) none)
    |some h=>Vc (0<=l/\l<=h/\h<=rows.length)/\K (.sl sz ((rows.take h.toNat).drop l.toNat) none)))
  |none=>False
 | .arr id g n=>match znT P t with
  |some sz=>match lo with
   |none=>match hi with
    |none=>K (.arr id g n)
    |some h=>Vc (0<=h/\h<=n)/\K (.arr id g h.toNat)
   |some l=>match hi with
    |none=>Vc (0<=l/\l<=n)/\K (.tl id g sz l.toNat n)
    |some _=>False
  |none=>False
 |_=>False
def lenV(P:Program)(l:List AV)(ts:List TypeId)(K:AV->Prop):Prop:=
 match l with
 |[v]=>match ts with
  |[t]=>match v with
   | .sl _ rows _=>tt (isSl P t) (K (.v (.int .i64 rows.length)))
   | .arr _ _ n=>tt (isSl P t) (K (.v (.int .i64 n)))
   | .v (.slice none 0 0)=>tt (isSl P t) (K (.v (.int .i64 0)))
   | .v (.string s)=>tt (zgP P t) (K (.v (.int .i64 s.size)))
   |_=>False
  |_=>False
 |_=>False
inductive StopBytes (rows:List (List AV)) (K:AV->Prop):Prop
 |mk (l:List UInt8) (h:rows=l.map (λc=>[AV.v (.int .u8 c.toNat)])) (k:K (.v (.string ⟨l.toArray⟩))):StopBytes rows K
theorem StopBytes.nice{rows:List (List AV)}:Nice (StopBytes rows):=
 ⟨λf ⟨l,h,k⟩=>⟨l,h,f _ k⟩,λ⟨l,h,k⟩=>⟨_,⟨l,h,rfl⟩,k⟩⟩
def zej(P:Program)(t:TypeId):Bool:=match P.underlying t with
 |some (.slice e)=>match P.underlying e with
  |some (.int .u8)=>true
  |_=>false
 |_=>false
theorem zgQ{P:Program}{t:TypeId}(h:zej P t=true): ∃e,P.underlying t=some (.slice e)/\P.underlying e=some (.int .u8):=by
 unfold zej at h;split at h
 .rename_i e hu;split at h
  .rename_i h2;exact⟨e,hu,h2⟩
  .cases h
 .cases h
def zmt(P:Program)(t u:TypeId)(v:AV)(mem:List Res)(K:AV->Prop):Prop:=
 match v with
 | .v (.int _ n)=>match P.underlying u with
  |some (.int k)=>match P.underlying t with
   |some _=>K (.v (.int k (k.wrap n)))
   |none=>False
  |_=>False
 | .v (.string s)=>match P.underlying u with
  |some .string=>match P.underlying t with
   |some _=>K (.v (.string s))
   |none=>False
  |_=>False
 |v=>tt (zgP P u) (tt (zej P t) (zjr v mem λ_ rows=>StopBytes rows K))
inductive StopLook (o:Option (List AV)) (K:Option (List AV)->Prop):Prop
 |mk (h1: ∀l,o=some l->K (some l)) (h2:o=none->K none):StopLook o K
theorem StopLook.nice{o:Option (List AV)}:Nice (StopLook o):=by
 cases o with
 |none=>exact⟨λf ⟨_,h⟩=>⟨λl e=>by (cases e),λe=>f _ (h e)⟩,λ⟨_,h⟩=>⟨none,⟨λl e=>by (cases e),λ_=>rfl⟩,h rfl⟩⟩
 |some l=>exact⟨λf ⟨h,_⟩=>⟨λl e=>f _ (h l e),λe=>by cases e⟩,λ⟨h,_⟩=>⟨some l,⟨λm e=>by rw[e],λe=>by cases e⟩,h l rfl⟩⟩
def pairT(P:Program)(n e:Nat):Bool:=Nat.beq n 2&&(match P.underlying e with
 |some (.int .i64)=>true
 |_=>false)&&(match P.info? e with
 |some i=>Nat.beq i.size 1
 |none=>false)
def zjh(P:Program)(t:TypeId)(kk:Option IntKind)(k:AV)(K:Value->Prop):Prop:=
 match P.underlying t with
 |some (.map kt _)=>match P.underlying kt with
  |some (.int k')=>match kk with
   |some kk=>match k with
    | .v (.int k n)=>tt (kEq k k') (tt (kEq kk k') (K (.int k n)))
    |_=>False
   |none=>False
  |some (.array n e)=>match kk with
   |none=>match k with
    | .agg [.v (.int .i64 a),.v (.int .i64 b)]=>tt (pairT P n e) (K (.agg #[.int .i64 a,.int .i64 b]))
    |_=>False
   |some _=>False
  |_=>False
 |_=>False
def zp9(P:Program)(t:TypeId):Option (Value×Bool×Nat):=
 match P.underlying t with
 |some (.map _ e)=>(zd1 P e).bind λz=>(za7 P e).map λq=>(z,q.1,q.2)
 |_=>none
def valOf(ag:Bool)(l:List AV):AV:=
 match ag with
 |true=>.agg l
 |false=>match l with
  |[a]=>a
  |_=>.any
def zm6(ag ok:Bool)(z:Value)(o:Option (List AV))(K:AV->Prop):Prop:=
 match o with
 |some l=>match ok with
  |true=>fz (valOf ag l) λv=>K (.tup [v,.v (.bool true)])
  |false=>fz (valOf ag l) K
 |none=>match ok with
  |true=>fz (ofV z) λv=>K (.tup [v,.v (.bool false)])
  |false=>fz (ofV z) K
theorem zmx{ag ok:Bool}{z:Value}{o:Option (List AV)}:Nice (zm6 ag ok z o):=by
 cases o<;>cases ok<;>exact Nice.congr (Nice.at _) λK=>by simp only[zm6,fz_eq];rfl
def zk0(P:Program)(t:TypeId)(v k:AV)(ok:Bool)(mem:List Res)(K:AV->Prop):Prop:=
 match v with
 | .map id=>nthK mem id λr=>match r with
  | .map kk ag f=>zjh P t kk k λkey=>match zp9 P t with
   |some (z,ag',_)=>tt (ag==ag') (StopLook (f key) λo=>zm6 ag ok z o K)
   |none=>False
  |_=>False
 |_=>False
def nilV(v:AV)(K:AV->Prop):Prop:=
 match v with
 | .box i o=>K (.box i o)
 | .adr c=>K (.adr c)
 | .elt i g s j o=>K (.elt i g s j o)
 | .clo f c=>K (.clo f c)
 |_=>False
def minV(mx:Bool)(l:List AV)(K:AV->Prop):Prop:=
 match l with
 |[.v (.int k x),.v (.int k' y)]=>tt (kEq k k') (match mx with
  |true=>K (.v (.int k (if x<y then y else x)))
  |false=>K (.v (.int k (if y<x then y else x))))
 |_=>False
def entL(it' it:Nat)(last:Option Value)(K:AV->Prop):Prop:=tt (Nat.beq it' it) (match last with
 |some k=>K (.tup [.v k,.any])
 |none=>False)
def entV(mem:List Res)(v:AV)(K:AV->Prop):Prop:=
 match v with
 | .box it 0=>nthK mem it λr=>match r with
  | .alias mid=>nthK mem mid λq=>match q with
   | .miter it' _ _ _ _ last=>entL it' it last K
   |_=>False
  |_=>False
 |_=>False
def vq(P:Program)(fr:List (Nat×AV))(mem:List Res)(op:Op)(K:AV->Prop):Prop:=
 match op with
 | .move x=>evV fr x K
 | .assign x=>evV fr x K
 | .nilCheck x=>evV fr x λv=>nilV v K
 | .pick c x y=>evV fr c λv=>match v with
  | .v (.bool b)=>(b=true->evV fr x K)/\(b=false->evV fr y K)
  |_=>False
 | .load t p=>evV fr p λv=>ldV (za7 P t) v mem K
 | .binOp op t x y _=>evV fr x λa=>evV fr y λb=>binV P op t (zoV y) a b K
 | .build t parts=>zpu P t λl=>bldV (zmf P t) fr parts.toList l λl=>K (.agg l)
 | .unOp op _ x=>evV fr x λv=>match op with
  | .not=>match v with
   | .v (.bool b)=>K (.v (.bool (neg b)))
   |_=>False
  | .neg=>match v with
   | .v (.int .i64 n)=>Vc (In64 (0-n))/\K (.v (.int .i64 (0-n)))
   |_=>False
  |_=>False
 | .convert t u x=>evV fr x λv=>zmt P t u v mem K
 | .extract x i=>evV fr x λv=>match v with
  | .tup l=>nthK l i K
  |_=>False
 | .entry x=>evV fr x λv=>entV mem v K
 | .field t x f=>evV fr x λv=>fldV (zgz P t f) v K
 | .fieldAddr t x f=>evV fr x λv=>faV (zgz P t f) v K
 | .indexAddr t x y=>evV fr x λv=>evV fr y λi=>idxV P t mem v i K
 | .index t x y=>evV fr x λv=>evV fr y λi=>ixV P t v i K
 | .slice t x lo hi mx=>match mx with
  |none=>evV fr x λv=>zcP fr lo λlo=>zcP fr hi λhi=>subV P t v lo hi K
  |some _=>False
 | .lookup t x y ok=>evV fr x λv=>evV fr y λk=>zk0 P t v k ok mem K
 | .makeInterface t x=>tt (Nat.beq t 96) (tt (zfr P t) (evV fr x λv=>match v with
  | .v (.int .i64 k)=>Vc (k≠0)/\K (.err k)
  |_=>False))
 | .typeAssert x _ u ok=>tt ok (tt (Nat.beq u 96) (tt (zfr P u) (evV fr x λv=>match v with
  | .err k=>match zd1 P u with
   |some (.int .i64 0)=>K (.tup [.v (.int .i64 k),.v (.bool (k != 0))])
   |_=>False
  |_=>False)))
 | .makeFunc fn first caps=>match fn with
  | .func f=>tt (Nat.beq first.size 0) (evL fr caps.toList λl=>fzL l λl=>K (.clo f l))
  |_=>False
 | .call c=>match c.callee with
  | .builtin .len=>evL fr c.args.toList λl=>lenV P l c.argTypes.toList K
  | .builtin .min=>evL fr c.args.toList λl=>minV false l K
  | .builtin .max=>evL fr c.args.toList λl=>minV true l K
  |_=>False
 |_=>False
end Go.Proofs.YtimfnpjcedjmiadGreat
namespace Go.Proofs.YtimfnpjcedjmiadGreat
open Go.RowKit
section
variable {σ:zaM} {μ:zaJ} {x:Value}
theorem RepV.inv_v{y:Value}(h:RepV σ μ (.v y) x):x=y:=by cases h;rfl
theorem RepV.inv_err{k:Int}(h:RepV σ μ (.err k) x):x=errv k:=by cases h;rfl
theorem RepV.inv_adr{cells:List AV}(h:RepV σ μ (.adr cells) x): ∃(b off:Nat) (f:Nat->Value),x=.pointer (some ⟨b,off,none⟩) ∧
  (∀(j:Nat) (av:AV),cells[j]? =some av->σ b (off+j)=some (f j))/\(∀(j:Nat) (av:AV),cells[j]? =some av->RepV σ noG av (f j))/\(∀(j:Nat) (av:AV),cells[j]? =some av->(f j).oneCell'=true):=by
 cases h with|adr _ _ b off f h1 h2 h3=>exact⟨b,off,f,rfl,h1,h2,h3⟩
theorem RepV.inv_agg{l:List AV}(h:RepV σ μ (.agg l) x): ∃cs,x=.agg cs/\l.length=cs.size/\(∀(i:Nat) (av:AV) (y:Value),l[i]? =some av->cs[i]? =some y->RepV σ μ av y):=by
 cases h with|agg _ _ cs h1 h2=>exact⟨cs,rfl,h1,h2⟩
theorem RepV.inv_tup{l:List AV}(h:RepV σ μ (.tup l) x): ∃cs,x=.tuple cs/\l.length=cs.size/\(∀(i:Nat) (av:AV) (y:Value),l[i]? =some av->cs[i]? =some y->RepV σ μ av y):=by
 cases h with|tup _ _ cs h1 h2=>exact⟨cs,rfl,h1,h2⟩
theorem RepV.inv_clo{f:Nat}{l:List AV}(h:RepV σ μ (.clo f l) x): ∃cs,x=.func (.func f) #[] cs/\l.length=cs.size/\(∀(i:Nat) (av:AV) (y:Value),l[i]? =some av->cs[i]? =some y->RepV σ μ av y):=by
 cases h with|clo _ _ _ cs h1 h2=>exact⟨cs,rfl,h1,h2⟩
theorem RepV.inv_box{id off:Nat}(h:RepV σ μ (.box id off) x): ∃b,x=.pointer (some ⟨b,off,none⟩)/\μ id=some (.fix (.pointer (some ⟨b,0,none⟩))):=by
 cases h with|box _ _ _ b h1=>exact⟨b,rfl,h1⟩
theorem RepV.inv_map{id:Nat}(h:RepV σ μ (.map id) x): ∃r,x=.map (some r)/\μ id=some (.fix (.map (some r))):=by
 cases h with|map _ _ r h1=>exact⟨r,rfl,h1⟩
theorem RepV.inv_arr{id g n:Nat}(h:RepV σ μ (.arr id g n) x): ∃ao m cap a,x=.slice ao n cap/\n<=m/\m<=cap/\cap<=maxLen/\μ id=some a/\(An.cur ao m cap g).le a:=by
 cases h with|arr _ _ _ _ ao m cap a h1 h2 h3 h4 h5=>exact⟨ao,m,cap,a,rfl,h1,h2,h3,h4,h5⟩
theorem RepV.inv_elt{id g sz i o:Nat}(h:RepV σ μ (.elt id g sz i o) x): ∃b m cap a,x=.pointer (some ⟨b,i*sz+o,none⟩)/\μ id=some a/\(An.cur (some ⟨b,0,none⟩) m cap g).le a:=by
 cases h with|elt _ _ _ _ _ _ b m cap a h1 h2=>exact⟨b,m,cap,a,rfl,h1,h2⟩
theorem RepV.inv_sl{sz:Nat}{rows:List (List AV)}{own:Option (Nat×Nat)}(h:RepV σ μ (.sl sz rows own) x): ∃(ao:Option Addr) (cap b off:Nat) (f:Nat->Nat->Value),x=.slice ao rows.length cap ∧
  rows.length<=cap/\cap<=maxLen/\(rows=[]\/ao=some ⟨b,off,none⟩)/\(∀r,r∈rows->r.length=sz) ∧
  (∀(i j:Nat) (r:List AV) (av:AV),rows[i]? =some r->r[j]? =some av->σ b (off+i*sz+j)=some (f i j)) ∧
  (∀(i j:Nat) (r:List AV) (av:AV),rows[i]? =some r->r[j]? =some av->RepV σ noG av (f i j)) ∧
  (∀(i j:Nat) (r:List AV) (av:AV),rows[i]? =some r->r[j]? =some av->(f i j).oneCell'=true)/\(∀id g,own=some (id,g)-> ∃a,μ id=some a/\(An.cur ao rows.length cap g).le a):=by
 cases h with|sl _ _ _ _ ao cap b off f h1 h2 h3 h4 h5 h6 h7 h8=>exact⟨ao,cap,b,off,f,rfl,h1,h2,h3,h4,h5,h6,h7,h8⟩
theorem RepV.inv_tl{id g sz i n:Nat}(h:RepV σ μ (.tl id g sz i n) x): ∃ao m cap a,x=.slice (if cap=i then ao else ao.map (·.add (i*sz))) (n-i) (cap-i)/\i<=n/\n<=m/\m<=cap/\cap<=maxLen/\μ id=some a/\(An.cur ao m cap g).le a:=by
 cases h with|tl _ _ _ _ _ _ ao m cap a h1 h2 h3 h4 h5 h6=>exact⟨ao,m,cap,a,rfl,h1,h2,h3,h4,h5,h6⟩
theorem errv_one(k:Int):(errv k).oneCell'=true:=by unfold errv;split<;>rfl
theorem RepV.one{av:AV}(h:RepV σ μ av x)(ho:av.one=true):x.oneCell'=true:=by
 cases h with
 |any=>simp [AV.one] at ho
 |v=>exact ho
 |err _ k=>exact errv_one k
 |agg=>simp [AV.one] at ho
 |tup=>simp [AV.one] at ho
 |_=>rfl
theorem zpt(h:x.oneCell'=true):x.cells= #[x]:=by cases x<;>first|rfl|simp [Value.oneCell'] at h
theorem RepV.cells{av:AV}{l:List AV}(h:RepV σ μ av x)(hc:av.cells=some l):x.cells.size=l.length/\(∀(i:Nat) (a:AV),l[i]? =some a-> ∃y,x.cells[i]? =some y/\RepV σ μ a y)/\(∀y∈x.cells.toList,y.oneCell'=true):=by
 have key: ∀av':AV,RepV σ μ av' x->av'.one=true->l=[av']->x.cells.size=l.length/\(∀(i:Nat) (a:AV),l[i]? =some a-> ∃y,x.cells[i]? =some y/\RepV σ μ a y)/\(∀y∈x.cells.toList,y.oneCell'=true):=by
  intro av' hr ho hl;have h1:=hr.one ho;rw[zpt h1];subst hl;refine⟨rfl,λi a hi=>?_,λy hy=>?_⟩
  .cases i with
   |zero=>simp only[List.getElem?_cons_zero,Option.some.injEq] at hi;subst hi;exact⟨x,rfl,hr⟩
   |succ i=>simp at hi
  .simp only[List.mem_singleton] at hy;subst hy;exact h1
 cases av with
 |agg m=>
  simp only[AV.cells] at hc;split at hc
  .rename_i hall;obtain rfl:=Option.some.inj hc;obtain⟨cs,rfl,hl,hr⟩:=h.inv_agg;refine⟨hl.symm,λi a hi=>?_,λy hy=>?_⟩
   .have hlt:i<cs.size:=by rw[<-hl];exact (List.getElem?_eq_some_iff.1 hi).1
    exact⟨cs[i],by simp [Value.cells,hlt],hr i a _ hi (by simp [hlt])⟩
   .obtain⟨i,hi,rfl⟩:=List.mem_iff_getElem.1 hy;have hi':i<cs.size:=by simpa[Value.cells] using hi
    have hm:i<m.length:=by omega
    have:=hr i m[i] cs[i] (by simp [hm]) (by simp [hi']);show (cs.toList[i]'(by simpa using hi')).oneCell'=true;rw[Array.getElem_toList];exact this.one (List.all_eq_true.1 hall _ (List.getElem_mem hm))
  .cases hc
 |any=>simp [AV.cells,AV.one] at hc
 |tup m=>simp [AV.cells,AV.one] at hc
 |v y=>
  simp only[AV.cells] at hc;split at hc
  .rename_i ho;exact key _ h ho (Option.some.inj hc).symm
  .cases hc
 |_=>exact key _ h rfl (by simpa[AV.cells,AV.one] using hc.symm)
end
theorem zeF{P:Program}{t:TypeId}{n:Nat}(h:za7 P t=some (true,n))(w:World):
  (isAgg t).run P w=.ok true w/\(sizeOf t).run P w=.ok n w:=by
 unfold za7 at h;cases hu:P.underlying t with
 |none=>simp [hu] at h
 |some d=>
  cases hi:P.info? t with
  |none=>cases d<;>simp [hu,hi] at h
  |some i=>
   cases d<;>simp [hu,hi] at h<;>subst h<;>
    exact⟨by simp [isAgg,underlying,program,hu,Sem.run,Bind.bind,Sem.bind,pure,Sem.pure],by simp [sizeOf,typeInfo,program,hi,Sem.run,Bind.bind,Sem.bind,pure]⟩
theorem zdW{P:Program}{t:TypeId}{n:Nat}(h:za7 P t=some (false,n))(w:World):
  (isAgg t).run P w=.ok false w/\(sizeOf t).run P w=.ok n w:=by
 unfold za7 at h;cases hu:P.underlying t with
 |none=>simp [hu] at h
 |some d=>
  cases hi:P.info? t with
  |none=>cases d<;>simp [hu,hi] at h
  |some i=>
   cases d<;>simp [hu,hi] at h<;>subst h<;>
    exact⟨by simp [isAgg,underlying,program,hu,Sem.run,Bind.bind,Sem.bind,pure,Sem.pure],by simp [sizeOf,typeInfo,program,hi,Sem.run,Bind.bind,Sem.bind,pure]⟩
theorem zef{P:Program}{w:World}{b off:Nat}(f:Nat->Value): ∀(n i:Nat) (acc:Array Value),(∀j,j<n->w.cell? ⟨b,off+(i+j),none⟩=some (f (i+j))) →
  (loadCellsFrom ⟨b,off,none⟩ i n acc).run P w=.ok (acc++(List.range n).toArray.map (λj=>f (i+j))) w
 |0,i,acc,_=>by simp [loadCellsFrom,pure,Sem.run]
 |n+1,i,acc,h=>by
  have h0:=h 0 (by omega);have hadd:(⟨b,off,none⟩:Addr).add i=⟨b,off+i,none⟩:=by unfold Addr.add;split<;>simp_all
  simp only[Nat.add_zero] at h0;have ih:=zef (P:=P) f n (i+1) (acc.push (f i)) (λj hj=>by have:=h (j+1) (by omega);rw[show i+1+j=i+(j+1) by omega];exact this);simp only[loadCellsFrom,load,hadd,Bind.bind,Sem.bind,Sem.run,h0];rw[ih];congr 1
  apply Array.ext';simp [List.range_succ_eq_map,Function.comp_def,Nat.add_assoc,Nat.add_comm 1]
section
variable {P:Program} {σ:zaM} {μ:zaJ} {w:World}
theorem part_agg{l:List AV}{cs:Array Value}(hl:l.length=cs.size)(hr: ∀(i:Nat) (av:AV) (y:Value),l[i]? =some av->cs[i]? =some y->RepV σ μ av y){t:TypeId}{off n:Nat}(hs:za7 P t=some (true,n))(hn:off+n<=l.length):
  ∃y,(part t cs off).run P w=.ok y w/\RepV σ μ (.agg ((l.drop off).take n)) y:=by
 obtain⟨s1,s2⟩:=zeF hs w;refine⟨.agg (cs.extract off (off+n)),by simp [part,Sem.run_bind,s1,s2,Result.andThen_ok,Sem.run_pure],.agg _ _ _ (by simp;omega) ?_⟩;intro i av y hi hy;rw[Array.getElem?_extract] at hy;rw[List.getElem?_take,List.getElem?_drop] at hi;by_cases h1:i<n
 .simp only[h1,if_true] at hi;split at hy
  .exact hr _ _ _ hi hy
  .simp at hy
 .simp [h1] at hi
theorem znw{l:List AV}{cs:Array Value}(hl:l.length=cs.size)(hr: ∀(i:Nat) (av:AV) (y:Value),l[i]? =some av->cs[i]? =some y->RepV σ μ av y){t:TypeId}{off n:Nat}(hs:za7 P t=some (false,n)){av:AV}(hn:l[off]? =some av):
  ∃y,(part t cs off).run P w=.ok y w/\RepV σ μ av y:=by
 obtain⟨s1,s2⟩:=zdW hs w;have h1:off<cs.size:=by rw[<-hl];exact (List.getElem?_eq_some_iff.1 hn).1
 refine⟨cs[off],by simp [part,Sem.run_bind,s1,Result.andThen_ok,h1,Sem.run_pure],hr off av _ hn (by simp [h1])⟩
end
theorem zce(k:Int):(k=0/\errv k=.nilIface)\/(k≠0/\errv k=.iface 96 (.int .i64 k)):=by
 by_cases h:k=0
 .exact .inl ⟨h,by rw[h];rfl⟩
 .exact .inr ⟨h,zmV h⟩
section
variable {P:Program} {n:Nat} {fp:Nat->Prop} {w0:Start} {σ:zaM} {μ:zaJ} {Ds:Nat->Nat->Prop} {A:AS} {a:Act} {w:World}
theorem binI_run{op:BinOp}{t:TypeId}{x y:Operand}{k:IntKind}{i j:Int}{K:AV->Prop}(h:binI op k i j K):
  ∃z,(do eqGuard op t x y (.int k i) (.int k j);binOp op t (.int k i) (.int k j)).run P w=.ok z w/\K (.v z):=by
 have hg:(eqGuard op t x y (.int k i) (.int k j)).run P w=.ok () w:=by cases op<;>rfl
 simp only[Sem.run_bind,hg,Result.andThen_ok];cases op<;>simp only[binI] at h<;>try exact h.elim
 case add|sub|mul=>
  cases k<;>simp only at h
  case i64=>exact⟨_,by simp [binOp,Op.intArith,Sem.run_pure,zc0 h.1.1],h.2⟩
  all_goals exact⟨_,by simp [binOp,Op.intArith,Sem.run_pure],h⟩
 case quo=>
  cases k<;>simp only at h
  case i64=>exact⟨_,by simp [binOp,Op.intDiv,h.1.1,Sem.run_pure,zc0 h.2.1.1],h.2.2⟩
  all_goals exact⟨_,by simp [binOp,Op.intDiv,h.1.1,Sem.run_pure],h.2⟩
 case rem=>exact⟨_,by simp [binOp,Op.intDiv,h.1.1,Sem.run_pure],h.2⟩
 case and|or|xor=>exact⟨_,by simp [binOp,Op.intBits,Sem.run_pure],h⟩
 case eql|neq|lss|leq|gtr|geq=>exact⟨_,by simp [binOp,Op.intCmp,Sem.run_pure],h⟩
theorem shI_run{op:BinOp}{t:TypeId}{x y:Operand}{k k':IntKind}{i j:Int}{K:AV->Prop}(h:shI op k i j K):
  ∃z,(do eqGuard op t x y (.int k i) (.int k' j);binOp op t (.int k i) (.int k' j)).run P w=.ok z w/\K (.v z):=by
 have hg:(eqGuard op t x y (.int k i) (.int k' j)).run P w=.ok () w:=by cases op<;>rfl
 simp only[Sem.run_bind,hg,Result.andThen_ok];cases op<;>simp only[shI] at h<;>try exact h.elim
 all_goals exact⟨_,by simp [binOp,Op.shift,Int.not_lt.2 h.1.1,Sem.run_pure],h.2⟩
theorem zgG{t:TypeId}{x y:Value}{b:Bool}(h: ∀d,(Op.equalIn (d+1) t x y).run P w=.ok b w):(Op.equal t x y).run P w=.ok b w:=h 9999
theorem binB_run{op:BinOp}{t:TypeId}{x y:Operand}{i j:Bool}{K:AV->Prop}(hu:P.underlying t=some .bool)(h:binB op i j K):
  ∃z,(do eqGuard op t x y (.bool i) (.bool j);binOp op t (.bool i) (.bool j)).run P w=.ok z w/\K (.v z):=by
 have hg:(eqGuard op t x y (.bool i) (.bool j)).run P w=.ok () w:=by cases op<;>rfl
 simp only[Sem.run_bind,hg,Result.andThen_ok];have he:(Op.equal t (.bool i) (.bool j)).run P w=.ok (i==j) w:=by
  exact Y96
 cases op<;>simp only[binB] at h<;>first|exact h.elim|skip
 .exact Y86
 .exact Y86
theorem binS_run{op:BinOp}{t:TypeId}{x y:Operand}{i j:ByteArray}{K:AV->Prop}(h:binS op i j K):
  ∃z,(do eqGuard op t x y (.string i) (.string j);binOp op t (.string i) (.string j)).run P w=.ok z w/\K (.v z):=by
 have hg:(eqGuard op t x y (.string i) (.string j)).run P w=.ok () w:=by cases op<;>rfl
 simp only[Sem.run_bind,hg,Result.andThen_ok];cases op<;>simp only[binS] at h<;>first|exact h.elim|skip
 case add=>
  have h1: ¬((i.size+j.size:Nat):Int)>IntKind.i64.max:=by
   have:=h.1.1;have e:IntKind.i64.max=9223372036854775807:=by decide
   rw[e];omega
  exact⟨_,by simp only[binOp,Op.stringOp,if_neg h1,Sem.run_pure],h.2⟩
 case eql=>exact⟨_,by simp only[binOp,Op.stringOp,Sem.run_pure],h⟩
 case neq=>exact⟨_,by simp only[binOp,Op.stringOp,Sem.run_pure],h⟩
theorem binE_run{op:BinOp}{t:TypeId}{x:Operand}{c:Value}{i j:Int}{K:AV->Prop}(hu: ∃ms,P.underlying t=some (.interface ms))(h:binE op i j K):
  ∃z,(do eqGuard op t x (.const c) (errv i) (errv j);binOp op t (errv i) (errv j)).run P w=.ok z w/\K (.v z):=by
 obtain⟨ms,hu⟩:=hu;have hj:j=0:=by cases op<;>simp only[binE] at h<;>first|exact h.elim|exact h.1.1
 subst hj;rw[zjC];have hg:(eqGuard op t x (.const c) (errv i) .nilIface).run P w=.ok () w:=by
  rcases zce i with⟨_,e⟩|⟨_,e⟩<;>rw[e]<;>cases op<;>cases x<;>rfl
 have he:(Op.equal t (errv i) .nilIface).run P w=.ok (i==0) w:=by
  refine zgG λd=>?_;rcases zce i with⟨h0,e⟩|⟨h0,e⟩<;>rw[e]
  .subst h0;simp [Op.equalIn,underlying,program,hu,Sem.run_bind,Result.andThen_ok,Sem.run,pure,Sem.run_pure]
  .have:(i==0)=false:=by simpa using h0
   simp [Op.equalIn,underlying,program,hu,Sem.run_bind,Result.andThen_ok,Sem.run,pure,Sem.run_pure,this]
 simp only[Sem.run_bind,hg,Result.andThen_ok];cases op<;>simp only[binE] at h<;>first|exact h.elim|skip
 .refine⟨.bool (i==0),?_,h.2⟩;rcases zce i with⟨h0,e⟩|⟨h0,e⟩<;>rw[e] at he ⊢ <;>simp [binOp,Sem.run_bind,he,Result.andThen_ok,Sem.run_pure]
 .refine⟨.bool (i != 0),?_,h.2⟩;rcases zce i with⟨h0,e⟩|⟨h0,e⟩<;>rw[e] at he ⊢ <;>simp [binOp,Sem.run_bind,he,Result.andThen_ok,Sem.run_pure,bne]
theorem zmB{op:BinOp}{t:TypeId}{x y:Operand}{p:Option Addr}{K:AV->Prop}(hu: ∃e,P.underlying t=some (.pointer e))(h:binN op p.isNone K):
  ∃z,(do eqGuard op t x y (.pointer p) (.pointer none);binOp op t (.pointer p) (.pointer none)).run P w=.ok z w/\K (.v z):=by
 have hg:(eqGuard op t x y (.pointer p) (.pointer none)).run P w=.ok () w:=by cases op<;>rfl
 obtain⟨e,hu⟩:=hu;have he:(Op.equal t (.pointer p) (.pointer none)).run P w=.ok p.isNone w:=by
  refine zgG λd=>?_;cases p<;>simp [Op.equalIn,underlying,program,hu,Sem.run_bind,Result.andThen_ok,Sem.run,pure,Sem.run_pure]
 simp only[Sem.run_bind,hg,Result.andThen_ok];cases op<;>simp only[binN] at h<;>first|exact h.elim|skip
 .exact Y86
 .refine⟨.bool (neg p.isNone),?_,h⟩;simp [binOp,Sem.run_bind,he,Result.andThen_ok,Sem.run_pure,zlh]
theorem zjB{l:List AV}{xs:List Value}{cs:Array Value}(hl:l.length=cs.size)(he:l=xs.map .v)(hr: ∀(i:Nat) (av:AV) (y:Value),l[i]? =some av->cs[i]? =some y->RepV σ μ av y):cs=xs.toArray:=by
 subst he;apply Array.ext
 .simpa using hl.symm
 .intro i h1 h2;have h3:i<xs.length:=by simpa using h2
  have:=hr i (.v xs[i]) cs[i] (by simp [h3]) (by simp [h1]);rw[this.inv_v];simp
theorem znN{op:BinOp}{t:TypeId}{x y:Operand}{u v:Value}{au av:AV}{K:AV->Prop}(hu:RepV σ μ au u)(hv:RepV σ μ av v)(h:binV P op t (zoV y) au av K):
  ∃z az,(do eqGuard op t x y u v;binOp op t u v).run P w=.ok z w/\RepV σ μ az z/\K az:=by
 have fin: ∀{z:Value},(do eqGuard op t x y u v;binOp op t u v).run P w=.ok z w/\K (.v z)-> ∃z az,(do eqGuard op t x y u v;binOp op t u v).run P w=.ok z w/\RepV σ μ az z/\K az:=λ⟨h1,h2⟩=>⟨_,_,h1,.v _ _,h2⟩;unfold binV at h;split at h
 .split at h
  .obtain rfl:=hu.inv_v;obtain rfl:=hv.inv_v;split at h
   .exact fin (shI_run h).choose_spec
   .obtain⟨h1,h2⟩:=zaB h;obtain rfl:=zfP h1;exact fin (binI_run h2).choose_spec
  .exact h.elim
 .split at h
  .obtain rfl:=hu.inv_v;obtain rfl:=hv.inv_v;obtain⟨h1,h2⟩:=zaB h;exact fin (binB_run (znF h1) h2).choose_spec
  .exact h.elim
 .split at h
  .obtain rfl:=hu.inv_v;obtain rfl:=hv.inv_v;exact fin (binS_run h).choose_spec
  .exact h.elim
 .split at h
  .obtain rfl:=hu.inv_v;obtain rfl:=hv.inv_v;obtain⟨h1,h2⟩:=zaB h;exact fin (zmB (p:=none) (zil h1) h2).choose_spec
  .exact h.elim
 .split at h
  .obtain⟨b,rfl,_⟩:=hu.inv_box;obtain rfl:=hv.inv_v;obtain⟨h1,h2⟩:=zaB h;exact fin (zmB (p:=some _) (zil h1) h2).choose_spec
  .exact h.elim
 .split at h
  .obtain rfl:=hu.inv_err;obtain rfl:=hv.inv_err;obtain⟨h0,h⟩:=zaB h;obtain⟨h1,h2⟩:=zaB h;cases y with
   |const c=>exact fin (binE_run (zl0 h1) h2).choose_spec
   |_=>cases h0
  .exact h.elim
 .split at h
  .obtain⟨xs,ys,b,h1,h2,h3,h4⟩:=h;obtain⟨cs,rfl,hl,hr⟩:=hu.inv_agg;obtain⟨ds,rfl,hl',hr'⟩:=hv.inv_agg;rw[zjB hl h1 hr,zjB hl' h2 hr'];exact⟨_,_,h3 x y w,.v _ _,h4⟩
  .exact h.elim
 .exact h.elim
theorem zoU{l:List UInt8}{ao:Option Addr}{b off cap:Nat}{src e dst:TypeId}(hs:P.underlying src=some (.slice e))(he:P.underlying e=some (.int .u8))(hd:P.underlying dst=some .string)(hao:l=[]\/ao=some ⟨b,off,none⟩)
  (hst: ∀i c,l[i]? =some c->w.cell? ⟨b,off+i,none⟩=some (.int .u8 (c.toNat:Int))):(convert src dst (.slice ao l.length cap)).run P w=.ok (.string ⟨l.toArray⟩) w:=by
 rcases hao with rfl|rfl
 .cases ao with
  |none=>rw[run_convert_bytes_nil (P:=P) (w:=w) src e hs he _ _ dst hd];rfl
  |some ad=>
   rw[run_convert_bytes_string w src dst e _ _ _ hs he hd];simp [Conv.bytesToString,loadCells,loadCellsFrom,Sem.run_bind,Sem.run_pure,Result.andThen_ok];rfl
 .rw[run_convert_bytes_arg w src e hs he b off l.length cap (l.map λc=>(c.toNat:Int)) (by simp) (λi hi=>by
   rw[hst i l[i] (by simp [hi])];simp [hi]) dst hd]
  congr 2
  simp [strOfNums,Function.comp_def]
theorem add_none(b off n:Nat):(⟨b,off,none⟩:Addr).add n=⟨b,off+n,none⟩:=by unfold Addr.add;split<;>simp_all
theorem zaR{t:TypeId}{g:Bool}{n:Nat}(h:za7 P t=some (g,n))(w:World):(sizeOf t).run P w=.ok n w:=by
 cases g with
 |true=>exact (zeF h w).2
 |false=>exact (zdW h w).2
theorem val_run{ρ:Operand->Value}{o:Oper}{s:Sem Value}(he:execOp ρ o=(do pure (.value (<-s)))){x:Value}(h:s.run P w=.ok x w):(execOp ρ o).run P w=.ok (.value x) w:=by
 rw[he];simp [Sem.run_bind,h,Result.andThen_ok,Sem.run_pure]
theorem rows_out(h:Rel n fp w0 σ μ Ds A a w){v:AV}{x:Value}(hx:RepV σ μ v x){K:Nat->List (List AV)->Prop}(hk:zjr v A.mem K):
  ∃sz rows ao cap b off,K sz rows/\x=.slice ao rows.length cap/\(rows=[]\/ao=some ⟨b,off,none⟩)/\(∀r,r∈rows->r.length=sz) ∧
   ∀(i j:Nat) (r:List AV) (av:AV),rows[i]? =some r->r[j]? =some av-> ∃y,w.cell? ⟨b,off+i*sz+j,none⟩=some y/\RepV σ μ av y/\y.oneCell'=true:=by
 unfold zjr at hk;split at hk
 .obtain⟨ao,cap,b,off,f,e,h1,h2,h3,h4,h5,h6,h7,h8⟩:=hx.inv_sl;exact⟨_,_,ao,cap,b,off,hk,e,h3,h4,λi j r av g1 g2=>⟨f i j,h.agree _ _ _ (h5 i j r av g1 g2),(h6 i j r av g1 g2).lift,h7 i j r av g1 g2⟩⟩
 .rename_i id g k;obtain⟨r,hr,hk⟩:=zaH hk;split at hk
  .rename_i fr E s g' rows;obtain⟨hg0,hk2⟩:=zaB hk;clear hk;have hg:=Nat.eq_of_beq_eq_true hg0;subst hg;obtain⟨ao,m,cap,an,e,k1,k2,k3,k4,k5⟩:=hx.inv_arr;obtain⟨ao',cap',xs,q1,q2,q3,q4,q5,q6⟩:=h.mem.ok id _ hr;rw[k4] at q1;obtain rfl:=Option.some.inj q1;obtain⟨_,k5⟩:=k5;obtain⟨rfl,rfl,rfl⟩:=k5 rfl;have hlen:(rows.take k).length=k:=by simp;omega
   rcases q2.2 with⟨e1,e2⟩|⟨b,cp,cur,F,fz,e1,hb,hle,hcm,hcs,htake,_⟩
   .simp only[Value.slice.injEq] at e1;obtain⟨rfl,e3,e4⟩:=e1;have:rows=[]:=List.eq_nil_of_length_eq_zero e2;subst this;exact⟨s,_,none,cap',0,0,hk2,by rw[hlen];exact e,.inl (by simp),by simp,λi j r av g1=>by simp at g1⟩
   .simp only[Value.slice.injEq] at e1;obtain⟨rfl,_,rfl⟩:=e1;refine⟨s,_,_,cap',b,0,hk2,by rw[hlen];exact e,.inr rfl,λr hr=>q3 r (List.mem_of_mem_take hr),λi j r av g1 g2=>?_⟩;rw[List.getElem?_take] at g1;split at g1
    .obtain⟨y,y1,y2,y3⟩:=q4 i j r av g1 g2;rw[<-htake,List.getElem?_take] at y1;split at y1
     .refine⟨y,?_,?_,y3⟩
      .simp only[World.cell?,hb];simpa[Nat.zero_add] using y1
      .cases fr with
       |true=>exact RepV.lift y2
       |false=>exact y2
     .cases y1
    .cases g1
  .exact hk.elim
 .exact hk.elim
theorem zgp: ∀(vs:List Value) (off k:Nat) (cs:Array Value),off+k+vs.length<=cs.size →
  ((vs.zipIdx k).foldl (λcs (p:Value×Nat)=>cs.setIfInBounds (off+p.2) p.1) cs).size=cs.size ∧
  ∀n,((vs.zipIdx k).foldl (λcs (p:Value×Nat)=>cs.setIfInBounds (off+p.2) p.1) cs)[n]? =if off+k<=n/\n<off+k+vs.length then vs[n-(off+k)]? else cs[n]?
 |[],off,k,cs,_=>⟨rfl,λn=>by rw[if_neg (by intro h;simp at h;omega)];rfl⟩
 |v::vs,off,k,cs,h=>by
  simp only[List.length_cons] at h;simp only[List.zipIdx_cons,List.foldl_cons];obtain⟨h1,h2⟩:=zgp vs off (k+1) (cs.setIfInBounds (off+k) v) (by simp;omega);refine⟨by rw[h1];simp,λn=>?_⟩;rw[h2 n,Array.getElem?_setIfInBounds];by_cases g1:off+(k+1)<=n/\n<off+(k+1)+vs.length
  .rw[if_pos g1,if_pos (by simp;omega),show n-(off+k)=n-(off+(k+1))+1 by omega,List.getElem?_cons_succ]
  .rw[if_neg g1];by_cases g2:off+k=n
   .subst g2;rw[if_pos rfl,if_pos (by omega),if_pos (by simp),Nat.sub_self];rfl
   .rw[if_neg g2,if_neg (by simp;omega)]
theorem zkq{fp:Option (Nat×Bool×Nat)}{c:Option (List AV)}:zf3 fp c none=none:=by unfold zf3;split<;>simp_all
theorem zhI{pl:Nat->Option (Nat×Bool×Nat)}{ev:Operand->AV}: ∀ps,zfd pl ev none ps=none
 |[]=>rfl
 |(p1,p2)::ps=>by simp only[zfd,zkq];exact zhI ps
theorem zka(h:Rel n fp w0 σ μ Ds A a w){pl:Nat->Option (Nat×Bool×Nat)}{place:Nat->Option (Nat×Nat)}(hpl: ∀i off b k,pl i=some (off,b,k)->place i=some (off,k)):
  ∀(parts:List (Nat×Operand)) (l:List AV) (cs:Array Value) (l':List AV),cs.size=l.length->(∀(i:Nat) (av:AV),l[i]? =some av-> ∃y,cs[i]? =some y/\RepV σ μ av y)->zfd pl A.eval (some l) parts=some l' →
  ∃cs',Instr.fill place cs (parts.map λp=>(p.1,a.eval p.2))=some cs'/\cs'.size=l'.length/\(∀(i:Nat) (av:AV),l'[i]? =some av-> ∃y,cs'[i]? =some y/\RepV σ μ av y)
 |[],l,cs,l',hl,hr,hf=>by
  simp only[zfd,Option.some.injEq] at hf;subst hf;exact⟨cs,rfl,hl,hr⟩
 |(i,x)::parts,l,cs,l',hl,hr,hf=>by
  simp only[zfd] at hf;cases hs:zf3 (pl i) (A.eval x).cells (some l) with
  |none=>rw[hs,zhI] at hf;cases hf
  |some l1=>
   rw[hs] at hf;unfold zf3 at hs;split at hs
   .rename_i off b k c l0 hfp hc hl0;simp only[Option.some.injEq] at hl0;subst hl0;split at hs
    .rename_i hcond;obtain rfl:=Option.some.inj hs;obtain⟨hck,hfit⟩:=hcond;obtain⟨k1,k2,_⟩:=(h.eval x).cells hc;obtain⟨p1,p2⟩:=zgp (a.eval x).cells.toList off 0 cs (by simp [k1];omega);have hfold:(a.eval x).cells.zipIdx.foldl (λcs (p:Value×Nat)=>cs.setIfInBounds (off+p.2) p.1) cs=(((a.eval x).cells.toList.zipIdx 0).foldl (λcs (p:Value×Nat)=>cs.setIfInBounds (off+p.2) p.1) cs):=by
      rw[<-Array.foldl_toList];simp
     obtain⟨cs',g1,g2,g3⟩:=zka h hpl parts (l.take off++c++l.drop (off+k)) _ l' (by rw[p1,hl];simp;omega) (by
      intro n av hn;rw[p2 n];simp only[Nat.add_zero,Array.length_toList,k1];rw[List.append_assoc,List.getElem?_append] at hn;have e1:(l.take off).length=off:=by simp;omega
      rw[e1] at hn;split at hn
      .rename_i hlt;rw[if_neg (by omega)];rw[List.getElem?_take,if_pos hlt] at hn;exact hr n av hn
      .rename_i hge;rw[List.getElem?_append] at hn;split at hn
       .rename_i h3;rw[if_pos (by omega),Array.getElem?_toList];exact k2 _ av hn
       .rename_i h3;rw[if_neg (by omega)];rw[List.getElem?_drop] at hn;rw[show off+k+(n-off-c.length)=n by omega] at hn;exact hr n av hn) hf
     refine⟨cs',?_,g2,g3⟩;rw[<-hfold] at g1;simp only[List.map_cons,Instr.fill,hpl i off b k hfp];rw[if_neg (by rw[k1,hck];simp;omega)];exact g1
    .cases hs
   .cases hs
theorem zmX(fs:List Field)(hall: ∀f,f∈fs->(P.info? f.type).isSome=true):(fs.mapM λf=>(do pure (f.offset,<-sizeOf f.type):Sem (Nat×Nat))).run P w=.ok (fs.map λf=>(f.offset,((P.info? f.type).map (·.size)).getD 0)) w:=by
 induction fs with
 |nil=>simp [Sem.run_pure]
 |cons f fs ih=>
  have h1:=hall f (List.mem_cons_self ..);cases hi:P.info? f.type with
  |none=>rw[hi] at h1;cases h1
  |some i=>
   have:=ih (λf hf=>hall f (List.mem_cons_of_mem _ hf));have hsz:(sizeOf f.type).run P w=.ok i.size w:=by simp [sizeOf,typeInfo,program,hi,Sem.run_bind,Sem.run,Result.andThen_ok,pure,Sem.run_pure]
   simp only[List.mapM_cons,Sem.run_bind,hsz,Result.andThen_ok,Sem.run_pure,this,List.map_cons,hi,Option.map_some,Option.getD_some]
theorem znA{t:TypeId}{b:Bool}{k:Nat}(hsh:za7 P t=some (b,k)):((P.info? t).map (·.size)).getD 0=k:=by
 unfold za7 at hsh;cases hu2:P.underlying t with
 |none=>simp [hu2] at hsh
 |some dd=>cases hi2:P.info? t with
  |none=>cases dd<;>simp [hu2,hi2] at hsh
  |some ii=>cases dd<;>simp [hu2,hi2] at hsh<;>simp [hsh]
end
end Go.Proofs.YtimfnpjcedjmiadGreat
namespace Go.Proofs.YtimfnpjcedjmiadGreat
open Go.RowKit
theorem zoh{op:BinOp}{k:IntKind}{a b:Int}:Nice (binI op k a b):=by
 cases op<;>cases k<;>first|exact Nice.no|exact Nice.at _|exact Nice.and (Nice.at _)|exact Nice.and (Nice.and (Nice.at _))
theorem shI_nice{op:BinOp}{k:IntKind}{a b:Int}:Nice (shI op k a b):=by
 cases op<;>first|exact Nice.no|exact Nice.and (Nice.at _)
theorem zph{op:BinOp}{a b:Bool}:Nice (binB op a b):=by cases op<;>first|exact Nice.no|exact Nice.at _
theorem zoH{op:BinOp}{a b:ByteArray}:Nice (binS op a b):=by cases op<;>first|exact Nice.no|exact Nice.at _|exact Nice.and (Nice.at _)
theorem zoN{op:BinOp}{b:Bool}:Nice (binN op b):=by cases op<;>first|exact Nice.no|exact Nice.at _
theorem zoO{op:BinOp}{a b:Int}:Nice (binE op a b):=by cases op<;>first|exact Nice.no|exact Nice.and (Nice.at _)
theorem StopEq.nice{P:Program}{op:BinOp}{t:TypeId}{l m:List AV}:Nice (StopEq P op t l m):=
 ⟨λf ⟨xs,ys,b,h1,h2,h3,h4⟩=>⟨xs,ys,b,h1,h2,h3,f _ h4⟩,λ⟨xs,ys,b,h1,h2,h3,h4⟩=>⟨_,⟨xs,ys,b,h1,h2,h3,rfl⟩,h4⟩⟩
theorem zoJ{P:Program}{op:BinOp}{t:TypeId}{c:Bool}{a b:AV}:Nice (binV P op t c a b):=by
 unfold binV;repeat' split
 all_goals first|exact Nice.no|exact shI_nice|exact Nice.tt zoh|exact Nice.tt zph|exact zoH|exact Nice.tt zoN|exact Nice.tt (Nice.tt zoO)|exact StopEq.nice
theorem zny{fp:Option (Nat×Bool×Nat)}{v:AV}:Nice (fldV fp v):=by
 unfold fldV;repeat' split
 all_goals first|exact Nice.no|exact Nice.tt (Nice.at _)|exact za0
theorem faV_nice{fp:Option (Nat×Bool×Nat)}{v:AV}:Nice (faV fp v):=by
 unfold faV;split
 .refine Nice.tt ?_;split<;>first|exact Nice.at _|exact Nice.no
 .exact Nice.no
theorem zoj{P:Program}{t:TypeId}{mem:List Res}{v i:AV}:Nice (idxV P t mem v i):=by
 unfold idxV;split
 .rename_i k i;split
  .split<;>first|exact Nice.no|exact Nice.tt StopIdx.nice
  .rename_i id g n;split
   .rename_i sz _;refine za0.bind (U:=λ(r:Res) (K:AV->Prop)=>match r with
     | .arr _ _ s g' _=>tt (Nat.beq g g') (tt (Nat.beq s sz) (Vc (0<=i/\i<n)/\K (.elt id g sz i.toNat 0)))
     |_=>False) λr=>?_
    split<;>first|exact Nice.tt (Nice.tt (Nice.and (Nice.at _)))|exact Nice.no
   .exact Nice.no
  .split<;>first|exact Nice.no|exact StopAt.nice.map _
  .split<;>first|exact Nice.no|exact StopAt.nice.map _
  .exact Nice.no
 .exact Nice.no
theorem ixV_nice{P:Program}{t:TypeId}{v i:AV}:Nice (ixV P t v i):=by
 unfold ixV;repeat' split
 all_goals first|exact Nice.no|exact Nice.tt (Nice.and (Nice.at _))|exact StopAt.nice.bind λ_=>zd5
theorem zgj{fr:List (Nat×AV)}{x:Option Operand}:Nice (zcP fr x):=by
 unfold zcP;split
 .exact Nice.at _
 .refine Nice.congr ?_ λK=>by simp only[evV_eq];try rfl
  split<;>first|exact Nice.at _|exact Nice.no
theorem zn1{it' it:Nat}{last:Option Value}:Nice (entL it' it last):=by
 unfold entL;refine Nice.tt ?_;split<;>first|exact Nice.at _|exact Nice.no
theorem zqS{mem:List Res}{v:AV}:Nice (entV mem v):=by
 unfold entV;split
 .rename_i it;refine za0.bind (U:=λ(r:Res) (K:AV->Prop)=>match r with
   | .alias mid=>nthK mem mid λq=>match q with
    | .miter it' _ _ _ _ last=>entL it' it last K
    |_=>False
   |_=>False) λr=>?_
  split
  .rename_i mid;refine za0.bind (U:=λ(q:Res) (K:AV->Prop)=>match q with
    | .miter it' _ _ _ _ last=>entL it' it last K
    |_=>False) λq=>?_
   split
   .exact zn1
   .exact Nice.no
  .exact Nice.no
 .exact Nice.no
theorem zpg{P:Program}{t:TypeId}{v:AV}{lo hi:Option Int}:Nice (subV P t v lo hi):=by
 unfold subV;repeat' (first|split|refine Nice.tt ?_)
 all_goals first|exact Nice.no|exact Nice.at _|exact Nice.and (Nice.at _)
theorem zpC{P:Program}{l:List AV}{ts:List TypeId}:Nice (lenV P l ts):=by
 unfold lenV;repeat' split
 all_goals first|exact Nice.no|exact Nice.tt (Nice.at _)
theorem zmw{v:AV}{mem:List Res}:Nice (λK=>zjr v mem λ_ rows=>StopBytes rows K):=by
 unfold zjr;split
 .exact StopBytes.nice
 .rename_i id g k;refine za0.bind (U:=λ(r:Res) K=>match r with
   | .arr _ _ s g' rows=>tt (Nat.beq g g') (StopBytes (rows.take k) K)
   |_=>False) λr=>?_
  split<;>first|exact Nice.tt StopBytes.nice|exact Nice.no
 .exact Nice.no
theorem znP{P:Program}{t u:TypeId}{v:AV}{mem:List Res}:Nice (zmt P t u v mem):=by
 unfold zmt;repeat' split
 all_goals first|exact Nice.no|exact Nice.at _|exact Nice.tt (Nice.tt zmw)
theorem zh0{P:Program}{t:TypeId}{kk:Option IntKind}{k:AV}:Nice (zjh P t kk k):=by
 unfold zjh;repeat' split
 all_goals first|exact Nice.no|exact Nice.tt (Nice.tt (Nice.at _))|exact Nice.tt (Nice.at _)
theorem zmY{P:Program}{t:TypeId}{v k:AV}{ok:Bool}{mem:List Res}:Nice (zk0 P t v k ok mem):=by
 unfold zk0;split
 .rename_i id;refine za0.bind (U:=λ(r:Res) K=>match r with
   | .map kk ag f=>zjh P t kk k λkey=>match zp9 P t with
    |some (z,ag',_)=>tt (ag==ag') (StopLook (f key) λo=>zm6 ag ok z o K)
    |none=>False
   |_=>False) λr=>?_
  split
  .refine zh0.bind λkey=>?_;split
   .exact Nice.tt (StopLook.nice.bind λo=>zmx)
   .exact Nice.no
  .exact Nice.no
 .exact Nice.no
theorem zpW{v:AV}:Nice (nilV v):=by
 unfold nilV;split<;>first|exact Nice.no|exact Nice.at _
theorem ziq{mx:Bool}{l:List AV}:Nice (minV mx l):=by
 unfold minV;split
 .cases mx<;>exact Nice.tt (Nice.at _)
 .exact Nice.no
theorem zeK{P:Program}{fr:List (Nat×AV)}{mem:List Res}{op:Op}:Nice (vq P fr mem op):=by
 cases op
 case move x|assign x=>exact Nice.congr (Nice.at _) λK=>evV_eq
 case nilCheck x=>exact Nice.congr zpW λK=>evV_eq
 case pick c x y=>
  refine Nice.congr ?_ λK=>by simp only[vq,evV_eq];try rfl
  split
  .exact Nice.if (Nice.at _) (Nice.at _)
  .exact Nice.no
 case load t p=>exact Nice.congr zl4 λK=>evV_eq
 case binOp op t x y u=>exact Nice.congr zoJ λK=>by simp only[vq,evV_eq];try rfl
 case build t parts=>exact zmZ.bind (U:=λl K=>bldV (zmf P t) fr parts.toList l λl=>K (AV.agg l)) λl=>zjp.map AV.agg
 case unOp op t x=>
  refine Nice.congr ?_ λK=>by simp only[vq,evV_eq];try rfl
  split
  .split<;>first|exact Nice.at _|exact Nice.no
  .split<;>first|exact Nice.and (Nice.at _)|exact Nice.no
  .exact Nice.no
 case convert t u x=>exact Nice.congr znP λK=>evV_eq
 case extract x i=>
  refine Nice.congr ?_ λK=>by simp only[vq,evV_eq];try rfl
  split<;>first|exact za0|exact Nice.no
 case entry x=>exact Nice.congr zqS λK=>evV_eq
 case field t x f=>exact Nice.congr zny λK=>evV_eq
 case fieldAddr t x f=>exact Nice.congr faV_nice λK=>evV_eq
 case indexAddr t x y=>exact Nice.congr zoj λK=>by simp only[vq,evV_eq];try rfl
 case index t x y=>exact Nice.congr ixV_nice λK=>by simp only[vq,evV_eq];try rfl
 case slice t x lo hi mx=>
  cases mx with
  |some y=>exact Nice.no
  |none=>
   refine Nice.congr ?_ λK=>by simp only[vq,evV_eq];try rfl
   exact zgj.bind (U:=λlo K=>zcP fr hi λhi=>subV P t (evO fr x) lo hi K) λlo=>zgj.bind λhi=>zpg
 case lookup t x y ok=>exact Nice.congr zmY λK=>by simp only[vq,evV_eq];try rfl
 case makeInterface t x=>
  refine Nice.tt (Nice.tt (Nice.congr ?_ λK=>evV_eq));split<;>first|exact Nice.and (Nice.at _)|exact Nice.no
 case typeAssert x t u ok=>
  refine Nice.tt (Nice.tt (Nice.tt (Nice.congr ?_ λK=>evV_eq)));repeat' split
  all_goals first|exact Nice.at _|exact Nice.no
 case makeFunc fn first caps=>
  cases fn with
  |func f=>exact Nice.tt (Nice.congr (Nice.at _) λK=>by simp only[evL_eq,fzL_eq];try rfl)
  |_=>exact Nice.no
 case call c=>
  obtain⟨callee,args,ats⟩:=c;cases callee with
  |builtin b=>
   cases b
   case len=>exact Nice.congr zpC λK=>evL_eq
   case min=>exact Nice.congr ziq λK=>evL_eq
   case max=>exact Nice.congr ziq λK=>evL_eq
   all_goals exact Nice.no
  |_=>exact Nice.no
 all_goals exact Nice.no
end Go.Proofs.YtimfnpjcedjmiadGreat
namespace Go.Proofs.YtimfnpjcedjmiadGreat
open Go.RowKit
def VOut(P:Program)(σ:zaM)(μ:zaJ)(a:Act)(w:World)(o:Oper)(K:AV->Prop):Prop:=
 ∃x av,(execOp a.eval o).run P w=.ok (.value x) w/\RepV σ μ av x/\K av
section
variable {P:Program} {n:Nat} {fp:Nat->Prop} {w0:Start} {σ:zaM} {μ:zaJ} {Ds:Nat->Nat->Prop} {A:AS} {a:Act} {w:World} {K:AV->Prop}
 {dst:Option Tmp} {ty:TypeId} {pos:String} {after:Array Edge} {guard:Option (Nat×Bool)}
theorem Rel.ev(h:Rel n fp w0 σ μ Ds A a w)(x:Operand):RepV σ μ (evO A.fr x) (a.eval x):=by
 have:=h.eval x;rw[show A.eval x=evO A.fr x from ziX (fr:=A.fr) (mem:=A.mem)] at this;exact this
theorem zkZ{b off:Nat}{l:List AV}(hc: ∀(i:Nat) (av:AV),l[i]? =some av-> ∃y,w.cell? ⟨b,i+off,none⟩=some y/\RepV σ μ av y){t:TypeId}{o:Nat}(h:zfB (za7 P t) o l K):
  ∃y av,(Instr.loadAt t (.pointer (some ⟨b,off+o,none⟩))).run P w=.ok y w/\RepV σ μ av y/\K av:=by
 unfold zfB at h;split at h
 .rename_i k hs;obtain⟨hle,hK⟩:=zaB h;have hle:=Nat.le_of_ble_eq_true hle;obtain⟨s1,s2⟩:=zeF hs w;have hget: ∀j,j<k-> ∃y av,l[o+j]? =some av/\w.cell? ⟨b,off+o+j,none⟩=some y/\RepV σ μ av y:=λj hj=>by
   have hlt:o+j<l.length:=by omega
   obtain⟨y,hy,hr⟩:=hc (o+j) _ (List.getElem?_eq_getElem hlt);exact⟨y,_,List.getElem?_eq_getElem hlt,by rw[show off+o+j=o+j+off by omega];exact hy,hr⟩
  let f:Nat->Value:=λj=>(w.cell? ⟨b,off+o+j,none⟩).getD undef
  have hf: ∀j,j<k->w.cell? ⟨b,off+o+j,none⟩=some (f j):=λj hj=>by
   obtain⟨y,av,_,hy,_⟩:=hget j hj;simp only[f,hy];rfl
  have hload:=zef (P:=P) (w:=w) (b:=b) (off:=off+o) f k 0 #[] (λj hj=>by simpa using hf j hj);refine⟨.agg ((List.range k).toArray.map f),_,?_,.agg _ _ _ (by simp;omega) ?_,hK⟩
  .simp only[Instr.loadAt,Instr.sureAddr,loadVar,loadCells,Sem.run_bind,s1,s2,Result.andThen_ok,if_true,Sem.run_pure];rw[hload];simp [Result.andThen_ok,Sem.run_pure]
  .intro i av y hi hy;have hlt:i<k:=by have:=(Array.getElem?_eq_some_iff.1 hy).1;simpa using this
   simp [hlt] at hy;rw[List.getElem?_take,List.getElem?_drop] at hi;simp only[hlt,if_true] at hi;obtain⟨z,av',h1,h2,h3⟩:=hget i hlt;rw[h1] at hi;obtain rfl:=Option.some.inj hi;have:=hf i hlt;rw[h2] at this;obtain rfl:=Option.some.inj this;rw[<-hy];exact h3
 .rename_i k hs;obtain⟨av,hav,hK⟩:=zaH h;obtain⟨s1,s2⟩:=zdW hs w;obtain⟨y,hy,hr⟩:=hc _ av hav;rw[Nat.add_comm] at hy;exact⟨y,av,by simp [Instr.loadAt,Instr.sureAddr,loadVar,Sem.run_bind,s1,Result.andThen_ok,load,Sem.run,hy,pure,Sem.run_pure],hr,hK⟩
 .exact h.elim
theorem zmF{l:List AV}{cs:Array Value}(hl:l.length=cs.size)(hr: ∀(i:Nat) (av:AV) (y:Value),l[i]? =some av->cs[i]? =some y->RepV σ μ av y){t:TypeId}{o:Nat}(h:zfB (za7 P t) o l K):
  ∃y av,(part t cs o).run P w=.ok y w/\RepV σ μ av y/\K av:=by
 unfold zfB at h;split at h
 .rename_i k hs;obtain⟨hle,hK⟩:=zaB h;obtain⟨y,h1,h2⟩:=part_agg (P:=P) (w:=w) hl hr hs (Nat.le_of_ble_eq_true hle);exact⟨y,_,h1,h2,hK⟩
 .rename_i k hs;obtain⟨av,hav,hK⟩:=zaH h;obtain⟨y,h1,h2⟩:=znw (P:=P) (w:=w) hl hr hs hav;exact⟨y,_,h1,h2,hK⟩
 .exact h.elim
theorem zlz(h:Rel n fp w0 σ μ Ds A a w){v:AV}{x:Value}(hx:RepV σ μ v x){t:TypeId}(hk:ldV (za7 P t) v A.mem K):
  ∃y av,(Instr.loadAt t x).run P w=.ok y w/\RepV σ μ av y/\K av:=by
 unfold ldV at hk;split at hk
 .obtain⟨b,off,f,rfl,h1,h2,_⟩:=hx.inv_adr;have:=zkZ (P:=P) (σ:=σ) (μ:=μ) (w:=w) (b:=b) (off:=off) (λi av hi=>⟨f i,by rw[Nat.add_comm];exact h.agree _ _ _ (h1 i av hi),(h2 i av hi).lift⟩) hk;simpa using this
 .obtain⟨r,hr,hk⟩:=zaH hk;split at hk
  .obtain⟨b,rfl,hmu⟩:=hx.inv_box;obtain⟨b2,c,T,g1,g2,g3,g4,g5,g6⟩:=h.mem.ok _ _ hr;rw[hmu] at g1;simp only[Option.some.injEq,An.fix.injEq,Value.pointer.injEq,Addr.mk.injEq,and_true] at g1;subst g1;have:=zkZ (P:=P) (σ:=σ) (μ:=μ) (w:=w) (b:=b) (off:=0) (λi av hi=>let ⟨y,hy,hr⟩:=g4 i av hi;⟨y,by simp [World.cell?,g2,hy],hr⟩) hk;simpa using this
  .exact hk.elim
 .obtain⟨r,hr,hk⟩:=zaH hk;split at hk
  .obtain⟨hg0,hk2⟩:=zaB hk;obtain⟨hs0,hk3⟩:=zaB hk2;clear hk hk2;have hg:=Nat.eq_of_beq_eq_true hg0;have hs:=Nat.eq_of_beq_eq_true hs0;subst hg hs;obtain⟨l,hl,hk⟩:=hk3;obtain⟨b,m,cap,an,rfl,k4,k5⟩:=hx.inv_elt;obtain⟨ao',cap',xs,q1,q2,q3,q4,q5,q6⟩:=h.mem.ok _ _ hr;rw[k4] at q1;obtain rfl:=Option.some.inj q1;obtain⟨_,k5⟩:=k5;obtain⟨rfl,rfl,rfl⟩:=k5 rfl;rcases q2.2 with⟨e1,e2⟩|⟨b2,cp,cur,F,fz,e1,hb,hle,hcm,hcs,htake,_⟩
   .simp at e1
   .simp only[Value.slice.injEq,Option.some.injEq,Addr.mk.injEq,and_true,true_and] at e1;obtain⟨rfl,rfl⟩:=e1;refine zkZ (P:=P) (σ:=σ) (μ:=μ) (w:=w) (b:=b) (λi av hi=>?_) hk;obtain⟨y,y1,y2,y3⟩:=q4 _ i l av hl hi;rw[<-htake,List.getElem?_take] at y1;split at y1
    .refine⟨y,?_,?_⟩
     .simp only[World.cell?,hb];rw[Nat.add_comm i];simpa using y1
     .rename_i fr _ _ _ _ _ _;unfold gOf at y2;split at y2
      .exact RepV.lift y2
      .exact y2
    .cases y1
  .exact hk.elim
 .exact hk.elim
theorem zhL{k:IntKind}{m:Int}: ∀(es:List MapEntry) (i:Nat),(∀e,e∈es->KeyW (some k) e.key) →
  ∃r,Instr.findNow (.int k) (.int k m) es i=some r/\((∃j e,r=some (i+j,e.val)/\es[j]? =some e/\e.key=.int k m)\/(r=none/\ ∀e,e∈es->e.key≠ .int k m))
 |[],i,_=>⟨none,rfl,.inr ⟨rfl,by simp⟩⟩
 |e::es,i,h=>by
  obtain⟨m',hm⟩:=h e (List.mem_cons_self ..);by_cases hq:m=m'
  .subst hq;refine⟨some (i,e.val),?_,.inl ⟨0,e,rfl,rfl,hm⟩⟩;simp [Instr.findNow,hm,Instr.sameNow]
  .obtain⟨r,h1,h2⟩:=zhL (k:=k) (m:=m) es (i+1) (λe he=>h e (List.mem_cons_of_mem _ he));refine⟨r,?_,?_⟩
   .have hb:(m==m')=false:=by simpa using hq
    simp [Instr.findNow,hm,Instr.sameNow,hb,h1]
   .rcases h2 with⟨j,e',g1,g2,g3⟩|⟨g1,g2⟩
    .exact .inl ⟨j+1,e',by rw[g1,Nat.add_assoc,Nat.add_comm 1],g2,g3⟩
    .refine .inr ⟨g1,λe' he=>?_⟩;rcases List.mem_cons.1 he with rfl|he
     .rw[hm];simp;exact λe=>hq e.symm
     .exact g2 e' he
theorem find_int{kt:TypeId}{k:IntKind}{m:Int}(hk:P.underlying kt=some (.int k)){es:Array MapEntry}(h: ∀e,e∈es.toList->KeyW (some k) e.key)(w:World):
  ∃r,(Instr.findKey kt (.int k m) es.toList).run P w=.ok r w/\((∃j e,r=some (j,e.val)/\es[j]? =some e/\e.key=.int k m)\/(r=none/\ ∀e,e∈es.toList->e.key≠ .int k m)):=by
 obtain⟨r,h1,h2⟩:=zhL (k:=k) (m:=m) es.toList 0 h;refine⟨r,?_,?_⟩
 .simp only[Instr.findKey,underlying,program,Sem.run_bind,Sem.run,Result.andThen_ok,hk,pure,Sem.run_pure,Bind.bind,Sem.bind,h1]
 .simpa using h2
theorem zjG{kt:TypeId}{k:IntKind}{m:Int}{b:Bool}(hk:P.underlying kt=some (.int k))(w:World):(Instr.checkKey b 10000 kt (.int k m)).run P w=.ok () w:=by
 have: ∀d,(Instr.checkKey b (d+1) kt (.int k m)).run P w=.ok () w:=λd=>by
  simp [Instr.checkKey,underlying,program,Sem.run_bind,Sem.run,Result.andThen_ok,hk,pure,Sem.run_pure]
 exact this 9999
structure KeyF (P:Program) (kt:TypeId) (kk:Option IntKind) (key:Value):Prop where
 kw:KeyW kk key
 find: ∀{es:Array MapEntry},(∀e,e∈es.toList->KeyW kk e.key)-> ∀w:World,
  ∃r,(Instr.findKey kt key es.toList).run P w=.ok r w/\((∃j e,r=some (j,e.val)/\es[j]? =some e/\e.key=key)\/(r=none/\ ∀e,e∈es.toList->e.key≠key))
 check: ∀(b:Bool) (w:World),(Instr.checkKey b 10000 kt key).run P w=.ok () w
 stay: ∀w:World,(Instr.keyThatStays key key).run P w=.ok key w
theorem keyF_int{kt:TypeId}{k:IntKind}{m:Int}(hk:P.underlying kt=some (.int k)):KeyF P kt (some k) (.int k m):=
 ⟨⟨m,rfl⟩,λh w=>find_int hk h w,λb w=>zjG hk w,λw=>by simp [Instr.keyThatStays,Instr.sameBits,Sem.run_pure]⟩
theorem zlu{e:TypeId}(he:P.underlying e=some (.int .i64)){cs:Array Value}{i:Nat}{v:Value}(h:cs[i]? =some v)(w:World):(part e cs i).run P w=.ok v w:=by
 simp [part,isAgg,Sem.run_bind,run_underlying he,Result.andThen_ok,Sem.run_pure,h]
theorem zh2{kt e:TypeId}(hk:P.underlying kt=some (.array 2 e))(he:P.underlying e=some (.int .i64)){info:TypeInfo}(hi:P.info? e=some info)(hs:info.size=1)(a b c d:Int)(w:World):
  (Op.equal kt (.agg #[.int .i64 a,.int .i64 b]) (.agg #[.int .i64 c,.int .i64 d])).run P w=.ok (a==c&&b==d) w:=by
 have hsz:(sizeOf e).run P w=.ok 1 w:=by simp [sizeOf,typeInfo,program,hi,hs,Sem.run_bind,Sem.run,Result.andThen_ok,pure,Sem.run_pure]
 have hin: ∀(n:Nat) (x y:Int),(Op.equalIn (n+1) e (.int .i64 x) (.int .i64 y)).run P w=.ok (x==y) w:=λn x y=>by
  simp [Op.equalIn,Sem.run_bind,run_underlying he,Result.andThen_ok,Sem.run_pure]
 have main: ∀n:Nat,(Op.equalIn (n+2) kt (.agg #[.int .i64 a,.int .i64 b]) (.agg #[.int .i64 c,.int .i64 d])).run P w=.ok (a==c&&b==d) w:=λn=>by
  rw[Op.equalIn];simp only[Sem.run_bind,run_underlying hk,Result.andThen_ok,hsz];simp only[Std.Legacy.Range.forIn_eq_forIn_range',Std.Legacy.Range.size,List.range',List.forIn_cons,List.forIn_nil];have p0: ∀(x y:Int),(part e #[.int .i64 x,.int .i64 y] (0*1)).run P w=.ok (.int .i64 x) w:=λx y=>zlu he rfl w;have p1: ∀(x y:Int),(part e #[.int .i64 x,.int .i64 y] ((0+1)*1)).run P w=.ok (.int .i64 y) w:=λx y=>zlu he rfl w;simp only[Sem.run_bind,p0,p1,hin,Result.andThen_ok];cases h1:(a==c)<;>cases h2:(b==d)<;>simp [Sem.run_bind,Sem.run_pure,Result.andThen_ok,p1,hin,h2]
 exact main _
theorem zng{kt e:TypeId}(hk:P.underlying kt=some (.array 2 e))(he:P.underlying e=some (.int .i64)){info:TypeInfo}(hi:P.info? e=some info)(hs:info.size=1)(a b:Int):KeyF P kt none (.agg #[.int .i64 a,.int .i64 b]):=by
 have hsz: ∀w,(sizeOf e).run P w=.ok 1 w:=λw=>by simp [sizeOf,typeInfo,program,hi,hs,Sem.run_bind,Sem.run,Result.andThen_ok,pure,Sem.run_pure]
 refine⟨⟨a,b,rfl⟩,λ{es} h w=>?_,λbb w=>?_,λw=>?_⟩
 .have ask: ∀(l:List MapEntry) (i:Nat),(∀x,x∈l->KeyW none x.key)-> ∃r,(Instr.findAsking kt (.agg #[.int .i64 a,.int .i64 b]) l i).run P w=.ok r w/\((∃j x,r=some (i+j,x.val)/\l[j]? =some x/\x.key=.agg #[.int .i64 a,.int .i64 b])\/(r=none/\ ∀x,x∈l->x.key≠ .agg #[.int .i64 a,.int .i64 b])):=by
   intro l
   induction l with
   |nil=>exact λi _=>⟨none,by simp [Instr.findAsking,Sem.run_pure],.inr ⟨rfl,by simp⟩⟩
   |cons x l ih=>
    intro i hx;obtain⟨c,d,hcd⟩:=hx x (List.mem_cons_self ..);by_cases hq:a=c/\b=d
    .obtain⟨rfl,rfl⟩:=hq;exact⟨some (i,x.val),by simp [Instr.findAsking,hcd,Sem.run_bind,zh2 hk he hi hs,Result.andThen_ok,Sem.run_pure],.inl ⟨0,x,rfl,rfl,hcd⟩⟩
    .have hb:(a==c&&b==d)=false:=by
      cases h1:(a==c)<;>cases h2:(b==d)<;>simp_all
     obtain⟨r,h1,h2⟩:=ih (i+1) (λy hy=>hx y (List.mem_cons_of_mem _ hy));refine⟨r,by simp only[Instr.findAsking,hcd,Sem.run_bind,zh2 hk he hi hs,Result.andThen_ok,hb,Bool.false_eq_true,if_false];exact h1,?_⟩;rcases h2 with⟨j,y,g1,g2,g3⟩|⟨g1,g2⟩
     .exact .inl ⟨j+1,y,by rw[g1,Nat.add_assoc,Nat.add_comm 1],g2,g3⟩
     .refine .inr ⟨g1,λy hy=>?_⟩;rcases List.mem_cons.1 hy with rfl|hy
      .rw[hcd];simp;intro e1 e2;exact hq ⟨e1.symm,e2.symm⟩
      .exact g2 y hy
  cases hl:es.toList with
  |nil=>exact⟨none,by simp [Instr.findKey,Sem.run_bind,run_underlying hk,Result.andThen_ok,Instr.findNow,Sem.run_pure],.inr ⟨rfl,by simp⟩⟩
  |cons x l=>
   have h':=h;rw[hl] at h';obtain⟨c,d,hcd⟩:=h' x (List.mem_cons_self ..);obtain⟨r,h1,h2⟩:=ask (x::l) 0 h';refine⟨r,?_,?_⟩
   .simp only[Instr.findKey,Sem.run_bind,run_underlying hk,Result.andThen_ok,Instr.findNow,hcd,Instr.sameNow];exact h1
   .rcases h2 with⟨j,y,g1,g2,g3⟩|g
    .exact .inl ⟨j,y,by rw[g1,Nat.zero_add],by rw[<-Array.getElem?_toList,hl];exact g2,g3⟩
    .exact .inr g
 .have hc: ∀(n:Nat) (x:Int),(Instr.checkKey bb (n+1) e (.int .i64 x)).run P w=.ok () w:=λn x=>by
   simp [Instr.checkKey,Sem.run_bind,run_underlying he,Result.andThen_ok,Sem.run_pure]
  have main: ∀n:Nat,(Instr.checkKey bb (n+2) kt (.agg #[.int .i64 a,.int .i64 b])).run P w=.ok () w:=λn=>by
   rw[Instr.checkKey];simp only[Sem.run_bind,run_underlying hk,Result.andThen_ok];simp only[Std.Legacy.Range.forIn_eq_forIn_range',Std.Legacy.Range.size,List.range',List.forIn_cons,List.forIn_nil];have p0:(part e #[.int .i64 a,.int .i64 b] (0*1)).run P w=.ok (.int .i64 a) w:=zlu he rfl w;have p1:(part e #[.int .i64 a,.int .i64 b] ((0+1)*1)).run P w=.ok (.int .i64 b) w:=zlu he rfl w;simp only[Sem.run_bind,hsz,Result.andThen_ok,p0,p1,hc,Sem.run_pure]
  exact main 9998
 .simp [Instr.keyThatStays,Instr.sameBits,Sem.run_pure]
theorem zos{t:TypeId}{kk:Option IntKind}{v:AV}{K:Value->Prop}(h:zjh P t kk v K): ∃kt e key,P.underlying t=some (.map kt e)/\KeyF P kt kk key/\(∀{σ:zaM} {μ:zaJ} {y:Value},RepV σ μ v y->y=key)/\K key:=by
 unfold zjh at h;split at h
 .rename_i kt e h1;split at h
  .rename_i k h2;split at h
   .split at h
    .obtain⟨h3,h4⟩:=zaB h;obtain⟨h5,h6⟩:=zaB h4;obtain rfl:=zfP h3;obtain rfl:=zfP h5;exact⟨kt,e,_,h1,keyF_int h2,λhr=>hr.inv_v,h6⟩
    .exact h.elim
   .exact h.elim
  .rename_i n e' h2;split at h
   .split at h
    .rename_i a b;obtain⟨h3,h4⟩:=zaB h;unfold pairT at h3;simp only[Bool.and_eq_true] at h3;obtain⟨⟨g1,g2⟩,g3⟩:=h3;obtain rfl:=Nat.eq_of_beq_eq_true g1;split at g2
     .rename_i he;split at g3
      .rename_i info hi;refine⟨kt,e,_,h1,zng h2 he hi (Nat.eq_of_beq_eq_true g3) a b,λhr=>?_,h4⟩;obtain⟨cs,rfl,hl,hc⟩:=hr.inv_agg;have e0:cs.size=2:=hl.symm;have h0:cs[0]? =some (.int .i64 a):=by
        obtain⟨y,hy⟩: ∃y,cs[0]? =some y:=⟨cs[0],Array.getElem?_eq_getElem (by omega)⟩;rw[hy,(hc 0 _ y rfl hy).inv_v]
       have h1':cs[1]? =some (.int .i64 b):=by
        obtain⟨y,hy⟩: ∃y,cs[1]? =some y:=⟨cs[1],Array.getElem?_eq_getElem (by omega)⟩;rw[hy,(hc 1 _ y rfl hy).inv_v]
       congr 1
       apply Array.ext_getElem?;intro i
       match i with
       |0=>exact h0
       |1=>exact h1'
       |i+2=>rw[Array.getElem?_eq_none (by omega),Array.getElem?_eq_none (by simp)]
      .cases g3
     .cases g2
    .exact h.elim
   .exact h.elim
  .exact h.elim
 .exact h.elim
theorem zh1{P:Program}{t:TypeId}{z:Value}{b:Bool}{k:Nat}(h:zp9 P t=some (z,b,k)){kt e:TypeId}(hu:P.underlying t=some (.map kt e)):(∀w,(zeroValue e).run P w=.ok z w)/\za7 P e=some (b,k):=by
 unfold zp9 at h;rw[hu] at h;simp only at h;cases hz:zd1 P e with
 |none=>simp [hz] at h
 |some z'=>
  cases hs:za7 P e with
  |none=>simp [hz,hs] at h
  |some q=>
   simp [hz,hs] at h;obtain⟨rfl,rfl,rfl⟩:=h;refine⟨λw=>?_,rfl⟩;unfold zd1 at hz;cases hi:P.info? e with
   |none=>simp [hi] at hz
   |some ii=>
    simp [hi] at hz;simp [zeroValue,typeInfo,program,hi,hz,Sem.run_bind,Sem.run,Result.andThen_ok,pure,Sem.run_pure]
theorem zm3(h:Rel n fp w0 σ μ Ds A a w){v k:AV}{x y:Value}(hx:RepV σ μ v x)(hy:RepV σ μ k y){t:TypeId}{ok:Bool}(hk:zk0 P t v k ok A.mem K):
  ∃z av,(Instr.lookup t x y ok).run P w=.ok z w/\RepV σ μ av z/\K av:=by
 unfold zk0 at hk;split at hk
 .rename_i id;obtain⟨r,hr,hk⟩:=zaH hk;split at hk
  .rename_i kk ag f;obtain⟨kt,e,key,u1,hkf,hky,hk1⟩:=zos hk;clear hk;split at hk1
   .rename_i z ag' sz hel;obtain⟨hag0,hk2⟩:=zaB hk1;clear hk1;have hag:ag=ag':=by simpa using hag0
    subst hag;obtain⟨hzero,hsh⟩:=zh1 hel u1;obtain⟨r,es,clock,g1,g2,g3,g4,g5,g6⟩:=h.mem.ok _ _ hr;obtain⟨r',rfl,hmu⟩:=hx.inv_map;rw[hmu] at g1;simp only[Option.some.injEq,An.fix.injEq,Value.map.injEq] at g1;subst g1;obtain rfl:=hky hy;obtain⟨q,hq,hfound⟩:=hkf.find (λe he=>(g4 e he).1) w;have hck:=hkf.check es.isEmpty w;obtain⟨hsome,hnone⟩:=hk2;have hrun: ∀v ok',(do let (v,ok)<-(match q with|some (_,v)=>pure (v,true)|none=>do pure (<-zeroValue e,false):Sem (Value×Bool));pure (v,ok):Sem (Value×Bool)).run P w=.ok (v,ok') w →
      (Instr.lookup t (.map (some r')) y ok).run P w=.ok (if ok then .tuple #[v,.bool ok'] else v) w:=by
     intro v ok' hv;simp only[Instr.lookup,Sem.run_bind,run_underlying u1,Result.andThen_ok,getObj,Sem.run,g2,Sem.run_pure,hck,hq];rcases hfound with⟨j,en,rfl,_,_⟩|⟨rfl,_⟩
     .simp only[Sem.run_bind,Sem.run_pure,Result.andThen_ok,Result.ok.injEq,Prod.mk.injEq,and_true] at hv ⊢;obtain⟨rfl,rfl⟩:=hv;cases ok<;>rfl
     .simp only[Sem.run_bind,Sem.run_pure,hzero,Result.andThen_ok,Result.ok.injEq,Prod.mk.injEq,and_true] at hv ⊢;obtain⟨rfl,rfl⟩:=hv;cases ok<;>rfl
    have fin: ∀v ok' av,RepV σ μ av v->(Instr.lookup t (.map (some r')) y ok).run P w=.ok (if ok then .tuple #[v,.bool ok'] else v) w->(match ok with|true=>K (.tup [av,.v (.bool ok')])|false=>K av) →
      ∃z av,(Instr.lookup t (.map (some r')) y ok).run P w=.ok z w/\RepV σ μ av z/\K av:=by
     intro v ok' av hv hr hK;cases ok with
     |false=>exact⟨v,av,hr,hv,hK⟩
     |true=>
      refine⟨_,_,hr,.tup _ _ _ rfl (λi av' y h1 h2=>?_),hK⟩
      match i,h1,h2 with
      |0,h1,h2=>simp at h1 h2;subst h1 h2;exact hv
      |1,h1,h2=>simp at h1 h2;subst h1 h2;exact .v _ _
    rcases hfound with⟨j,en,rfl,hj,hkey⟩|⟨rfl,hno⟩
    .have hmem:en∈es.toList:=List.mem_of_getElem? (by simpa using hj);obtain⟨hborn,l,hl,hsz,hone,hcells⟩:=g3.1 en hmem;rw[hkey] at hl;have hK:=hsome l hl;have hag2:=(g4 en hmem).2;have hrep:RepV σ μ (valOf ag l) en.val:=by
      cases ag with
      |true=>
       obtain⟨cs,hcs⟩:=hag2.1 rfl;rw[hcs] at hsz hcells ⊢;simp only[Value.cells] at hsz hcells;refine .agg _ _ _ hsz.symm (λi av y h1 h2=>?_);obtain⟨y',h3,h4⟩:=hcells i av h1;rw[h3] at h2;obtain rfl:=Option.some.inj h2;exact h4.lift
      |false=>
       cases l with
       |nil=>exact .any _ _
       |cons av l=>cases l with
        |cons=>exact .any _ _
        |nil=>
         have hnag: ∀cs,en.val≠ .agg cs:=λcs e=>by have:=hag2.2 ⟨cs,e⟩;cases this
         have hcl:en.val.cells= #[en.val]:=by
          cases hv:en.val<;>first|rfl|exact absurd hv (hnag _)
         obtain⟨y,hy,hr⟩:=hcells 0 av rfl;rw[hcl] at hy;simp at hy;subst hy;exact hr.lift
     refine fin en.val true _ hrep (hrun _ _ (by simp [Sem.run_bind,Sem.run_pure,Result.andThen_ok])) ?_;simp only[zm6] at hK;cases ok<;>simp only[fz_eq] at hK<;>exact hK
    .have hK:=hnone (by
      cases hf:f y with
      |none=>rfl
      |some l=>obtain⟨e',he',hk'⟩:=g3.2.1 _ l hf;exact absurd hk' (hno e' he'))
     refine fin z false _ (zkp σ μ z) (hrun _ _ (by simp [Sem.run_bind,Sem.run_pure,hzero,Result.andThen_ok])) ?_;simp only[zm6] at hK;cases ok<;>simp only[fz_eq] at hK<;>exact hK
   .exact hk1.elim
  .exact hk.elim
 .exact hk.elim
end
end Go.Proofs.YtimfnpjcedjmiadGreat
namespace Go.Proofs.YtimfnpjcedjmiadGreat
open Go.RowKit
section
variable {P:Program} {n:Nat} {fp:Nat->Prop} {w0:Start} {σ:zaM} {μ:zaJ} {Ds:Nat->Nat->Prop} {A:AS} {a:Act} {w:World} {K:AV->Prop}
 {dst:Option Tmp} {ty:TypeId} {pos:String} {after:Array Edge} {guard:Option (Nat×Bool)}
theorem VOut.run{o:Oper}{s:Sem Value}(he:execOp a.eval o=(do pure (.value (<-s))))(h: ∃x av,s.run P w=.ok x w/\RepV σ μ av x/\K av):VOut P σ μ a w o K:=by
 obtain⟨x,av,h1,h2,h3⟩:=h;exact⟨x,av,val_run he h1,h2,h3⟩
theorem VOut.val{o:Oper}{x:Value}{av:AV}(he:execOp a.eval o=pure (.value x))(hx:RepV σ μ av x)(h:K av):VOut P σ μ a w o K:=
 ⟨x,av,by rw[he];simp [Sem.run_pure],hx,h⟩
theorem zeB{b:Builtin}{args:Array Operand}{ats:Array TypeId}{s:Sem Value}(he: ∀cs,builtin b ats ty cs (args.map a.eval)=(do pure (.value (<-s)))):execOp a.eval ⟨dst,.call ⟨.builtin b,args,ats⟩,ty,pos,after,guard⟩=(do pure (.value (<-s))):=by
 rw[BigFrame.execOp_builtin];exact he _
theorem zjQ{t:TypeId}{len sz:Nat}(h:arrT P t=some (len,sz)): ∃e b,P.underlying t=some (.array len e)/\za7 P e=some (b,sz):=by
 unfold arrT at h;split at h
 .rename_i len' e hu;cases hs:za7 P e with
  |none=>simp [hs] at h
  |some q=>
   simp [hs] at h;obtain⟨rfl,rfl⟩:=h;exact⟨e,q.1,hu,hs⟩
 .cases h
theorem zjE{args:Array Operand}{ats:Array TypeId}(arg: ∀l,args.toList.map (evO A.fr)=l->(args.map a.eval).toList.length=l.length/\ ∀(i:Nat) (av:AV),l[i]? =some av-> ∃y,(args.map a.eval).toList[i]? =some y/\RepV σ μ av y)
  {b:Builtin} {mx:Bool} (hb:b=if mx then .max else .min) (hq:minV mx (args.toList.map (evO A.fr)) K):VOut P σ μ a w ⟨dst,.call ⟨.builtin b,args,ats⟩,ty,pos,after,guard⟩ K:=by
 unfold minV at hq;split at hq
 .rename_i k x k' y hv;obtain⟨h1,h2⟩:=zaB hq;obtain rfl:=zfP h1;obtain⟨hlen,hget⟩:=arg _ hv;obtain⟨u,hu,hr⟩:=hget 0 _ rfl;obtain⟨v,hv,hr'⟩:=hget 1 _ rfl;obtain rfl:=hr.inv_v;obtain rfl:=hr'.inv_v;have hargs:args.map a.eval= #[.int k x,.int k y]:=by
   apply Array.ext';cases hl:(args.map a.eval).toList with
   |nil=>rw[hl] at hu;simp at hu
   |cons z l=>cases l with
    |nil=>rw[hl] at hlen;simp at hlen
    |cons z2 l=>cases l with
     |nil=>rw[hl] at hu hv;simp at hu hv;simp [hu,hv]
     |cons=>rw[hl] at hlen;simp at hlen
  cases mx with
  |false=>
   obtain rfl:b=.min:=hb;refine .run (zeB (s:=Builtin.min_ ats ty #[.int k x,.int k y]) (λcs=>by rw[hargs];rfl)) ⟨_,_,?_,.v _ _,h2⟩;simp [Builtin.min_,Builtin.min2,Sem.run_pure,Sem.run_bind,Result.andThen_ok]
  |true=>
   obtain rfl:b=.max:=hb;refine .run (zeB (s:=Builtin.max_ ats ty #[.int k x,.int k y]) (λcs=>by rw[hargs];rfl)) ⟨_,_,?_,.v _ _,h2⟩;simp [Builtin.max_,Builtin.max2,Sem.run_pure,Sem.run_bind,Result.andThen_ok]
 .exact hq.elim
theorem zpx(h:Rel n fp w0 σ μ Ds A a w){v:AV}{x:Value}(hx:RepV σ μ v x){t:TypeId}{lo hi:Option Value}{l hh:Option Int}
  (hl:(lo=none/\l=none)\/ ∃k m,lo=some (.int k m)/\l=some m) (hhi:(hi=none/\hh=none)\/ ∃k m,hi=some (.int k m)/\hh=some m) (hk:subV P t v l hh K):
  ∃y av,(Instr.sliceAt t x lo hi ((none:Option Operand).map a.eval)).run P w=.ok y w/\RepV σ μ av y/\K av:=by
 unfold subV at hk;split at hk
 .rename_i s;obtain⟨h1,hk⟩:=zaB hk;have hu:=zbp h1;obtain rfl:=hx.inv_v;have hrun: ∀y,(Instr.slice t (.string s) lo hi none).run P w=.ok y w->(Instr.sliceAt t (.string s) lo hi ((none:Option Operand).map a.eval)).run P w=.ok y w:=by
   exact Y52
  rcases hl with⟨rfl,rfl⟩|⟨k1,m1,rfl,rfl⟩<;>rcases hhi with⟨rfl,rfl⟩|⟨k2,m2,rfl,rfl⟩<;>simp only at hk
  .refine⟨.string s,_,hrun _ ?_,.v _ _,hk⟩;simp [Instr.slice,Instr.sliceBounds,underlying,program,hu,Sem.run_bind,Sem.run,Result.andThen_ok,pure,Sem.run_pure]
  .obtain⟨⟨g1,g2⟩,hK⟩:=hk;refine⟨.string (s.extract 0 m2.toNat),_,hrun _ ?_,.v _ _,hK⟩;simp [Instr.slice,Instr.sliceBounds,Instr.sliceBound,underlying,program,hu,asIntOf,g1,g2,Sem.run_bind,Sem.run,Result.andThen_ok,pure,Sem.run_pure]
  .obtain⟨⟨g1,g2⟩,hK⟩:=hk;refine⟨.string (s.extract m1.toNat s.size),_,hrun _ ?_,.v _ _,hK⟩;simp [Instr.slice,Instr.sliceBounds,Instr.sliceBound,underlying,program,hu,asIntOf,g1,g2,Sem.run_bind,Sem.run,Result.andThen_ok,pure,Sem.run_pure]
  .obtain⟨⟨g1,g2,g3⟩,hK⟩:=hk;have g4:0<=m2:=by omega
   have g5:m1<=(m2.toNat:Int):=by omega
   refine⟨.string (s.extract m1.toNat m2.toNat),_,hrun _ ?_,.v _ _,hK⟩;simp [Instr.slice,Instr.sliceBounds,Instr.sliceBound,underlying,program,hu,asIntOf,g1,g3,g4,g5,Sem.run_bind,Sem.run,Result.andThen_ok,pure,Sem.run_pure];intro hm;exact absurd hm (by omega)
 .rename_i sz' rows own;split at hk
  .rename_i sz hel;obtain⟨hs0,hk1⟩:=zaB hk;obtain⟨hp,hk2⟩:=zaB hk1;have hs:=Nat.eq_of_beq_eq_true hs0;subst hs;obtain⟨e,eb,he1,he2⟩:=zd7 hel;have hu:=za9 he1;obtain⟨ao,cap,b,off,f,rfl,h1,h2,h3,h4,h5,h6,h7,h8⟩:=hx.inv_sl;have rep: ∀l h:Nat,l<=h->h<=rows.length->RepV σ μ (.sl sz ((rows.take h).drop l) none) (.slice (if cap=l then ao else ao.map (·.add (l*sz))) (h-l) (cap-l)):=by
    intro l h hlh hhr;have hlen:((rows.take h).drop l).length=h-l:=by simp;omega
    rw[<-hlen];have hget: ∀i r,((rows.take h).drop l)[i]? =some r->rows[l+i]? =some r:=λi r hi=>by
     rw[List.getElem?_drop,List.getElem?_take] at hi;split at hi
     .exact hi
     .cases hi
    refine .sl _ sz _ none _ _ b (off+l*sz) (λi j=>f (l+i) j) (by rw[hlen];omega) (by omega) ?_ (λr hr=>h4 r (List.mem_of_mem_take (List.mem_of_mem_drop hr))) (λi j r av g1 g2=>?_) (λi j r av g1 g2=>h6 _ _ _ _ (hget i r g1) g2) (λi j r av g1 g2=>h7 _ _ _ _ (hget i r g1) g2) (λid g h=>by cases h)
    .by_cases hlt:l<h
     .right
      rw[if_neg (by omega)];rcases h3 with h3|h3
      .subst h3;simp at hhr;omega
      .rw[h3];simp [add_none]
     .left
      exact List.eq_nil_of_length_eq_zero (by rw[hlen];omega)
    .have:=h5 (l+i) j r av (hget i r g1) g2;rw[show off+l*sz+i*sz+j=off+(l+i)*sz+j by rw[Nat.add_mul];omega];exact this
   have hrun: ∀y,(Instr.slice t (.slice ao rows.length cap) lo hi none).run P w=.ok y w->(Instr.sliceAt t (.slice ao rows.length cap) lo hi ((none:Option Operand).map a.eval)).run P w=.ok y w:=by
    exact Y52
   have hsz:=zaR he2 w;rcases hl with⟨rfl,rfl⟩|⟨k1,m1,rfl,rfl⟩<;>rcases hhi with⟨rfl,rfl⟩|⟨k2,m2,rfl,rfl⟩<;>simp only at hk2
   .have:=rep 0 rows.length (by omega) (Nat.le_refl _);rw[List.take_length,List.drop_zero] at this;refine⟨_,_,hrun _ ?_,this,hk2⟩;simp [Instr.slice,Instr.sliceBounds,underlying,program,hu,hsz,Sem.run_bind,Sem.run,Result.andThen_ok,pure,Sem.run_pure]
   .obtain⟨⟨g1,g2⟩,hK⟩:=hk2;have:=rep 0 m2.toNat (by omega) (by omega);rw[List.drop_zero] at this;refine⟨_,_,hrun _ ?_,this,hK⟩;have g3:m2<=(cap:Int):=by omega
    simp [Instr.slice,Instr.sliceBounds,Instr.sliceBound,underlying,program,hu,hsz,asIntOf,g1,g3,Sem.run_bind,Sem.run,Result.andThen_ok,pure,Sem.run_pure]
   .obtain⟨⟨g1,g2⟩,hK⟩:=hk2;have:=rep m1.toNat rows.length (by omega) (Nat.le_refl _);rw[List.take_length] at this;refine⟨_,_,hrun _ ?_,this,hK⟩;simp [Instr.slice,Instr.sliceBounds,Instr.sliceBound,underlying,program,hu,hsz,asIntOf,g1,g2,Sem.run_bind,Sem.run,Result.andThen_ok,pure,Sem.run_pure]
   .obtain⟨⟨g1,g2,g3⟩,hK⟩:=hk2;have:=rep m1.toNat m2.toNat (by omega) (by omega);refine⟨_,_,hrun _ ?_,this,hK⟩;have g4:0<=m2:=by omega
    have g5:m1<=(m2.toNat:Int):=by omega
    have g6:m2<=(cap:Int):=by omega
    simp [Instr.slice,Instr.sliceBounds,Instr.sliceBound,underlying,program,hu,hsz,asIntOf,g1,g4,g5,g6,Sem.run_bind,Sem.run,Result.andThen_ok,pure,Sem.run_pure];intro hm;exact absurd hm (by omega)
  .exact hk.elim
 .rename_i id g m;split at hk
  .rename_i sz hel;obtain⟨e,eb,he1,he2⟩:=zd7 hel;have hu:=za9 he1;have hsz:=zaR he2 w;obtain⟨ao,mm,cap,an,rfl,k1,k2,k3,k4,k5⟩:=hx.inv_arr;have hrun: ∀y,(Instr.slice t (.slice ao m cap) lo hi none).run P w=.ok y w->(Instr.sliceAt t (.slice ao m cap) lo hi ((none:Option Operand).map a.eval)).run P w=.ok y w:=by
    exact Y52
   have hself: ∀(ao:Option Addr),ao.map (λx=>x.add 0)=ao:=λao=>by cases ao<;>simp [Addr.add]
   rcases hl with⟨rfl,rfl⟩|⟨k1',m1,rfl,rfl⟩<;>rcases hhi with⟨rfl,rfl⟩|⟨k2',m2,rfl,rfl⟩<;>simp only at hk
   .refine⟨.slice ao m cap,_,hrun _ ?_,.arr _ _ _ _ ao mm cap an k1 k2 k3 k4 k5,hk⟩;simp [Instr.slice,Instr.sliceBounds,underlying,program,hu,hsz,Sem.run_bind,Sem.run,Result.andThen_ok,pure,Sem.run_pure,hself]
   .obtain⟨⟨g1,g2⟩,hK⟩:=hk;refine⟨.slice ao m2.toNat cap,_,hrun _ ?_,.arr _ _ _ _ ao mm cap an (by omega) k2 k3 k4 k5,hK⟩;have g3:m2<=(cap:Int):=by omega
    simp [Instr.slice,Instr.sliceBounds,Instr.sliceBound,underlying,program,hu,hsz,asIntOf,g1,g3,Sem.run_bind,Sem.run,Result.andThen_ok,pure,Sem.run_pure,hself]
   .obtain⟨⟨g1,g2⟩,hK⟩:=hk;refine⟨_,_,hrun _ ?_,.tl _ id g sz m1.toNat m ao mm cap an (by omega) k1 k2 k3 k4 k5,hK⟩;simp [Instr.slice,Instr.sliceBounds,Instr.sliceBound,underlying,program,hu,hsz,asIntOf,g1,g2,Sem.run_bind,Sem.run,Result.andThen_ok,pure,Sem.run_pure]
  .exact hk.elim
 .exact hk.elim
theorem vq_sound(h:Rel n fp w0 σ μ Ds A a w): ∀{op:Op},vq P A.fr A.mem op K->VOut P σ μ a w ⟨dst,op,ty,pos,after,guard⟩ K:=by
 intro op hq;cases op
 case move x=>simp only[vq,evV_eq] at hq;exact .val rfl (h.ev x) hq
 case assign x=>simp only[vq,evV_eq] at hq;exact .val rfl (h.ev x) hq
 case nilCheck x=>
  simp only[vq,evV_eq] at hq;have hx:=h.ev x;unfold nilV at hq;split at hq
  .rename_i e;rw[e] at hx;obtain⟨b,hb,_⟩:=hx.inv_box;exact .val (x:=a.eval x) (by simp [execOp,hb]) hx hq
  .rename_i e;rw[e] at hx;obtain⟨b,off,f,hb,_⟩:=hx.inv_adr;exact .val (x:=a.eval x) (by simp [execOp,hb]) hx hq
  .rename_i e;rw[e] at hx;obtain⟨b,m,cap,an,hb,_⟩:=hx.inv_elt;exact .val (x:=a.eval x) (by simp [execOp,hb]) hx hq
  .rename_i e;rw[e] at hx;obtain⟨cs,hb,_⟩:=hx.inv_clo;exact .val (x:=a.eval x) (by simp [execOp,hb]) hx hq
  .exact hq.elim
 case pick c x y=>
  simp only[vq,evV_eq] at hq;split at hq
  .rename_i b hb;have hc:a.eval c=.bool b:=by have:=h.ev c;rw[hb] at this;exact this.inv_v
   cases b with
   |true=>exact .val (by simp [execOp,hc,asBool,pure,Bind.bind,Sem.bind]) (h.ev x) (hq.1 rfl)
   |false=>exact .val (by simp [execOp,hc,asBool,pure,Bind.bind,Sem.bind]) (h.ev y) (hq.2 rfl)
  .exact hq.elim
 case load t p=>
  simp only[vq,evV_eq] at hq;exact .run rfl (zlz h (h.ev p) hq)
 case binOp op t x y yt=>
  simp only[vq,evV_eq] at hq;exact .run rfl (znN (h.ev x) (h.ev y) hq)
 case build t parts=>
  simp only[vq] at hq;unfold zpu at hq;split at hq
  .rename_i fs hu;split at hq
   .rename_i z hz;obtain⟨hall,hq⟩:=zaB hq;rw[fzL_eq] at hq;obtain⟨l',hf,hK⟩:=zi1 hq;have hall': ∀f,f∈fs.toList->(P.info? f.type).isSome=true:=λf hf=>List.all_eq_true.1 hall f hf;have hev:A.eval=evO A.fr:=funext λx=>ziX (fr:=A.fr) (mem:=A.mem);obtain⟨cs',g1,g2,g3⟩:=zka h (place:=λi=>(fs.map λf=>(f.offset,((P.info? f.type).map (·.size)).getD 0))[i]?) (pl:=zmf P t) (λi off b k hp=>by
     unfold zmf at hp;rw[hu] at hp;simp only at hp;unfold zgz zlt at hp;rw[hu] at hp;simp only at hp;cases hfi:fs[i]? with
     |none=>simp [hfi] at hp
     |some fd=>
      simp only[hfi,Option.map_some,Option.bind_some] at hp;cases hsh:za7 P fd.type with
      |none=>simp [hsh] at hp
      |some q=>
       obtain⟨q1,q2⟩:=q;simp only[hsh,Option.map_some,Option.some.injEq,Prod.mk.injEq] at hp;obtain⟨rfl,rfl,rfl⟩:=hp;simp [hfi,znA hsh]) parts.toList (z.cells.toList.map .v) z.cells l' (by simp) (λi av hi=>by
      simp only[List.getElem?_map,Option.map_eq_some_iff] at hi;obtain⟨y,hy,rfl⟩:=hi;exact⟨y,by simpa using hy,.v _ _⟩) (by rw[hev];exact hf)
    unfold zd1 at hz;cases hi:P.info? t with
    |none=>simp [hi] at hz
    |some ii=>
     simp [hi] at hz;refine .run rfl ⟨.agg cs',_,?_,.agg _ _ _ g2.symm (λi av y h1 h2=>by obtain⟨y',h3,h4⟩:=g3 i av h1;rw[h3] at h2;obtain rfl:=Option.some.inj h2;exact h4),hK⟩;have hpl:=zmX (P:=P) (w:=w) fs.toList hall';have hpl':(fs.mapM λf=>(do pure (f.offset,<-sizeOf f.type):Sem (Nat×Nat))).run P w=.ok (fs.map λf=>(f.offset,((P.info? f.type).map (·.size)).getD 0)) w:=by
      rw[Array.mapM_eq_mapM_toList];simp only[Sem.run_bind,map_eq_pure_bind,hpl,Result.andThen_ok,Sem.run_pure];congr 1
      apply Array.ext';simp
     have hzr:(zeroValue t).run P w=.ok z w:=by simp [zeroValue,typeInfo,program,hi,hz,Sem.run_bind,Sem.run,Result.andThen_ok,pure,Sem.run_pure]
     have g1':Instr.fill (λx=>(fs.map λf=>(f.offset,((P.info? f.type).map (·.size)).getD 0))[x]?) z.cells (parts.map λ(i,x)=>(i,a.eval x)).toList=some cs':=by
      rw[<-g1];congr 1;simp
     simp only[Instr.build,Sem.run_bind,hzr,Result.andThen_ok,run_underlying hu,hpl',g1',Sem.run_pure]
   .exact hq.elim
  .rename_i len e hu;split at hq
   .rename_i z hz;obtain⟨hsome,hq⟩:=zaB hq;rw[fzL_eq] at hq;obtain⟨l',hf,hK⟩:=zi1 hq;obtain⟨⟨eb,ek⟩,hsh⟩:=Option.isSome_iff_exists.1 hsome;have hev:A.eval=evO A.fr:=funext λx=>ziX (fr:=A.fr) (mem:=A.mem);obtain⟨cs',g1,g2,g3⟩:=zka h (place:=λi=>some (i*ek,ek)) (pl:=zmf P t) (λi off b k hp=>by
     unfold zmf at hp;rw[hu] at hp;simp only[hsh,Option.map_some,Option.some.injEq,Prod.mk.injEq] at hp;obtain⟨rfl,rfl,rfl⟩:=hp;rfl) parts.toList (z.cells.toList.map .v) z.cells l' (by simp) (λi av hi=>by
      simp only[List.getElem?_map,Option.map_eq_some_iff] at hi;obtain⟨y,hy,rfl⟩:=hi;exact⟨y,by simpa using hy,.v _ _⟩) (by rw[hev];exact hf)
    unfold zd1 at hz;cases hi:P.info? t with
    |none=>simp [hi] at hz
    |some ii=>
     simp [hi] at hz;refine .run rfl ⟨.agg cs',_,?_,.agg _ _ _ g2.symm (λi av y h1 h2=>by obtain⟨y',h3,h4⟩:=g3 i av h1;rw[h3] at h2;obtain rfl:=Option.some.inj h2;exact h4),hK⟩;have hzr:(zeroValue t).run P w=.ok z w:=by simp [zeroValue,typeInfo,program,hi,hz,Sem.run_bind,Sem.run,Result.andThen_ok,pure,Sem.run_pure]
     have g1':Instr.fill (λi=>some (i*ek,ek)) z.cells (parts.map λ(i,x)=>(i,a.eval x)).toList=some cs':=by
      rw[<-g1];congr 1;simp
     simp only[Instr.build,Sem.run_bind,hzr,Result.andThen_ok,run_underlying hu,zaR hsh,g1',Sem.run_pure]
   .exact hq.elim
  .exact hq.elim
 case unOp op t x=>
  simp only[vq,evV_eq] at hq;have hc:=h.ev x;split at hq
  .split at hq
   .rename_i b hb;rw[hb] at hc;have hc:=hc.inv_v;exact .run rfl ⟨.bool (neg b),_,by simp [hc,Op.unary,Sem.run_pure,zlh],.v _ _,hq⟩
   .exact hq.elim
  .split at hq
   .rename_i b hb;rw[hb] at hc;have hc:=hc.inv_v;exact .run rfl ⟨.int .i64 (0-b),_,by simp only[hc,Op.unary,Op.intArith,Sem.run_pure,zc0 hq.1.1],.v _ _,hq.2⟩
   .exact hq.elim
  .exact hq.elim
 case convert src dt x=>
  simp only[vq,evV_eq] at hq;have hc:=h.ev x;unfold zmt at hq;split at hq
  .rename_i k m hb;rw[hb] at hc;have hc:=hc.inv_v;split at hq
   .rename_i k2 hu2;split at hq
    .rename_i d1 hu1;exact .run rfl ⟨.int k2 (k2.wrap m),_,by simp [hc,convert,underlying,program,hu1,hu2,Sem.run_bind,Sem.run,Result.andThen_ok,pure,Sem.run_pure,Conv.intToInt],.v _ _,hq⟩
    .exact hq.elim
   .exact hq.elim
  .rename_i s hb;rw[hb] at hc;have hc:=hc.inv_v;split at hq
   .rename_i hu2;split at hq
    .rename_i d1 hu1;refine .run rfl ⟨.string s,_,?_,.v _ _,hq⟩;rw[hc];cases d1<;>simp [convert,underlying,program,hu1,hu2,Sem.run_bind,Sem.run,Result.andThen_ok,pure,Sem.run_pure]
    .exact hq.elim
   .exact hq.elim
  .obtain⟨h1,hq1⟩:=zaB hq;obtain⟨h2,hq2⟩:=zaB hq1;obtain⟨e,hu1,hu2⟩:=zgQ h2;obtain⟨sz,rows,ao,cap,b,off,hK,e1,hao,hrow,hcell⟩:=rows_out h hc hq2;obtain⟨l,rfl,hK⟩:=hK;refine .run rfl ⟨.string ⟨l.toArray⟩,_,?_,.v _ _,hK⟩;rw[e1];have hsz:l=[]\/sz=1:=by
    cases l with
    |nil=>exact .inl rfl
    |cons c l=>exact .inr (hrow _ (List.mem_cons_self ..)).symm
   have:=zoU (P:=P) (w:=w) (l:=l) (ao:=ao) (b:=b) (off:=off) (cap:=cap) hu1 hu2 (zbp h1) (by rcases hao with h3|h3;exact .inl (by simpa using h3);exact .inr h3) (λi c hi=>by
    obtain⟨y,g1,g2,_⟩:=hcell i 0 [.v (.int .u8 c.toNat)] _ (by simp [hi]) rfl;have g2:=g2.inv_v;rw[g2] at g1;rcases hsz with rfl|rfl
    .simp at hi
    .simpa using g1)
   simpa using this
 case extract x i=>
  simp only[vq,evV_eq] at hq;split at hq
  .rename_i l hb;have hc:=h.ev x;rw[hb] at hc;obtain⟨cs,hx,hl,hr⟩:=hc.inv_tup;obtain⟨av,hav,hK⟩:=zaH hq;have hi:i<cs.size:=by rw[<-hl];exact (List.getElem?_eq_some_iff.1 hav).1
   exact .run rfl ⟨cs[i],_,by simp [hx,Instr.extract,hi,Sem.run_pure],hr i av _ hav (by simp [hi]),hK⟩
  .exact hq.elim
 case field t x f=>
  simp only[vq,evV_eq] at hq;have hc:=h.ev x;unfold fldV at hq;split at hq
  .rename_i l hb;rw[hb] at hc;obtain⟨cs,hx,hl,hr⟩:=hc.inv_agg;have main: ∀off b k,zgz P t f=some (off,b,k)->zfB (some (b,k)) off l K->VOut P σ μ a w ⟨dst,.field t x f,ty,pos,after,guard⟩ K:=by
    intro off b k hfp hcut;unfold zgz zlt at hfp;split at hfp
    .rename_i fs hu;cases hfd:fs[f]? with
     |none=>simp [hfd] at hfp
     |some fd=>
      simp only[hfd,Option.map_some,Option.bind_some] at hfp;cases hsh:za7 P fd.type with
      |none=>simp [hsh] at hfp
      |some q=>
       obtain⟨q1,q2⟩:=q;simp only[hsh,Option.map_some,Option.some.injEq,Prod.mk.injEq] at hfp;obtain⟨rfl,rfl,rfl⟩:=hfp;rw[<-hsh] at hcut;obtain⟨y,av,h1,h2,h3⟩:=zmF (P:=P) (w:=w) hl hr hcut;exact .run rfl ⟨y,av,by simp [Instr.field,underlying,program,hu,hx,hfd,asAgg,Sem.run_bind,Sem.run,Result.andThen_ok,pure,Sem.run_pure,h1],h2,h3⟩
    .simp at hfp
   split at hq
   .rename_i off k hfp;exact main off true k hfp hq
   .rename_i off k hfp;exact main off false k hfp hq
   .exact hq.elim
  .exact hq.elim
 case fieldAddr t x f=>
  simp only[vq,evV_eq] at hq;have hc:=h.ev x;unfold faV at hq;split at hq
  .rename_i off gb k hfp;obtain⟨hk0,hq1⟩:=zaB hq;have hk0:0<k:=Nat.le_of_ble_eq_true hk0;have hplace: ∀b o,a.eval x=.pointer (some ⟨b,o,none⟩)->(Instr.fieldAt t (a.eval x) f).run P w=.ok (.pointer (some ⟨b,o+off,none⟩)) w:=by
    intro b o hb;unfold zgz zlt at hfp;split at hfp
    .rename_i fs hu;cases hfd:fs[f]? with
     |none=>simp [hfd] at hfp
     |some fd=>
      simp only[hfd,Option.map_some,Option.bind_some] at hfp;cases hsh:za7 P fd.type with
      |none=>simp [hsh] at hfp
      |some q=>
       obtain⟨q1,q2⟩:=q;simp only[hsh,Option.map_some,Option.some.injEq,Prod.mk.injEq] at hfp;obtain⟨rfl,rfl,rfl⟩:=hfp;simp [Instr.fieldAt,underlying,program,hu,hb,hfd,Instr.sureAddr,fieldPlace,Sem.run_bind,Sem.run,Result.andThen_ok,pure,Sem.run_pure,zaR hsh,add_none,Nat.ne_of_gt hk0]
    .simp at hfp
   split at hq1
   .rename_i l e;rw[e] at hc;obtain⟨b,o,g,hx,h1,h2,h3⟩:=hc.inv_adr;refine .run rfl ⟨_,_,hplace b o hx,.adr _ _ _ _ (λj=>g (off+j)) ?_ ?_ ?_,hq1⟩
    .intro j av hj;rw[List.getElem?_drop] at hj;have:=h1 _ _ hj;rw[Nat.add_assoc];exact this
    .intro j av hj;rw[List.getElem?_drop] at hj;exact h2 _ _ hj
    .intro j av hj;rw[List.getElem?_drop] at hj;exact h3 _ _ hj
   .rename_i id o e;rw[e] at hc;obtain⟨b,hx,h1⟩:=hc.inv_box;exact .run rfl ⟨_,_,hplace b o hx,.box _ _ _ _ h1,hq1⟩
   .rename_i id g s j o e;rw[e] at hc;obtain⟨b,m,cap,an,hx,h1,h2⟩:=hc.inv_elt;refine .run rfl ⟨_,_,hplace b _ hx,?_,hq1⟩;rw[Nat.add_assoc];exact .elt _ _ _ _ _ _ b m cap an h1 h2
   .exact hq1.elim
  .exact hq.elim
 case indexAddr t x ix=>
  simp only[vq,evV_eq] at hq;have hc:=h.ev x;have hd:=h.ev ix;unfold idxV at hq;split at hq
  .rename_i k i hb2;rw[hb2] at hd;have hd:=hd.inv_v;split at hq
   .rename_i sz' rows own hb;rw[hb] at hc;split at hq
    .rename_i sz hel;obtain⟨hs0,hq1⟩:=zaB hq;have hs:=Nat.eq_of_beq_eq_true hs0;subst hs;obtain⟨r,hi0,hr,hK⟩:=hq1;obtain⟨e,eb,he1,he2⟩:=zd7 hel;have hu:=za9 he1;obtain⟨ao,cap,b,off,f,e',h1,h2,h3,h4,h5,h6,h7,h8⟩:=hc.inv_sl;have hlt:i.toNat<rows.length:=(List.getElem?_eq_some_iff.1 hr).1;have hao:ao=some ⟨b,off,none⟩:=by
      rcases h3 with h3|h3
      .subst h3;simp at hlt
      .exact h3
     have hlt':i<(rows.length:Int):=by omega
     refine .run rfl ⟨.pointer (some ⟨b,off+i.toNat*sz,none⟩),_,?_,.adr _ _ _ _ (λj=>f i.toNat j) ?_ ?_ (λj av hj=>h7 _ _ _ _ hr hj),hK⟩
     .simp [Instr.indexAt,underlying,program,hu,e',hd,hao,asIntOf,Sem.run_bind,Sem.run,Result.andThen_ok,pure,Sem.run_pure,zaR he2,add_none,hi0,hlt']
     .intro j av hj;exact h5 _ _ _ _ hr hj
     .intro j av hj;exact h6 _ _ _ _ hr hj
    .exact hq.elim
   .rename_i id g m hb;rw[hb] at hc;split at hq
    .rename_i sz hel;obtain⟨r,hr,hq1⟩:=zaH hq;split at hq1
     .rename_i fr E s g' rows;obtain⟨hg0,hq2⟩:=zaB hq1;obtain⟨hs0,⟨⟨hi0,hlt⟩⟩,hK⟩:=zaB hq2;have hg:=Nat.eq_of_beq_eq_true hg0;have hs:=Nat.eq_of_beq_eq_true hs0;subst hg hs;obtain⟨e,eb,he1,he2⟩:=zd7 hel;have hu:=za9 he1;obtain⟨ao,mm,cap,an,e',k1,k2,k3,k4,k5⟩:=hc.inv_arr;obtain⟨ao',cap',xs,q1,q2,q3,q4,q5,q6⟩:=h.mem.ok id _ hr;rw[k4] at q1;obtain rfl:=Option.some.inj q1;have k5':=k5;obtain⟨_,k5⟩:=k5;obtain⟨rfl,rfl,rfl⟩:=k5 rfl;rcases q2.2 with⟨e1,e2⟩|⟨b,cp,cur,F,fz,e1,hb,_⟩
      .omega
      .simp only[Value.slice.injEq] at e1;obtain⟨rfl,_,_⟩:=e1;refine .run rfl ⟨.pointer (some ⟨b,i.toNat*s+0,none⟩),_,?_,.elt _ _ _ _ _ _ b _ _ _ k4 k5',hK⟩;simp [Instr.indexAt,underlying,program,hu,e',hd,asIntOf,Sem.run_bind,Sem.run,Result.andThen_ok,pure,Sem.run_pure,zaR he2,add_none,hi0,hlt]
     .exact hq1.elim
    .exact hq.elim
   .rename_i id off hb;rw[hb] at hc;obtain⟨b,hx,h1⟩:=hc.inv_box;split at hq
    .rename_i len sz har;obtain⟨hi0,hlt,hK⟩:=hq;obtain⟨e,eb,hu,he2⟩:=zjQ har;refine .run rfl ⟨.pointer (some ⟨b,off+i.toNat*sz,none⟩),_,?_,.box _ _ _ _ h1,hK⟩;simp [Instr.indexAt,underlying,program,hu,hx,hd,asIntOf,Instr.sureAddr,Sem.run_bind,Sem.run,Result.andThen_ok,pure,Sem.run_pure,zaR he2,add_none,hi0,hlt]
    .exact hq.elim
   .rename_i id g s j o hb;rw[hb] at hc;obtain⟨b,m,cap,an,hx,h1,h2⟩:=hc.inv_elt;split at hq
    .rename_i len sz har;obtain⟨hi0,hlt,hK⟩:=hq;obtain⟨e,eb,hu,he2⟩:=zjQ har;refine .run rfl ⟨.pointer (some ⟨b,j*s+(o+i.toNat*sz),none⟩),_,?_,.elt _ _ _ _ _ _ b m cap an h1 h2,hK⟩;simp [Instr.indexAt,underlying,program,hu,hx,hd,asIntOf,Instr.sureAddr,Sem.run_bind,Sem.run,Result.andThen_ok,pure,Sem.run_pure,zaR he2,add_none,hi0,hlt,Nat.add_assoc]
    .exact hq.elim
   .exact hq.elim
  .exact hq.elim
 case index t x ix=>
  simp only[vq,evV_eq] at hq;have hc:=h.ev x;have hd:=h.ev ix;unfold ixV at hq;split at hq
  .rename_i k i hb2;rw[hb2] at hd;have hd:=hd.inv_v;split at hq
   .rename_i s hb;rw[hb] at hc;have hc:=hc.inv_v;obtain⟨hstr,⟨⟨hi0,hlt⟩⟩,hK⟩:=zaB hq;have hu:=zbp hstr;have hlt':i.toNat<s.size:=by omega
    have hl:i.toNat<s.data.toList.length:=by simpa using hlt'
    have hs:s[i.toNat]? =some s[i.toNat]:=getElem?_pos s i.toNat hlt';refine .run rfl ⟨.int .u8 (zaG s i.toNat),_,?_,.v _ _,hK⟩;have hb:zaG s i.toNat=(s[i.toNat]).toNat:=by
     unfold zaG;rw[List.getD_eq_getElem?_getD,List.getElem?_eq_getElem hl];rfl
    rw[hb];simp [Instr.index,underlying,program,hu,hc,hd,asIntOf,Sem.run_bind,Sem.run,Result.andThen_ok,pure,Sem.run_pure,hi0,hs]
   .rename_i l hb;rw[hb] at hc;obtain⟨cs,hx,hl,hr⟩:=hc.inv_agg;split at hq
    .rename_i len e hu;split at hq
     .rename_i eb sz hsh;obtain⟨hi0,hlt,hK⟩:=hq;rw[<-hsh] at hK;obtain⟨y,av,h1,h2,h3⟩:=zmF (P:=P) (w:=w) hl hr hK;refine .run rfl ⟨y,av,?_,h2,h3⟩;simp [Instr.index,underlying,program,hu,hx,hd,asIntOf,Sem.run_bind,Sem.run,Result.andThen_ok,pure,Sem.run_pure,zaR hsh,hi0,hlt,h1]
     .exact hq.elim
    .exact hq.elim
   .exact hq.elim
  .exact hq.elim
 case slice t x lo hi mx=>
  simp only[vq] at hq;cases mx with
  |some y=>exact hq.elim
  |none=>
   simp only[evV_eq] at hq;have bnd: ∀(o:Option Operand) {K:Option Int->Prop},zcP A.fr o K-> ∃i,K i/\((o.map a.eval=none/\i=none)\/ ∃k m,o.map a.eval=some (.int k m)/\i=some m):=by
    intro o K hK;unfold zcP at hK;cases o with
    |none=>exact⟨none,hK,.inl ⟨rfl,rfl⟩⟩
    |some y=>
     simp only[evV_eq] at hK;split at hK
     .rename_i k m e;have:=h.ev y;rw[e] at this;exact⟨some m,hK,.inr ⟨k,m,by simp [this.inv_v],rfl⟩⟩
     .exact hK.elim
   obtain⟨l,hq1,hl⟩:=bnd lo hq;obtain⟨hh,hq2,hhh⟩:=bnd hi hq1;exact .run rfl (zpx h (h.ev x) hl hhh hq2)
 case lookup t x y ok=>
  simp only[vq,evV_eq] at hq;exact .run rfl (zm3 h (h.ev x) (h.ev y) hq)
 case entry x=>
  simp only[vq,evV_eq] at hq;unfold entV at hq;split at hq
  .rename_i it hv;obtain⟨r,hr,hq1⟩:=zaH hq;split at hq1
   .rename_i mid;obtain⟨q,hqm,hq2⟩:=zaH hq1;split at hq2
    .rename_i it' kk ag f seen last;unfold entL at hq2;obtain⟨he,hq3⟩:=zaB hq2;have he:=Nat.eq_of_beq_eq_true he;subst he;split at hq3
     .rename_i k;have hx:=h.ev x;rw[hv] at hx;obtain⟨b,hb,hmu⟩:=hx.inv_box;obtain⟨r,bm,es,clock,since,c0,sn,m1,m2,hne,g1,g2,g3,g4,g5,g6,g7,gl,s1,s2,hD⟩:=h.mem.ok mid _ hqm;rw[hmu] at m1;simp only[Option.some.injEq,An.fix.injEq,Value.pointer.injEq,Addr.mk.injEq,and_true] at m1;subst m1;obtain⟨rfl,e,hes,hbk,rfl⟩:=gl k rfl;have hn:(es.toList.map (·.born)).Nodup:=by
       have:=g3.2.2.2;rw[List.nodup_iff_pairwise_ne,List.pairwise_map];exact this.imp λh=>h.2
      have hf:es.find? (·.born==e.born)=some e:=by rw[<-Array.find?_toList];exact find_born e es.toList hn hes
      refine .run (s:=Instr.entry (a.eval x)) rfl ⟨.tuple #[e.key,e.val],_,?_,.tup _ _ _ rfl (λi av y e1 e2=>?_),hq3⟩
      .rw[hb];simp only[Instr.entry,getObj,Sem.run_bind,Sem.run,g1,g2,Result.andThen,hbk,bne_self_eq_false,Bool.false_eq_true,if_false,hf];rfl
      .match i,e1,e2 with
       |0,e1,e2=>simp at e1 e2;subst e1 e2;exact .v _ _
       |1,e1,e2=>simp at e1 e2;subst e1 e2;exact .any _ _
     .exact hq3.elim
    .exact hq2.elim
   .exact hq1.elim
  .exact hq.elim
 case makeInterface t x=>
  obtain⟨h1,h3⟩:=zaB hq;obtain⟨h2,h4⟩:=zaB h3;have h1:=Nat.eq_of_beq_eq_true h1;subst h1;simp only[evV_eq] at h4;have hc:=h.ev x;split at h4
  .rename_i k hb;rw[hb] at hc;have hc:=hc.inv_v;obtain⟨⟨hk⟩,hK⟩:=h4;refine .run rfl ⟨errv k,_,?_,.err _ k,hK⟩;rw[zmV hk,hc];unfold zfr at h2;split at h2
   .cases h2
   .rename_i d hni hu;cases d<;>simp [Instr.makeInterface,underlying,program,hu,Sem.run_bind,Sem.run,Result.andThen_ok,pure,Sem.run_pure]
    exact (hni _ rfl).elim
   .cases h2
  .exact h4.elim
 case typeAssert x t u ok=>
  obtain⟨h0,h3⟩:=zaB hq;obtain⟨h1,h4⟩:=zaB h3;obtain⟨h2,h5⟩:=zaB h4;have h1:=Nat.eq_of_beq_eq_true h1;subst h1 h0;simp only[evV_eq] at h5;have hc:=h.ev x;split at h5
  .rename_i k hb;rw[hb] at hc;have hc:=hc.inv_err;split at h5
   .rename_i hz;refine .run rfl ⟨.tuple #[.int .i64 k,.bool (k != 0)],_,?_,.tup _ _ _ rfl (λi av y e1 e2=>?_),h5⟩
    .unfold zfr at h2;have hzr:(zeroValue 96).run P w=.ok (.int .i64 0) w:=by
      unfold zd1 at hz;cases hi:P.info? 96 with
      |none=>simp [hi] at hz
      |some ii=>
       simp [hi] at hz;simp [zeroValue,typeInfo,program,hi,hz,Sem.run_bind,Sem.run,Result.andThen_ok,pure,Sem.run_pure]
     split at h2
     .cases h2
     .rename_i d hni hu;rcases zce k with⟨hk,e⟩|⟨hk,e⟩<;>rw[hc,e]
      .subst hk;cases d<;>simp [Instr.typeAssert,run_underlying hu,Sem.run_bind,Sem.run,Result.andThen_ok,pure,Sem.run_pure,hzr]
      .have hk':(k != 0)=true:=by simpa using hk
       cases d<;>simp [Instr.typeAssert,run_underlying hu,Sem.run_bind,Sem.run,Result.andThen_ok,pure,Sem.run_pure,hzr,hk']
       exact (hni _ rfl).elim
     .cases h2
    .match i,e1,e2 with
     |0,e1,e2=>simp at e1 e2;subst e1 e2;exact .v _ _
     |1,e1,e2=>simp at e1 e2;subst e1 e2;exact .v _ _
   .exact h5.elim
  .exact h5.elim
 case makeFunc fn first caps=>
  cases fn with
  |func f=>
   obtain⟨h1,h2⟩:=zaB hq;simp only[evL_eq,fzL_eq] at h2;have hf:first= #[]:=Array.eq_empty_of_size_eq_zero (Nat.eq_of_beq_eq_true h1)
   subst hf;refine .run rfl ⟨.func (.func f) #[] (caps.map a.eval),_,by simp [Instr.makeFunc,Sem.run_pure],.clo _ _ _ _ (by simp) (λi av y e1 e2=>?_),h2⟩;simp only[List.getElem?_map,Option.map_eq_some_iff,Array.getElem?_toList] at e1;obtain⟨x,hx,rfl⟩:=e1;simp only[Array.getElem?_map,hx,Option.map_some,Option.some.injEq] at e2;subst e2;exact h.ev x
  |_=>exact hq.elim
 case call c=>
  obtain⟨callee,args,ats⟩:=c;cases callee with
  |builtin b=>
   have arg: ∀l,args.toList.map (evO A.fr)=l->(args.map a.eval).toList.length=l.length/\ ∀(i:Nat) (av:AV),l[i]? =some av-> ∃y,(args.map a.eval).toList[i]? =some y/\RepV σ μ av y:=by
    rintro l rfl;refine⟨by simp,λi av hi=>?_⟩;simp only[List.getElem?_map,Option.map_eq_some_iff] at hi;obtain⟨x,hx,rfl⟩:=hi;exact⟨a.eval x,by simp at hx ⊢;exact⟨x,hx,rfl⟩,h.ev x⟩
   cases b
   case len=>
    simp only[vq,evL_eq] at hq;unfold lenV at hq;split at hq
    .rename_i v hv;obtain⟨hlen,hget⟩:=arg _ hv;obtain⟨y,hy,hr⟩:=hget 0 v rfl;have hargs:args.map a.eval= #[y]:=by
      apply Array.ext';cases hl:(args.map a.eval).toList with
      |nil=>rw[hl] at hy;simp at hy
      |cons z l=>cases l with
       |nil=>rw[hl] at hy;simp at hy;simp [hy]
       |cons=>rw[hl] at hlen;simp at hlen
     split at hq
     .rename_i t ht;have hats:ats= #[t]:=by rw[<-Array.toArray_toList (xs:=ats),ht]
      subst hats;have fin: ∀m:Nat,(Builtin.len_ #[t] ty #[y]).run P w=.ok (.int .i64 m) w->K (.v (.int .i64 m))->VOut P σ μ a w ⟨dst,.call ⟨.builtin .len,args,#[t]⟩,ty,pos,after,guard⟩ K:=λm hm hK=>
       .run (zeB (s:=Builtin.len_ #[t] ty #[y]) (λcs=>by rw[BigFrame.builtin_len,hargs])) ⟨_,_,hm,.v _ _,hK⟩
      split at hq
      .obtain⟨h1,h2⟩:=zaB hq;obtain⟨e,he⟩:=Option.isSome_iff_exists.1 h1;have hu:=za9 he;obtain⟨ao,cap,b,off,f,rfl,_⟩:=hr.inv_sl;exact Y66
      .obtain⟨h1,h2⟩:=zaB hq;obtain⟨e,he⟩:=Option.isSome_iff_exists.1 h1;have hu:=za9 he;obtain⟨ao,m,cap,an,rfl,_⟩:=hr.inv_arr;exact Y66
      .obtain⟨h1,h2⟩:=zaB hq;obtain⟨e,he⟩:=Option.isSome_iff_exists.1 h1;have hu:=za9 he;obtain rfl:=hr.inv_v;exact fin 0 (by simp [Builtin.len_,underlying,program,hu,goInt,Sem.run_bind,Sem.run,Result.andThen_ok,pure,Sem.run_pure]) h2
      .obtain⟨h1,h2⟩:=zaB hq;have hu:=zbp h1;obtain rfl:=hr.inv_v;exact Y66
      .exact hq.elim
     .exact hq.elim
    .exact hq.elim
   case min=>exact zjE arg (b:=.min) (mx:=false) rfl (by simpa only[vq,evL_eq] using hq)
   case max=>exact zjE arg (b:=.max) (mx:=true) rfl (by simpa only[vq,evL_eq] using hq)
   all_goals exact hq.elim
  |_=>exact hq.elim
 all_goals exact hq.elim
end
end Go.Proofs.YtimfnpjcedjmiadGreat
namespace Go.Proofs.YtimfnpjcedjmiadGreat
open Go.RowKit
section
variable {P:Program} {w:World}
theorem zbn{E sz n m cap:Nat}{ao:Option Addr}{xs:List Value}{k o:Nat}{x:Value}(h:w.ownsRow 0 E sz (.slice ao m cap) n xs)(hk:blkA ao=some k)(hx:xs[o]? =some x):w.cell? ⟨k,o,none⟩=some x:=by
 rcases h.2 with⟨e,_⟩|⟨g,cap,cur,e,_,hg,h1,h2,h3,h4⟩
 .exact Y75
 .exact Y76
theorem zfO(t tx ty e:TypeId)(i:TypeInfo)(z:Value)(size:Nat)(ht:P.underlying t=some (.slice e))(hi:P.info? e=some i)(hz:i.zero=some z)
  (hsize:i.size=size) (hzs:z.cells.size=size) (hsz:0<size) (ao:Option Addr) (n cap:Nat) (xs:List Value) (hown:w.ownsRow 0 e size (.slice ao n cap) n xs)
  (x:Value) (m:Nat) (news:List Value) (hs:Src P size tx x m news w) (h63:n+m<=maxLen) (hbytes:(n+m)*i.bytes<=140737488355328):
  ∃ao' cap' w',(Builtin.append_ #[t,tx] ty #[.slice ao n cap,x]).run P w=.ok (.slice ao' (n+m) cap') w'/\w'.ownsRow 0 e size (.slice ao' (n+m) cap') (n+m) (xs++news)/\w.grownBy w' (blkA ao) ∧
   (blkA ao'=blkA ao\/ ∃k,blkA ao'=some k/\w.heap.size<=k/\ ∀b,b<w.heap.size->w'.heap[b]? =w.heap[b]?)/\n+m<=cap'/\cap'<=maxLen:=by
 subst hsize;have hlen:(xs++news).length=(n+m)*i.size:=by rw[List.length_append,hown.1,hs.newsLen,Nat.add_mul]
 have grown: ∀(old:Nat),old<n+m-> ∀(row:Option Nat),(Builtin.firstCells i.size n (.slice ao n old)).run P w.drew=.ok xs.toArray w.drew →
   ∃ao' cap' w',(Builtin.append_ #[t,tx] ty #[.slice ao n old,x]).run P w=.ok (.slice ao' (n+m) cap') w'/\w'.ownsRow 0 e i.size (.slice ao' (n+m) cap') (n+m) (xs++news)/\w.grownBy w' row ∧
    (blkA ao'=blkA ao\/ ∃k,blkA ao'=some k/\w.heap.size<=k/\ ∀b,b<w.heap.size->w'.heap[b]? =w.heap[b]?)/\n+m<=cap'/\cap'<=maxLen:=by
  intro old ho row hold;have hge:=grownCap_ge w (n+m) old e;have hcm:grownCap w (n+m) old e<=maxLen:=grownCap_le_maxLen w (n+m) old e h63;have hr:=run_append_grow_src (P:=P) w t tx ty e i z ht hi hz ao n old xs hold x m news hs ho (by unfold maxLen at h63;omega) (growslice_fits ho hbytes);refine⟨_,_,_,hr,⟨hlen,.inr ⟨w.heap.size,_,_,rfl,Nat.zero_le _,heap_alloc_new w.drew _,hge,hcm,?_,?_⟩⟩,⟨rfl,rfl,rfl,by simp,λk hk _=>Below.heap_alloc w.drew _ k hk⟩,.inr ⟨w.heap.size,rfl,Nat.le_refl _,λk hk=>Below.heap_alloc w.drew _ k hk⟩,hge,hcm⟩
  .simp only[Array.size_append,List.size_toArray,size_zeroCells,hzs];rw[hlen,<-Nat.add_mul];congr 1
   omega
  .simp only[Array.toList_append];rw[<-hlen];exact List.take_left
 rcases hown.2 with⟨e1,hn0⟩|⟨g,cap',cur,e1,hbg,hg,hnc,hcm,hcs,htake⟩
 .simp only[Value.slice.injEq] at e1;obtain⟨rfl,rfl,rfl⟩:=e1;have hx:xs=[]:=List.eq_nil_of_length_eq_zero (by simpa using hown.1);subst hx;by_cases hm:m=0
  .subst hm;have hn:news=[]:=List.eq_nil_of_length_eq_zero (by simpa using hs.newsLen);subst hn;refine⟨none,0,w,?_,World.ownsRow_nil w 0 e i.size,⟨rfl,rfl,rfl,Nat.le_refl _,λ_ _ _=>rfl⟩,.inl rfl,by omega,by simp [maxLen]⟩;rcases hs.kind with⟨e',hk⟩|hk<;>simp [Builtin.append_,run_underlying ht,run_underlying hk,sizeOf,typeInfo,hi,hs.len,hs.cells,Sem.run_bind,Result.andThen_ok]
  .exact grown 0 (by omega) _ (run_firstCells_none w.drew i.size 0 0 0)
 .simp only[Value.slice.injEq] at e1;obtain⟨rfl,_,rfl⟩:=e1;by_cases hroom:n+m<=cap
  .have hfit:n*i.size+news.length<=cur.size:=by rw[hs.newsLen,hcs,<-Nat.add_mul];exact Nat.mul_le_mul_right _ hroom
   have hst:=run_storeCells_at P g (n*i.size) e news 0 cur w hg (by simpa using hfit) hs.one;simp only[Nat.add_zero] at hst;have hr:(Builtin.append_ #[t,tx] ty #[.slice (some ⟨g,0,none⟩) n cap,x]).run P w=.ok (.slice (some ⟨g,0,none⟩) (n+m) cap) (w.setRow g (cur.toList.take (n*i.size)++news++cur.toList.drop (n*i.size+news.length)).toArray):=by
    rcases hs.kind with⟨e',hk⟩|hk<;>simp [Builtin.append_,run_underlying ht,run_underlying hk,sizeOf,typeInfo,hi,hs.len,hroom,hs.cells,Addr.add_lit,hst]
   refine⟨_,_,_,hr,⟨hlen,.inr ⟨g,cap,_,rfl,hbg,setRow_heap w g cur _ e _ hg,hroom,hcm,?_,?_⟩⟩,⟨rfl,rfl,rfl,by simp,λk _ hk=>setRow_other w g k _ (λe=>hk (by simp [blkA,e]))⟩,.inl rfl,hroom,hcm⟩
   .simp only[List.size_toArray,List.length_append,List.length_take,List.length_drop,Array.length_toList];omega
   .rw[htake,<-hlen];exact List.take_left
  .refine grown cap (by omega) _ ?_;exact run_firstCells_some w.drew i.size n ⟨g,0,none⟩ n cap xs hown.1 (λj u hj=>by
    rw[add_none,Nat.zero_add];have:=zbn hown (k:=g) rfl hj;simpa using this)
theorem zjl{E sz n k cap:Nat}{ao:Option Addr}{xs:List Value}(h:w.ownsRow 0 E sz (.slice ao n cap) n xs)(hk:k<=n):w.ownsRow 0 E sz (.slice ao k cap) k (xs.take (k*sz)):=by
 have hmul:k*sz<=n*sz:=Nat.mul_le_mul_right _ hk;refine⟨by rw[List.length_take,h.1];omega,?_⟩;rcases h.2 with⟨e,hn⟩|⟨g,cap',cur,e,h1,h2,h3,h4,h5,h6⟩
 .simp only[Value.slice.injEq] at e;obtain⟨rfl,rfl,rfl⟩:=e;have:k=0:=by omega
  subst this;exact .inl ⟨rfl,rfl⟩
 .simp only[Value.slice.injEq] at e;obtain⟨rfl,_,rfl⟩:=e;refine .inr ⟨g,cap,cur,rfl,h1,h2,by omega,h4,h5,?_⟩;rw[<-h6,List.take_take];congr 1
  omega
theorem zll{E F sz n cap g:Nat}{fz:Nat×Nat}{xs ys:List Value}{cur:Array Value}(h:ownA w E sz (.slice (some ⟨g,0,none⟩) n cap) n xs)(hg:w.heap[g]? =some (.cells cur F fz)){off:Nat}(hfit:off+ys.length<=n*sz):
  ownA (w.setRow g (cur.toList.take off++ys++cur.toList.drop (off+ys.length)).toArray) E sz (.slice (some ⟨g,0,none⟩) n cap) n (xs.take off++ys++xs.drop (off+ys.length)):=by
 obtain⟨hl,hh⟩:=h;rcases hh with⟨e,_⟩|⟨g',cap',cur',F',fz',e,h2,h3,h4,h5,h6,h7,h8⟩
 .simp at e
 .simp only[Value.slice.injEq,Option.some.injEq,Addr.mk.injEq,and_true,true_and] at e;obtain⟨rfl,rfl⟩:=e;rw[h2] at hg;simp only[Option.some.injEq,Obj.cells.injEq] at hg;obtain⟨rfl,rfl,rfl⟩:=hg;have hmul:n*sz<=cap*sz:=Nat.mul_le_mul_right _ h3;refine⟨?_,.inr ⟨g,cap,_,F',fz',rfl,setRow_heap w g cur' _ F' _ h2,h3,h4,?_,?_,h7,h8.imp (λh=>h) (λh=>Nat.le_trans (Nat.le_of_eq (by simp only[List.size_toArray,List.length_append,List.length_take,List.length_drop,Array.length_toList,h5];omega)) h)⟩⟩
  .simp only[List.length_append,List.length_take,List.length_drop,hl];omega
  .simp only[List.size_toArray,List.length_append,List.length_take,List.length_drop,Array.length_toList,h5];omega
  .have hx:xs=cur'.toList.take (n*sz):=h6.symm;have hcl:cur'.toList.length=cap*sz:=by simpa using h5
   rw[List.toList_toArray];apply List.ext_getElem?;intro j;rw[List.getElem?_take,List.append_assoc,List.append_assoc,List.getElem?_append (l₁:=cur'.toList.take off),List.getElem?_append (l₁:=xs.take off)];have e1:(cur'.toList.take off).length=off:=by simp;omega
   have e2:(xs.take off).length=off:=by simp;omega
   rw[e1,e2];by_cases hj:j<n*sz
   .rw[if_pos hj];split
    .rename_i hlt;rw[List.getElem?_take,List.getElem?_take,if_pos hlt,if_pos hlt,hx,List.getElem?_take,if_pos hj]
    .rename_i hge;rw[List.getElem?_append (l₁:=ys),List.getElem?_append (l₁:=ys)];split
     .rfl
     .rw[List.getElem?_drop,List.getElem?_drop,hx,List.getElem?_take,if_pos (by omega)]
   .rw[if_neg hj,if_neg (by omega),List.getElem?_append (l₁:=ys),if_neg (by omega),List.getElem?_drop,List.getElem?_eq_none (by omega)]
end
end Go.Proofs.YtimfnpjcedjmiadGreat
