/- Lemmas. -/
import Derived.Test.YtimfnpjcedjmiadGreatK2
import Derived.Laws.OwnMore
import Derived.Laws.IdiomStrings
set_option maxRecDepth 100000
set_option maxHeartbeats 64000000
set_option linter.all false
namespace Go.Proofs.YtimfnpjcedjmiadGreat
open Go.RowKit
abbrev Mut:=List (Nat×Bool)
def modeT:Mut->Nat->Option Bool
 |[],_=>none
 |(u,b)::l,t=>match Nat.beq u t with
  |true=>some b
  |false=>modeT l t
def AV.view:AV->AV
 | .sl sz rows _=>.sl sz rows none
 |x=>x
def viewL:List AV->List AV
 |[]=>[]
 |a::l=>a.view::viewL l
def zj3:List AV->Bool
 |[]=>true
 |a::l=>match a.view.free0 with
  |true=>zj3 l
  |false=>false
def viewR:List (List AV)->List (List AV)
 |[]=>[]
 |a::l=>viewL a::viewR l
def freeR:List (List AV)->Bool
 |[]=>true
 |a::l=>match zj3 a with
  |true=>freeR l
  |false=>false
def vwL(fr:Bool)(l:List AV):List AV:=
 match fr with
 |true=>viewL l
 |false=>l
def okF(fr free:Bool):Bool:=
 match fr with
 |true=>free
 |false=>true
def zf8(P:Program)(t:TypeId):Option (TypeId×Nat×Nat×Nat):=
 match zlR P t with
 |some e=>match za7 P e with
  |some (_,sz)=>match P.info? e with
   |some i=>match i.zero with
    |some z=>some (e,sz,z.cells.size,i.bytes)
    |none=>none
   |none=>none
  |none=>none
 |none=>none
theorem zco{P:Program}{t e sz z by_:Nat}(h:zf8 P t=some (e,sz,z,by_)):
  P.underlying t=some (.slice e)/\ ∃b i z',za7 P e=some (b,sz)/\P.info? e=some i/\i.zero=some z'/\z'.cells.size=z/\i.bytes=by_/\i.size=sz:=by
 unfold zf8 at h;split at h
 .rename_i e' he;split at h
  .rename_i b sz' hs;split at h
   .rename_i i hi;split at h
    .rename_i z' hz;simp only[Option.some.injEq,Prod.mk.injEq] at h;obtain⟨rfl,rfl,rfl,rfl⟩:=h;refine⟨za9 he,b,i,z',hs,hi,hz,rfl,rfl,?_⟩;have:=zaR hs (default:World);simp [sizeOf,typeInfo,program,hi,Sem.run_bind,Sem.run,Result.andThen_ok,pure,Sem.run_pure] at this;exact this
    .cases h
   .cases h
  .cases h
 .cases h
def zix(sz:Nat)(fr:List (Nat×AV)):Nat->List (Nat×Operand)->(List (List AV)->Prop)->Prop
 |_,[],K=>K []
 |i,(j,x)::l,K=>tt (Nat.beq i j) (evV fr x λv=>zcy v λr=>tt (Nat.beq r.length sz) (fzL r λr=>zix sz fr (i+1) l λrs=>K (r::rs)))
theorem zfC{sz:Nat}{fr:List (Nat×AV)}: ∀{l:List (Nat×Operand)} {i:Nat},Nice (zix sz fr i l)
 |[],i=>Nice.at _
 |(j,x)::l,i=>by
  refine Nice.tt (Nice.congr ?_ λK=>by simp only[evV_eq,fzL_eq];try rfl);exact zbi.bind (U:=λr K=>tt (Nat.beq r.length sz) (zix sz fr (i+1) l λrs=>K (r::rs))) λr=>Nice.tt (zfC.map _)
def za4(s:ByteArray):List (List AV):=s.data.toList.map λc=>[AV.v (.int .u8 c.toNat)]
def srcK(P:Program)(t:TypeId)(sz:Nat)(v:AV)(mem:List Res)(K:Bool->List (List AV)->Prop):Prop:=
 match v with
 | .sl s rows _=>tt (isSl P t) (tt (Nat.beq s sz) (K true rows))
 | .arr id g n=>tt (isSl P t) (nthK mem id λr=>match r with
  | .arr fr _ s g' rows=>tt (Nat.beq g g') (tt (Nat.beq s sz) (K fr (rows.take n)))
  |_=>False)
 | .v (.slice none 0 0)=>tt (isSl P t) (K true [])
 | .v (.string s)=>tt (zgP P t) (tt (Nat.beq sz 1) (K true (za4 s)))
 |_=>False
theorem zn2{P:Program}{t:TypeId}{sz:Nat}{v:AV}{mem:List Res}{α:Type}{U:Bool->List (List AV)->(α->Prop)->Prop}(hU: ∀b r,Nice (U b r)):Nice (λK=>srcK P t sz v mem λb r=>U b r K):=by
 unfold srcK;split
 .exact Nice.tt (Nice.tt (hU _ _))
 .rename_i id g n;refine Nice.tt (za0.bind (U:=λ(r:Res) K=>match r with
   | .arr fr _ s g' rows=>tt (Nat.beq g g') (tt (Nat.beq s sz) (U fr (rows.take n) K))
   |_=>False) λr=>?_)
  split<;>first|exact Nice.tt (Nice.tt (hU _ _))|exact Nice.no
 .exact Nice.tt (hU _ _)
 .exact Nice.tt (Nice.tt (hU _ _))
 .exact Nice.no
def zhy(mt:Mut)(t e sz:Nat)(mem:List Res)(free:Bool)(rows:List (List AV))(n:Nat)(K:List Res->AV->Prop):Prop:=
 match modeT mt t with
 |none=>match free with
  |true=>K (mem++[.grow e sz 0]) (.sl sz rows (some (mem.length,0)))
  |false=>K (mem++[.arr false e sz 0 rows]) (.arr mem.length 0 n)
 |some fr=>match fr with
  |true=>tt free (K (mem++[.arr true e sz 0 rows]) (.arr mem.length 0 n))
  |false=>K (mem++[.arr false e sz 0 rows]) (.arr mem.length 0 n)
def Fits(n by_:Nat):Prop:=n<=maxLen/\n*by_<=140737488355328
def appV(mt:Mut)(t e sz by_:Nat)(v:AV)(mem:List Res)(free:Bool)(rows2:List (List AV))(K:List Res->AV->Prop):Prop:=
 match v with
 | .v (.slice none 0 0)=>Vc (Fits rows2.length by_)/\zhy mt t e sz mem free rows2 rows2.length K
 | .sl s rows (some (id,g))=>tt free (tt (Nat.beq s sz) (nthK mem id λr=>match r with
  | .grow E s' g'=>tt (Nat.beq E e) (tt (Nat.beq s' sz) (tt (Nat.beq g g') (Vc (Fits (rows.length+rows2.length) by_)/\K (mem.set id (.grow e sz (g+1))) (.sl sz (rows++rows2) (some (id,g+1))))))
  |_=>False))
 | .arr id g n=>nthK mem id λr=>match r with
  | .arr fr E s g' rows=>tt (Nat.beq E e&&Nat.blt E 1099511627776) (tt (Nat.beq s sz) (tt (Nat.beq g g') (tt (okF fr free) (Vc (Fits (n+rows2.length) by_)/\K (mem.set id (.arr fr e sz (g+1) (rows.take n++rows2))) (.arr id (g+1) (n+rows2.length))))))
  |_=>False
 |_=>False
abbrev MK:=List Res->AV->Prop
def zaI(T:MK->Prop):Prop:=Nice (λK:List Res×AV->Prop=>T (λm v=>K (m,v)))
theorem zaI.at(m:List Res)(v:AV):zaI (λK=>K m v):=Nice.at (m,v)
theorem zaI.no:zaI (λ_=>False):=Nice.no
theorem zaI.and{p:Prop}{T:MK->Prop}(h:zaI T):zaI (λK=>p/\T K):=Nice.and h
theorem zaI.tt{b:Bool}{T:MK->Prop}(h:zaI T):zaI (λK=>tt b (T K)):=Nice.tt h
theorem zaI.bind{α:Type}{T:(α->Prop)->Prop}{U:α->MK->Prop}(h:Nice T)(k: ∀x,zaI (U x)):zaI (λK=>T (λx=>U x K)):=Nice.bind (U:=λx (K:List Res×AV->Prop)=>U x λm v=>K (m,v)) h k
theorem zaI.congr{T U:MK->Prop}(h:zaI T)(e: ∀K,U K=T K):zaI U:=Nice.congr h λK=>e _
theorem zhZ{mt:Mut}{t e sz:Nat}{mem:List Res}{free:Bool}{rows:List (List AV)}{n:Nat}:zaI (zhy mt t e sz mem free rows n):=by
 unfold zhy;repeat' split
 all_goals first|exact zaI.at _ _|exact zaI.tt (zaI.at _ _)
theorem znc{mt:Mut}{t e sz by_:Nat}{v:AV}{mem:List Res}{free:Bool}{rows2:List (List AV)}:zaI (appV mt t e sz by_ v mem free rows2):=by
 unfold appV;split
 .exact zaI.and zhZ
 .rename_i s rows id g;refine zaI.tt (zaI.tt (za0.bind (U:=λ(r:Res) (K:List Res×AV->Prop)=>match r with
   | .grow E s' g'=>tt (Nat.beq E e) (tt (Nat.beq s' sz) (tt (Nat.beq g g') (Vc (Fits (rows.length+rows2.length) by_)/\K (mem.set id (.grow e sz (g+1)),.sl sz (rows++rows2) (some (id,g+1))))))
   |_=>False) λr=>?_))
  split<;>first|exact Nice.tt (Nice.tt (Nice.tt (Nice.and (Nice.at _))))|exact Nice.no
 .rename_i id g n;refine za0.bind (U:=λ(r:Res) (K:List Res×AV->Prop)=>match r with
   | .arr fr E s g' rows=>tt (Nat.beq E e&&Nat.blt E 1099511627776) (tt (Nat.beq s sz) (tt (Nat.beq g g') (tt (okF fr free) (Vc (Fits (n+rows2.length) by_)/\K (mem.set id (.arr fr e sz (g+1) (rows.take n++rows2)),.arr id (g+1) (n+rows2.length))))))
   |_=>False) λr=>?_
  split<;>first|exact Nice.tt (Nice.tt (Nice.tt (Nice.tt (Nice.and (Nice.at _)))))|exact Nice.no
 .exact zaI.no
def zcW(q k:Value):Bool:=
 match q,k with
 | .int a x,.int b y=>kEq a b&&decide (x=y)
 | .agg a,.agg b=>match a.toList,b.toList with
  |[.int .i64 x1,.int .i64 x2],[.int .i64 y1,.int .i64 y2]=>decide (x1=y1)&&decide (x2=y2)
  |_,_=>false
 |_,_=>false
theorem zbB{q k:Value}(h:zcW q k=true):q=k:=by
 unfold zcW at h;split at h
 .simp only[Bool.and_eq_true,decide_eq_true_eq] at h;rw[zfP h.1,h.2]
 .rename_i a b;split at h
  .rename_i h1 h2;simp only[Bool.and_eq_true,decide_eq_true_eq] at h;obtain⟨rfl,rfl⟩:=h;have:a=b:=Array.ext' (h1.trans h2.symm);rw[this]
  .cases h
 .cases h
theorem zcj(k:IntKind):kEq k k=true:=by cases k<;>rfl
theorem zb1{kk:Option IntKind}{k:Value}(h:KeyW kk k):zcW k k=true:=by
 cases kk with
 |some a=>obtain⟨m,rfl⟩:=h;simp [zcW,zcj]
 |none=>obtain⟨a,b,rfl⟩:=h;simp [zcW]
def updF(f:Value->Option (List AV))(k:Value)(o:Option (List AV)):Value->Option (List AV):=λq=>match zcW q k with
 |true=>o
 |false=>f q
def stV(sh:Option (Bool×Nat))(mem:List Res)(v:AV)(lx:List AV)(K:MK):Prop:=
 match sh with
 |some (_,k)=>tt (Nat.beq k lx.length) (match v with
  | .box id off=>nthK mem id λr=>match r with
   | .cells l=>tt (Nat.ble (off+lx.length) l.length) (fzL (l.take off++lx++l.drop (off+lx.length)) λl=>K (mem.set id (.cells l)) .any)
   |_=>False
  | .elt id g sz i o=>nthK mem id λr=>match r with
   | .arr fr E s g' rows=>tt (Nat.beq s sz) (tt (Nat.beq g g') (tt (okF fr (zj3 lx)) (tt (Nat.ble (o+lx.length) sz) (StopRow rows i λr=>K (mem.set id (.arr fr E s g (rows.set i (r.take o++vwL fr lx++r.drop (o+lx.length))))) .any))))
   |_=>False
  |_=>False)
 |none=>False
theorem stV_nice{sh:Option (Bool×Nat)}{mem:List Res}{v:AV}{lx:List AV}:zaI (stV sh mem v lx):=by
 unfold stV;split
 .refine zaI.tt ?_;split
  .rename_i id off;refine za0.bind (U:=λ(r:Res) (K:List Res×AV->Prop)=>match r with
    | .cells l=>tt (Nat.ble (off+lx.length) l.length) (fzL (l.take off++lx++l.drop (off+lx.length)) λl=>K (mem.set id (.cells l),.any))
    |_=>False) λr=>?_
   split
   .exact Nice.tt (Nice.congr (Nice.at _) λK=>by simp only[fzL_eq];try rfl)
   .exact Nice.no
  .rename_i id g sz i o;refine za0.bind (U:=λ(r:Res) (K:List Res×AV->Prop)=>match r with
    | .arr fr E s g' rows=>tt (Nat.beq s sz) (tt (Nat.beq g g') (tt (okF fr (zj3 lx)) (tt (Nat.ble (o+lx.length) sz) (StopRow rows i λr=>K (mem.set id (.arr fr E s g (rows.set i (r.take o++vwL fr lx++r.drop (o+lx.length)))),.any)))))
    |_=>False) λr=>?_
   split<;>first|exact Nice.tt (Nice.tt (Nice.tt (Nice.tt (StopRow.nice.map _))))|exact Nice.no
  .exact zaI.no
 .exact zaI.no
def aggV(v:AV):Bool:=
 match v with
 | .agg _=>true
 |_=>false
def zhU(P:Program)(t:TypeId):Option (Option IntKind×Bool):=
 match P.underlying t with
 |some (.map kt e)=>match za7 P e with
  |some (b,_)=>match P.underlying kt with
   |some (.int k)=>some (some k,b)
   |some (.array _ _)=>some (none,b)
   |_=>none
  |none=>none
 |_=>none
def zfR(P:Program)(t:TypeId)(mem:List Res)(v k:AV)(o:Option (List AV))(K:MK)(res:AV):Prop:=
 match v with
 | .map id=>nthK mem id λr=>match r with
  | .map kk ag f=>match zhU P t with
   |some (_,ag')=>tt (ag==ag') (zjh P t kk k λkey=>K (mem.set id (.map kk ag (updF f key o))) res)
   |none=>False
  |_=>False
 |_=>False
theorem zfe{P:Program}{t:TypeId}{mem:List Res}{v k:AV}{o:Option (List AV)}{res:AV}:zaI (λK=>zfR P t mem v k o K res):=by
 unfold zfR;split
 .rename_i id;refine za0.bind (U:=λ(r:Res) (K:List Res×AV->Prop)=>match r with
   | .map kk ag f=>match zhU P t with
    |some (_,ag')=>tt (ag==ag') (zjh P t kk k λkey=>K (mem.set id (.map kk ag (updF f key o)),res))
    |none=>False
   |_=>False) λr=>?_
  split
  .split
   .exact Nice.tt (zh0.map _)
   .exact Nice.no
  .exact Nice.no
 .exact zaI.no
def zp0(mem:List Res)(v:AV)(K:MK):Prop:=
 match v with
 | .box id 0=>nthK mem id λr=>match r with
  | .siter s pos=>(decide (pos<s.size)=true->Vc (zaG s pos<128)/\K (mem.set id (.siter s (pos+1))) (.tup [.v (.bool true),.v (.int .i64 pos),.v (.int .i32 (zaG s pos))]))/\(decide (pos<s.size)=false->K mem (.tup [.v (.bool false)]))
  |_=>False
 |_=>False
theorem zmv{mem:List Res}{v:AV}:zaI (zp0 mem v):=by
 unfold zp0;split
 .rename_i id;refine za0.bind (U:=λ(r:Res) (K:List Res×AV->Prop)=>match r with
   | .siter s pos=>(decide (pos<s.size)=true->Vc (zaG s pos<128)/\K (mem.set id (.siter s (pos+1)),.tup [.v (.bool true),.v (.int .i64 pos),.v (.int .i32 (zaG s pos))]))/\(decide (pos<s.size)=false->K (mem,.tup [.v (.bool false)]))
   |_=>False) λr=>?_
  split
  .exact Nice.if (Nice.and (Nice.at _)) (Nice.at _)
  .exact Nice.no
 .exact zaI.no
inductive StopNext (f:Value->Option (List AV)) (seen:Value->Bool) (K:Value->Prop) (K2:Prop):Prop
 |mk (h1: ∀k l,f k=some l->seen k=false->K k) (h2:(∀k,f k≠none->seen k=true)->K2):StopNext f seen K K2
def updS(seen:Value->Bool)(k:Value):Value->Bool:=λq=>match zcW q k with
 |true=>true
 |false=>seen q
def nextM(mem:List Res)(v:AV)(K:MK):Prop:=
 match v with
 | .box it 0=>nthK mem it λr=>match r with
  | .alias mid=>nthK mem mid λq=>match q with
   | .miter it' kk ag f seen _=>tt (Nat.beq it' it) (StopNext f seen (λk=>K (mem.set mid (.miter it kk ag f (updS seen k) (some k))) (.tup [.v (.bool true),.v k,.any])) (K (mem.set mid (.map kk ag f)) (.tup [.v (.bool false)])))
   |_=>False
  |_=>False
 |_=>False
def zeJ(P:Program)(mt:Mut)(fr:List (Nat×AV))(mem:List Res)(args:List Operand)(ts:List TypeId)(K:MK):Prop:=
 match args with
 |[x,y]=>match ts with
  |[t,t']=>match zf8 P t with
   |some (e,sz,z,by_)=>fzN sz λsz=>fzB by_ λby_=>tt (Nat.beq z sz) (tt (Nat.blt 0 sz) (evV fr x λv=>evV fr y λu=>srcK P t' sz u mem λfree rows2=>appV mt t e sz by_ v mem free rows2 K))
   |none=>False
  |_=>False
 |_=>False
theorem ziw{P:Program}{mt:Mut}{fr:List (Nat×AV)}{mem:List Res}{args:List Operand}{ts:List TypeId}:zaI (zeJ P mt fr mem args ts):=by
 unfold zeJ;split
 .split
  .split
   .refine zaI.congr ?_ λK=>by simp only[fzN_eq,fzB_eq,evV_eq];try rfl
    exact zaI.tt (zaI.tt (zn2 (U:=λb r (K:List Res×AV->Prop)=>appV mt _ _ _ _ _ mem b r λm v=>K (m,v)) λb r=>znc))
   .exact zaI.no
  .exact zaI.no
 .exact zaI.no
def zgh(P:Program)(fr:List (Nat×AV))(mem:List Res)(args:List Operand)(ts:List TypeId)(K:MK):Prop:=
 match args with
 |[x,y]=>match ts with
  |t::_=>evV fr x λv=>evV fr y λk=>zfR P t mem v k none K (.v (.tuple #[]))
  |_=>False
 |_=>False
def zhQ(P:Program)(fr:List (Nat×AV))(mem:List Res)(args:List Operand)(ts:List TypeId)(K:MK):Prop:=
 match args with
 |[x]=>match ts with
  |[t]=>evV fr x λv=>match v with
   | .map id=>nthK mem id λr=>match r with
    | .map kk ag _=>tt (zhU P t).isSome (K (mem.set id (.map kk ag λ_=>none)) (.v (.tuple #[])))
    |_=>False
   | .tl id g sz i n=>nthK mem id λr=>match r with
    | .arr fr E s g' rows=>match zf8 P t with
     |some (e,sz',_,_)=>match zd1 P e with
      |some zv=>tt (Nat.beq E e&&Nat.blt E 1099511627776) (tt (Nat.beq s sz) (tt (Nat.beq sz' sz) (tt (Nat.blt 0 sz) (tt (Nat.beq g g') (tt (Nat.beq zv.cells.size sz) (tt (zv.cells.toList.all Value.oneCell') (K (mem.set id (.arr fr E s g (rows.take i++List.replicate (n-i) (zv.cells.toList.map .v)++rows.drop n))) (.v (.tuple #[])))))))))
      |none=>False
     |none=>False
    |_=>False
   |_=>False
  |_=>False
 |_=>False
theorem zjs{P:Program}{fr:List (Nat×AV)}{mem:List Res}{args:List Operand}{ts:List TypeId}:zaI (zhQ P fr mem args ts):=by
 unfold zhQ;split
 .split
  .refine zaI.congr ?_ λK=>evV_eq;split
   .rename_i id _;refine za0.bind (U:=λ(r:Res) (K:List Res×AV->Prop)=>match r with
     | .map kk ag _=>tt (zhU P _).isSome (K (mem.set id (.map kk ag λ_=>none),.v (.tuple #[])))
     |_=>False) λr=>?_
    split<;>first|exact Nice.tt (Nice.at _)|exact Nice.no
   .rename_i t id g sz i n _;refine za0.bind (U:=λ(r:Res) (K:List Res×AV->Prop)=>match r with
     | .arr fr E s g' rows=>match zf8 P _ with
      |some (e,sz',_,_)=>match zd1 P e with
       |some zv=>tt (Nat.beq E e&&Nat.blt E 1099511627776) (tt (Nat.beq s sz) (tt (Nat.beq sz' sz) (tt (Nat.blt 0 sz) (tt (Nat.beq g g') (tt (Nat.beq zv.cells.size sz) (tt (zv.cells.toList.all Value.oneCell') (K (mem.set id (.arr fr E s g (rows.take i++List.replicate (n-i) (zv.cells.toList.map .v)++rows.drop n)),.v (.tuple #[])))))))))
       |none=>False
      |none=>False
     |_=>False) λr=>?_
    repeat' split
    all_goals first|exact Nice.no|exact Nice.tt (Nice.tt (Nice.tt (Nice.tt (Nice.tt (Nice.tt (Nice.tt (Nice.at _)))))))
   .exact zaI.no
  .exact zaI.no
 .exact zaI.no
def nilEq(op:BinOp)(rows:List (List AV))(mem:List Res)(K:MK):Prop:=
 match op with
 | .eql=> ∀b:Bool,(b=true->rows=[])->K mem (.v (.bool b))
 | .neq=> ∀b:Bool,(b=true->rows=[])->K mem (.v (.bool (neg b)))
 |_=>False
def vm(P:Program)(mt:Mut)(fr:List (Nat×AV))(mem:List Res)(op:Op)(K:MK):Prop:=
 match op with
 | .box _ x=>evV fr x λv=>zcy v λl=>K (mem++[.cells l]) (.box mem.length 0)
 | .alloc t=>match zd1 P t with
  |some z=>fz (ofV z) λv=>zcy v λl=>K (mem++[.cells l]) (.box mem.length 0)
  |none=>False
 | .store t p x=>evV fr p λv=>evV fr x λy=>zcy y λlx=>stV (za7 P t) mem v lx K
 | .buildSlice t len parts=>match zf8 P t with
  |some (e,sz,z,_)=>fzN sz λsz=>tt (Nat.beq z sz) (tt (Nat.blt 0 sz) (tt (Nat.ble (len*sz) 16777216) (zix sz fr 0 parts.toList λrows=>tt (Nat.beq len rows.length) (match freeR rows with
   |true=>zhy mt t e sz mem true (viewR rows) len K
   |false=>zhy mt t e sz mem false rows len K))))
  |none=>False
 | .makeSlice t l c=>match zf8 P t with
  |some (e,sz,z,by_)=>fzN sz λsz=>tt (Nat.beq z sz) (tt (Nat.blt 0 sz) (match zd1 P e with
   |some zv=>evV fr l λl=>evV fr c λc=>match l with
    | .v (.int _ l)=>match c with
     | .v (.int _ c)=>Vc (0<=l/\c=l/\l*by_<=281474976710656/\l<=4611686018427387904)/\tt (zv.cells.toList.all Value.oneCell') (match modeT mt t with
      |some false=>K (mem++[.arr false e sz 0 (List.replicate l.toNat (zv.cells.toList.map .v))]) (.arr mem.length 0 l.toNat)
      |_=>K (mem++[.arr true e sz 0 (List.replicate l.toNat (zv.cells.toList.map .v))]) (.arr mem.length 0 l.toNat))
     |_=>False
    |_=>False
   |none=>False))
  |none=>False
 | .convert t u x=>evV fr x λv=>match v with
  | .v (.string s)=>match modeT mt u with
   |some _=>tt (zgP P t) (tt (zej P u) (Vc (s.size<=maxLen)/\K (mem++[.arr true 1099511627776 1 0 (za4 s)]) (.arr mem.length 0 s.size)))
   |none=>tt (zgP P t) (tt (zej P u) (Vc (s.size<=maxLen)/\K mem (.sl 1 (za4 s) none)))
  |_=>False
 | .makeMap t r=>match r with
  |none=>match zhU P t with
   |some (kk,ag)=>K (mem++[.map kk ag λ_=>none]) (.map mem.length)
   |none=>False
  |some _=>False
 | .mapUpdate t m k x=>evV fr m λv=>evV fr k λk=>evV fr x λy=>zcy y λl=>tt (zj3 l) (match zp9 P t with
  |some (_,b,sz)=>tt (b==aggV y) (tt (Nat.beq l.length sz) (zfR P t mem v k (some (viewL l)) K .any))
  |none=>False)
 | .range t x=>evV fr x λv=>match v with
  | .v (.string s)=>tt (zgP P t) (K (mem++[.siter s 0]) (.box mem.length 0))
  | .map id=>nthK mem id λr=>match r with
   | .map kk ag f=>tt (zhU P t).isSome (K (mem.set id (.miter mem.length kk ag f (λ_=>false) none)++[.alias id]) (.box mem.length 0))
   |_=>False
  |_=>False
 | .next x isS=>match isS with
  |true=>evV fr x λv=>zp0 mem v K
  |false=>evV fr x λv=>nextM mem v K
 | .binOp op t x y _=>evV fr x λv=>evV fr y λu=>match u with
  | .v (.slice none 0 0)=>match v with
   | .sl _ rows _=>tt (isSl P t) (nilEq op rows mem K)
   | .v (.slice none 0 0)=>tt (isSl P t) (binN op true (K mem))
   |_=>False
  |_=>False
 | .call c=>match c.callee with
  | .builtin .append=>zeJ P mt fr mem c.args.toList c.argTypes.toList K
  | .builtin .delete=>zgh P fr mem c.args.toList c.argTypes.toList K
  | .builtin .clear=>zhQ P fr mem c.args.toList c.argTypes.toList K
  |_=>False
 |_=>False
def memOp(P:Program)(op:Op):Bool:=
 match op with
 | .box _ _| .alloc _| .store _ _ _| .buildSlice _ _ _| .makeSlice _ _ _| .makeMap _ _| .mapUpdate _ _ _ _| .range _ _| .next _ _=>true
 | .convert _ u _=>zej P u
 | .binOp _ t _ _ _=>isSl P t
 | .call c=>match c.callee with
  | .builtin .append| .builtin .delete| .builtin .clear=>true
  |_=>false
 |_=>false
def oneOp:Op->Bool
 | .binOp _ _ _ _ _=>false
 | .next _ isS=>isS
 |_=>true
theorem vm_nice{P:Program}{mt:Mut}{fr:List (Nat×AV)}{mem:List Res}{op:Op}(h:oneOp op=true):zaI (vm P mt fr mem op):=by
 cases op
 case box t x=>exact zaI.congr (T:=λK=>zcy _ λl=>K (mem++[Res.cells l]) (.box mem.length 0)) (zaI.bind (U:=λ(l:List AV) (K:MK)=>K (mem++[Res.cells l]) (.box mem.length 0)) zbi λl=>zaI.at _ _) λK=>evV_eq
 case alloc t=>
  show zaI (λK=>vm P mt fr mem (.alloc t) K);simp only[vm];split
  .exact zaI.congr (T:=λK=>zcy _ λl=>K (mem++[Res.cells l]) (.box mem.length 0)) (zaI.bind (U:=λ(l:List AV) (K:MK)=>K (mem++[Res.cells l]) (.box mem.length 0)) zbi λl=>zaI.at _ _) λK=>by simp only[fz_eq];try rfl
  .exact zaI.no
 case store t p x=>exact zaI.congr (zaI.bind zbi λl=>stV_nice) λK=>by simp only[vm,evV_eq];try rfl
 case buildSlice t len parts=>
  show zaI (λK=>vm P mt fr mem (.buildSlice t len parts) K);simp only[vm];split
  .refine zaI.congr ?_ λK=>by simp only[fzN_eq];try rfl
   refine zaI.tt (zaI.tt (zaI.tt (zaI.bind zfC λrows=>zaI.tt ?_)));split<;>exact zhZ
  .exact zaI.no
 case makeSlice t l c=>
  show zaI (λK=>vm P mt fr mem (.makeSlice t l c) K);simp only[vm];split
  .refine zaI.congr ?_ λK=>by simp only[fzN_eq,evV_eq];try rfl
   refine zaI.tt (zaI.tt ?_);repeat' split
   all_goals first|exact zaI.no|exact zaI.and (zaI.tt (zaI.at _ _))
  .exact zaI.no
 case convert t u x=>
  refine zaI.congr ?_ λK=>evV_eq;split
  .split
   .exact zaI.tt (zaI.tt (zaI.and (zaI.at _ _)))
   .exact zaI.tt (zaI.tt (zaI.and (zaI.at _ _)))
  .exact zaI.no
 case makeMap t r=>
  show zaI (λK=>vm P mt fr mem (.makeMap t r) K);simp only[vm];split
  .split<;>first|exact zaI.at _ _|exact zaI.no
  .exact zaI.no
 case mapUpdate t m k x=>
  refine zaI.congr (zaI.bind zbi λl=>zaI.tt ?_) λK=>by simp only[vm,evV_eq];try rfl
  split
  .exact zaI.tt (zaI.tt zfe)
  .exact zaI.no
 case range t x=>
  refine zaI.congr ?_ λK=>evV_eq;split
  .exact zaI.tt (zaI.at _ _)
  .rename_i id _;refine za0.bind (U:=λ(r:Res) (K:List Res×AV->Prop)=>match r with
    | .map kk ag f=>tt (zhU P t).isSome (K (mem.set id (.miter mem.length kk ag f (λ_=>false) none)++[.alias id],.box mem.length 0))
    |_=>False) λr=>?_
   split<;>first|exact Nice.tt (Nice.at _)|exact Nice.no
  .exact zaI.no
 case next x s=>
  cases s with
  |true=>exact zaI.congr zmv λK=>evV_eq
  |false=>cases h
 case binOp=>cases h
 case call c=>
  obtain⟨callee,args,ats⟩:=c;cases callee with
  |builtin b=>
   cases b
   case append=>exact ziw
   case delete=>
    show zaI (zgh P fr mem args.toList ats.toList);unfold zgh;repeat' split
    all_goals first|exact zaI.no|exact zaI.congr zfe λK=>by simp only[evV_eq];try rfl
   case clear=>exact zjs
   all_goals exact zaI.no
  |_=>exact zaI.no
 all_goals exact zaI.no
end Go.Proofs.YtimfnpjcedjmiadGreat
namespace Go.Proofs.YtimfnpjcedjmiadGreat
open Go.RowKit
section
variable {P:Program} {n:Nat} {fp:Nat->Prop} {w0:Start} {σ:zaM} {μ:zaJ} {Ds:Nat->Nat->Prop} {A:AS} {a:Act} {w:World} {K:MK}
 {dst:Option Tmp} {ty:TypeId} {pos:String} {after:Array Edge} {guard:Option (Nat×Bool)} {Q:Exit->Act->World->Prop}
def zeN(n:Nat)(fp:Nat->Prop)(w0:Start)(A:AS)(a:Act)(dst:Option Tmp)(K:MK):Act->World->Prop:=
 λa' w'=> ∃m' av x σ' μ' Ds',a'=a.put dst x/\RepV σ' μ' av x/\Rel n fp w0 σ' μ' Ds' ⟨A.fr,m'⟩ a w'/\K m' av
theorem zac{o:Oper}{x:Value}{av:AV}{m':List Res}{σ':zaM}{μ':zaJ}{Ds':Nat->Nat->Prop}{w':World}
  (hr:(execOp a.eval o).run P w=.ok (.value x) w') (h:Rel n fp w0 σ' μ' Ds' ⟨A.fr,m'⟩ a w') (hx:RepV σ' μ' av x) (hK:K m' av):o.wp P a w (zeN n fp w0 A a o.dst K) Q:=by
 unfold Oper.wp;rw[hr];exact⟨_,_,_,_,_,_,rfl,hx,h,hK⟩
theorem zhl{o:Oper}{m':List Res}{σ':zaM}{μ':zaJ}{Ds':Nat->Nat->Prop}{w':World}
  (hr:(execOp a.eval o).run P w=.ok .skip w') (h:Rel n fp w0 σ' μ' Ds' ⟨A.fr,m'⟩ a w') (hK:K m' .any):o.wp P a w (zeN n fp w0 A a o.dst K) Q:=by
 unfold Oper.wp;rw[hr];exact⟨_,_,undef,_,_,_,rfl,.any _ _,h,hK⟩
theorem putR_new{m:List Res}{r:Res}:putR m m.length r=m++[r]:=by simp [putR]
theorem zb9{m:List Res}{id:Nat}{r:Res}(h:id<m.length):putR m id r=m.set id r:=by simp [putR,h]
theorem Rel.new(h:Rel n fp w0 σ μ Ds A a w){r:Res}{D:Nat->Prop}{an:An}{σ':zaM}{w':World}
  (hsz:w.heap.size<=w'.heap.size) (hos:w'.os=w.os) (htape:w'.tape=w.tape) (hout:w'.output=w.output)
  (hfr: ∀b,b<w.heap.size->w'.heap[b]? =w.heap[b]? /\ ∀o,σ' b o=σ b o) (hag:zed σ' w')
  (hr:ROk σ' (updG μ A.mem.length an) w' A.mem.length D r) (hD: ∀b,D b->w.heap.size<=b):
  Rel n fp w0 σ' (updG μ A.mem.length an) (updD Ds A.mem.length D) ⟨A.fr,A.mem++[r]⟩ a w':=by
 have:=h.upd (id:=A.mem.length) (r:=r) (D:=D) (an:=an) (Nat.le_refl _) hsz hos htape hout (λb hb _=>hfr b hb) (λb o y hy=>by rw[(hfr b (h.agree.lt hy)).2];exact hy) hag hr (λb hb=>.inr (hD b hb))
  (λx hx=>by rw[(h.mem.out _ (Nat.le_refl _)).1] at hx;cases hx)
 rw[putR_new] at this;exact this
theorem updG_self{id:Nat}{an:An}:updG μ id an id=some an:=by simp [updG]
theorem Rel.none_new(h:Rel n fp w0 σ μ Ds A a w){b o:Nat}(hb:w.heap.size<=b):σ b o=none:=by
 cases ho:σ b o with
 |none=>rfl
 |some y=>exact absurd (h.agree.lt ho) (by omega)
theorem Rel.gle_new(h:Rel n fp w0 σ μ Ds A a w)(an:An):Gle μ (updG μ A.mem.length an):=zeG λx hx=>by rw[(h.mem.out _ (Nat.le_refl _)).1] at hx;cases hx
theorem zed.alloc{o:Obj}(h:zed σ w):zed σ (w.alloc o):=λb k y hy=>by
 rw[World.cell?_alloc_past _ _ _ (h.lt hy)];exact h b k y hy
theorem Rel.boxed(h:Rel n fp w0 σ μ Ds A a w){l:List AV}{cs:Array Value}(T:TypeId)(hl:cs.size=l.length)(hr: ∀(i:Nat) (av:AV),l[i]? =some av-> ∃y,cs[i]? =some y/\RepV σ μ av y):
  Rel n fp w0 σ (updG μ A.mem.length (.fix (.pointer (some ⟨w.heap.size,0,none⟩)))) (updD Ds A.mem.length (· =w.heap.size)) ⟨A.fr,A.mem++[.cells l]⟩ a (w.alloc (.cells cs T)):=by
 refine h.new (by simp) rfl rfl rfl (λb hb=>⟨Below.heap_alloc w _ b hb,λ_=>rfl⟩) h.agree.alloc ?_ (λb hb=>by subst hb;exact Nat.le_refl _);exact⟨w.heap.size,cs,T,updG_self,heap_alloc_new w _,hl,λi av hi=>let ⟨y,hy,g⟩:=hr i av hi;⟨y,hy,g.mono (λ_ _ _ h=>h) (h.gle_new _)⟩,λo=>h.none_new (Nat.le_refl _),λk=>Iff.rfl⟩
theorem Rel.newArr(h:Rel n fp w0 σ μ Ds A a w){f:Bool}{E sz:Nat}{rows:List (List AV)}{ao:Option Addr}{cap:Nat}{xs:List Value}{w':World}
  (hsz:w.heap.size<=w'.heap.size) (hos:w'.os=w.os) (htape:w'.tape=w.tape) (hout:w'.output=w.output) (hfr: ∀b,b<w.heap.size->w'.heap[b]? =w.heap[b]?)
  (hown:w'.ownsRow 0 E sz (.slice ao rows.length cap) rows.length xs) (hb: ∀k,blkA ao=some k->w.heap.size<=k) (hrow: ∀r,r∈rows->r.length=sz)
  (hin: ∀(i j:Nat) (r:List AV) (av:AV),rows[i]? =some r->r[j]? =some av-> ∃y,xs[i*sz+j]? =some y/\RepV σ (gOf f μ) av y/\y.oneCell'=true):
  Rel n fp w0 σ (updG μ A.mem.length (.cur ao rows.length cap 0)) (updD Ds A.mem.length (λk=>blkA ao=some k)) ⟨A.fr,A.mem++[.arr f E sz 0 rows]⟩ a w':=by
 refine h.new hsz hos htape hout (λb hb=>⟨hfr b hb,λ_=>rfl⟩) (λb o y hy=>?_) ?_ (λb hb'=>hb b hb')
 .exact Y71
 .exact⟨ao,cap,xs,updG_self,zlX hown,hrow,λi j r av g1 g2=>let ⟨y,y1,y2,y3⟩:=hin i j r av g1 g2;⟨y,y1,y2.mono (λ_ _ _ h=>h) (zcq (h.gle_new _)),y3⟩,λk hk o=>h.none_new (hb k hk),λk=>Iff.rfl⟩
theorem Rel.newArrA(h:Rel n fp w0 σ μ Ds A a w){f:Bool}{E sz:Nat}{rows:List (List AV)}{ao:Option Addr}{cap:Nat}{xs:List Value}{w':World}
  (hsz:w.heap.size<=w'.heap.size) (hos:w'.os=w.os) (htape:w'.tape=w.tape) (hout:w'.output=w.output) (hfr: ∀b,b<w.heap.size->w'.heap[b]? =w.heap[b]?)
  (hown:ownA w' E sz (.slice ao rows.length cap) rows.length xs) (hb: ∀k,blkA ao=some k->w.heap.size<=k) (hrow: ∀r,r∈rows->r.length=sz)
  (hin: ∀(i j:Nat) (r:List AV) (av:AV),rows[i]? =some r->r[j]? =some av-> ∃y,xs[i*sz+j]? =some y/\RepV σ (gOf f μ) av y/\y.oneCell'=true):
  Rel n fp w0 σ (updG μ A.mem.length (.cur ao rows.length cap 0)) (updD Ds A.mem.length (λk=>blkA ao=some k)) ⟨A.fr,A.mem++[.arr f E sz 0 rows]⟩ a w':=by
 refine h.new hsz hos htape hout (λb hb=>⟨hfr b hb,λ_=>rfl⟩) (λb o y hy=>?_) ?_ (λb hb'=>hb b hb')
 .exact Y71
 .exact⟨ao,cap,xs,updG_self,hown,hrow,λi j r av g1 g2=>let ⟨y,y1,y2,y3⟩:=hin i j r av g1 g2;⟨y,y1,y2.mono (λ_ _ _ h=>h) (zcq (h.gle_new _)),y3⟩,λk hk o=>h.none_new (hb k hk),λk=>Iff.rfl⟩
def zab(σ:zaM)(ao:Option Addr)(m:Nat)(ys:List Value):zaM:=λb o=>if blkA ao=some b then (if o<m then ys[o]? else none) else σ b o
theorem Rel.newGrow(h:Rel n fp w0 σ μ Ds A a w){E sz m:Nat}{ao:Option Addr}{cap:Nat}{xs:List Value}{w':World}
  (hsz:w.heap.size<=w'.heap.size) (hos:w'.os=w.os) (htape:w'.tape=w.tape) (hout:w'.output=w.output) (hfr: ∀b,b<w.heap.size->w'.heap[b]? =w.heap[b]?)
  (hown:w'.ownsRow 0 E sz (.slice ao m cap) m xs) (hb: ∀k,blkA ao=some k->w.heap.size<=k):
  Rel n fp w0 (zab σ ao (m*sz) xs) (updG μ A.mem.length (.cur ao m cap 0)) (updD Ds A.mem.length (λk=>blkA ao=some k)) ⟨A.fr,A.mem++[.grow E sz 0]⟩ a w':=by
 have hold: ∀b,b<w.heap.size-> ∀o,zab σ ao (m*sz) xs b o=σ b o:=λb hb' o=>by
  unfold zab;rw[if_neg];intro e;have:=hb b e;omega
 refine h.new hsz hos htape hout (λb hb'=>⟨hfr b hb',hold b hb'⟩) (λb o y hy=>?_) ?_ (λb hb'=>hb b hb')
 .unfold zab at hy;split at hy
  .rename_i hk;split at hy
   .exact zbn hown hk hy
   .cases hy
  .exact Y71
 .exact⟨ao,m,cap,xs,updG_self,hown,λk hk o ho=>by unfold zab;rw[if_pos hk,if_neg (by omega)],λk=>Iff.rfl⟩
theorem zjz{rows:List (List AV)}{E sz cap:Nat}{ao:Option Addr}{xs:List Value}{σ':zaM}{μ':zaJ}{w':World}{id g:Nat}{an:An}(hown:w'.ownsRow 0 E sz (.slice ao rows.length cap) rows.length xs)(hcap:rows.length<=cap/\cap<=maxLen)
  (hrow: ∀r,r∈rows->r.length=sz) (hs: ∀k o x,blkA ao=some k->xs[o]? =some x->σ' k o=some x)
  (hin: ∀(i j:Nat) (r:List AV) (av:AV),rows[i]? =some r->r[j]? =some av-> ∃y,xs[i*sz+j]? =some y/\RepV σ' noG av y/\y.oneCell'=true) (hm:μ' id=some an) (hle:(An.cur ao rows.length cap g).le an):
  RepV σ' μ' (.sl sz rows (some (id,g))) (.slice ao rows.length cap):=by
 have hf: ∀(i j:Nat) (r:List AV) (av:AV),rows[i]? =some r->r[j]? =some av->xs[i*sz+j]? =some (xs.getD (i*sz+j) undef)/\RepV σ' noG av (xs.getD (i*sz+j) undef)/\(xs.getD (i*sz+j) undef).oneCell'=true:=by
  intro i j r av g1 g2;obtain⟨y,y1,y2,y3⟩:=hin i j r av g1 g2;rw[List.getD_eq_getElem?_getD,y1];exact⟨rfl,y2,y3⟩
 rcases hown.2 with⟨e,h0⟩|⟨b,cp,cur,e,_⟩
 .have:rows=[]:=List.eq_nil_of_length_eq_zero h0;subst this;exact .sl _ sz [] _ ao cap 0 0 (λ_ _=>undef) hcap.1 hcap.2 (.inl rfl) hrow (λi j r av g=>by simp at g) (λi j r av g=>by simp at g) (λi j r av g=>by simp at g) (λid' g' e'=>by cases e';exact⟨an,hm,hle⟩)
 .simp only[Value.slice.injEq] at e;obtain⟨rfl,_,_⟩:=e;exact .sl _ sz rows _ _ cap b 0 (λi j=>xs.getD (i*sz+j) undef) hcap.1 hcap.2 (.inr rfl) hrow (λi j r av g1 g2=>by rw[Nat.zero_add];exact hs b _ _ rfl (hf i j r av g1 g2).1) (λi j r av g1 g2=>(hf i j r av g1 g2).2.1) (λi j r av g1 g2=>(hf i j r av g1 g2).2.2) (λid' g' e'=>by cases e';exact⟨an,hm,hle⟩)
theorem RepV.view{av:AV}{x:Value}(h:RepV σ μ av x):RepV σ μ av.view x:=by
 cases av with
 |sl sz rows o=>
  cases h with
  |sl _ _ _ _ ao cap b off f hcap hmax hao hrow hst hr hone hown=>exact .sl _ sz rows none ao cap b off f hcap hmax hao hrow hst hr hone (λid g h=>by cases h)
 |_=>exact h
theorem viewL_eq: ∀(l:List AV),viewL l=l.map AV.view
 |[]=>rfl
 |a::l=>by simp [viewL,viewL_eq l]
theorem zgI: ∀(l:List (List AV)),viewR l=l.map viewL
 |[]=>rfl
 |a::l=>by simp [viewR,zgI l]
theorem zeo: ∀{l:List AV},zj3 l=true-> ∀a,a∈l->a.view.free0=true
 |[],_,a,h=>by cases h
 |b::l,hf,a,h=>by
  unfold zj3 at hf;split at hf
  .rename_i hb;rcases List.mem_cons.1 h with rfl|h
   .exact hb
   .exact zeo hf a h
  .cases hf
theorem zjy: ∀{l:List (List AV)},freeR l=true-> ∀r,r∈l->zj3 r=true
 |[],_,a,h=>by cases h
 |b::l,hf,a,h=>by
  unfold freeR at hf;split at hf
  .rename_i hb;rcases List.mem_cons.1 h with rfl|h
   .exact hb
   .exact zjy hf a h
  .cases hf
theorem zeC(h:Rel n fp w0 σ μ Ds A a w){mt:Mut}{t E sz:Nat}{free:Bool}{rows:List (List AV)}{ao:Option Addr}{cap:Nat}{xs:List Value}{w':World}{o:Oper}
  (hsz:w.heap.size<=w'.heap.size) (hos:w'.os=w.os) (htape:w'.tape=w.tape) (hout:w'.output=w.output) (hfr: ∀b,b<w.heap.size->w'.heap[b]? =w.heap[b]?)
  (hown:w'.ownsRow 0 E sz (.slice ao rows.length cap) rows.length xs) (hcap:rows.length<=cap/\cap<=maxLen) (hb: ∀k,blkA ao=some k->w.heap.size<=k) (hrow: ∀r,r∈rows->r.length=sz)
  (hin: ∀(i j:Nat) (r:List AV) (av:AV),rows[i]? =some r->r[j]? =some av-> ∃y,xs[i*sz+j]? =some y/\RepV σ (gOf free μ) av y/\y.oneCell'=true)
  (hr:(execOp a.eval o).run P w=.ok (.value (.slice ao rows.length cap)) w') (hq:zhy mt t E sz A.mem free rows rows.length K):o.wp P a w (zeN n fp w0 A a o.dst K) Q:=by
 have hinF: ∀(i j:Nat) (r:List AV) (av:AV),rows[i]? =some r->r[j]? =some av-> ∃y,xs[i*sz+j]? =some y/\RepV σ (gOf false μ) av y/\y.oneCell'=true:=λi j r av g1 g2=>by
  obtain⟨y,y1,y2,y3⟩:=hin i j r av g1 g2;refine⟨y,y1,?_,y3⟩;cases free with
  |true=>exact RepV.lift y2
  |false=>exact y2
 have arrF:K (A.mem++[.arr false E sz 0 rows]) (.arr A.mem.length 0 rows.length)->o.wp P a w (zeN n fp w0 A a o.dst K) Q:=λhK=>
  zac hr (h.newArr hsz hos htape hout hfr hown hb hrow hinF) (.arr _ _ _ _ ao rows.length cap _ (Nat.le_refl _) hcap.1 hcap.2 updG_self (An.le_refl _)) hK
 unfold zhy at hq;split at hq
 .split at hq
  .refine zac hr (h.newGrow (E:=E) hsz hos htape hout hfr hown hb) ?_ hq;refine zjz hown hcap hrow (λk o x hk hx=>?_) (λi j r av g1 g2=>?_) updG_self (An.le_refl _)
   .unfold zab;have:=(List.getElem?_eq_some_iff.1 hx).1;rw[hown.1] at this;rw[if_pos hk,if_pos this];exact hx
   .obtain⟨y,y1,y2,y3⟩:=hin i j r av g1 g2;refine⟨y,y1,RepV.mono y2 (λb o y hy=>?_) (Gle.refl _),y3⟩;unfold zab;rw[if_neg]
    .exact hy
    .intro e;have:=hb b e;have:=h.agree.lt hy;omega
  .exact arrF hq
 .split at hq
  .obtain⟨hfree,hK⟩:=zaB hq;subst hfree;exact zac hr (h.newArr hsz hos htape hout hfr hown hb hrow hin) (.arr _ _ _ _ ao rows.length cap _ (Nat.le_refl _) hcap.1 hcap.2 updG_self (An.le_refl _)) hK
  .exact arrF hq
end
end Go.Proofs.YtimfnpjcedjmiadGreat
namespace Go.Proofs.YtimfnpjcedjmiadGreat
open Go.RowKit
section
variable {P:Program} {n:Nat} {fp:Nat->Prop} {w0:Start} {σ:zaM} {μ:zaJ} {Ds:Nat->Nat->Prop} {A:AS} {a:Act} {w:World} {K:MK}
 {dst:Option Tmp} {ty:TypeId} {pos:String} {after:Array Edge} {guard:Option (Nat×Bool)} {Q:Exit->Act->World->Prop}
theorem get3{α:Type}{l lx:List α}{c:List Value}{cx:List Value}{off:Nat}(hl:l.length=c.length)(hx:lx.length=cx.length)(hfit:off+lx.length<=l.length){R:α->Value->Prop}
  (h1: ∀(i:Nat) (u:α),l[i]? =some u-> ∃y,c[i]? =some y/\R u y) (h2: ∀(i:Nat) (u:α),lx[i]? =some u-> ∃y,cx[i]? =some y/\R u y):
  ∀(i:Nat) (u:α),(l.take off++lx++l.drop (off+lx.length))[i]? =some u-> ∃y,(c.take off++cx++c.drop (off+cx.length))[i]? =some y/\R u y:=by
 intro i u hi;rw[List.append_assoc,List.getElem?_append] at hi;rw[List.append_assoc,List.getElem?_append];have e1:(l.take off).length=off:=by simp;omega
 have e2:(c.take off).length=off:=by simp;omega
 rw[e1] at hi;rw[e2];split at hi
 .rename_i hlt;rw[if_pos hlt];rw[List.getElem?_take,if_pos hlt] at hi ⊢;exact h1 i u hi
 .rename_i hge;rw[if_neg hge];rw[List.getElem?_append] at hi ⊢;rw[<-hx];split at hi
  .rename_i h3;rw[if_pos h3];exact h2 _ u hi
  .rename_i h3;rw[if_neg h3];rw[List.getElem?_drop] at hi ⊢;exact h1 _ u hi
theorem zbc(P:Program)(g o:Nat)(t:TypeId)(fz:Nat×Nat): ∀(vs:List Value) (i:Nat) (cur:Array Value) (w:World),w.heap[g]? =some (.cells cur t fz)->(fz=(0,0)\/cur.size<=fz.1)->o+i+vs.length<=cur.size->(∀v∈vs,v.oneCell'=true) →
  (storeCells ⟨g,o,none⟩ vs i).run P w=.ok () (w.setRow g (cur.toList.take (o+i)++vs++cur.toList.drop (o+i+vs.length)).toArray)
 |[],i,cur,w,hg,_,_,_=>by
  simp only[storeCells,List.append_nil,List.length_nil,Nat.add_zero,List.take_append_drop,Array.toArray_toList];rw[setRow_self w g cur t fz hg];rfl
 |v::rest,i,cur,w,hg,hfz,hl,h1=>by
  have hi:o+i<cur.size:=by simp at hl;omega
  have hadd:(⟨g,o,none⟩:Addr).add i=⟨g,o+i,none⟩:=by unfold Addr.add;split<;>simp_all
  have hcell:w.cell? ⟨g,o+i,none⟩=some cur[o+i]:=by simp [World.cell?,hg,hi]
  have hfro:w.frozen? ⟨g,o+i,none⟩=false:=by
   obtain⟨lo,hi'⟩:=fz;simp only[World.frozen?,hg,Bool.and_eq_false_iff,decide_eq_false_iff_not];rcases hfz with h|h
   .simp only[Prod.mk.injEq] at h;right;omega
   .left
    simp only at h;omega
  have hst:(store ((⟨g,o,none⟩:Addr).add i) v).run P w=.ok () (w.setRow g (cur.setIfInBounds (o+i) v)):=by
   rw[hadd,run_store P w _ v _ (h1 v (by simp)),hcell];simp [hfro,setCell_eq_setRow w g (o+i) cur t fz v hg]
  have ih:=zbc P g o t fz rest (i+1) (cur.setIfInBounds (o+i) v) (w.setRow g (cur.setIfInBounds (o+i) v)) (setRow_heap w g cur _ t _ hg) (by simpa using hfz) (by simp at hl ⊢;omega) (λx hx=>h1 x (by simp [hx]));simp only[storeCells,Sem.run_bind,hst,Result.andThen_ok,ih,setRow_setRow];congr 3
  have e:=list_seg_step cur.toList (o+i) v rest (by simp at hl ⊢;omega);simpa[Array.toList_setIfInBounds,Nat.add_assoc] using e
theorem st_sound(h:Rel n fp w0 σ μ Ds A a w){t:TypeId}{p x:Operand}{lx:List AV}(hlx:(evO A.fr x).cells=some lx)(hq:stV (za7 P t) A.mem (evO A.fr p) lx K):
  Oper.wp P ⟨dst,.store t p x,ty,pos,after,guard⟩ a w (zeN n fp w0 A a dst K) Q:=by
 have hp:=h.ev p;obtain⟨k1,k2,k3⟩:=(h.ev x).cells hlx;unfold stV at hq;split at hq
 .rename_i bb k hs;obtain⟨hk0,hq1⟩:=zaB hq;have hk:=Nat.eq_of_beq_eq_true hk0;have hsz:=zaR hs w;have run: ∀(b off:Nat) (c:Array Value) (T:TypeId),a.eval p=.pointer (some ⟨b,off,none⟩)-> ∀fz:Nat×Nat,w.heap[b]? =some (.cells c T fz)->(fz=(0,0)\/c.size<=fz.1)->off+lx.length<=c.size →
    (execOp a.eval ⟨dst,.store t p x,ty,pos,after,guard⟩).run P w=.ok .skip (w.setRow b (c.toList.take off++(a.eval x).cells.toList++c.toList.drop (off+(a.eval x).cells.toList.length)).toArray):=by
   intro b off c T hb fz hh hfz hfit;have hst:=zbc P b off T fz (a.eval x).cells.toList 0 c w hh hfz (by simp [k1];omega) k3;simp only[Nat.add_zero] at hst;simp only[execOp,Instr.storeAt,hb,Instr.sureAddr,storeVar,Sem.run_bind,Sem.run_pure,Result.andThen_ok,hsz,hk,k1];simp only[ne_eq,not_true_eq_false,if_false,Sem.run_pure,Result.andThen_ok,hst,k1]
  split at hq1
  .rename_i id off e;obtain⟨r,hr,hq2⟩:=zaH hq1;split at hq2
   .rename_i l;obtain⟨hf0,hq3⟩:=zaB hq2;rw[fzL_eq] at hq3;have hfit:=Nat.le_of_ble_eq_true hf0;rw[e] at hp;obtain⟨b,hb,hmu⟩:=hp.inv_box;obtain⟨b2,c,T,g1,g2,g3,g4,g5,g6⟩:=h.mem.ok id _ hr;rw[hmu] at g1;simp only[Option.some.injEq,An.fix.injEq,Value.pointer.injEq,Addr.mk.injEq,and_true] at g1;subst g1;have hid:=(List.getElem?_eq_some_iff.1 hr).1;have hrel:=h.upd (id:=id) (r:=.cells (l.take off++lx++l.drop (off+lx.length))) (D:=Ds id) (an:=.fix (.pointer (some ⟨b,0,none⟩))) (σ':=σ) (w':=w.setRow b (c.toList.take off++(a.eval x).cells.toList++c.toList.drop (off+(a.eval x).cells.toList.length)).toArray) (Nat.le_of_lt hid) (by simp) rfl rfl rfl
     (λb' hb' hd=>⟨setRow_other w b b' _ (λe=>hd ((g6 b').2 e)),λ_=>rfl⟩) (λ_ _ _ h=>h)
     (λb' o y hy=>by
      have hne:b'≠b:=λe=>by subst e;rw[g5 o] at hy;cases hy
      rw[cell_setRow_other w b _ ⟨b',o,none⟩ hne];exact h.agree b' o y hy)
     (by
      refine⟨b,_,T,updG_self,setRow_heap w b c _ T _ g2,?_,?_,g5,g6⟩
      .simp [k1,g3]
      .have:=get3 (l:=l) (lx:=lx) (c:=c.toList) (cx:=(a.eval x).cells.toList) (off:=off) (by simp [g3]) (by simp [k1]) hfit (R:=λu y=>RepV σ μ u y) (λi u hi=>by simpa using g4 i u hi) (λi u hi=>by simpa using k2 i u hi);intro i av hi;obtain⟨y,hy,hr⟩:=this i av hi;exact⟨y,by rw[List.getElem?_toArray];exact hy,hr.mono (λ_ _ _ h=>h) (zeG λx hx=>by rw[hmu] at hx;obtain rfl:=Option.some.inj hx;exact An.le_refl _)⟩)
     (λb' hb'=>.inl hb') (λx hx=>by rw[hmu] at hx;obtain rfl:=Option.some.inj hx;exact An.le_refl _)
    rw[zb9 hid] at hrel;exact zhl (run b off c T hb _ g2 (.inl rfl) (by omega)) hrel hq3
   .exact hq2.elim
  .rename_i id g sz i o e;obtain⟨r,hr,hq2⟩:=zaH hq1;split at hq2
   .rename_i fr E s g' rows;obtain⟨hs0,hq3⟩:=zaB hq2;obtain⟨hg0,hq4⟩:=zaB hq3;obtain⟨hfree,hq5⟩:=zaB hq4;obtain⟨hf0,hq6⟩:=zaB hq5;have hs:=Nat.eq_of_beq_eq_true hs0;have hg:=Nat.eq_of_beq_eq_true hg0;have hfit:=Nat.le_of_ble_eq_true hf0;subst hs hg;clear hq hq1 hq2 hq3 hq4 hq5;obtain⟨row,hrow,hK⟩:=hq6;rw[e] at hp;obtain⟨b,m,cap,an,hb,hmu,hle⟩:=hp.inv_elt;obtain⟨ao',cap',xs,q1,q2,q3,q4,q5,q6⟩:=h.mem.ok id _ hr;rw[hmu] at q1;obtain rfl:=Option.some.inj q1;obtain⟨_,hle⟩:=hle;obtain⟨rfl,rfl,rfl⟩:=hle rfl;have hid:=(List.getElem?_eq_some_iff.1 hr).1;have hrl:=q3 row (List.mem_of_getElem? hrow);have hilt:i<rows.length:=(List.getElem?_eq_some_iff.1 hrow).1;have hi2:i*s+s<=rows.length*s:=by
     have:(i+1)*s<=rows.length*s:=Nat.mul_le_mul_right _ hilt;rw[Nat.add_mul] at this;omega
    have q2':=q2;rcases q2.2 with⟨e1,_⟩|⟨b2,cp,cur,F,fz,e1,hheap,hnc,hcm,hcs,htake,hFE,hfz⟩
    .simp at e1
    .simp only[Value.slice.injEq,Option.some.injEq,Addr.mk.injEq,and_true,true_and] at e1;obtain⟨rfl,rfl⟩:=e1;have hcsz:rows.length*s<=cur.size:=by rw[hcs];exact Nat.mul_le_mul_right _ hnc
     have hcl:(a.eval x).cells.toList.length=lx.length:=by simp [k1]
     have hset:=zll q2' hheap (off:=i*s+o) (ys:=(a.eval x).cells.toList) (by rw[hcl];omega);have hlen:(rows.set i (row.take o++vwL fr lx++row.drop (o+lx.length))).length=rows.length:=by simp
     have hvl:(vwL fr lx).length=lx.length:=by cases fr<;>simp [vwL,viewL_eq]
     have hrel:=h.upd (id:=id) (r:=.arr fr E s g (rows.set i (row.take o++vwL fr lx++row.drop (o+lx.length)))) (D:=Ds id) (an:=.cur (some ⟨b,0,none⟩) rows.length cap' g) (σ':=σ) (w':=w.setRow b (cur.toList.take (i*s+o)++(a.eval x).cells.toList++cur.toList.drop (i*s+o+(a.eval x).cells.toList.length)).toArray) (Nat.le_of_lt hid) (by simp) rfl rfl rfl
      (λb' hb' hd=>⟨setRow_other w b b' _ (λe=>hd ((q6 b').2 (by rw[e];rfl))),λ_=>rfl⟩) (λ_ _ _ h=>h)
      (λb' o' y hy=>by
       have hne:b'≠b:=λe=>by subst e;rw[q5 b' ((q6 b').2 rfl) o'] at hy;cases hy
       rw[cell_setRow_other w b _ ⟨b',o',none⟩ hne];exact h.agree b' o' y hy)
      (by
       have hgl:Gle μ (updG μ id (.cur (some ⟨b,0,none⟩) rows.length cap' g)):=zeG λx hx=>by rw[hmu] at hx;obtain rfl:=Option.some.inj hx;exact An.le_refl _
       refine⟨some ⟨b,0,none⟩,cap',_,by rw[hlen];exact updG_self,by rw[hlen];exact hset,?_,?_,q5,q6⟩
       .intro r' hr';obtain⟨j,hj,rfl⟩:=List.mem_iff_getElem.1 hr';rw[List.getElem_set];split
        .simp only[List.length_append,List.length_take,List.length_drop,hvl,hrl];omega
        .exact q3 _ (List.getElem_mem _)
       .intro i' j r' av g1 g2;by_cases hii:i=i'
        .subst hii;rw[List.getElem?_set_self hilt] at g1;obtain rfl:=Option.some.inj g1;have:=get3 (l:=row) (lx:=vwL fr lx) (c:=(xs.drop (i*s)).take s) (cx:=(a.eval x).cells.toList) (off:=o) (by simp [hrl,q2.1];omega) (by rw[hvl,hcl]) (by rw[hvl,hrl];exact hfit) (R:=λu y=>RepV σ (gOf fr μ) u y/\y.oneCell'=true)
          (λj' u hj'=>by
           obtain⟨y,y1,y2,y3⟩:=q4 i j' row u hrow hj';have hjs:j'<s:=by rw[<-hrl];exact (List.getElem?_eq_some_iff.1 hj').1
           exact⟨y,by rw[List.getElem?_take,if_pos hjs,List.getElem?_drop];exact y1,y2,y3⟩)
          (λj' u hj'=>by
           cases fr with
           |true=>
            simp only[vwL,viewL_eq,List.getElem?_map,Option.map_eq_some_iff] at hj';obtain⟨u0,hu0,rfl⟩:=hj';obtain⟨y,y1,y2⟩:=k2 j' u0 hu0;exact⟨y,by simpa using y1,(RepV.view y2).free0 (zeo hfree u0 (List.mem_of_getElem? hu0)),k3 y (by simpa using Array.mem_of_getElem? y1)⟩
           |false=>
            obtain⟨y,y1,y2⟩:=k2 j' u hj';exact⟨y,by simpa using y1,y2,k3 y (by simpa using Array.mem_of_getElem? y1)⟩)
         obtain⟨y,y1,y2,y3⟩:=this j av (by rw[hvl];exact g2);refine⟨y,?_,y2.mono (λ_ _ _ h=>h) (zcq hgl),y3⟩;have hjs:j<s:=by
          have:=(List.getElem?_eq_some_iff.1 g2).1;simp only[List.length_append,List.length_take,List.length_drop,hvl,hrl] at this;omega
         rw[<-y1,List.append_assoc,List.append_assoc,List.getElem?_append,List.getElem?_append (l₁:=List.take o _)];have f1:(xs.take (i*s+o)).length=i*s+o:=by simp [q2.1];omega
         have f2:(((xs.drop (i*s)).take s).take o).length=o:=by simp [q2.1];omega
         rw[f1,f2];by_cases hjo:j<o
         .rw[if_pos (by omega),if_pos hjo,List.getElem?_take,if_pos (by omega),List.getElem?_take,if_pos hjo,List.getElem?_take,if_pos hjs,List.getElem?_drop]
         .rw[if_neg (by omega),if_neg hjo,show i*s+j-(i*s+o)=j-o by omega,List.getElem?_append,List.getElem?_append];split
          .rfl
          .rename_i h3;rw[List.getElem?_drop,List.getElem?_drop,List.getElem?_take,if_pos (by omega),List.getElem?_drop];congr 1;omega
        .rw[List.getElem?_set_ne hii] at g1;obtain⟨y,y1,y2,y3⟩:=q4 i' j r' av g1 g2;refine⟨y,?_,y2.mono (λ_ _ _ h=>h) (zcq hgl),y3⟩;have hr'l:=q3 r' (List.mem_of_getElem? g1);have hjs:j<s:=by rw[<-hr'l];exact (List.getElem?_eq_some_iff.1 g2).1
         rw[<-y1];have f1:(xs.take (i*s+o)).length=i*s+o:=by simp [q2.1];omega
         rw[List.append_assoc,List.getElem?_append,f1];rcases Nat.lt_or_gt_of_ne hii with hlt|hlt
         .have:(i+1)*s<=i'*s:=Nat.mul_le_mul_right _ hlt;rw[Nat.add_mul] at this;rw[if_neg (by omega),List.getElem?_append,if_neg (by omega),List.getElem?_drop];congr 1;omega
         .have:(i'+1)*s<=i*s:=Nat.mul_le_mul_right _ hlt;rw[Nat.add_mul] at this;rw[if_pos (by omega),List.getElem?_take,if_pos (by omega)])
      (λb' hb'=>.inl hb') (λx hx=>by rw[hmu] at hx;obtain rfl:=Option.some.inj hx;exact An.le_refl _)
     rw[zb9 hid] at hrel;exact zhl (run b (i*s+o) cur F hb fz hheap hfz (by omega)) hrel hK
   .exact hq2.elim
  .exact hq1.elim
 .exact hq.elim
end
end Go.Proofs.YtimfnpjcedjmiadGreat
namespace Go.Proofs.YtimfnpjcedjmiadGreat
open Go.RowKit
section
variable {P:Program} {n:Nat} {fp:Nat->Prop} {w0:Start} {σ:zaM} {μ:zaJ} {Ds:Nat->Nat->Prop} {A:AS} {a:Act} {w:World} {K:MK}
 {dst:Option Tmp} {ty:TypeId} {pos:String} {after:Array Edge} {guard:Option (Nat×Bool)} {Q:Exit->Act->World->Prop}
theorem zjw{sz:Nat}{fr:List (Nat×AV)}: ∀{l:List (Nat×Operand)} {i:Nat} {K:List (List AV)->Prop},zix sz fr i l K-> ∃rs,K rs/\rs.length=l.length/\(∀r,r∈rs->r.length=sz) ∧
  (∀(j:Nat) (p:Nat×Operand),l[j]? =some p->p.1=i+j)/\ ∀(j:Nat) (r:List AV),rs[j]? =some r-> ∃x,l[j]? =some (i+j,x)/\(evO fr x).cells=some r
 |[],i,K,h=>⟨[],h,rfl,by simp,by simp,by simp⟩
 |(j,x)::l,i,K,h=>by
  obtain⟨h0,hh⟩:=zaB h;clear h;have h1:=Nat.eq_of_beq_eq_true h0;subst h1;simp only[evV_eq] at hh;obtain⟨r,h2,h⟩:=zb0 hh;obtain⟨h3,h4⟩:=zaB h;rw[fzL_eq] at h4;obtain⟨rs,h7,h8,h9,h10,h11⟩:=zjw h4;refine⟨r::rs,h7,by simp [h8],λr' hr'=>?_,λk p hk=>?_,λk r' hk=>?_⟩
  .rcases List.mem_cons.1 hr' with rfl|hr'
   .exact Nat.eq_of_beq_eq_true h3
   .exact h9 r' hr'
  .cases k with
   |zero=>simp at hk;subst hk;rfl
   |succ k=>rw[h10 k p (by simpa using hk)];omega
  .cases k with
   |zero=>simp at hk;subst hk;exact⟨x,rfl,h2⟩
   |succ k=>
    obtain⟨y,y1,y2⟩:=h11 k r' (by simpa using hk);exact⟨y,by simp only[List.getElem?_cons_succ,y1];congr 2;omega,y2⟩
theorem zje(h:Rel n fp w0 σ μ Ds A a w){sz:Nat}: ∀(parts:List (Nat×Operand)) (i:Nat) (rs:List (List AV)) (cs:Array Value),(i+parts.length)*sz<=cs.size->rs.length=parts.length->(∀r,r∈rs->r.length=sz) →
  (∀(j:Nat) (p:Nat×Operand),parts[j]? =some p->p.1=i+j)->(∀(j:Nat) (r:List AV),rs[j]? =some r-> ∃x,parts[j]? =some (i+j,x)/\(evO A.fr x).cells=some r) →
  ∃cs',Instr.fill (λi=>some (i*sz,sz)) cs (parts.map λp=>(p.1,a.eval p.2))=some cs'/\cs'.size=cs.size/\(∀k,k<i*sz->cs'[k]? =cs[k]?) ∧
   ∀(j q:Nat) (r:List AV) (av:AV),rs[j]? =some r->r[q]? =some av-> ∃y,cs'[(i+j)*sz+q]? =some y/\RepV σ μ av y/\y.oneCell'=true
 |[],i,rs,cs,hle,hl,hrow,hp,hr=>by
  have:rs=[]:=List.eq_nil_of_length_eq_zero hl;subst this;exact⟨cs,rfl,rfl,λ_ _=>rfl,λj q r av g=>by simp at g⟩
 |(j0,x)::parts,i,rs,cs,hle,hl,hrow,hp,hr=>by
  cases rs with
  |nil=>simp at hl
  |cons r rs=>
   have hj0:j0=i:=hp 0 _ rfl;subst hj0;obtain⟨x',hx',hc⟩:=hr 0 r rfl;simp only[List.getElem?_cons_zero,Nat.add_zero,Option.some.injEq,Prod.mk.injEq,true_and] at hx';subst hx';obtain⟨k1,k2,k3⟩:=(h.ev x).cells hc;have hrl:=hrow r (List.mem_cons_self ..);have hle':(j0+1+parts.length)*sz<=cs.size:=by simp only[List.length_cons] at hle;rw[show j0+1+parts.length=j0+(parts.length+1) by omega];exact hle
   have hle2:j0*sz+sz<=cs.size:=by
    have:(j0+1)*sz<=(j0+1+parts.length)*sz:=Nat.mul_le_mul_right _ (by omega);rw[Nat.add_mul] at this;omega
   obtain⟨p1,p2⟩:=zgp (a.eval x).cells.toList (j0*sz) 0 cs (by simp [k1];omega);have hfold:(a.eval x).cells.zipIdx.foldl (λcs (p:Value×Nat)=>cs.setIfInBounds (j0*sz+p.2) p.1) cs=(((a.eval x).cells.toList.zipIdx 0).foldl (λcs (p:Value×Nat)=>cs.setIfInBounds (j0*sz+p.2) p.1) cs):=by
    rw[<-Array.foldl_toList];simp
   obtain⟨cs',g1,g2,g3,g4⟩:=zje h parts (j0+1) rs _ (by rw[p1];exact hle') (by simpa using hl) (λr' hr'=>hrow r' (List.mem_cons_of_mem _ hr')) (λk p hk=>by rw[hp (k+1) p (by simpa using hk)];omega) (λk r' hk=>by
    obtain⟨y,y1,y2⟩:=hr (k+1) r' (by simpa using hk);exact⟨y,by simp only[List.getElem?_cons_succ] at y1;rw[y1];congr 2;omega,y2⟩)
   refine⟨cs',?_,by rw[g2,p1],λk hk=>?_,λk q r' av e1 e2=>?_⟩
   .rw[<-hfold] at g1;simp only[List.map_cons,Instr.fill];rw[if_neg (by rw[k1,hrl];simp;omega)];exact g1
   .have hk':k<(j0+1)*sz:=by rw[Nat.add_mul];omega
    rw[g3 k hk',p2 k,if_neg (by omega)]
   .cases k with
    |zero=>
     simp at e1;subst e1;obtain⟨y,y1,y2⟩:=k2 q av e2;have hq:q<sz:=by rw[<-hrl];exact (List.getElem?_eq_some_iff.1 e2).1
     refine⟨y,?_,y2,k3 y (by simpa using Array.mem_of_getElem? y1)⟩;have hlt:(j0+0)*sz+q<(j0+1)*sz:=by rw[Nat.add_zero,Nat.add_mul];omega
     rw[g3 _ hlt,p2,if_pos (by simp [k1,hrl];omega),Nat.add_zero,Nat.add_zero,Nat.add_sub_cancel_left,Array.getElem?_toList];exact y1
    |succ k=>
     obtain⟨y,y1,y2,y3⟩:=g4 k q r' av (by simpa using e1) e2;exact⟨y,by rw[show j0+(k+1)=j0+1+k by omega];exact y1,y2,y3⟩
theorem src_out(h:Rel n fp w0 σ μ Ds A a w){v:AV}{x:Value}(hx:RepV σ μ v x){t:TypeId}{sz:Nat}{K:Bool->List (List AV)->Prop}(hk:srcK P t sz v A.mem K):
  ∃free rows news,K free rows/\Src P sz t x rows.length news w/\(∀r,r∈rows->r.length=sz) ∧
   ∀(i j:Nat) (r:List AV) (av:AV),rows[i]? =some r->r[j]? =some av-> ∃y,news[i*sz+j]? =some y/\RepV σ (gOf free μ) av y/\y.oneCell'=true:=by
 -- rows that can be read
 have main: ∀(free:Bool) (rows:List (List AV)) (ao:Option Addr) (cap b off:Nat) (e':TypeId),P.underlying t=some (.slice e')->K free rows->x=.slice ao rows.length cap->(rows=[]\/ao=some ⟨b,off,none⟩)->(∀r,r∈rows->r.length=sz) →
   (∀(i j:Nat) (r:List AV) (av:AV),rows[i]? =some r->r[j]? =some av-> ∃y,w.cell? ⟨b,off+i*sz+j,none⟩=some y/\RepV σ (gOf free μ) av y/\y.oneCell'=true) →
   ∃free rows news,K free rows/\Src P sz t x rows.length news w/\(∀r,r∈rows->r.length=sz) ∧
    ∀(i j:Nat) (r:List AV) (av:AV),rows[i]? =some r->r[j]? =some av-> ∃y,news[i*sz+j]? =some y/\RepV σ (gOf free μ) av y/\y.oneCell'=true:=by
  intro free rows ao cap b off e' hu hK hx hao hrow hcell;let f:Nat->Value:=λo=>(w.cell? ⟨b,off+o,none⟩).getD undef
  have get: ∀n,n<rows.length*sz-> ∃y,w.cell? ⟨b,off+n,none⟩=some y/\y.oneCell'=true/\f n=y:=by
   intro n hn;have hpos:0<sz:=by rcases Nat.eq_zero_or_pos sz with e|e;subst e;simp at hn;exact e
   have hlt:n / sz<rows.length:=Nat.div_lt_of_lt_mul (by rw[Nat.mul_comm];exact hn);have hr:=hrow _ (List.getElem_mem hlt);have hm:n%sz<rows[n / sz].length:=by rw[hr];exact Nat.mod_lt _ hpos
   obtain⟨y,y1,y2,y3⟩:=hcell (n / sz) (n%sz) _ _ (List.getElem?_eq_getElem hlt) (List.getElem?_eq_getElem hm);have e:off+n / sz*sz+n%sz=off+n:=by rw[Nat.add_assoc,Nat.mul_comm,Nat.div_add_mod]
   rw[e] at y1;exact⟨y,y1,y3,by simp only[f,y1];rfl⟩
  let news:=(List.range (rows.length*sz)).map f
  have hnl:news.length=rows.length*sz:=by simp [news]
  have hnews: ∀j u,news[j]? =some u->j<rows.length*sz/\w.cell? ⟨b,off+j,none⟩=some u/\u.oneCell'=true:=λj u hj=>by
   have hlt:j<rows.length*sz:=by rw[<-hnl];exact (List.getElem?_eq_some_iff.1 hj).1
   obtain⟨y,y1,y2,y3⟩:=get j hlt;simp [news,hlt] at hj;rw[<-hj,y3];exact⟨hlt,y1,y2⟩
  refine⟨free,rows,news,hK,?_,hrow,λi j r av g1 g2=>?_⟩
  .rw[hx];rcases hao with rfl|rfl
   .have:news=[]:=List.eq_nil_of_length_eq_zero (by rw[hnl];simp);rw[this];refine⟨.inl ⟨e',hu⟩,λ_=>rfl,?_,?_,by simp,by simp⟩<;>cases ao<;>simp [Builtin.firstCells,loadCells,loadCellsFrom,Sem.run_pure]
   .exact Src.ofSlice w hu ⟨b,off,none⟩ rows.length cap news hnl (λj u hj=>by rw[add_none];exact (hnews j u hj).2.1) (λu hu=>by obtain⟨j,hj,rfl⟩:=List.mem_iff_getElem.1 hu;exact (hnews j _ (List.getElem?_eq_getElem hj)).2.2)
  .obtain⟨y,y1,y2,y3⟩:=hcell i j r av g1 g2;have hj:j<sz:=by rw[<-hrow r (List.mem_of_getElem? g1)];exact (List.getElem?_eq_some_iff.1 g2).1
   have hi:i<rows.length:=(List.getElem?_eq_some_iff.1 g1).1;have hlt:i*sz+j<rows.length*sz:=by
    have:(i+1)*sz<=rows.length*sz:=Nat.mul_le_mul_right _ hi;rw[Nat.add_mul] at this;omega
   obtain⟨y',z1,z2,z3⟩:=get _ hlt;rw[<-Nat.add_assoc,y1] at z1;obtain rfl:=Option.some.inj z1;exact⟨y,by simp [news,hlt,z3],y2,y3⟩
 unfold srcK at hk;split at hk
 .obtain⟨h1,hk1⟩:=zaB hk;obtain⟨h2,hK⟩:=zaB hk1;have hs:=Nat.eq_of_beq_eq_true h2;subst hs;obtain⟨e,he⟩:=Option.isSome_iff_exists.1 h1;obtain⟨ao,cap,b,off,f,e',g1,g2,g3,g4,g5,g6,g7,g8⟩:=hx.inv_sl;exact main true _ ao cap b off e (za9 he) hK e' g3 g4 (λi j r av q1 q2=>⟨f i j,h.agree _ _ _ (g5 i j r av q1 q2),g6 i j r av q1 q2,g7 i j r av q1 q2⟩)
 .rename_i id g m;obtain⟨h1,hk1⟩:=zaB hk;obtain⟨e,he⟩:=Option.isSome_iff_exists.1 h1;obtain⟨r,hr,hk2⟩:=zaH hk1;split at hk2
  .rename_i fr E s g' rows;obtain⟨hg0,hk3⟩:=zaB hk2;obtain⟨hs0,hK⟩:=zaB hk3;have hg:=Nat.eq_of_beq_eq_true hg0;have hs:=Nat.eq_of_beq_eq_true hs0;subst hg hs;obtain⟨ao,mm,cap,an,e',k1,k2,k3,k4,k5⟩:=hx.inv_arr;obtain⟨ao',cap',xs,q1,q2,q3,q4,q5,q6⟩:=h.mem.ok id _ hr;rw[k4] at q1;obtain rfl:=Option.some.inj q1;obtain⟨_,k5⟩:=k5;obtain⟨rfl,rfl,rfl⟩:=k5 rfl;have hlen:(rows.take m).length=m:=by simp;omega
   rcases q2.2 with⟨e1,e2⟩|⟨b,cp,cur,F,fz,e1,hb,hle,hcm,hcs,htake,_⟩
   .simp only[Value.slice.injEq] at e1;obtain⟨rfl,e3,e4⟩:=e1;have:rows=[]:=List.eq_nil_of_length_eq_zero e2;subst this;exact main fr _ none cap' 0 0 e (za9 he) hK (by rw[hlen];exact e') (.inl (by simp)) (by simp) (λi j r av g1=>by simp at g1)
   .simp only[Value.slice.injEq] at e1;obtain⟨rfl,_,rfl⟩:=e1;refine main fr _ _ cap' b 0 e (za9 he) hK (by rw[hlen];exact e') (.inr rfl) (λr hr=>q3 r (List.mem_of_mem_take hr)) (λi j r av g1 g2=>?_);rw[List.getElem?_take] at g1;split at g1
    .obtain⟨y,y1,y2,y3⟩:=q4 i j r av g1 g2;rw[<-htake,List.getElem?_take] at y1;split at y1
     .exact⟨y,by simp only[World.cell?,hb];simpa[Nat.zero_add] using y1,y2,y3⟩
     .cases y1
    .cases g1
  .exact hk2.elim
 .obtain⟨h1,hK⟩:=zaB hk;obtain⟨e,he⟩:=Option.isSome_iff_exists.1 h1;obtain rfl:=hx.inv_v;exact⟨true,[],[],hK,Src.ofNil w (za9 he) 0,by simp,λi j r av g=>by simp at g⟩
 .rename_i s;obtain⟨h1,hk1⟩:=zaB hk;obtain⟨h2,hK⟩:=zaB hk1;have hs:=Nat.eq_of_beq_eq_true h2;subst hs;obtain rfl:=hx.inv_v;have hl:(za4 s).length=s.size:=by simp [za4]
  refine⟨true,za4 s,byteCells s,hK,by rw[hl];exact Src.ofString w (zbp h1) s,λr hr=>?_,λi j r av g1 g2=>?_⟩
  .obtain⟨c,_,rfl⟩:=List.mem_map.1 hr;rfl
  .simp only[za4,List.getElem?_map,Option.map_eq_some_iff] at g1;obtain⟨c,hc,rfl⟩:=g1;cases j with
   |zero=>
    simp only[List.getElem?_cons_zero,Option.some.injEq] at g2;subst g2;exact⟨_,by simp only[byteCells,Nat.mul_one,Nat.add_zero,List.getElem?_map,hc,Option.map_some],.v _ _,rfl⟩
   |succ j=>simp at g2
 .exact hk.elim
end
end Go.Proofs.YtimfnpjcedjmiadGreat
namespace Go.Proofs.YtimfnpjcedjmiadGreat
open Go.RowKit
section
variable {P:Program} {n:Nat} {fp:Nat->Prop} {w0:Start} {σ:zaM} {μ:zaJ} {Ds:Nat->Nat->Prop} {A:AS} {a:Act} {w:World} {K:MK}
 {dst:Option Tmp} {ty:TypeId} {pos:String} {after:Array Edge} {guard:Option (Nat×Bool)} {Q:Exit->Act->World->Prop}
theorem zq0{rows rows2:List (List AV)}{sz:Nat}{xs news:List Value}{R:AV->Value->Prop}(hx:xs.length=rows.length*sz)(h1: ∀(i j:Nat) (r:List AV) (av:AV),rows[i]? =some r->r[j]? =some av-> ∃y,xs[i*sz+j]? =some y/\R av y)
  (h2: ∀(i j:Nat) (r:List AV) (av:AV),rows2[i]? =some r->r[j]? =some av-> ∃y,news[i*sz+j]? =some y/\R av y):
  ∀(i j:Nat) (r:List AV) (av:AV),(rows++rows2)[i]? =some r->r[j]? =some av-> ∃y,(xs++news)[i*sz+j]? =some y/\R av y:=by
 intro i j r av f1 f2;rw[List.getElem?_append] at f1;split at f1
 .obtain⟨y,y1,y2⟩:=h1 i j r av f1 f2;exact⟨y,by rw[List.getElem?_append_left (List.getElem?_eq_some_iff.1 y1).1];exact y1,y2⟩
 .rename_i hge;obtain⟨y,y1,y2⟩:=h2 (i-rows.length) j r av f1 f2;refine⟨y,?_,y2⟩;have hle:rows.length*sz<=i*sz:=Nat.mul_le_mul_right _ (by omega);rw[List.getElem?_append_right (by rw[hx];omega),hx];rw[Nat.sub_mul] at y1;rw[show i*sz+j-rows.length*sz=i*sz-rows.length*sz+j by omega];exact y1
theorem zoB(h:Rel n fp w0 σ μ Ds A a w){mt:Mut}{args:Array Operand}{ats:Array TypeId}(hq:zeJ P mt A.fr A.mem args.toList ats.toList K):
  Oper.wp P ⟨dst,.call ⟨.builtin .append,args,ats⟩,ty,pos,after,guard⟩ a w (zeN n fp w0 A a dst K) Q:=by
 unfold zeJ at hq;split at hq
 .rename_i x y hargs;obtain rfl:args= #[x,y]:=by rw[<-Array.toArray_toList (xs:=args),hargs]
  split at hq
  .rename_i t t' hats;obtain rfl:ats= #[t,t']:=by rw[<-Array.toArray_toList (xs:=ats),hats]
   split at hq
   .rename_i e sz z by_ hst;simp only[fzN_eq,fzB_eq,evV_eq] at hq;obtain⟨hz0,hq1⟩:=zaB hq;obtain⟨hp0,hq2⟩:=zaB hq1;have hz:=Nat.eq_of_beq_eq_true hz0;have hpos:0<sz:=Nat.le_of_ble_eq_true hp0;obtain⟨hu,bb,i,z',hsh,hi,hzz,hzs,hby,hisz⟩:=zco hst;obtain⟨free,rows2,news,hK,hsrc,hrow2,hin2⟩:=src_out h (h.ev y) hq2;clear hq hq1 hq2;have hrun: ∀{v r w'},a.eval x=v->(Builtin.append_ #[t,t'] ty #[v,a.eval y]).run P w=.ok r w'->(execOp a.eval ⟨dst,.call ⟨.builtin .append,#[x,y],#[t,t']⟩,ty,pos,after,guard⟩).run P w=.ok (.value r) w':=by
     intro v r w' hv hr;rw[BigFrame.execOp_builtin];simp [BigFrame.builtin_append,hv,hr,Sem.run_bind,Result.andThen_ok,Sem.run_pure]
    have hx:=h.ev x;unfold appV at hK;split at hK
    .rename_i hv;rw[hv] at hx;obtain⟨⟨hfit⟩,hK⟩:=hK;have hxv:=hx.inv_v;obtain⟨ao',cap',w',hr,hown,hgr,hwhere,hc1,hc2⟩:=zfO t t' ty e i z' sz hu hi hzz hisz (hzs.trans hz) hpos none 0 0 [] (World.ownsRow_nil w 0 e sz) (a.eval y) rows2.length news hsrc (by rw[Nat.zero_add];exact hfit.1) (by rw[Nat.zero_add,hby];exact hfit.2);rw[Nat.zero_add] at hr hown hc1;rw[List.nil_append] at hown;refine zeC h hgr.size hgr.os hgr.tape hgr.output (λb hb=>hgr.block b hb (by simp [blkA])) hown ⟨hc1,hc2⟩ (λk hk=>?_) hrow2 hin2 (hrun hxv hr) hK;rcases hwhere with e1|⟨k',e1,e2,_⟩
     .rw[e1] at hk;cases hk
     .rw[e1] at hk;obtain rfl:=Option.some.inj hk;exact e2
    .rename_i s rows id g hv;rw[hv] at hx;obtain⟨hfree,hK1⟩:=zaB hK;obtain⟨hs0,hK2⟩:=zaB hK1;obtain⟨r,hr,hK3⟩:=zaH hK2;split at hK3
     .rename_i E s' g';obtain⟨hE0,hK4⟩:=zaB hK3;obtain⟨hs1,hK5⟩:=zaB hK4;obtain⟨hg0,⟨hfit⟩,hKK⟩:=zaB hK5;have hE:=Nat.eq_of_beq_eq_true hE0;have e1:=Nat.eq_of_beq_eq_true hs0;have e2:=Nat.eq_of_beq_eq_true hs1;have e3:=Nat.eq_of_beq_eq_true hg0;subst e2;subst e1;subst e3 hE hfree;clear hK hK1 hK2 hK3 hK4 hK5;obtain⟨ao,cap,b,off,f,hxe,g1,g2,g3,g4,g5,g6,g7,g8⟩:=hx.inv_sl;obtain⟨an,hmu,hle⟩:=g8 id g rfl;obtain⟨ao2,n2,cap2,xs,q1,q2,q3,q4⟩:=h.mem.ok id _ hr;rw[hmu] at q1;obtain rfl:=Option.some.inj q1;obtain⟨_,hle⟩:=hle;obtain⟨rfl,rfl,rfl⟩:=hle rfl;have hid:=(List.getElem?_eq_some_iff.1 hr).1;obtain⟨ao',cap',w',hrr,hown,hgr,hwhere,hc1,hc2⟩:=zfO t t' ty E i z' s hu hi hzz hisz (hzs.trans hz) hpos ao2 rows.length cap2 xs q2 (a.eval y) rows2.length news hsrc hfit.1 (by rw[hby];exact hfit.2);have hlen:(rows++rows2).length=rows.length+rows2.length:=by simp
      -- promised cells of the old row
      have hin1: ∀(i j:Nat) (r:List AV) (av:AV),rows[i]? =some r->r[j]? =some av-> ∃y,xs[i*s+j]? =some y/\RepV σ noG av y/\y.oneCell'=true:=by
       intro i j r av f1 f2;have hlt:i<rows.length:=(List.getElem?_eq_some_iff.1 f1).1;have hj:j<s:=by rw[<-g4 r (List.mem_of_getElem? f1)];exact (List.getElem?_eq_some_iff.1 f2).1
       have hao:ao2=some ⟨b,off,none⟩:=by
        rcases g3 with g3|g3
        .subst g3;simp at hlt
        .exact g3
       subst hao;have hoff:off=0:=by
        rcases q2.2 with⟨e1,_⟩|⟨gg,cp,cur,e1,_⟩
        .simp at e1
        .simp only[Value.slice.injEq,Option.some.injEq,Addr.mk.injEq,and_true] at e1;exact e1.1.2
       subst hoff;have hcell:=h.agree _ _ _ (g5 i j r av f1 f2);have hlen:i*s+j<xs.length:=by
        rw[q2.1];have:(i+1)*s<=rows.length*s:=Nat.mul_le_mul_right _ hlt;rw[Nat.add_mul] at this;omega
       have:=zbn q2 (k:=b) rfl (List.getElem?_eq_getElem hlen);rw[Nat.zero_add] at hcell;rw[this] at hcell;exact⟨_,List.getElem?_eq_getElem hlen,by rw[Option.some.inj hcell];exact g6 i j r av f1 f2,by rw[Option.some.inj hcell];exact g7 i j r av f1 f2⟩
      have hold: ∀k o y,blkA ao2=some k->σ k o=some y->xs[o]? =some y:=by
       intro k o y hk hy;have hlt:o<xs.length:=by
        rw[q2.1];rcases Nat.lt_or_ge o (rows.length*s) with g|g
        .exact g
        .rw[q3 k ((q4 k).2 hk) o g] at hy;cases hy
       have h9:=zbn q2 hk (List.getElem?_eq_getElem hlt);rw[h.agree k o y hy] at h9;rw[List.getElem?_eq_getElem hlt];exact h9.symm
      have hmono: ∀b o y,σ b o=some y->zab σ ao' ((rows.length+rows2.length)*s) (xs++news) b o=some y:=by
       intro b o y hy;unfold zab;split
       .rename_i hb;rcases hwhere with e1|⟨k',e1,e2,_⟩
        .have:=hold b o y (e1▸hb) hy;have hlt:=(List.getElem?_eq_some_iff.1 this).1;rw[List.getElem?_append_left hlt,if_pos]
         .exact this
         .rw[q2.1] at hlt;rw[Nat.add_mul];omega
        .rw[e1] at hb;obtain rfl:=Option.some.inj hb;have:=h.agree.lt hy;omega
       .exact hy
      have hrel:=h.upd (id:=id) (r:=.grow E s (g+1)) (D:=λk=>blkA ao'=some k) (an:=.cur ao' (rows.length+rows2.length) cap' (g+1)) (σ':=zab σ ao' ((rows.length+rows2.length)*s) (xs++news)) (w':=w') (Nat.le_of_lt hid) hgr.size hgr.os hgr.tape hgr.output
       (λb' hb' hd=>by
        have hne:blkA ao2≠some b':=λe=>hd ((q4 b').2 e);refine⟨hgr.block b' hb' (λe=>hne e.symm),λo=>?_⟩;unfold zab;rw[if_neg];intro e;rcases hwhere with e1|⟨k',e1,e2,_⟩
        .exact hne (e1▸e)
        .rw[e1] at e;obtain rfl:=Option.some.inj e;omega) hmono
       (λb' o y hy=>by
        unfold zab at hy;split at hy
        .rename_i hk;split at hy
         .exact zbn hown hk hy
         .cases hy
        .rename_i hk;have hlt:=h.agree.lt hy;have:w'.heap[b']? =w.heap[b']? :=by
          rcases hwhere with e1|⟨k',e1,e2,e3⟩
          .exact hgr.block b' hlt (λe=>hk (by rw[e1];exact e.symm))
          .exact e3 b' hlt
         rw[World.cell?_of_block (w:=w) (w':=w') (a:=⟨b',o,none⟩) this];exact h.agree b' o y hy)
       ⟨ao',_,cap',_,updG_self,hown,λk hk o ho=>by unfold zab;rw[if_pos hk,if_neg (by omega)],λk=>Iff.rfl⟩
       (λb' hb'=>by
        rcases hwhere with e1|⟨k',e1,e2,_⟩
        .exact .inl ((q4 b').2 (e1▸hb'))
        .rw[e1] at hb';obtain rfl:=Option.some.inj hb';exact .inr e2)
       (λx hx=>by rw[hmu] at hx;obtain rfl:=Option.some.inj hx;exact⟨by omega,λe=>by omega⟩)
      rw[zb9 hid] at hrel;refine zac (hrun hxe hrr) hrel ?_ hKK;rw[<-hlen];refine zjz (E:=E) (w':=w') (xs:=xs++news) (by rw[hlen];exact hown) (by rw[hlen];exact⟨hc1,hc2⟩) (λr hr=>?_) (λk o x hk hx=>?_) ?_ updG_self (An.le_refl _)
      .rcases List.mem_append.1 hr with hr|hr
       .exact g4 r hr
       .exact hrow2 r hr
      .have hlt:=(List.getElem?_eq_some_iff.1 hx).1;rw[hown.1] at hlt;unfold zab;rw[if_pos hk,if_pos (by simpa using hlt)];exact hx
      .refine zq0 (R:=λav y=>RepV _ noG av y/\y.oneCell'=true) q2.1 (λi j r av f1 f2=>?_) (λi j r av f1 f2=>?_)
       .obtain⟨y,y1,y2,y3⟩:=hin1 i j r av f1 f2;exact⟨y,y1,y2.mono (by rw[hlen];exact hmono) (Gle.refl _),y3⟩
       .obtain⟨y,y1,y2,y3⟩:=hin2 i j r av f1 f2;exact⟨y,y1,RepV.mono y2 (by rw[hlen];exact hmono) (Gle.refl _),y3⟩
     .exact hK3.elim
    .rename_i id g m hv;rw[hv] at hx;obtain⟨r,hr,hK1⟩:=zaH hK;split at hK1
     .rename_i fr E s g' rows;obtain⟨hE0,hK2⟩:=zaB hK1;obtain⟨hE0,hEb⟩:=Bool.and_eq_true_iff.1 hE0;obtain⟨hs0,hK3⟩:=zaB hK2;obtain⟨hg0,hK4⟩:=zaB hK3;obtain⟨hokf,⟨hfit⟩,hKK⟩:=zaB hK4;have hE:=Nat.eq_of_beq_eq_true hE0;have e1:=Nat.eq_of_beq_eq_true hs0;have e3:=Nat.eq_of_beq_eq_true hg0;subst e1 e3 hE;clear hK hK1 hK2 hK3 hK4;obtain⟨ao,mm,cap,an,hxe,k1,k2,k3,k4,k5⟩:=hx.inv_arr;obtain⟨ao2,cap2,xs,q1,q2,q3,q4,q5,q6⟩:=h.mem.ok id _ hr;rw[k4] at q1;obtain rfl:=Option.some.inj q1;obtain⟨_,k5⟩:=k5;obtain⟨rfl,rfl,rfl⟩:=k5 rfl;have hid:=(List.getElem?_eq_some_iff.1 hr).1;have q2':=zjl (ownA_row q2 hEb) k1;have hml:(rows.take m).length=m:=by simp;omega
      obtain⟨ao',cap',w',hrr,hown,hgr,hwhere,hc1,hc2⟩:=zfO t t' ty E i z' s hu hi hzz hisz (hzs.trans hz) hpos ao2 m cap2 _ q2' (a.eval y) rows2.length news hsrc hfit.1 (by rw[hby];exact hfit.2);have hlen:(rows.take m++rows2).length=m+rows2.length:=by rw[List.length_append,hml]
      have hgl:Gle μ (updG μ id (.cur ao' (m+rows2.length) cap' (g+1))):=zeG λx hx=>by rw[k4] at hx;obtain rfl:=Option.some.inj hx;exact⟨by omega,λe=>by omega⟩
      have hrel:=h.upd (id:=id) (r:=.arr fr E s (g+1) (rows.take m++rows2)) (D:=λk=>blkA ao'=some k) (an:=.cur ao' (m+rows2.length) cap' (g+1)) (σ':=σ) (w':=w') (Nat.le_of_lt hid) hgr.size hgr.os hgr.tape hgr.output
       (λb' hb' hd=>by
        have hne:blkA ao2≠some b':=λe=>hd ((q6 b').2 e);exact⟨hgr.block b' hb' (λe=>hne e.symm),λo=>rfl⟩) (λ_ _ _ h=>h)
       (λb' o y hy=>by
        have hne:blkA ao2≠some b':=λe=>by rw[q5 b' ((q6 b').2 e) o] at hy;cases hy
        rw[World.cell?_of_block (w:=w) (w':=w') (a:=⟨b',o,none⟩) (hgr.block b' (h.agree.lt hy) (λe=>hne e.symm))];exact h.agree b' o y hy)
       (by
        refine⟨ao',cap',_,by rw[hlen];exact updG_self,by rw[hlen];exact zlX hown,λr hr=>?_,?_,λk hk o=>?_,λk=>Iff.rfl⟩
        .rcases List.mem_append.1 hr with hr|hr
         .exact q3 r (List.mem_of_mem_take hr)
         .exact hrow2 r hr
        .refine zq0 (R:=λav y=>RepV σ (gOf fr _) av y/\y.oneCell'=true) (by rw[hml,q2'.1]) (λi j r av f1 f2=>?_) (λi j r av f1 f2=>?_)
         .rw[List.getElem?_take] at f1;split at f1
          .rename_i him;obtain⟨y,y1,y2,y3⟩:=q4 i j r av f1 f2;have hj:j<s:=by rw[<-q3 r (List.mem_of_getElem? f1)];exact (List.getElem?_eq_some_iff.1 f2).1
           have:(i+1)*s<=m*s:=Nat.mul_le_mul_right _ him;rw[Nat.add_mul] at this;exact⟨y,by rw[List.getElem?_take,if_pos (by omega)];exact y1,y2.mono (λ_ _ _ h=>h) (zcq hgl),y3⟩
          .cases f1
         .obtain⟨y,y1,y2,y3⟩:=hin2 i j r av f1 f2;refine⟨y,y1,?_,y3⟩;cases fr with
          |true=>
           simp only[okF] at hokf;subst hokf;exact y2
          |false=>
           cases free with
           |true=>exact RepV.lift y2
           |false=>exact RepV.mono y2 (λ_ _ _ h=>h) hgl
        .rcases hwhere with e1|⟨k',e1,e2,_⟩
         .exact q5 k ((q6 k).2 (e1▸hk)) o
         .rw[e1] at hk;obtain rfl:=Option.some.inj hk;exact h.none_new e2)
       (λb' hb'=>by
        rcases hwhere with e1|⟨k',e1,e2,_⟩
        .exact .inl ((q6 b').2 (e1▸hb'))
        .rw[e1] at hb';obtain rfl:=Option.some.inj hb';exact .inr e2)
       (λx hx=>by rw[k4] at hx;obtain rfl:=Option.some.inj hx;exact⟨by omega,λe=>by omega⟩)
      rw[zb9 hid] at hrel;exact zac (hrun hxe hrr) hrel (.arr _ _ _ _ ao' (m+rows2.length) cap' _ (Nat.le_refl _) hc1 hc2 updG_self (An.le_refl _)) hKK
     .exact hK1.elim
    .exact hK.elim
   .exact hq.elim
  .exact hq.elim
 .exact hq.elim
end
end Go.Proofs.YtimfnpjcedjmiadGreat
namespace Go.Proofs.YtimfnpjcedjmiadGreat
open Go.RowKit
section
variable {P:Program} {n:Nat} {fp:Nat->Prop} {w0:Start} {σ:zaM} {μ:zaJ} {Ds:Nat->Nat->Prop} {A:AS} {a:Act} {w:World} {K:MK}
 {dst:Option Tmp} {ty:TypeId} {pos:String} {after:Array Edge} {guard:Option (Nat×Bool)} {Q:Exit->Act->World->Prop}
def World.setO(w:World)(r:Nat)(o:Obj):World:={ w with heap:=w.heap.setIfInBounds r o }
theorem zel{r:Nat}{o o0:Obj}(h:w.heap[r]? =some o0):(World.setO w r o).heap[r]? =some o:=by
 have:=(Array.getElem?_eq_some_iff.1 h).1;simp [World.setO,this]
theorem zc1{r k:Nat}{o:Obj}(h:k≠r):(World.setO w r o).heap[k]? =w.heap[k]? :=by
 simp [World.setO,Array.getElem?_setIfInBounds_ne (Ne.symm h)]
theorem zjM{r:Nat}{o:Obj}:(World.setO w r o).heap.size=w.heap.size:=by simp [World.setO]
theorem Rel.setO(h:Rel n fp w0 σ μ Ds A a w){id r:Nat}{res0 res:Res}{o o0:Obj}{an:An}(hid:A.mem[id]? =some res0)(hmu:μ id=some an)(hr:w.heap[r]? =some o0)(hD: ∀k,Ds id k↔k=r)(hσ: ∀o,σ r o=none)
  (hok:ROk σ (updG μ id an) (World.setO w r o) id (Ds id) res):Rel n fp w0 σ (updG μ id an) (updD Ds id (Ds id)) ⟨A.fr,A.mem.set id res⟩ a (World.setO w r o):=by
 have hlt:=(List.getElem?_eq_some_iff.1 hid).1;have:=h.upd (id:=id) (r:=res) (D:=Ds id) (an:=an) (σ':=σ) (w':=World.setO w r o) (Nat.le_of_lt hlt) (by rw[zjM];exact Nat.le_refl _) rfl rfl rfl
  (λb hb hd=>⟨zc1 (λe=>hd ((hD b).2 e)),λ_=>rfl⟩) (λ_ _ _ h=>h)
  (λb k y hy=>by
   have hne:b≠r:=λe=>by subst e;rw[hσ k] at hy;cases hy
   rw[World.cell?_of_block (w:=w) (w':=World.setO w r o) (a:=⟨b,k,none⟩) (zc1 hne)];exact h.agree b k y hy) hok (λb hb=>.inl hb) (λx hx=>by rw[hmu] at hx;obtain rfl:=Option.some.inj hx;exact An.le_refl _)
 rw[zb9 hlt] at this;exact this
theorem zdJ.find{es:Array MapEntry}{clock:Nat}{f:Value->Option (List AV)}(h:zdJ σ es clock f){i:Nat}{e:MapEntry}(hi:es[i]? =some e){j:Nat}{e':MapEntry}(hj:es[j]? =some e')(hk:e.key=e'.key):i=j:=by
 have hp:=List.pairwise_iff_getElem.1 h.2.2.2;have hi':es.toList[i]? =some e:=by simpa using hi
 have hj':es.toList[j]? =some e':=by simpa using hj
 obtain⟨p1,p2⟩:=List.getElem?_eq_some_iff.1 hi';obtain⟨q1,q2⟩:=List.getElem?_eq_some_iff.1 hj';rcases Nat.lt_trichotomy i j with g|g|g
 .exact absurd (by rw[p2,q2];exact hk) (hp i j p1 q1 g).1
 .exact g
 .exact absurd (by rw[p2,q2];exact hk.symm) (hp j i q1 p1 g).1
theorem zfF{t:TypeId}{kk:Option IntKind}{ag:Bool}(h:zhU P t=some (kk,ag)): ∃kt e sz,P.underlying t=some (.map kt e)/\za7 P e=some (ag,sz):=by
 unfold zhU at h;split at h
 .rename_i kt e hu;split at h
  .rename_i b sz hs;split at h
   .exact Y106
   .exact Y106
   .cases h
  .cases h
 .cases h
def ValRep(σ:zaM)(v:Value)(l:List AV):Prop:=
 v.cells.size=l.length/\(∀y∈v.cells.toList,y.oneCell'=true)/\ ∀(i:Nat) (av:AV),l[i]? =some av-> ∃y,v.cells[i]? =some y/\RepV σ noG av y
theorem zbG{f:Value->Option (List AV)}{k q:Value}{o:Option (List AV)}:updF f k o q=if zcW q k=true then o else f q:=by
 unfold updF;cases zcW q k<;>rfl
theorem znM{t kt e r:Nat}{kk:Option IntKind}{key:Value}{v:Value}{es:Array MapEntry}{clock:Nat}{f:Value->Option (List AV)}{l:List AV}{ag:Bool}(u1:P.underlying t=some (.map kt e))(hk:KeyF P kt kk key)
  (hr:w.heap[r]? =some (.map es clock)) (hrep:zdJ σ es clock f) (hkw: ∀e,e∈es.toList->KeyW kk e.key/\(ag=true↔ ∃cs,e.val=.agg cs)) (hv:ValRep σ v l) (hag:ag=true↔ ∃cs,v=.agg cs):
  ∃es' clock',(Instr.mapUpdate t (.map (some r)) key v).run P w=.ok () (World.setO w r (.map es' clock'))/\zdJ σ es' clock' (updF f key (some l))/\(∀e,e∈es'.toList->KeyW kk e.key/\(ag=true↔ ∃cs,e.val=.agg cs)):=by
 obtain⟨q,hq,hfound⟩:=hk.find (λe he=>(hkw e he).1) w;have hck:=hk.check false w;have kw:KeyW kk key:=hk.kw;rcases hfound with⟨j,en,rfl,hj,hkey⟩|⟨rfl,hno⟩
 .have hlt:=(Array.getElem?_eq_some_iff.1 hj).1;refine⟨es.modify j (λe=>{ e with key:=key,val:=v }),clock,?_,?_,?_⟩
  .have hkk:(Instr.keyThatStays (((es[j]?).map (·.key)).getD key) key).run P w=.ok key w:=by
    rw[hj];simp only[Option.map_some,Option.getD_some,hkey];exact hk.stay w
   simp only[Instr.mapUpdate,Sem.run_bind,run_underlying u1,Result.andThen_ok,getObj,Sem.run,hr,Sem.run_pure,hck,hq,hkk,setObj];rfl
  .have hmem: ∀e',e'∈(es.modify j (λe=>{ e with key:=key,val:=v })).toList->(e'={ en with key:=key,val:=v })\/(e'∈es.toList/\e'.key≠key):=by
    intro e' he';obtain⟨i,hi,rfl⟩:=List.mem_iff_getElem.1 he';simp only[Array.length_toList,Array.size_modify] at hi;simp only[Array.getElem_toList,Array.getElem_modify];split
    .rename_i hji;subst hji;left
     rw[(Array.getElem?_eq_some_iff.1 hj).2]
    .rename_i hji;right
     refine⟨Array.getElem_mem_toList _,λe=>hji (hrep.find hj (Array.getElem?_eq_getElem hi) (by rw[hkey,e]))⟩
   have hin:({ en with key:=key,val:=v }:MapEntry)∈(es.modify j (λe=>{ e with key:=key,val:=v })).toList:=by
    refine List.mem_iff_getElem.2 ⟨j,by simpa using hlt,?_⟩;simp only[Array.getElem_toList,Array.getElem_modify,if_true];rw[(Array.getElem?_eq_some_iff.1 hj).2]
   refine⟨λe' he'=>?_,λk' l' hk'=>?_,λe' he'=>?_,?_⟩
   .rcases hmem e' he' with rfl|⟨h1,h2⟩
    .refine⟨(hrep.1 en (Array.mem_toList_iff.2 (Array.mem_of_getElem? hj))).1,l,?_,hv.1,hv.2.1,hv.2.2⟩;rw[zbG,if_pos (zb1 kw)]
    .exact Y99
   .rw[zbG] at hk';split at hk'
    .rename_i he;exact⟨_,hin,(zbB he).symm⟩
    .rename_i he;obtain⟨e',he',hke⟩:=hrep.2.1 k' l' hk';refine⟨e',?_,hke⟩;obtain⟨i,hi,rfl⟩:=List.mem_iff_getElem.1 he';simp only[Array.length_toList] at hi;refine List.mem_iff_getElem.2 ⟨i,by simpa using hi,?_⟩;simp only[Array.getElem_toList,Array.getElem_modify];rw[if_neg];intro hji;subst hji;have:es[j]=en:=(Array.getElem?_eq_some_iff.1 hj).2;simp only[Array.getElem_toList] at hke;rw[this,hkey] at hke;exact he (hke▸zb1 kw)
   .rcases hmem e' he' with rfl|⟨h1,h2⟩
    .rw[zbG,if_pos (zb1 kw)];simp
    .rw[zbG,if_neg (λe=>h2 (zbB e))];exact hrep.2.2.1 e' h1
   .have hp:=List.pairwise_iff_getElem.1 hrep.2.2.2;refine List.pairwise_iff_getElem.2 λi1 i2 h1 h2 hlt12=>?_;simp only[Array.length_toList,Array.size_modify] at h1 h2;have:=hp i1 i2 (by simpa using h1) (by simpa using h2) hlt12;simp only[Array.getElem_toList,Array.getElem_modify] at this ⊢;have hej:es[j]=en:=(Array.getElem?_eq_some_iff.1 hj).2;split<;>split
    .omega
    .rename_i g1 g2;subst g1;rw[hej,hkey] at this;exact⟨this.1,by rw[hej];exact this.2⟩
    .rename_i g1 g2;subst g2;rw[hej,hkey] at this;exact⟨this.1,by rw[hej];exact this.2⟩
    .exact this
  .intro e' he';obtain⟨i,hi,rfl⟩:=List.mem_iff_getElem.1 he';simp only[Array.length_toList,Array.size_modify] at hi;simp only[Array.getElem_toList,Array.getElem_modify];split
   .exact⟨kw,hag⟩
   .exact hkw _ (Array.getElem_mem_toList _)
 .refine⟨es.push { key:=key,val:=v,born:=clock },clock+1,?_,?_,?_⟩
  .simp only[Instr.mapUpdate,Sem.run_bind,run_underlying u1,Result.andThen_ok,getObj,Sem.run,hr,Sem.run_pure,hck,hq,setObj];rfl
  .have hmem: ∀e',e'∈(es.push { key:=key,val:=v,born:=clock }).toList->e'={ key:=key,val:=v,born:=clock }\/e'∈es.toList:=by
    intro e' he';simp only[Array.toList_push,List.mem_append,List.mem_singleton] at he';exact he'.symm
   refine⟨λe' he'=>?_,λk' l' hk'=>?_,λe' he'=>?_,?_⟩
   .rcases hmem e' he' with rfl|h1
    .exact⟨Nat.lt_succ_self _,l,by rw[zbG,if_pos (zb1 kw)],hv.1,hv.2.1,hv.2.2⟩
    .obtain⟨g0,l0,g1,g2⟩:=hrep.1 e' h1;exact⟨Nat.lt_succ_of_lt g0,l0,by rw[zbG,if_neg (λe=>hno e' h1 (zbB e))];exact g1,g2⟩
   .rw[zbG] at hk';split at hk'
    .rename_i he;exact⟨{ key:=key,val:=v,born:=clock },by simp,(zbB he).symm⟩
    .obtain⟨e',he',hke⟩:=hrep.2.1 k' l' hk';exact⟨e',by simp [Array.toList_push,he'],hke⟩
   .rcases hmem e' he' with rfl|h1
    .rw[zbG,if_pos (zb1 kw)];simp
    .rw[zbG,if_neg (λe=>hno e' h1 (zbB e))];exact hrep.2.2.1 e' h1
   .rw[Array.toList_push,List.pairwise_append];refine⟨hrep.2.2.2,by simp,λx hx y hy=>?_⟩;simp only[List.mem_singleton] at hy;subst hy;exact⟨λe=>hno x hx e,λe=>by have:=(hrep.1 x hx).1;simp only at e;omega⟩
  .intro e' he';simp only[Array.toList_push,List.mem_append,List.mem_singleton] at he';rcases he' with h1|rfl
   .exact hkw e' h1
   .exact⟨kw,hag⟩
theorem znC{t ty' kt e r:Nat}{kk:Option IntKind}{key:Value}{es:Array MapEntry}{clock:Nat}{f:Value->Option (List AV)}{ag:Bool}{ts:Array TypeId}(u1:P.underlying t=some (.map kt e))(hk:KeyF P kt kk key)(hts:ts[0]? =some t)
  (hr:w.heap[r]? =some (.map es clock)) (hrep:zdJ σ es clock f) (hkw: ∀e,e∈es.toList->KeyW kk e.key/\(ag=true↔ ∃cs,e.val=.agg cs)):
  ∃es',(Builtin.delete_ ts ty' #[.map (some r),key]).run P w=.ok (.tuple #[]) (World.setO w r (.map es' clock))/\zdJ σ es' clock (updF f key none)/\(∀e,e∈es'.toList->KeyW kk e.key/\(ag=true↔ ∃cs,e.val=.agg cs)):=by
 obtain⟨q,hq,hfound⟩:=hk.find (λe he=>(hkw e he).1) w;have hck:=hk.check es.isEmpty w;have kw:KeyW kk key:=hk.kw;rcases hfound with⟨j,en,rfl,hj,hkey⟩|⟨rfl,hno⟩
 .have hlt:=(Array.getElem?_eq_some_iff.1 hj).1;have hej:es[j]=en:=(Array.getElem?_eq_some_iff.1 hj).2;have hsub: ∀e',e'∈(es.eraseIdxIfInBounds j).toList↔e'∈es.toList/\e'.key≠key:=by
   intro e';have e1:(es.eraseIdxIfInBounds j).toList=es.toList.eraseIdx j:=by simp [Array.eraseIdxIfInBounds,hlt]
   rw[e1,List.mem_eraseIdx_iff_getElem];constructor
   .rintro⟨i,hi,hne,rfl⟩;refine⟨List.getElem_mem _,λe=>hne ?_⟩;exact (hrep.find hj (j:=i) (e':=es.toList[i]) (by simp) (by rw[hkey,e])).symm
   .rintro⟨h1,h2⟩;obtain⟨i,hi,rfl⟩:=List.mem_iff_getElem.1 h1;refine⟨i,hi,λe=>h2 ?_,rfl⟩;subst e;rw[Array.getElem_toList,hej];exact hkey
  refine⟨es.eraseIdxIfInBounds j,?_,⟨λe' he'=>?_,λk' l' hk'=>?_,λe' he'=>?_,?_⟩,λe' he'=>hkw e' ((hsub e').1 he').1⟩
  .exact Y77
  .obtain⟨h1,h2⟩:=(hsub e').1 he';exact Y99
  .rw[zbG] at hk';split at hk'
   .cases hk'
   .rename_i he;obtain⟨e',he',hke⟩:=hrep.2.1 k' l' hk';exact⟨e',(hsub e').2 ⟨he',λe=>he (by rw[<-hke,e];exact zb1 kw)⟩,hke⟩
  .obtain⟨h1,h2⟩:=(hsub e').1 he';rw[zbG,if_neg (λe=>h2 (zbB e))];exact hrep.2.2.1 e' h1
  .have e1:(es.eraseIdxIfInBounds j).toList=es.toList.eraseIdx j:=by simp [Array.eraseIdxIfInBounds,hlt]
   rw[e1];exact hrep.2.2.2.sublist (List.eraseIdx_sublist _ _)
 .refine⟨es,?_,⟨λe' he'=>?_,λk' l' hk'=>?_,λe' he'=>?_,hrep.2.2.2⟩,hkw⟩
  .exact Y77
  .obtain⟨g0,l0,g1,g2⟩:=hrep.1 e' he';exact⟨g0,l0,by rw[zbG,if_neg (λe=>hno e' he' (zbB e))];exact g1,g2⟩
  .rw[zbG] at hk';split at hk'
   .cases hk'
   .exact hrep.2.1 k' l' hk'
  .rw[zbG,if_neg (λe=>hno e' he' (zbB e))];exact hrep.2.2.1 e' he'
end
end Go.Proofs.YtimfnpjcedjmiadGreat
namespace Go.Proofs.YtimfnpjcedjmiadGreat
open Go.RowKit
section
variable {P:Program} {n:Nat} {fp:Nat->Prop} {w0:Start} {σ:zaM} {μ:zaJ} {Ds:Nat->Nat->Prop} {A:AS} {a:Act} {w:World} {K:MK}
 {dst:Option Tmp} {ty:TypeId} {pos:String} {after:Array Edge} {guard:Option (Nat×Bool)} {Q:Exit->Act->World->Prop}
theorem Rel.drew(h:Rel n fp w0 σ μ Ds A a w):Rel n fp w0 σ μ Ds A a w.drew:=by
 obtain⟨m1,m2,m3⟩:=h.mem;refine⟨h.defers,h.size,h.frame,h.agree,⟨λid r hr=>(m1 id r hr).ext rfl (Gle.refl _) (λb _=>⟨rfl,λ_=>rfl⟩) (λ_ _ _ h=>h),m2,m3⟩,h.own,⟨h.keeps.os,h.keeps.tape,h.keeps.output,h.keeps.size,h.keeps.block⟩,h.old,h.mono,h.gle,h.kout,h.klen⟩
theorem Rel.ext(h:Rel n fp w0 σ μ Ds A a w){σ':zaM}{w':World}(hsz:w.heap.size<=w'.heap.size)(hos:w'.os=w.os)(htape:w'.tape=w.tape)(hout:w'.output=w.output)
  (hfr: ∀b,b<w.heap.size->w'.heap[b]? =w.heap[b]? /\ ∀o,σ' b o=σ b o) (hag:zed σ' w'):Rel n fp w0 σ' μ Ds A a w':=by
 have hs: ∀b o y,σ b o=some y->σ' b o=some y:=λb o y hy=>by rw[(hfr b (h.agree.lt hy)).2];exact hy
 obtain⟨m1,m2,m3⟩:=h.mem;refine⟨h.defers,h.size,λt av ht=>(h.frame t av ht).mono hs (Gle.refl _),hag,⟨λid r hr=>(m1 id r hr).ext rfl (Gle.refl _) (λb hb=>hfr b ((m1 id r hr).live hb)) hs,m2,m3⟩,h.own,
  ⟨hos.trans h.keeps.os,htape.trans h.keeps.tape,hout.trans h.keeps.output,Nat.le_trans h.keeps.size hsz,λk hk hf=>by rw[(hfr k (Nat.lt_of_lt_of_le hk h.keeps.size)).1];exact h.keeps.block k hk hf⟩,
  λb o hb hf=>by rw[(hfr b (Nat.lt_of_lt_of_le hb h.keeps.size)).2];exact h.old b o hb hf,λb o y hy=>hs _ _ _ (h.mono b o y hy),h.gle,h.kout,h.klen⟩
theorem zkH{op:BinOp}{t:TypeId}{x y:Operand}{rows:List (List AV)}{m:List Res}{ao:Option Addr}{l c:Nat}(hu: ∃e,P.underlying t=some (.slice e))(hl:ao=none->rows=[])(hk:nilEq op rows m K):
  ∃z,(do eqGuard op t x y (.slice ao l c) (.slice none 0 0);binOp op t (.slice ao l c) (.slice none 0 0)).run P w=.ok z w/\K m (.v z):=by
 obtain⟨e,hu⟩:=hu;have hg:(eqGuard op t x y (.slice ao l c) (.slice none 0 0)).run P w=.ok () w:=by cases op<;>rfl
 have he:(Op.equal t (.slice ao l c) (.slice none 0 0)).run P w=.ok ao.isNone w:=by
  refine zgG λd=>?_;cases ao<;>simp [Op.equalIn,underlying,program,hu,Sem.run_bind,Result.andThen_ok,Sem.run,pure,Sem.run_pure]
 have hn:ao.isNone=true->rows=[]:=λh=>hl (by simpa using h);simp only[Sem.run_bind,hg,Result.andThen_ok];cases op<;>simp only[nilEq] at hk<;>first|exact hk.elim|skip
 .exact⟨_,by simp [binOp,Sem.run_bind,he,Result.andThen_ok,Sem.run_pure],hk _ hn⟩
 .refine⟨.bool (neg ao.isNone),?_,hk _ hn⟩;simp [binOp,Sem.run_bind,he,Result.andThen_ok,Sem.run_pure,zlh]
theorem zeQ(z:Array Value){n p q j:Nat}(hq:p=q*z.size+j)(hj:j<z.size)(hp:p<n*z.size):(Builtin.zeroCells z n).toList[p]? =z.toList[j]? :=by
 unfold Builtin.zeroCells;have hm:p%z.size=j:=by rw[hq,Nat.add_comm,Nat.add_mul_mod_self_right];exact Nat.mod_eq_of_lt hj
 simp only[Array.toList_map,Array.toList_range,List.getElem?_map,List.getElem?_range hp,Option.map_some,hm,Array.getElem?_toList];rw[getElem!_pos z j hj,Array.getElem?_eq_getElem hj]
theorem zm5(h:Rel n fp w0 σ μ Ds A a w){x:Operand}{ats:Array TypeId}{t:TypeId}{id g sz i m:Nat}(hm:evO A.fr x=.tl id g sz i m)(hts:ats[0]? =some t)
  (hq:nthK A.mem id λr=>match r with
   | .arr fr E s g' rows=>match zf8 P t with
    |some (e,sz',_,_)=>match zd1 P e with
     |some zv=>tt (Nat.beq E e&&Nat.blt E 1099511627776) (tt (Nat.beq s sz) (tt (Nat.beq sz' sz) (tt (Nat.blt 0 sz) (tt (Nat.beq g g') (tt (Nat.beq zv.cells.size sz) (tt (zv.cells.toList.all Value.oneCell') (K (A.mem.set id (.arr fr E s g (rows.take i++List.replicate (m-i) (zv.cells.toList.map .v)++rows.drop m))) (.v (.tuple #[])))))))))
     |none=>False
    |none=>False
   |_=>False):Oper.wp P ⟨dst,.call ⟨.builtin .clear,#[x],ats⟩,ty,pos,after,guard⟩ a w (zeN n fp w0 A a dst K) Q:=by
 obtain⟨r,hr,hq⟩:=zaH hq;split at hq
 .rename_i fr E s g' rows;split at hq
  .rename_i e sz' z1 b1 hsl;split at hq
   .rename_i zv hzv;obtain⟨c1,hq⟩:=zaB hq;obtain⟨c1,c1b⟩:=Bool.and_eq_true_iff.1 c1;obtain⟨c2,hq⟩:=zaB hq;obtain⟨c3,hq⟩:=zaB hq;obtain⟨c4,hq⟩:=zaB hq;obtain⟨c5,hq⟩:=zaB hq;obtain⟨c6,hq⟩:=zaB hq;obtain⟨c7,hK⟩:=zaB hq;have c1:=Nat.eq_of_beq_eq_true c1;have c2:=Nat.eq_of_beq_eq_true c2;have c3:=Nat.eq_of_beq_eq_true c3;have c5:=Nat.eq_of_beq_eq_true c5;have c6:=Nat.eq_of_beq_eq_true c6;have c4:0<sz:=Nat.le_of_ble_eq_true c4;subst c1 c2 c5;obtain⟨hu,_⟩:=zco hsl;have hzr:(zeroValue E).run P w=.ok zv w:=by
     unfold zd1 at hzv;cases hi:P.info? E with
     |none=>rw[hi] at hzv;cases hzv
     |some inf=>
      rw[hi] at hzv;have hz:inf.zero=some zv:=hzv;simp [zeroValue,typeInfo,program,hi,hz,Sem.run_bind,Sem.run,Result.andThen_ok,pure,Sem.run_pure]
    have hx:=h.ev x;rw[hm] at hx;obtain⟨ao,mm,cap,an,hv,k1,k2,k3,k4,hmu,hle⟩:=hx.inv_tl;have hmem:=h.mem.ok id _ hr;obtain⟨ao',cap',xs,q1,q2,q3,q4,q5,q6⟩:=hmem;rw[hmu] at q1;obtain rfl:=Option.some.inj q1;obtain⟨_,hle⟩:=hle;obtain⟨rfl,rfl,rfl⟩:=hle rfl;have hid:=(List.getElem?_eq_some_iff.1 hr).1;clear hq;have fin: ∀w',(Builtin.clear_ ats ty #[a.eval x]).run P w=.ok (.tuple #[]) w'->(execOp a.eval ⟨dst,.call ⟨.builtin .clear,#[x],ats⟩,ty,pos,after,guard⟩).run P w=.ok (.value (.tuple #[])) w':=by
     intro w' hw';rw[BigFrame.execOp_builtin];simp [builtin,hw',Sem.run_bind,Result.andThen_ok,Sem.run_pure]
    by_cases hem:i=m
    .subst hem;have e1:rows.take i++List.replicate (i-i) (zv.cells.toList.map AV.v)++rows.drop i=rows:=by simp
     rw[e1] at hK;have e2:A.mem.set id (.arr fr E s g rows)=A.mem:=by
      apply List.ext_getElem?;intro j;rw[List.getElem?_set];by_cases hj:id=j
      .subst hj;rw[if_pos rfl,if_pos hid,hr]
      .rw[if_neg hj]
     rw[e2] at hK;refine zac (x:=.tuple #[]) (fin w ?_) h (.v _ _) hK;rw[hv,Nat.sub_self];generalize (if cap'=i then ao' else Option.map (λx:Addr=>x.add (i*s)) ao')=o;cases o<;>simp [Builtin.clear_,hts,Sem.run_bind,run_underlying hu,Result.andThen_ok,Sem.run_pure]
    .have him:i<m:=by omega
     rcases q2.2 with⟨e1,_⟩|⟨b,cp,cur,F,fz,e1,hheap,hnc,hcm,hcs,htake,hFE,hfz⟩
     .simp only[Value.slice.injEq] at e1;omega
     .simp only[Value.slice.injEq,true_and] at e1;obtain⟨rfl,rfl⟩:=e1;have hcl:(Builtin.zeroCells zv.cells (m-i)).toList.length=(m-i)*s:=by rw[Array.length_toList,size_zeroCells,c6]
      have him2:i*s+(m-i)*s=m*s:=by rw[<-Nat.add_mul];congr 1;omega
      have hms:m*s<=rows.length*s:=Nat.mul_le_mul_right _ k2;have hcsz:rows.length*s<=cur.size:=by rw[hcs];exact Nat.mul_le_mul_right _ hnc
      have hset:=zll q2 hheap (off:=i*s) (ys:=(Builtin.zeroCells zv.cells (m-i)).toList) (by rw[hcl];omega);have hone: ∀v∈(Builtin.zeroCells zv.cells (m-i)).toList,v.oneCell'=true:=by
       intro v hv;obtain⟨p,hp,rfl⟩:=List.mem_iff_getElem.1 hv;rw[hcl] at hp;have hg:=zeQ zv.cells (n:=m-i) (p:=p) (q:=p / s) (j:=p%s) (by rw[c6,Nat.mul_comm];exact (Nat.div_add_mod p s).symm) (by rw[c6];exact Nat.mod_lt _ c4) (by rw[c6];exact hp);rw[List.getElem?_eq_getElem (by rw[hcl];exact hp)] at hg;exact List.all_eq_true.1 c7 _ (List.mem_of_getElem? hg.symm)
      have hst:=zbc P b (i*s) F fz (Builtin.zeroCells zv.cells (m-i)).toList 0 cur w hheap hfz (by rw[hcl];omega) hone;simp only[Nat.add_zero] at hst;have hlen:(rows.take i++List.replicate (m-i) (zv.cells.toList.map AV.v)++rows.drop m).length=rows.length:=by
       simp only[List.length_append,List.length_take,List.length_replicate,List.length_drop];omega
      have hgl:Gle μ (updG μ id (.cur (some ⟨b,0,none⟩) rows.length cap' g)):=zeG λx hx=>by rw[hmu] at hx;obtain rfl:=Option.some.inj hx;exact An.le_refl _
      have hrel:=h.upd (id:=id) (r:=.arr fr E s g (rows.take i++List.replicate (m-i) (zv.cells.toList.map AV.v)++rows.drop m)) (D:=Ds id) (an:=.cur (some ⟨b,0,none⟩) rows.length cap' g) (σ':=σ) (w':=w.setRow b (cur.toList.take (i*s)++(Builtin.zeroCells zv.cells (m-i)).toList++cur.toList.drop (i*s+(Builtin.zeroCells zv.cells (m-i)).toList.length)).toArray) (Nat.le_of_lt hid) (by simp) rfl rfl rfl
       (λb' hb' hd=>⟨setRow_other w b b' _ (λe=>hd ((q6 b').2 (by rw[e];rfl))),λ_=>rfl⟩) (λ_ _ _ h=>h)
       (λb' o' y hy=>by
        have hne:b'≠b:=λe=>by subst e;rw[q5 b' ((q6 b').2 rfl) o'] at hy;cases hy
        rw[cell_setRow_other w b _ ⟨b',o',none⟩ hne];exact h.agree b' o' y hy)
       (by
        refine⟨some ⟨b,0,none⟩,cap',_,by rw[hlen];exact updG_self,by rw[hlen];exact hset,?_,?_,q5,q6⟩
        .intro r' hr';rcases List.mem_append.1 hr' with h1|h1
         .rcases List.mem_append.1 h1 with h2|h2
          .exact q3 _ (List.mem_of_mem_take h2)
          .rw[List.eq_of_mem_replicate h2,List.length_map,Array.length_toList,c6]
         .exact q3 _ (List.mem_of_mem_drop h1)
        .intro i' j r' av g1 g2;have f1:(xs.take (i*s)).length=i*s:=by rw[List.length_take,q2.1];omega
         have f2:(rows.take i).length=i:=by rw[List.length_take];omega
         have hlo: ∀(p:Nat) (q:List AV),rows[p]? =some q->(p<i\/m<=p)->q=r'->p=i'-> ∃y,((xs.take (i*s)++(Builtin.zeroCells zv.cells (m-i)).toList)++xs.drop (i*s+(Builtin.zeroCells zv.cells (m-i)).toList.length))[i'*s+j]? =some y/\RepV σ (gOf fr (updG μ id (.cur (some ⟨b,0,none⟩) rows.length cap' g))) av y/\y.oneCell'=true:=by
          intro p q hp hpi hqr hpp;subst hqr hpp;obtain⟨y,y1,y2,y3⟩:=q4 p j q av hp g2;refine⟨y,?_,y2.mono (λ_ _ _ h=>h) (zcq hgl),y3⟩;have hjs:j<s:=by rw[<-q3 q (List.mem_of_getElem? hp)];exact (List.getElem?_eq_some_iff.1 g2).1
          rw[<-y1,List.append_assoc,List.getElem?_append,f1];rcases hpi with hlt|hge
          .have:(p+1)*s<=i*s:=Nat.mul_le_mul_right _ hlt;rw[Nat.add_mul] at this;rw[if_pos (by omega),List.getElem?_take,if_pos (by omega)]
          .have:m*s<=p*s:=Nat.mul_le_mul_right _ hge;rw[if_neg (by omega),List.getElem?_append,hcl,if_neg (by omega),List.getElem?_drop];congr 1;omega
         have g1':=g1;rw[List.append_assoc,List.getElem?_append,f2] at g1;split at g1
         .rename_i hlt;rw[List.getElem?_take,if_pos hlt] at g1;exact hlo i' r' g1 (.inl hlt) rfl rfl
         .rename_i hge;rw[List.getElem?_append,List.length_replicate] at g1;split at g1
          .rename_i hlt;rw[List.getElem?_replicate,if_pos hlt] at g1;obtain rfl:=Option.some.inj g1;rw[List.getElem?_map,Option.map_eq_some_iff] at g2;obtain⟨y,hy,rfl⟩:=g2;have hjs:j<s:=by rw[<-c6];have:=(List.getElem?_eq_some_iff.1 hy).1;simpa using this
           refine⟨y,?_,.v _ _,List.all_eq_true.1 c7 _ (List.mem_of_getElem? hy)⟩;have hb1:i'*s+j-i*s=(i'-i)*s+j:=by
            have:i'*s=i*s+(i'-i)*s:=by rw[<-Nat.add_mul];congr 1;omega
            omega
           have hb2:(i'-i)*s+j<(m-i)*s:=by
            have:(i'-i+1)*s<=(m-i)*s:=Nat.mul_le_mul_right _ (by omega);rw[Nat.add_mul] at this;omega
           have hb3:i*s<=i'*s:=Nat.mul_le_mul_right _ (by omega);have hz:=zeQ zv.cells (n:=m-i) (p:=(i'-i)*s+j) (q:=i'-i) (j:=j) (by rw[c6]) (by rw[c6];exact hjs) (by rw[c6];exact hb2);rw[List.append_assoc,List.getElem?_append,f1,if_neg (by omega),hb1,List.getElem?_append,hcl,if_pos hb2,hz];exact hy
          .rename_i hge2;rw[List.getElem?_drop] at g1;exact hlo _ r' g1 (.inr (by omega)) rfl (by omega))
       (λb' hb'=>.inl hb') (λx hx=>by rw[hmu] at hx;obtain rfl:=Option.some.inj hx;exact An.le_refl _)
      rw[zb9 hid] at hrel;refine zac (x:=.tuple #[]) (fin _ ?_) hrel (.v _ _) hK;rw[hv,if_neg (by omega)];have hadd:(Option.map (λx:Addr=>x.add (i*s)) (some ⟨b,0,none⟩))=some ⟨b,i*s,none⟩:=by
       have:(⟨b,0,none⟩:Addr).add (i*s)=⟨b,i*s,none⟩:=by unfold Addr.add;split<;>simp_all
       simp [this]
      rw[hadd];obtain⟨d,hd⟩: ∃d,m-i=d+1:=⟨m-i-1,by omega⟩;rw[hd] at hst ⊢;simp only[Builtin.clear_,hts,Sem.run_bind,run_underlying hu,Result.andThen_ok,Sem.run_pure,List.getElem?_toArray,List.getElem?_cons_zero,hzr,hst]
   .exact hq.elim
  .exact hq.elim
 .exact hq.elim
theorem zpc(w:World)(ty:TypeId)(r bm since c0:Nat)(sn:Array Nat)(es:Array MapEntry)(clock:Nat)(hr:w.heap[r]? =some (.mapIter (some bm) since sn c0))(hb:w.heap[bm]? =some (.map es clock))(hold: ∀x∈es.toList,x.born<since)(hsc:since<=c0):
  ((leftOf es sn).size=0/\(Instr.next (.pointer (some ⟨r,0,none⟩)) false ty).run P w=.ok (.tuple #[.bool false]) w) ∨
  ∃e∈(leftOf es sn).toList,∃w1:World,(w1=w\/w1=w.drew)/\(Instr.next (.pointer (some ⟨r,0,none⟩)) false ty).run P w=.ok (.tuple #[.bool true,e.key,e.val]) (World.setO w1 r (.mapIter (some bm) since (sn.push e.born) clock)):=by
 simp only[Instr.next,getObj,Sem.run_bind,Sem.run,hr,hb,Result.andThen,next_test_false sn es since c0 hold hsc,Bool.false_eq_true,if_false];unfold leftOf;have hmem: ∀x∈(Array.filter (λe=> !sn.contains e.born) es).toList,x.born<since:=λx hx=>hold x (by simp at hx ⊢;exact hx.1);generalize Array.filter (λe=> !sn.contains e.born) es=L at hmem ⊢;have e1:L.filter (λx=>decide (x.born<since))=L:=Array.filter_eq_self.2 (λx hx=>by simpa using hmem x (by simpa using hx));have e2:L.filter (λx=>decide (x.born>=since))= #[]:=by
  rw[Array.filter_eq_empty_iff];intro x hx;have:=hmem x (by simpa using hx);simp;omega
 simp only[e1,e2,Array.append_empty];by_cases h0:L.size=0
 .left
  have:L= #[]:=Array.eq_empty_of_size_eq_zero h0;subst this;refine⟨rfl,?_⟩;simp [choose,Sem.run,Question.forced]
 .right
  have hne:L.isEmpty=false:=by simp [Array.isEmpty,h0]
  simp only[hne,Bool.false_eq_true,if_false,Array.empty_append,Array.size_map];have hch: ∃(j:Nat) (w1:World),j<L.size/\(w1=w\/w1=w.drew)/\(choose (Question.mapNext L.size)).run P w=.ok j w1:=by
   by_cases hf:L.size<=1
   .exact⟨0,w,by omega,.inl rfl,by simp [choose,Sem.run,Question.forced,hf]⟩
   .exact⟨_,w.drew,Nat.mod_lt _ (by omega),.inr rfl,by
     simp only[choose,Sem.run,Question.forced,decide_eq_true_eq,hf,if_false,Question.cut];rfl⟩
  obtain⟨j,w1,hj,hal,hrun⟩:=hch;refine⟨L[j],by simp,w1,hal,?_⟩;have hheap:w1.heap=w.heap:=by rcases hal with rfl|rfl<;>rfl
  have hset: ∀(o':Obj),(setObj r o').run P w1=.ok () (World.setO w1 r o'):=λo'=>by
   simp only[setObj,Sem.run,hheap,hr,World.setO]
  simp only[hrun,Array.getElem?_map,Array.getElem?_eq_getElem hj,Option.map_some,Sem.run_bind,hset,Result.andThen];rfl
theorem zhK(h:Rel n fp w0 σ μ Ds A a w){t:TypeId}{x:Operand}{id:Nat}{kk:Option IntKind}{ag:Bool}{f:Value->Option (List AV)}(hs:evO A.fr x=.map id)(hr:A.mem[id]? =some (.map kk ag f))
  (hq:tt (zhU P t).isSome (K (A.mem.set id (.miter A.mem.length kk ag f (λ_=>false) none)++[.alias id]) (.box A.mem.length 0))):Oper.wp P ⟨dst,.range t x,ty,pos,after,guard⟩ a w (zeN n fp w0 A a dst K) Q:=by
 obtain⟨hk,hK⟩:=zaB hq;obtain⟨⟨kk',ag'⟩,hkm⟩:=Option.isSome_iff_exists.1 hk;obtain⟨kt,e,sz,u1,hsh⟩:=zfF hkm;have hx:=h.ev x;rw[hs] at hx;obtain⟨bm,hmv,hmu⟩:=hx.inv_map;obtain⟨r0,es,clock,g1,g2,g3,g4,g5,g6⟩:=h.mem.ok id _ hr;rw[hmu] at g1;simp only[Option.some.injEq,An.fix.injEq,Value.map.injEq] at g1;subst g1;have hid:id<A.mem.length:=(List.getElem?_eq_some_iff.1 hr).1;have hbm:bm<w.heap.size:=(Array.getElem?_eq_some_iff.1 g2).1;have h1:=h.new (r:=.alias id) (D:=λ_=>False) (an:=.fix (.pointer (some ⟨w.heap.size,0,none⟩))) (σ':=σ) (w':=w) (Nat.le_refl _) rfl rfl rfl (λb hb=>⟨rfl,λ_=>rfl⟩) h.agree ⟨⟨_,updG_self⟩,λ_ hb=>hb⟩ (λb hb=>hb.elim);have hne: ¬A.mem.length=id:=by omega
 have hne': ¬id=A.mem.length:=by omega
 have hmu1:updG μ A.mem.length (.fix (.pointer (some ⟨w.heap.size,0,none⟩))) id=some (.fix (.map (some bm))):=by simp [updG,hne',hmu]
 have h2:=h1.upd (id:=id) (r:=.miter A.mem.length kk ag f (λ_=>false) none) (D:=λk=>k=w.heap.size\/k=bm) (an:=.fix (.map (some bm))) (σ':=σ) (w':=w.alloc (.mapIter (some bm) clock #[] clock))
  (by simp only[List.length_append,List.length_singleton];omega) (by simp) rfl rfl rfl (λb hb hd=>⟨Below.heap_alloc w _ b hb,λ_=>rfl⟩) (λ_ _ _ h=>h) h.agree.alloc
  ⟨w.heap.size,bm,es,clock,clock,clock,#[],by simp [updG,hne],updG_self,by omega,heap_alloc_new w _,by rw[Below.heap_alloc w _ bm hbm];exact g2,g3,g4,λe he=>(g3.1 e he).1,⟨Nat.le_refl _,Nat.le_refl _⟩,λe he=>(by simp),λk hk=>(by cases hk),λo=>h.none_new (Nat.le_refl _),g5,λk=>Iff.rfl⟩
  (λb hb=>by
   rcases hb with rfl|rfl
   .exact .inr (Nat.le_refl _)
   .left
    show updD Ds A.mem.length (λ_=>False) id b;unfold updD;rw[if_neg hne'];exact (g6 b).2 rfl)
  (λx hx=>by rw[hmu1] at hx;obtain rfl:=Option.some.inj hx;exact An.le_refl _)
 have hp:putR (A.mem++[Res.alias id]) id (.miter A.mem.length kk ag f (λ_=>false) none)=A.mem.set id (.miter A.mem.length kk ag f (λ_=>false) none)++[.alias id]:=by
  rw[zb9 (by simp only[List.length_append,List.length_singleton];omega),List.set_append,if_pos hid]
 rw[show (⟨A.fr,A.mem++[Res.alias id]⟩:AS).mem=A.mem++[Res.alias id] from rfl,hp] at h2;refine zac (x:=.pointer (some ⟨w.heap.size,0,none⟩)) ?_ h2 (.box _ _ 0 _ (by simp [updG,hne])) hK;simp only[execOp,hmv,Sem.run_bind,run_range_map w t kt e bm es clock u1 g2,Result.andThen_ok,Sem.run_pure]
theorem zlP(h:Rel n fp w0 σ μ Ds A a w){x:Operand}(hq:nextM A.mem (evO A.fr x) K):Oper.wp P ⟨dst,.next x false,ty,pos,after,guard⟩ a w (zeN n fp w0 A a dst K) Q:=by
 unfold nextM at hq;split at hq
 .rename_i it hv;obtain⟨r,hr,hq1⟩:=zaH hq;split at hq1
  .rename_i mid;obtain⟨q,hqm,hq2⟩:=zaH hq1;split at hq2
   .rename_i it' kk ag f seen last;obtain⟨he,hq3⟩:=zaB hq2;have he:=Nat.eq_of_beq_eq_true he;subst he;clear hq hq1 hq2;obtain⟨hk1,hk2⟩:=hq3;have hx:=h.ev x;rw[hv] at hx;obtain⟨b,hb,hmu⟩:=hx.inv_box;obtain⟨r,bm,es,clock,since,c0,sn,m1,m2,hne,g1,g2,g3,g4,g5,g6,g7,gl,s1,s2,hD⟩:=h.mem.ok mid _ hqm;rw[hmu] at m1;simp only[Option.some.injEq,An.fix.injEq,Value.pointer.injEq,Addr.mk.injEq,and_true] at m1;subst m1;have hmid:mid<A.mem.length:=(List.getElem?_eq_some_iff.1 hqm).1;rcases zpc (P:=P) w ty b bm since c0 sn es clock g1 g2 g5 g6.1 with⟨h0,hrun⟩|⟨e,he,w1,hw1,hrun⟩
    .have hall:=all_seen es sn h0;have hK:=hk2 (λk hf=>by
      cases hfk:f k with
      |none=>exact absurd hfk hf
      |some l=>
       obtain⟨e,he,rfl⟩:=g3.2.1 k l hfk;exact (g7 e he).1 (hall e he))
     have hrel:=h.upd (id:=mid) (r:=.map kk ag f) (D:=λk=>k=bm) (an:=.fix (.map (some bm))) (σ':=σ) (w':=w) (Nat.le_of_lt hmid) (Nat.le_refl _) rfl rfl rfl (λb hb hd=>⟨rfl,λ_=>rfl⟩) (λ_ _ _ h=>h) h.agree
      ⟨bm,es,clock,updG_self,g2,g3,g4,s2,λk=>Iff.rfl⟩ (λk hk=>.inl ((hD k).2 (.inr hk))) (λx hx=>by rw[m2] at hx;obtain rfl:=Option.some.inj hx;exact An.le_refl _)
     rw[zb9 hmid] at hrel;refine zac (x:=.tuple #[.bool false]) ?_ hrel (.tup _ _ _ rfl (λi av y e1 e2=>?_)) hK
     .simp only[execOp,hb,hrun,Sem.run_bind,Result.andThen_ok,Sem.run_pure]
     .match i,e1,e2 with
      |0,e1,e2=>simp at e1 e2;subst e1 e2;exact .v _ _
    .obtain⟨hes,hns⟩:=mem_left he;have hsk:seen e.key=false:=by
      cases hc:seen e.key with
      |false=>rfl
      |true=>rw[(g7 e hes).2 hc] at hns;cases hns
     obtain⟨_,l,hfl,_⟩:=g3.1 e hes;have hK:=hk1 e.key l hfl hsk;have h':Rel n fp w0 σ μ Ds A a w1:=by
      rcases hw1 with rfl|rfl
      .exact h
      .exact h.drew
     have hheap:w1.heap=w.heap:=by rcases hw1 with rfl|rfl<;>rfl
     have hgr:(World.setO w1 b (.mapIter (some bm) since (sn.push e.born) clock)).heap[b]? =some (.mapIter (some bm) since (sn.push e.born) clock):=zel (by rw[hheap];exact g1);have hrel:=h'.upd (id:=mid) (r:=.miter it' kk ag f (updS seen e.key) (some e.key)) (D:=Ds mid) (an:=.fix (.map (some bm))) (σ':=σ) (w':=World.setO w1 b (.mapIter (some bm) since (sn.push e.born) clock)) (Nat.le_of_lt hmid) (by rw[zjM];exact Nat.le_refl _) rfl rfl rfl
      (λk hk hd=>⟨zc1 (λe=>hd ((hD k).2 (.inl e))),λ_=>rfl⟩) (λ_ _ _ h=>h)
      (λb' k y hy=>by
       have hne':b'≠b:=λe=>by subst e;rw[s1 k] at hy;cases hy
       rw[World.cell?_of_block (w:=w1) (w':=World.setO w1 b (.mapIter (some bm) since (sn.push e.born) clock)) (a:=⟨b',k,none⟩) (zc1 hne')];exact h'.agree b' k y hy)
      ⟨b,bm,es,clock,since,clock,sn.push e.born,by
        have: ¬it'=mid:=λe=>by subst e;rw[hmu] at m2;cases m2
        simp [updG,this,hmu],updG_self,hne,hgr,by rw[zc1 (λe=>hne e.symm),hheap];exact g2,g3,g4,g5,⟨g6.2,g6.2⟩,λx hx=>by
        rw[contains_push];unfold updS;obtain⟨hkx,_⟩:=g4 x hx;cases hq:zcW x.key e.key with
        |true=>
         have hke:=zbB hq;have hxe:x=e:=by
          obtain⟨i,hi,rfl⟩:=List.mem_iff_getElem.1 hx;obtain⟨j,hj,rfl⟩:=List.mem_iff_getElem.1 hes;have hp:=List.pairwise_iff_getElem.1 g3.2.2.2;rcases Nat.lt_trichotomy i j with hlt|heq|hgt
          .exact absurd hke (hp i j hi hj hlt).1
          .subst heq;rfl
          .exact absurd hke.symm (hp j i hj hi hgt).1
         subst hxe;simp
        |false=>
         have hne2:x.born≠e.born:=λhb=>by
          obtain⟨i,hi,rfl⟩:=List.mem_iff_getElem.1 hx;obtain⟨j,hj,rfl⟩:=List.mem_iff_getElem.1 hes;have hp:=List.pairwise_iff_getElem.1 g3.2.2.2;rcases Nat.lt_trichotomy i j with hlt|heq|hgt
          .exact absurd hb (hp i j hi hj hlt).2
          .subst heq;rw[zb1 hkx] at hq;cases hq
          .exact absurd hb.symm (hp j i hj hi hgt).2
         simp only[beq_eq_false_iff_ne.2 hne2,Bool.or_false];exact g7 x hx,λk hk=>⟨rfl,e,hes,by simp,Option.some.inj hk⟩,s1,s2,hD⟩
      (λk hk=>.inl hk) (λx hx=>by rw[m2] at hx;obtain rfl:=Option.some.inj hx;exact An.le_refl _)
     rw[zb9 hmid] at hrel;refine zac (x:=.tuple #[.bool true,e.key,e.val]) ?_ hrel (.tup _ _ _ rfl (λi av y e1 e2=>?_)) hK
     .simp only[execOp,hb,hrun,Sem.run_bind,Result.andThen_ok,Sem.run_pure]
     .match i,e1,e2 with
      |0,e1,e2=>simp at e1 e2;subst e1 e2;exact .v _ _
      |1,e1,e2=>simp at e1 e2;subst e1 e2;exact .v _ _
      |2,e1,e2=>simp at e1 e2;subst e1 e2;exact .any _ _
   .exact hq2.elim
  .exact hq1.elim
 .exact hq.elim
theorem vm_sound(h:Rel n fp w0 σ μ Ds A a w){mt:Mut}: ∀{op:Op},vm P mt A.fr A.mem op K->Oper.wp P ⟨dst,op,ty,pos,after,guard⟩ a w (zeN n fp w0 A a dst K) Q:=by
 intro op hq;cases op
 case box t x=>
  simp only[vm,evV_eq] at hq;obtain⟨l,hl,hK⟩:=zb0 hq;obtain⟨h1,h2,h3⟩:=(h.ev x).cells hl;refine zac ?_ (h.boxed t h1 h2) (.box _ _ 0 w.heap.size updG_self) hK;simp [execOp,Instr.box,newVar,newRow,newObj,Sem.run_bind,Sem.run,Result.andThen_ok,pure,Sem.run_pure];try rfl
 case alloc t=>
  simp only[vm] at hq;split at hq
  .rename_i z hz;simp only[fz_eq] at hq;obtain⟨l,hl,hK⟩:=zb0 hq;obtain⟨h1,h2,h3⟩:=(zkp σ μ z).cells hl;unfold zd1 at hz;cases hi:P.info? t with
   |none=>simp [hi] at hz
   |some i=>
    simp [hi] at hz;refine zac ?_ (h.boxed t h1 h2) (.box _ _ 0 w.heap.size updG_self) hK;simp [execOp,Instr.alloc,zeroValue,typeInfo,program,hi,hz,newVar,newRow,newObj,Sem.run_bind,Sem.run,Result.andThen_ok,pure,Sem.run_pure];try rfl
  .exact hq.elim
 case store t p x=>
  simp only[vm,evV_eq] at hq;obtain⟨lx,hlx,hK⟩:=zb0 hq;exact st_sound h hlx hK
 case buildSlice t len parts=>
  simp only[vm] at hq;split at hq
  .rename_i e sz z by_ hst;simp only[fzN_eq] at hq;obtain⟨hz0,hq1⟩:=zaB hq;obtain⟨hp0,hq2⟩:=zaB hq1;obtain⟨hm0,hq3⟩:=zaB hq2;have hz:=Nat.eq_of_beq_eq_true hz0;have hpos:0<sz:=Nat.le_of_ble_eq_true hp0;have hsmall:=Nat.le_of_ble_eq_true hm0;obtain⟨hu,bb,i,z',hsh,hi,hzz,hzs,hby,hisz⟩:=zco hst;obtain⟨rs,hK,hrl,hrow,hpl,hpr⟩:=zjw hq3;obtain⟨hlen0,hK⟩:=zaB hK;have hlen:=Nat.eq_of_beq_eq_true hlen0;clear hq hq1 hq2 hq3;have hno: ¬(len*sz>2^24):=by simpa using hsmall
   have hzr:(zeroValue e).run P w=.ok z' w:=by simp [zeroValue,typeInfo,program,hi,hzz,Sem.run_bind,Sem.run,Result.andThen_ok,pure,Sem.run_pure]
   obtain⟨zc,hzc⟩: ∃zc:Array Value,(len*sz=0/\zc= #[])\/(len*sz≠0/\zc=z'.cells):=by
    by_cases h0:len*sz=0
    .exact⟨#[],.inl ⟨h0,rfl⟩⟩
    .exact⟨z'.cells,.inr ⟨h0,rfl⟩⟩
   have hcs0:((Array.range (len*sz)).map (zc[· %zc.size]!)).size=len*sz:=by simp
   obtain⟨cs,g1,g2,g3,g4⟩:=zje h parts.toList 0 rs ((Array.range (len*sz)).map (zc[· %zc.size]!)) (by rw[hcs0,Nat.zero_add,<-hrl,hlen];exact Nat.le_refl _) hrl hrow (λj p hj=>by rw[hpl j p hj]) (λj r hj=>hpr j r hj);have hrun:(execOp a.eval ⟨dst,.buildSlice t len parts,ty,pos,after,guard⟩).run P w=.ok (.value (.slice (some ⟨w.heap.size,0,none⟩) rs.length rs.length)) (w.alloc (.cells cs e)):=by
    refine (show (execOp a.eval ⟨dst,.buildSlice t len parts,ty,pos,after,guard⟩)=(do pure (.value (<-Instr.buildSlice t len (parts.map λ(i,x)=>(i,a.eval x))))) from rfl)▸?_;have hparts:(parts.map λ(i,x)=>(i,a.eval x)).toList=parts.toList.map λp=>(p.1,a.eval p.2):=by simp
    have hsz:=zaR hsh w;rw[<-hlen];rcases hzc with⟨h0,rfl⟩|⟨h0,rfl⟩
    .simp only[Instr.buildSlice,Sem.run_bind,run_underlying hu,Result.andThen_ok,hsz,if_neg hno,Sem.run_pure,if_pos h0,hparts,g1,newRow,newObj,Sem.run];simp [Sem.run,pure,Sem.run_pure,Result.andThen_ok];try rfl
    .simp only[Instr.buildSlice,Sem.run_bind,run_underlying hu,Result.andThen_ok,hsz,if_neg hno,Sem.run_pure,if_neg h0,hzr,hparts,g1,newRow,newObj,Sem.run];simp [Sem.run,pure,Sem.run_pure,Result.andThen_ok];try rfl
   have hcsz:cs.size=rs.length*sz:=by rw[g2,hcs0,hlen]
   have hfits:rs.length<=maxLen:=by
    have:rs.length<=rs.length*sz:=Nat.le_mul_of_pos_right _ hpos;rw[<-hlen] at this ⊢;unfold maxLen;omega
   have hown: ∀rows:List (List AV),rows.length=rs.length->(w.alloc (.cells cs e)).ownsRow 0 e sz (.slice (some ⟨w.heap.size,0,none⟩) rows.length rs.length) rows.length cs.toList:=λrows hr=>
    ⟨by simp [hcsz,hr],.inr ⟨w.heap.size,rs.length,cs,rfl,Nat.zero_le _,heap_alloc_new w _,by omega,hfits,hcsz,by rw[List.take_of_length_le (by simp [hcsz,hr])]⟩⟩
   have hg4: ∀(j q:Nat) (r:List AV) (av:AV),rs[j]? =some r->r[q]? =some av-> ∃y,cs.toList[j*sz+q]? =some y/\RepV σ μ av y/\y.oneCell'=true:=λj q r av e1 e2=>by
    obtain⟨y,y1,y2,y3⟩:=g4 j q r av e1 e2;rw[Nat.zero_add] at y1;exact⟨y,by simpa using y1,y2,y3⟩
   split at hK
   .rename_i hfree;have hvl:(viewR rs).length=rs.length:=by simp [zgI]
    refine zeC (w':=w.alloc (.cells cs e)) (free:=true) (rows:=viewR rs) (cap:=rs.length) (ao:=some ⟨w.heap.size,0,none⟩) h (by simp) rfl rfl rfl (λb hb=>Below.heap_alloc w _ b hb) (hown _ hvl) ⟨by omega,hfits⟩ (λk hk=>by simp only[blkA,Option.some.injEq] at hk;omega) (λr hr=>?_) (λj q r av e1 e2=>?_) (by rw[hvl];exact hrun) (by rw[hvl,<-hlen];exact hK)
    .rw[zgI] at hr;obtain⟨r',hr',rfl⟩:=List.mem_map.1 hr;rw[viewL_eq,List.length_map];exact hrow r' hr'
    .rw[zgI,List.getElem?_map,Option.map_eq_some_iff] at e1;obtain⟨r',hr',rfl⟩:=e1;rw[viewL_eq,List.getElem?_map,Option.map_eq_some_iff] at e2;obtain⟨av',hav',rfl⟩:=e2;obtain⟨y,y1,y2,y3⟩:=hg4 j q r' av' hr' hav';exact⟨y,y1,(RepV.view y2).free0 (zeo (zjy hfree r' (List.mem_of_getElem? hr')) av' (List.mem_of_getElem? hav')),y3⟩
   .exact zeC (w':=w.alloc (.cells cs e)) (free:=false) (rows:=rs) (cap:=rs.length) (ao:=some ⟨w.heap.size,0,none⟩) h (by simp) rfl rfl rfl (λb hb=>Below.heap_alloc w _ b hb) (hown _ rfl) ⟨by omega,hfits⟩ (λk hk=>by simp only[blkA,Option.some.injEq] at hk;omega) hrow hg4 hrun (by rw[<-hlen];exact hK)
  .exact hq.elim
 case makeSlice t l c=>
  simp only[vm] at hq;split at hq
  .rename_i e sz z by_ hst;simp only[fzN_eq,evV_eq] at hq;obtain⟨hz0,hq1⟩:=zaB hq;obtain⟨hp0,hq2⟩:=zaB hq1;have hz:=Nat.eq_of_beq_eq_true hz0;have hpos:0<sz:=Nat.le_of_ble_eq_true hp0;obtain⟨hu,bb,i,z',hsh,hi,hzz,hzs,hby,hisz⟩:=zco hst;split at hq2
   .rename_i zv hzv;have hzz':zv=z':=by unfold zd1 at hzv;simp [hi,hzz] at hzv;exact hzv.symm
    subst hzz';split at hq2
    .rename_i k1 l1 el;split at hq2
     .rename_i k2 c1 ec;obtain⟨⟨h0,hc,hb2,hb3⟩,hK0⟩:=hq2;obtain⟨hall,hK⟩:=zaB hK0;have e1:=h.ev l;rw[el] at e1;have e1:=e1.inv_v;have e2:=h.ev c;rw[ec] at e2;have e2:=e2.inv_v;subst hc;have hm:c1.toNat<=maxLen:=by unfold maxLen;omega
      have hb4:i.bytes*c1.toNat<=281474976710656:=by
       rw[hby];have:((by_*c1.toNat:Nat):Int)<=281474976710656:=by rw[Int.natCast_mul,Int.toNat_of_nonneg h0,Int.mul_comm];exact hb2
       omega
      obtain⟨w',hr,hown,hgr⟩:=run_make_full (P:=P) w 0 t e i zv sz hu hi hzz hisz k1 k2 c1.toNat hb4 hm (Nat.zero_le _);rw[Int.toNat_of_nonneg h0] at hr;have hrun:(execOp a.eval ⟨dst,.makeSlice t l c,ty,pos,after,guard⟩).run P w=.ok (.value (.slice (some ⟨w.heap.size,0,none⟩) c1.toNat c1.toNat)) w':=by
       simp only[execOp,e1,e2,Sem.run_bind,hr,Result.andThen_ok,Sem.run_pure]
      have hzc:zv.cells.size=sz:=hzs.trans hz;have main: ∀fr,K (A.mem++[.arr fr e sz 0 (List.replicate c1.toNat (zv.cells.toList.map .v))]) (.arr A.mem.length 0 c1.toNat)->Oper.wp P ⟨dst,.makeSlice t l c,ty,pos,after,guard⟩ a w (zeN n fp w0 A a dst K) Q:=by
       intro fr hKK;have hl:(List.replicate c1.toNat (zv.cells.toList.map AV.v)).length=c1.toNat:=by simp
       refine zac hrun (h.newArr (f:=fr) (rows:=List.replicate c1.toNat (zv.cells.toList.map .v)) (cap:=c1.toNat) (ao:=some ⟨w.heap.size,0,none⟩) hgr.size hgr.os hgr.tape hgr.output (λb hb=>hgr.block b hb (by simp)) (by rw[hl];exact hown) (λk hk=>by simp only[blkA,Option.some.injEq] at hk;omega) (λr hr=>?_) (λj q r av g1 g2=>?_)) ?_ hKK
       .rw[(List.mem_replicate.1 hr).2];simp [hzc]
       .have hr:=(List.mem_replicate.1 (List.mem_of_getElem? g1));have hj:j<c1.toNat:=by have:=(List.getElem?_eq_some_iff.1 g1).1;simpa using this
        rw[hr.2] at g2;simp only[List.getElem?_map,Option.map_eq_some_iff] at g2;obtain⟨y,hy,rfl⟩:=g2;have hq:q<sz:=by have:=(List.getElem?_eq_some_iff.1 hy).1;simpa[hzc] using this
        have hlt:j*sz+q<c1.toNat*sz:=by
         have:(j+1)*sz<=c1.toNat*sz:=Nat.mul_le_mul_right _ hj;rw[Nat.add_mul] at this;omega
        refine⟨y,?_,.v _ _,List.all_eq_true.1 hall y (List.mem_of_getElem? hy)⟩;have hmod:(j*sz+q)%sz=q:=by rw[Nat.mul_comm,Nat.mul_add_mod,Nat.mod_eq_of_lt hq]
        have hyq:zv.cells[q]! =y:=by
         have:zv.cells[q]? =some y:=by simpa using hy
         rw[getElem!_def,this]
        simp [madeCells,hlt,hzc,hmod,hyq]
       .have:=RepV.arr (σ:=σ) (updG μ A.mem.length (.cur (some ⟨w.heap.size,0,none⟩) (List.replicate c1.toNat (zv.cells.toList.map AV.v)).length c1.toNat 0)) A.mem.length 0 c1.toNat (some ⟨w.heap.size,0,none⟩) c1.toNat c1.toNat _ (Nat.le_refl _) (Nat.le_refl _) hm updG_self (by rw[hl];exact An.le_refl _);exact this
      split at hK
      .exact main false hK
      .exact main true hK
     .exact hq2.elim
    .exact hq2.elim
   .exact hq2.elim
  .exact hq.elim
 case convert t u x=>
  simp only[vm,evV_eq] at hq;split at hq
  .rename_i s hs;split at hq
   .obtain⟨h1,hq1⟩:=zaB hq;obtain⟨h2,⟨hsz⟩,hK⟩:=zaB hq1;obtain⟨e,hu1,hu2⟩:=zgQ h2;have hx:=h.ev x;rw[hs] at hx;have hx:=hx.inv_v;have hr:=run_bytes_of_string (P:=P) w t u e s (zbp h1) hu1 hu2;have hge:=grownCap_ge w s.size 0 e;have hle:grownCap w s.size 0 e<=maxLen:=grownCap_le_maxLen w s.size 0 e hsz;have hl:(za4 s).length=s.size:=by simp [za4]
    have hb0: ∀i r,(za4 s)[i]? =some r->i<s.size/\r=[.v (.int .u8 ((s.data.toList.getD i 0).toNat:Int))]:=λi r hi=>by
     exact Y70
    have hbs:(bytesRow s (grownCap w s.size 0 e)).size=grownCap w s.size 0 e:=by
     simp only[bytesRow,Array.size_append,Array.size_map,Array.size_replicate];show s.size+_=_;omega
    have hget: ∀o,o<s.size->(bytesRow s (grownCap w s.size 0 e)).toList[o]? =some (.int .u8 ((s.data.toList.getD o 0).toNat:Int)):=by
     intro o ho;have ho':o<s.data.size:=ho;have hso:s.data[o]? =some s.data[o]:=Array.getElem?_eq_getElem ho';have e1:(bytesRow s (grownCap w s.size 0 e)).toList[o]? =(bytesRow s (grownCap w s.size 0 e))[o]? :=by simp
     rw[e1];simp [bytesRow,Array.getElem?_append,ho,ho',hso]
    have hown:ownA (w.drew.alloc (.cells (bytesRow s (grownCap w s.size 0 e)) e ((bytesRow s (grownCap w s.size 0 e)).size,(bytesRow s (grownCap w s.size 0 e)).size+1))) 1099511627776 1 (.slice (some ⟨w.heap.size,0,none⟩) (za4 s).length (grownCap w s.size 0 e)) (za4 s).length ((bytesRow s (grownCap w s.size 0 e)).toList.take s.size):=by
     refine⟨by rw[hl,List.length_take,Array.length_toList,hbs];omega,.inr ⟨w.heap.size,grownCap w s.size 0 e,bytesRow s (grownCap w s.size 0 e),e,_,rfl,heap_alloc_new w.drew _,by rw[hl];exact hge,hle,by rw[hbs,Nat.mul_one],by rw[hl,Nat.mul_one],λg=>absurd g (by decide),.inr (Nat.le_refl _)⟩⟩
    have hrel:=h.drew.newArrA (f:=true) (rows:=za4 s) (E:=1099511627776) (sz:=1) (ao:=some ⟨w.heap.size,0,none⟩) (w':=w.drew.alloc (.cells (bytesRow s (grownCap w s.size 0 e)) e ((bytesRow s (grownCap w s.size 0 e)).size,(bytesRow s (grownCap w s.size 0 e)).size+1))) (by simp) rfl rfl rfl (λb hb=>Below.heap_alloc w.drew _ b hb) hown (λk hk=>by simp only[blkA,Option.some.injEq] at hk;exact Nat.le_of_eq hk)
     (λr hr=>by
      obtain⟨i,hi⟩:=List.getElem?_of_mem hr;rw[(hb0 i r hi).2];rfl)
     (λi j r av g1 g2=>by
      obtain⟨h3,rfl⟩:=hb0 i r g1;cases j with
      |zero=>
       simp only[List.getElem?_cons_zero,Option.some.injEq] at g2;subst g2;exact⟨_,by rw[Nat.mul_one,Nat.add_zero,List.getElem?_take,if_pos h3];exact hget i h3,.v _ _,rfl⟩
      |succ j=>simp at g2)
    refine zac (x:=.slice (some ⟨w.heap.size,0,none⟩) s.size (grownCap w s.size 0 e)) ?_ hrel ?_ hK
    .simp only[execOp,hx,Sem.run_bind,hr,Result.andThen_ok,Sem.run_pure]
    .have fin:=RepV.arr (σ:=σ) (updG μ A.mem.length (.cur (some ⟨w.heap.size,0,none⟩) (za4 s).length (grownCap w s.size 0 e) 0)) A.mem.length 0 s.size (some ⟨w.heap.size,0,none⟩) (za4 s).length (grownCap w s.size 0 e) _ (by rw[hl];exact Nat.le_refl _) (by rw[hl];exact hge) hle updG_self (An.le_refl _);exact fin
   .obtain⟨h1,hq1⟩:=zaB hq;obtain⟨h2,⟨hsz⟩,hK⟩:=zaB hq1;obtain⟨e,hu1,hu2⟩:=zgQ h2;have hx:=h.ev x;rw[hs] at hx;have hx:=hx.inv_v;have hr:=run_bytes_of_string (P:=P) w t u e s (zbp h1) hu1 hu2;have hge:=grownCap_ge w s.size 0 e;have hle:grownCap w s.size 0 e<=maxLen:=grownCap_le_maxLen w s.size 0 e hsz;let σ':zaM:=λb o=>if b=w.heap.size then (if o<s.size then some (.int .u8 ((s.data.toList.getD o 0).toNat:Int)) else none) else σ b o
    have hcell: ∀o,o<s.size->(w.drew.alloc (.cells (bytesRow s (grownCap w s.size 0 e)) e ((bytesRow s (grownCap w s.size 0 e)).size,(bytesRow s (grownCap w s.size 0 e)).size+1))).cell? ⟨w.heap.size,o,none⟩=some (.int .u8 ((s.data.toList.getD o 0).toNat:Int)):=by
     intro o ho;have e1:(w.drew.alloc (.cells (bytesRow s (grownCap w s.size 0 e)) e ((bytesRow s (grownCap w s.size 0 e)).size,(bytesRow s (grownCap w s.size 0 e)).size+1))).heap[w.heap.size]? =some (.cells (bytesRow s (grownCap w s.size 0 e)) e ((bytesRow s (grownCap w s.size 0 e)).size,(bytesRow s (grownCap w s.size 0 e)).size+1)):=heap_alloc_new w.drew _;have ho':o<s.data.size:=ho;simp only[World.cell?];rw[e1];have hso:s.data[o]? =some s.data[o]:=Array.getElem?_eq_getElem ho';simp [bytesRow,Array.getElem?_append,ho,ho',hso]
    have hrel:=h.drew.ext (σ':=σ') (w':=w.drew.alloc (.cells (bytesRow s (grownCap w s.size 0 e)) e ((bytesRow s (grownCap w s.size 0 e)).size,(bytesRow s (grownCap w s.size 0 e)).size+1))) (by simp) rfl rfl rfl
     (λb hb=>⟨Below.heap_alloc w.drew _ b hb,λo=>by
      have hb:b<w.heap.size:=hb;simp only[σ'];rw[if_neg (by omega)]⟩)
     (λb o y hy=>by
      simp only[σ'] at hy;split at hy
      .rename_i hb;subst hb;split at hy
       .rename_i ho;rw[hcell o ho];exact hy
       .cases hy
      .rw[World.cell?_alloc_past _ _ _ (show b<w.drew.heap.size from h.agree.lt hy)];exact h.agree b o y hy)
    have hl:(za4 s).length=s.size:=by simp [za4]
    refine zac (x:=.slice (some ⟨w.heap.size,0,none⟩) s.size (grownCap w s.size 0 e)) ?_ hrel ?_ hK
    .simp only[execOp,hx,Sem.run_bind,hr,Result.andThen_ok,Sem.run_pure]
    .have hb0: ∀i r,(za4 s)[i]? =some r->i<s.size/\r=[.v (.int .u8 ((s.data.toList.getD i 0).toNat:Int))]:=λi r hi=>by
      exact Y70
     have fin:RepV σ' μ (.sl 1 (za4 s) none) (.slice (some ⟨w.heap.size,0,none⟩) (za4 s).length (grownCap w s.size 0 e)):=by
      refine .sl _ 1 _ none _ _ w.heap.size 0 (λi j=>.int .u8 ((s.data.toList.getD i 0).toNat:Int)) (by rw[hl];exact hge) hle (.inr rfl) (λr hr=>?_) (λi j r av g1 g2=>?_) (λi j r av g1 g2=>?_) (λi j r av g1 g2=>rfl) (λid g h=>by cases h)
      .obtain⟨i,hi⟩:=List.getElem?_of_mem hr;rw[(hb0 i r hi).2];rfl
      .obtain⟨h3,rfl⟩:=hb0 i r g1;cases j with
       |zero=>simp [σ',h3]
       |succ j=>simp at g2
      .obtain⟨h3,rfl⟩:=hb0 i r g1;cases j with
       |zero=>simp only[List.getElem?_cons_zero,Option.some.injEq] at g2;subst g2;exact .v _ _
       |succ j=>simp at g2
     rw[hl] at fin;exact fin
  .exact hq.elim
 case makeMap t r=>
  simp only[vm] at hq;split at hq
  .split at hq
   .rename_i kk ag hk;have hrel:=h.new (r:=.map kk ag λ_=>none) (D:=(· =w.heap.size)) (an:=.fix (.map (some w.heap.size))) (σ':=σ) (w':=w.alloc (.map #[] 0)) (by simp) rfl rfl rfl (λb hb=>⟨Below.heap_alloc w _ b hb,λ_=>rfl⟩) h.agree.alloc
     ⟨w.heap.size,#[],0,updG_self,heap_alloc_new w _,⟨by simp,by simp,by simp,by simp⟩,by simp,λo=>h.none_new (Nat.le_refl _),λk=>Iff.rfl⟩ (λb hb=>by subst hb;exact Nat.le_refl _)
    refine zac (x:=.map (some w.heap.size)) ?_ hrel (.map _ _ _ updG_self) hq;simp only[execOp,Option.map_none,Sem.run_bind,run_makeMap,Result.andThen_ok,Sem.run_pure]
   .exact hq.elim
  .exact hq.elim
 case mapUpdate t m k x=>
  simp only[vm,evV_eq] at hq;obtain⟨l,hl,hq1⟩:=zb0 hq;obtain⟨hfree,hq2⟩:=zaB hq1;split at hq2
  .rename_i z b sz hel;obtain⟨hagy0,hq20⟩:=zaB hq2;obtain⟨hsz0,hq3⟩:=zaB hq20;unfold zfR at hq3;split at hq3
   .rename_i id hm;obtain⟨r,hr,hq4⟩:=zaH hq3;split at hq4
    .rename_i kk ag f;split at hq4
     .rename_i kk' ag' hkm;obtain⟨hag0,hq5⟩:=zaB hq4;have hag:ag=ag':=by simpa using hag0
      obtain⟨kt,e,key,u1,hkf,hky,hK⟩:=zos hq5;obtain⟨kt',e',sz',u1',hsh⟩:=zfF hkm;rw[u1] at u1';simp only[Option.some.injEq,TypeDesc.map.injEq] at u1';obtain⟨rfl,rfl⟩:=u1';have hx1:=h.ev m;rw[hm] at hx1;obtain⟨rr,hmv,hmu⟩:=hx1.inv_map;have hx2:=hky (h.ev k);obtain⟨c1,c2,c3⟩:=(h.ev x).cells hl;obtain⟨r0,es,clock,g1,g2,g3,g4,g5,g6⟩:=h.mem.ok id _ hr;rw[hmu] at g1;simp only[Option.some.injEq,An.fix.injEq,Value.map.injEq] at g1;subst g1;have hvr:ValRep σ (a.eval x) (viewL l):=by
       refine⟨by rw[viewL_eq,List.length_map];exact c1,c3,λi av hi=>?_⟩;rw[viewL_eq,List.getElem?_map,Option.map_eq_some_iff] at hi;obtain⟨av0,h0,rfl⟩:=hi;obtain⟨y,hy,hry⟩:=c2 i av0 h0;exact⟨y,hy,(RepV.view hry).free0 (zeo hfree av0 (List.mem_of_getElem? h0))⟩
      have hagv:ag=true↔ ∃cs,a.eval x=.agg cs:=by
       have hagy:b=aggV (evO A.fr x):=by simpa using hagy0
       have hsh2:=(zh1 hel u1).2;rw[hsh] at hsh2;simp only[Option.some.injEq,Prod.mk.injEq] at hsh2;rw[hag,hsh2.1,hagy];have hx3:=h.ev x;cases hv:evO A.fr x with
       |agg l'=>rw[hv] at hx3;obtain⟨cs,hcs,_⟩:=hx3.inv_agg;simp [aggV,hcs]
       |_=>
        have h1:(evO A.fr x).one=true:=by
         rw[hv] at hl ⊢;simp only[AV.cells] at hl;split at hl
         .assumption
         .cases hl
        have:=hx3.one h1;simp only[aggV,Bool.false_eq_true,false_iff,not_exists];intro cs e;rw[e] at this;cases this
      obtain⟨es',clock',hrun,hrep',hkw'⟩:=znM (P:=P) (w:=w) u1 hkf g2 g3 g4 hvr hagv;have hrel:=h.setO (res:=.map kk ag (updF f key (some (viewL l)))) (o:=.map es' clock') hr hmu g2 g6 g5 ⟨rr,es',clock',updG_self,zel g2,hrep',hkw',g5,g6⟩;refine zhl ?_ hrel hK;simp only[execOp,hmv,hx2,Sem.run_bind,hrun,Result.andThen_ok,Sem.run_pure]
     .exact hq4.elim
    .exact hq4.elim
   .exact hq3.elim
  .exact hq2.elim
 case range t x=>
  simp only[vm,evV_eq] at hq;split at hq
  .rename_i s hs;obtain⟨h1,hK⟩:=zaB hq;have hu:=zbp h1;have hx:=h.ev x;rw[hs] at hx;have hx:=hx.inv_v;have hrel:=h.new (r:=.siter s 0) (D:=(· =w.heap.size)) (an:=.fix (.pointer (some ⟨w.heap.size,0,none⟩))) (σ':=σ) (w':=w.alloc (.stringIter s 0)) (by simp) rfl rfl rfl (λb hb=>⟨Below.heap_alloc w _ b hb,λ_=>rfl⟩) h.agree.alloc
    ⟨w.heap.size,updG_self,heap_alloc_new w _,λo=>h.none_new (Nat.le_refl _),λk=>Iff.rfl⟩ (λb hb=>by subst hb;exact Nat.le_refl _)
   refine zac (x:=.pointer (some ⟨w.heap.size,0,none⟩)) ?_ hrel (.box _ _ 0 _ updG_self) hK;simp [execOp,Instr.range,underlying,program,hu,hx,newObj,Sem.run_bind,Sem.run,Result.andThen_ok,pure,Sem.run_pure];try rfl
  .rename_i id hs;obtain⟨r,hr,hq1⟩:=zaH hq;split at hq1
   .exact zhK h hs hr hq1
   .exact hq1.elim
  .exact hq.elim
 case next x isS=>
  by_cases hS:isS=false
  .subst hS;exact zlP h (by simpa only[vm,evV_eq] using hq)
  obtain rfl:isS=true:=by simpa using hS
  have hq0:zp0 A.mem (evO A.fr x) K:=by simpa only[vm,evV_eq] using hq
  clear hq hS;unfold zp0 at hq0;split at hq0
  .rename_i id hv;obtain⟨r,hr,hq1⟩:=zaH hq0;split at hq1
   .rename_i s p;have hx:=h.ev x;rw[hv] at hx;obtain⟨b,hb,hmu⟩:=hx.inv_box;obtain⟨rr,g1,g2,g5,g6⟩:=h.mem.ok id _ hr;rw[hmu] at g1;simp only[Option.some.injEq,An.fix.injEq,Value.pointer.injEq,Addr.mk.injEq,and_true] at g1;subst g1;by_cases hp:p<s.size
    .obtain⟨⟨hlt⟩,hK⟩:=hq1.1 (by simpa using hp);have hrel:=h.setO (res:=.siter s (p+1)) (o:=.stringIter s (p+1)) hr hmu g2 g6 g5 ⟨b,updG_self,zel g2,g5,g6⟩;have hdec:Utf8.decode s p=(zaG s p,1):=by
      have hget:(s.get! p).toNat=zaG s p:=by
       unfold zaG;have hp':p<s.data.toList.length:=by simpa using hp
       have hp2:p<s.data.size:=hp;rw[List.getD_eq_getElem?_getD,List.getElem?_eq_getElem hp'];have:s.data[p]! =s.data[p]:=getElem!_pos s.data p hp2;simp [ByteArray.get!,this]
      unfold Utf8.decode;simp only[Nat.add_zero,hget];rw[if_pos hlt]
     refine zac (x:=.tuple #[.bool true,goInt p,.int .i32 (zaG s p)]) ?_ hrel (.tup _ _ _ rfl (λi av y e1 e2=>?_)) hK
     .simp only[execOp,hb,Instr.next,getObj,Sem.run_bind,Sem.run,g2,Sem.run_pure,Result.andThen_ok,hp,if_true,hdec,setObj];simp [Sem.run_bind,Sem.run,g2,Sem.run_pure,Result.andThen_ok,Bind.bind,Sem.bind,pure];try rfl
     .match i,e1,e2 with
      |0,e1,e2=>simp at e1 e2;subst e1 e2;exact .v _ _
      |1,e1,e2=>simp at e1 e2;subst e1 e2;exact .v _ _
      |2,e1,e2=>simp at e1 e2;subst e1 e2;exact .v _ _
    .have hK:=hq1.2 (by simpa using hp);refine zac (x:=.tuple #[.bool false]) ?_ h (.tup _ _ _ rfl (λi av y e1 e2=>?_)) hK
     .simp only[execOp,hb,Instr.next,getObj,Sem.run_bind,Sem.run,g2,Sem.run_pure,Result.andThen_ok,hp,if_false]
     .match i,e1,e2 with
      |0,e1,e2=>simp at e1 e2;subst e1 e2;exact .v _ _
   .exact hq1.elim
  .exact hq0.elim
 case binOp op t x y yt=>
  simp only[vm,evV_eq] at hq;split at hq
  .rename_i hy;have hyv:=h.ev y;rw[hy] at hyv;have hyv:=hyv.inv_v;split at hq
   .rename_i sz rows own hx;obtain⟨h1,hK⟩:=zaB hq;obtain⟨e,he⟩:=Option.isSome_iff_exists.1 h1;have hxv:=h.ev x;rw[hx] at hxv;obtain⟨ao,cap,b,off,f,hxe,g1,g2,g3,_⟩:=hxv.inv_sl;obtain⟨z,hz,hK⟩:=zkH (P:=P) (w:=w) (x:=x) (y:=y) (ao:=ao) (l:=rows.length) (c:=cap) ⟨e,za9 he⟩ (λh0=>by rcases g3 with g3|g3;exact g3;rw[h0] at g3;cases g3) hK;refine zac (x:=z) ?_ h (.v _ _) hK;simp only[execOp,hxe,hyv];rw[Sem.run_bind,hz];simp [Result.andThen_ok,Sem.run_pure]
   .rename_i hx;obtain⟨h1,hK⟩:=zaB hq;obtain⟨e,he⟩:=Option.isSome_iff_exists.1 h1;have hxv:=h.ev x;rw[hx] at hxv;have hxe:=hxv.inv_v;have hu:=za9 he;have hg:(eqGuard op t x y (.slice none 0 0) (.slice none 0 0)).run P w=.ok () w:=by cases op<;>rfl
    have hee:(Op.equal t (.slice none 0 0) (.slice none 0 0)).run P w=.ok true w:=by
     exact Y96
    cases op<;>simp only[binN] at hK<;>first|exact hK.elim|skip
    .refine zac (x:=.bool true) ?_ h (.v _ _) hK;simp [execOp,hxe,hyv,binOp,Sem.run_bind,hg,hee,Result.andThen_ok,Sem.run_pure]
    .refine zac (x:=.bool (neg true)) ?_ h (.v _ _) hK;simp [execOp,hxe,hyv,binOp,Sem.run_bind,hg,hee,Result.andThen_ok,Sem.run_pure,neg]
   .exact hq.elim
  .exact hq.elim
 case call c=>
  obtain⟨callee,args,ats⟩:=c;cases callee with
  |builtin b=>
   cases b
   case append=>exact zoB h hq
   case delete=>
    simp only[vm] at hq;unfold zgh at hq;split at hq
    .rename_i x y hargs;obtain rfl:args= #[x,y]:=by rw[<-Array.toArray_toList (xs:=args),hargs]
     split at hq
     .rename_i t ts hats;simp only[evV_eq] at hq;unfold zfR at hq;split at hq
      .rename_i id hm;obtain⟨r,hr,hq4⟩:=zaH hq;split at hq4
       .rename_i kk ag f;split at hq4
        .rename_i kk' ag' hkm;obtain⟨hag0,hq5⟩:=zaB hq4;obtain⟨kt,e,key,u1,hkf,hky,hK⟩:=zos hq5;have hx1:=h.ev x;rw[hm] at hx1;obtain⟨rr,hmv,hmu⟩:=hx1.inv_map;have hx2:=hky (h.ev y);obtain⟨r0,es,clock,g1,g2,g3,g4,g5,g6⟩:=h.mem.ok id _ hr;rw[hmu] at g1;simp only[Option.some.injEq,An.fix.injEq,Value.map.injEq] at g1;subst g1;have hts:ats[0]? =some t:=by rw[<-Array.getElem?_toList,hats];rfl
         obtain⟨es',hrun,hrep',hkw'⟩:=znC (P:=P) (w:=w) (ty':=ty) u1 hkf hts g2 g3 g4;have hrel:=h.setO (res:=.map kk ag (updF f key none)) (o:=.map es' clock) hr hmu g2 g6 g5 ⟨rr,es',clock,updG_self,zel g2,hrep',hkw',g5,g6⟩;refine zac (x:=.tuple #[]) ?_ hrel (.v _ _) hK;rw[BigFrame.execOp_builtin];simp [builtin,hmv,hx2,hrun,Sem.run_bind,Result.andThen_ok,Sem.run_pure]
        .exact hq4.elim
       .exact hq4.elim
      .exact hq.elim
     .exact hq.elim
    .exact hq.elim
   case clear=>
    simp only[vm] at hq;unfold zhQ at hq;split at hq
    .rename_i x hargs;obtain rfl:args= #[x]:=by rw[<-Array.toArray_toList (xs:=args),hargs]
     split at hq
     .rename_i t hats;simp only[evV_eq] at hq;split at hq
      .rename_i id hm;obtain⟨r,hr,hq4⟩:=zaH hq;split at hq4
       .rename_i kk ag f;obtain⟨hsome,hK⟩:=zaB hq4;obtain⟨⟨kk',ag'⟩,hkm⟩:=Option.isSome_iff_exists.1 hsome;obtain⟨kt,e,sz,u1,hsh⟩:=zfF hkm;have hx1:=h.ev x;rw[hm] at hx1;obtain⟨rr,hmv,hmu⟩:=hx1.inv_map;obtain⟨r0,es,clock,g1,g2,g3,g4,g5,g6⟩:=h.mem.ok id _ hr;rw[hmu] at g1;simp only[Option.some.injEq,An.fix.injEq,Value.map.injEq] at g1;subst g1;have hts:ats[0]? =some t:=by rw[<-Array.getElem?_toList,hats];rfl
        have hrel:=h.setO (res:=.map kk ag (λ_=>none)) (o:=.map #[] clock) hr hmu g2 g6 g5 ⟨rr,#[],clock,updG_self,zel g2,⟨by simp,by simp,by simp,by simp⟩,by simp,g5,g6⟩;have hrun:(Builtin.clear_ ats ty #[.map (some rr)]).run P w=.ok (.tuple #[]) (World.setO w rr (.map #[] clock)):=by
         simp only[Builtin.clear_,hts,Sem.run_bind,run_underlying u1,Result.andThen_ok,getObj,Sem.run,g2,Sem.run_pure,setObj,List.getElem?_toArray,List.getElem?_cons_zero];rfl
        refine zac (x:=.tuple #[]) ?_ hrel (.v _ _) hK;rw[BigFrame.execOp_builtin];simp [builtin,hmv,hrun,Sem.run_bind,Result.andThen_ok,Sem.run_pure]
       .exact hq4.elim
      .rename_i id g sz i m hm;have hts:ats[0]? =some t:=by rw[<-Array.getElem?_toList,hats];rfl
       exact zm5 h hm hts hq
      .exact hq.elim
     .exact hq.elim
    .exact hq.elim
   all_goals exact hq.elim
  |_=>exact hq.elim
 all_goals exact hq.elim
end
end Go.Proofs.YtimfnpjcedjmiadGreat
namespace Go.Proofs.YtimfnpjcedjmiadGreat
open Go.RowKit
def genR:Res->Option Nat
 | .grow _ _ g=>some g
 | .arr _ _ _ g _=>some g
 |_=>none
def genM:List Res->Nat->Option Nat
 |[],_=>none
 |r::_,0=>genR r
 |_::l,i+1=>genM l i
theorem genM_eq: ∀{m:List Res} {i:Nat},genM m i=m[i]?.bind genR
 |[],i=>by simp [genM]
 |r::l,0=>rfl
 |r::l,i+1=>by simp only[genM,List.getElem?_cons_succ];exact genM_eq
def curG(m:List Res)(i g:Nat):Bool:=
 match genM m i with
 |some h=>Nat.beq g h
 |none=>false
theorem zmE{m:List Res}{i g:Nat}(h:curG m i g=true): ∃r,m[i]? =some r/\genR r=some g:=by
 unfold curG at h;rw[genM_eq] at h;cases hr:m[i]? with
 |none=>rw[hr] at h;cases h
 |some r=>
  rw[hr] at h;simp only[Option.bind_some] at h;cases hg:genR r with
  |none=>rw[hg] at h;cases h
  |some k=>rw[hg] at h;exact⟨r,rfl,by rw[hg,Nat.eq_of_beq_eq_true h]⟩
def rnO:List Nat->Nat->Option Nat
 |[],_=>none
 |a::_,0=>some a
 |_::l,i+1=>rnO l i
theorem rnO_eq: ∀{l:List Nat} {i:Nat},rnO l i=l[i]?
 |[],i=>by simp [rnO]
 |a::l,0=>rfl
 |a::l,i+1=>by simp only[rnO,List.getElem?_cons_succ];exact rnO_eq
def isN(ρ:List Nat)(j i:Nat):Bool:=
 match rnO ρ j with
 |some k=>Nat.beq k i
 |none=>false
theorem zfQ{ρ:List Nat}{j i:Nat}(h:isN ρ j i=true):ρ[j]? =some i:=by
 unfold isN at h;rw[rnO_eq] at h;cases hr:ρ[j]? with
 |none=>rw[hr] at h;cases h
 |some k=>rw[hr] at h;rw[Nat.eq_of_beq_eq_true h]
def RVal(x y:Value):Prop:=
 match y with
 | .int k n=>match x with
  | .int k' m=>tt (kEq k' k) (Vc (m=n))
  |_=>False
 | .bool b=>match x with
  | .bool c=>Vc (c=b)
  |_=>False
 | .string s=>match x with
  | .string r=>Vc (r=s)
  |_=>False
 |y=>Vc (x=y)
theorem RVal.out{x y:Value}(h:RVal x y):x=y:=by
 unfold RVal at h;split at h
 .split at h
  .obtain⟨h1,⟨h2⟩⟩:=zaB h;rw[zfP h1,h2]
  .exact h.elim
 .split at h
  .rw[h.1]
  .exact h.elim
 .split at h
  .rw[h.1]
  .exact h.elim
 .exact h.1
def RRows(sz sz':Nat)(rows rows':List (List AV)):Prop:=Vc (rows=rows'/\(sz=sz'\/rows=[]))
section
variable (m m':List Res) (ρ:List Nat)
def RK0(a b:AV):Prop:=
 match b with
 | .any=>True
 | .v y=>match a with
  | .v x=>RVal x y
  |_=>False
 | .err k=>match a with
  | .err j=>Vc (j=k)
  |_=>False
 | .sl sz rows none=>match a with
  | .sl sz' rows' _=>RRows sz' sz rows' rows
  | .v (.slice none 0 0)=>Vc (rows=[])
  |_=>False
 | .sl sz rows (some (j,g))=>match a with
  | .sl sz' rows' (some (i,g'))=>tt (isN ρ j i) (tt (curG m i g') (tt (curG m' j g) (tt (Nat.beq sz sz') (Vc (rows'=rows)))))
  |_=>False
 | .adr c=>match a with
  | .adr d=>Vc (d=c)
  |_=>False
 | .box j o=>match a with
  | .box i p=>tt (isN ρ j i) (Vc (p=o))
  |_=>False
 | .arr j g n=>match a with
  | .arr i g' n'=>tt (isN ρ j i) (tt (curG m i g') (tt (curG m' j g) (Vc (n'=n))))
  |_=>False
 | .elt j g sz k o=>match a with
  | .elt i g' sz' k' o'=>tt (isN ρ j i) (tt (curG m i g') (tt (curG m' j g) (Vc (sz'=sz/\k'=k/\o'=o))))
  |_=>False
 | .map j=>match a with
  | .map i=>tt (isN ρ j i) True
  |_=>False
 |_=>False
def RKL0:List AV->List AV->Prop
 |[],l=>match l with
  |[]=>True
  |_=>False
 |a::l,r=>match r with
  |b::k=>RK0 m m' ρ a b/\RKL0 l k
  |[]=>False
def RK1(a b:AV):Prop:=
 match b with
 | .agg l=>match a with
  | .agg k=>RKL0 m m' ρ k l
  |_=>False
 | .clo f l=>match a with
  | .clo f' k=>tt (Nat.beq f' f) (RKL0 m m' ρ k l)
  |_=>False
 |b=>RK0 m m' ρ a b
def RKL1:List AV->List AV->Prop
 |[],l=>match l with
  |[]=>True
  |_=>False
 |a::l,r=>match r with
  |b::k=>RK1 m m' ρ a b/\RKL1 l k
  |[]=>False
def RK(a b:AV):Prop:=
 match b with
 | .tup l=>match a with
  | .tup k=>RKL1 m m' ρ k l
  |_=>False
 |b=>RK1 m m' ρ a b
def RKR:List (List AV)->List (List AV)->Prop
 |[],l=>match l with
  |[]=>True
  |_=>False
 |a::l,r=>match r with
  |b::k=>RKL0 m m' ρ a b/\RKR l k
  |[]=>False
def okG(g' g:Nat):Bool:=
 match g' with
 |0=>Nat.beq g 0
 |_=>true
def RR(r r':Res):Prop:=
 match r' with
 | .gone=>True
 | .cells l=>match r with
  | .cells k=>RKL0 m m' ρ k l
  |_=>False
 | .grow E s g'=>match r with
  | .grow E2 s2 g=>tt (Nat.beq E2 E) (tt (Nat.beq s2 s) True)
  |_=>False
 | .arr true E s g' rows=>match r with
  | .arr true E2 s2 g rows2=>tt (Nat.beq E2 E) (tt (Nat.beq s2 s) (Vc (rows2=rows)))
  |_=>False
 | .arr false E s g' rows=>match r with
  | .arr false E2 s2 g rows2=>tt (Nat.beq E2 E) (tt (Nat.beq s2 s) (RKR m m' ρ rows2 rows))
  |_=>False
 | .map kk ag f=>match r with
  | .map kk2 ag2 f2=>Vc (kk2=kk/\ag2=ag/\f2=f)
  |_=>False
 | .siter s p=>match r with
  | .siter s2 p2=>Vc (s2=s/\p2=p)
  |_=>False
 | .alias j=>match r with
  | .alias i=>tt (isN ρ j i) True
  |_=>False
 | .miter j kk ag f seen last=>match r with
  | .miter i kk2 ag2 f2 seen2 last2=>tt (isN ρ j i) (Vc (kk2=kk/\ag2=ag/\f2=f/\seen2=seen/\(last=none\/last2=last)))
  |_=>False
 | .obj p=>match r with
  | .obj q=>Vc (q=p)
  |_=>False
def RM:List Nat->List Res->Prop
 |[],l=>match l with
  |[]=>True
  |_=>False
 |i::is,l=>match l with
  |r'::rs=>(nthK m i λr=>RR m m' ρ r r')/\RM is rs
  |[]=>False
def RF(fr:List (Nat×AV)):List (Nat×AV)->Prop
 |[]=>True
 |(t,b)::l=>(lkK fr t λa=>RK m m' ρ a b)/\RF fr l
end
def reG(g:Nat):An->An
 | .fix v=>.fix v
 | .cur ao n cap _=>.cur ao n cap g
def subG(μ:zaJ)(ρ:List Nat)(m':List Res):zaJ:=λj=>(ρ[j]?).bind λi=>(μ i).map (reG ((genM m' j).getD 0))
def zd3:Res->Bool
 | .gone=>true
 |_=>false
def subD(Ds:Nat->Nat->Prop)(ρ:List Nat)(m':List Res):Nat->Nat->Prop:=λj b=>(∃i,ρ[j]? =some i/\Ds i b)/\m'[j]?.map zd3=some false
section
variable {σ:zaM} {μ:zaJ} {w:World} {m m':List Res} {Ds:Nat->Nat->Prop} {ρ:List Nat}
theorem zbL{i j:Nat}{v:Value}(hj:ρ[j]? =some i)(h:μ i=some (.fix v)):subG μ ρ m' j=some (.fix v):=by simp [subG,hj,h,reG]
theorem zhn{i j n cap g g':Nat}{ao:Option Addr}(hj:ρ[j]? =some i)(h:μ i=some (.cur ao n cap g))(hg:curG m' j g'=true):subG μ ρ m' j=some (.cur ao n cap g'):=by
 obtain⟨r,hr,h2⟩:=zmE hg;simp [subG,hj,h,reG,genM_eq,hr,h2]
theorem MemOk.cur(h:MemOk σ μ w m Ds){i g:Nat}{ao:Option Addr}{n cap:Nat}{a:An}(hg:curG m i g=true)(ha:μ i=some a)(hl:(An.cur ao n cap g).le a):a=.cur ao n cap g:=by
 obtain⟨r,hr,h2⟩:=zmE hg;have h3:=h.ok i r hr;cases r with
 |grow E s g0=>
  obtain⟨ao',n',cap',xs,q1,_⟩:=h3;rw[ha] at q1;obtain rfl:=Option.some.inj q1;obtain⟨_,hl⟩:=hl;have:g0=g:=Option.some.inj h2;subst this;obtain⟨rfl,rfl,rfl⟩:=hl rfl;rfl
 |arr fr E s g0 rows=>
  obtain⟨ao',cap',xs,q1,_⟩:=h3;rw[ha] at q1;obtain rfl:=Option.some.inj q1;obtain⟨_,hl⟩:=hl;have:g0=g:=Option.some.inj h2;subst this;obtain⟨rfl,rfl,rfl⟩:=hl rfl;rfl
 |_=>cases h2
theorem RepV.sub0(hm:MemOk σ μ w m Ds){a b:AV}{x:Value}(h:RepV σ μ a x)(hk:RK0 m m' ρ a b):RepV σ (subG μ ρ m') b x:=by
 unfold RK0 at hk;split at hk
 .exact .any _ _
 .split at hk
  .rw[hk.out] at h;rw[h.inv_v];exact .v _ _
  .exact hk.elim
 .split at hk
  .rw[hk.1] at h;rw[h.inv_err];exact .err _ _
  .exact hk.elim
 .split at hk
  .obtain⟨rfl,h2⟩:=hk.1;cases h with
   |sl _ _ _ _ ao cap b off f hcap hmax hao hrow hst hr hone hown=>
    rcases h2 with rfl|rfl
    .exact .sl _ _ _ none ao cap b off f hcap hmax hao hrow hst hr hone (λid g h=>by cases h)
    .exact .sl _ _ [] none ao cap b off f hcap hmax hao (λr hr=>by cases hr) (λi j r av h=>by simp at h) (λi j r av h=>by simp at h) (λi j r av h=>by simp at h) (λid g h=>by cases h)
  .obtain⟨rfl⟩:=hk;rw[h.inv_v];exact .sl _ _ [] none none 0 0 0 (λ_ _=>undef) (Nat.le_refl _) (by simp [maxLen]) (.inl rfl) (λr hr=>by cases hr) (λi j r av h=>by simp at h) (λi j r av h=>by simp at h) (λi j r av h=>by simp at h) (λid g h=>by cases h)
  .exact hk.elim
 .split at hk
  .obtain⟨h1,hk1⟩:=zaB hk;obtain⟨h2,hk2⟩:=zaB hk1;obtain⟨h3,hk3⟩:=zaB hk2;obtain⟨h4,⟨h5⟩⟩:=zaB hk3;have h4:=Nat.eq_of_beq_eq_true h4;subst h4 h5;cases h with
   |sl _ _ _ _ ao cap b off f hcap hmax hao hrow hst hr hone hown=>
    obtain⟨an,k1,k2⟩:=hown _ _ rfl;have:=hm.cur h2 k1 k2;subst this;exact .sl _ _ _ _ ao cap b off f hcap hmax hao hrow hst hr hone (λid g h=>by
     simp only[Option.some.injEq,Prod.mk.injEq] at h;obtain⟨rfl,rfl⟩:=h;exact⟨_,zhn (zfQ h1) k1 h3,An.le_refl _⟩)
  .exact hk.elim
 .split at hk
  .rw[hk.1] at h;cases h with
   |adr _ _ b off f hst hr hone=>exact .adr _ _ b off f hst hr hone
  .exact hk.elim
 .split at hk
  .obtain⟨h1,⟨h2⟩⟩:=zaB hk;subst h2;obtain⟨b,rfl,h3⟩:=h.inv_box;exact .box _ _ _ b (zbL (zfQ h1) h3)
  .exact hk.elim
 .split at hk
  .obtain⟨h1,hk1⟩:=zaB hk;obtain⟨h2,hk2⟩:=zaB hk1;obtain⟨h3,⟨h4⟩⟩:=zaB hk2;subst h4;obtain⟨ao,mm,cap,an,rfl,k1,k2,k3,k4,k5⟩:=h.inv_arr;have:=hm.cur h2 k4 k5;subst this;exact .arr _ _ _ _ ao mm cap _ k1 k2 k3 (zhn (zfQ h1) k4 h3) (An.le_refl _)
  .exact hk.elim
 .split at hk
  .obtain⟨h1,hk1⟩:=zaB hk;obtain⟨h2,hk2⟩:=zaB hk1;obtain⟨h3,⟨h4,h5,h6⟩⟩:=zaB hk2;subst h4 h5 h6;obtain⟨b,mm,cap,an,rfl,k4,k5⟩:=h.inv_elt;have:=hm.cur h2 k4 k5;subst this;exact .elt _ _ _ _ _ _ b mm cap _ (zhn (zfQ h1) k4 h3) (An.le_refl _)
  .exact hk.elim
 .split at hk
  .obtain⟨h1,_⟩:=zaB hk;obtain⟨r,rfl,h3⟩:=h.inv_map;exact .map _ _ r (zbL (zfQ h1) h3)
  .exact hk.elim
 .exact hk.elim
theorem RKL0.get: ∀{l k:List AV},RKL0 m m' ρ l k->l.length=k.length/\ ∀(i:Nat) (b:AV),k[i]? =some b-> ∃a,l[i]? =some a/\RK0 m m' ρ a b
 |[],[],_=>⟨rfl,λi b h=>by simp at h⟩
 |[],_::_,h=>h.elim
 |_::_,[],h=>h.elim
 |a::l,b::k,h=>by
  obtain⟨h1,h2⟩:=RKL0.get h.2;exact Y56
theorem RepV.sub1(hm:MemOk σ μ w m Ds){a b:AV}{x:Value}(h:RepV σ μ a x)(hk:RK1 m m' ρ a b):RepV σ (subG μ ρ m') b x:=by
 unfold RK1 at hk;split at hk
 .split at hk
  .obtain⟨h1,h2⟩:=RKL0.get hk;obtain⟨cs,rfl,hl,hr⟩:=h.inv_agg;exact .agg _ _ cs (h1▸hl) (λi av y hi hy=>let ⟨a,ha,hc⟩:=h2 i av hi;(hr i a y ha hy).sub0 hm hc)
  .exact hk.elim
 .split at hk
  .obtain⟨h0,hk1⟩:=zaB hk;have h0:=Nat.eq_of_beq_eq_true h0;subst h0;obtain⟨h1,h2⟩:=RKL0.get hk1;obtain⟨cs,rfl,hl,hr⟩:=h.inv_clo;exact .clo _ _ _ cs (h1▸hl) (λi av y hi hy=>let ⟨a,ha,hc⟩:=h2 i av hi;(hr i a y ha hy).sub0 hm hc)
  .exact hk.elim
 .exact h.sub0 hm hk
theorem RKL1.get: ∀{l k:List AV},RKL1 m m' ρ l k->l.length=k.length/\ ∀(i:Nat) (b:AV),k[i]? =some b-> ∃a,l[i]? =some a/\RK1 m m' ρ a b
 |[],[],_=>⟨rfl,λi b h=>by simp at h⟩
 |[],_::_,h=>h.elim
 |_::_,[],h=>h.elim
 |a::l,b::k,h=>by
  obtain⟨h1,h2⟩:=RKL1.get h.2;exact Y56
theorem RepV.sub(hm:MemOk σ μ w m Ds){a b:AV}{x:Value}(h:RepV σ μ a x)(hk:RK m m' ρ a b):RepV σ (subG μ ρ m') b x:=by
 unfold RK at hk;split at hk
 .split at hk
  .obtain⟨h1,h2⟩:=RKL1.get hk;obtain⟨cs,rfl,hl,hr⟩:=h.inv_tup;exact .tup _ _ cs (h1▸hl) (λi av y hi hy=>let ⟨a,ha,hc⟩:=h2 i av hi;(hr i a y ha hy).sub1 hm hc)
  .exact hk.elim
 .exact h.sub1 hm hk
theorem RKR.get: ∀{l k:List (List AV)},RKR m m' ρ l k->l.length=k.length/\ ∀(i:Nat) (b:List AV),k[i]? =some b-> ∃a,l[i]? =some a/\RKL0 m m' ρ a b
 |[],[],_=>⟨rfl,λi b h=>by simp at h⟩
 |[],_::_,h=>h.elim
 |_::_,[],h=>h.elim
 |a::l,b::k,h=>by
  obtain⟨h1,h2⟩:=RKR.get h.2;exact Y56
theorem RM.get: ∀{is:List Nat} {rs:List Res},RM m m' ρ is rs->is.length=rs.length/\ ∀(j:Nat) (r':Res),rs[j]? =some r'-> ∃i r,is[j]? =some i/\m[i]? =some r/\RR m m' ρ r r'
 |[],[],_=>⟨rfl,λi b h=>by simp at h⟩
 |[],_::_,h=>h.elim
 |_::_,[],h=>h.elim
 |i::is,r'::rs,h=>by
  obtain⟨h1,h2⟩:=RM.get h.2;refine⟨by simp [h1],λj c hc=>?_⟩;cases j with
  |zero=>
   simp at hc;subst hc;obtain⟨r,hr,hk⟩:=zaH h.1;exact⟨i,r,rfl,hr,hk⟩
  |succ j=>exact h2 j c (by simpa using hc)
theorem RF.get{fr:List (Nat×AV)}: ∀{fr':List (Nat×AV)},RF m m' ρ fr fr'-> ∀t b,look fr' t=some b->RK m m' ρ (lk fr t) b
 |[],_,t,b,h=>by cases h
 |(k,v)::l,hk,t,b,h=>by
  obtain⟨h1,h2⟩:=hk;simp only[look] at h;split at h
  .rename_i e;subst e;obtain rfl:=Option.some.inj h;rw[zdx] at h1;exact h1
  .exact RF.get h2 t b h
theorem ROk.sub(hm:MemOk σ μ w m Ds){i j:Nat}{r r':Res}(hi:m[i]? =some r)(hj:ρ[j]? =some i)(hj':m'[j]? =some r')(hk:RR m m' ρ r r'):ROk σ (subG μ ρ m') w j (subD Ds ρ m' j) r':=by
 have h:=hm.ok i r hi;have hD:zd3 r'=false-> ∀b,subD Ds ρ m' j b↔Ds i b:=λhg b=>by
  unfold subD;rw[hj'];simp only[Option.map_some,hg,and_true];constructor
  .rintro⟨i',h1,h2⟩;rw[hj] at h1;obtain rfl:=Option.some.inj h1;exact h2
  .exact λh=>⟨i,hj,h⟩
 unfold RR at hk;split at hk
 .intro b hb;unfold subD at hb;rw[hj'] at hb;simp [zd3] at hb
 .split at hk
  .obtain⟨b,c,T,h1,h2,h3,h4,h5,h6⟩:=h;obtain⟨k1,k2⟩:=RKL0.get hk;exact⟨b,c,T,zbL hj h1,h2,h3.trans k1,λq av hq=>let ⟨a,ha,hc⟩:=k2 q av hq;let ⟨x,hx,hr⟩:=h4 q a ha;⟨x,hx,hr.sub0 hm hc⟩,h5,λk=>(hD rfl k).trans (h6 k)⟩
  .exact hk.elim
 .split at hk
  .obtain⟨e1,hk1⟩:=zaB hk;obtain⟨e2,_⟩:=zaB hk1;have e1:=Nat.eq_of_beq_eq_true e1;have e2:=Nat.eq_of_beq_eq_true e2;subst e1 e2;obtain⟨ao,nn,cap,xs,h1,h2,h3,h4⟩:=h;refine⟨ao,nn,cap,xs,?_,h2,λk hk=>h3 k ((hD rfl k).1 hk),λk=>(hD rfl k).trans (h4 k)⟩;simp [subG,hj,h1,reG,genM_eq,hj',genR]
  .exact hk.elim
 .split at hk
  .obtain⟨e1,hk1⟩:=zaB hk;obtain⟨e2,⟨hk3⟩⟩:=zaB hk1;have e1:=Nat.eq_of_beq_eq_true e1;have e2:=Nat.eq_of_beq_eq_true e2;subst e1 e2 hk3;obtain⟨ao,cap,xs,h1,h2,h3,h4,h5,h6⟩:=h;refine⟨ao,cap,xs,?_,h2,h3,h4,λk hk=>h5 k ((hD rfl k).1 hk),λk=>(hD rfl k).trans (h6 k)⟩;simp [subG,hj,h1,reG,genM_eq,hj',genR]
  .exact hk.elim
 .split at hk
  .obtain⟨e1,hk1⟩:=zaB hk;obtain⟨e2,hk3⟩:=zaB hk1;have e1:=Nat.eq_of_beq_eq_true e1;have e2:=Nat.eq_of_beq_eq_true e2;subst e1 e2;obtain⟨ao,cap,xs,h1,h2,h3,h4,h5,h6⟩:=h;obtain⟨k1,k2⟩:=RKR.get hk3;refine⟨ao,cap,xs,?_,by rw[<-k1];exact h2,λr hr=>?_,λp q r av g1 g2=>?_,λk hk=>h5 k ((hD rfl k).1 hk),λk=>(hD rfl k).trans (h6 k)⟩
   .simp [subG,hj,h1,reG,genM_eq,hj',genR,k1]
   .obtain⟨p,hp⟩:=List.getElem?_of_mem hr;obtain⟨a,ha,hc⟩:=k2 p r hp;rw[<-(RKL0.get hc).1];exact h3 a (List.mem_of_getElem? ha)
   .obtain⟨a,ha,hc⟩:=k2 p r g1;obtain⟨b,hb,hc2⟩:=(RKL0.get hc).2 q av g2;obtain⟨y,y1,y2,y3⟩:=h4 p q a b ha hb;exact⟨y,y1,RepV.sub0 hm y2 hc2,y3⟩
  .exact hk.elim
 .split at hk
  .obtain⟨rfl,rfl,rfl⟩:=hk.1;obtain⟨r,es,c,h1,h2,h3,h4,h5,h6⟩:=h;exact⟨r,es,c,zbL hj h1,h2,h3,h4,h5,λk=>(hD rfl k).trans (h6 k)⟩
  .exact hk.elim
 .split at hk
  .obtain⟨rfl,rfl⟩:=hk.1;obtain⟨r,h1,h2,h5,h6⟩:=h;exact⟨r,zbL hj h1,h2,h5,λk=>(hD rfl k).trans (h6 k)⟩
  .exact hk.elim
 .split at hk
  .obtain⟨⟨v,h1⟩,h2⟩:=h;exact⟨⟨v,zbL hj h1⟩,λb hb=>h2 b ((hD rfl b).1 hb)⟩
  .exact hk.elim
 .split at hk
  .obtain⟨e1,⟨rfl,rfl,rfl,rfl,e2⟩⟩:=zaB hk;obtain⟨r,bm,es,ck,sc,c0,sn,h1,h2,hne,h3,h4,h5,h7,h8,h9,h10,hl,h11,h12,h6⟩:=h;refine⟨r,bm,es,ck,sc,c0,sn,zbL (zfQ e1) h1,zbL hj h2,hne,h3,h4,h5,h7,h8,h9,h10,λk hk=>?_,h11,h12,λk=>(hD rfl k).trans (h6 k)⟩;rcases e2 with e2|e2
   .rw[e2] at hk;cases hk
   .exact hl k (e2.trans hk)
  .exact hk.elim
 .split at hk
  .obtain⟨rfl⟩:=hk;obtain⟨b,h1,h2⟩:=h;have:subD Ds ρ m' j=Ds i:=funext λk=>propext (hD rfl k);exact⟨b,zbL hj h1,this▸h2⟩
  .exact hk.elim
theorem MemOk.sub(hm:MemOk σ μ w m Ds)(hnd:ρ.Nodup)(hk:RM m m' ρ ρ m'):MemOk σ (subG μ ρ m') w m' (subD Ds ρ m'):=by
 obtain⟨hl,hget⟩:=RM.get hk;refine⟨λj r' hj=>?_,λi j b hi hj=>?_,λj hj=>⟨?_,λb hb=>?_⟩⟩
 .obtain⟨i,r,h1,h2,h3⟩:=hget j r' hj;exact ROk.sub hm h2 h1 hj h3
 .obtain⟨⟨p,h1,h2⟩,_⟩:=hi;obtain⟨⟨q,h3,h4⟩,_⟩:=hj;have:=hm.apart p q b h2 h4;subst this;obtain⟨p1,p2⟩:=List.getElem?_eq_some_iff.1 h1;obtain⟨q1,q2⟩:=List.getElem?_eq_some_iff.1 h3;have hne:=List.pairwise_iff_getElem.1 hnd;rcases Nat.lt_trichotomy i j with g|g|g
  .exact absurd (p2.trans q2.symm) (hne i j p1 q1 g)
  .exact g
  .exact absurd (q2.trans p2.symm) (hne j i q1 p1 g)
 .have:ρ[j]? =none:=List.getElem?_eq_none (by omega);simp [subG,this]
 .obtain⟨⟨i,h1,_⟩,_⟩:=hb;have:=(List.getElem?_eq_some_iff.1 h1).1;omega
end
end Go.Proofs.YtimfnpjcedjmiadGreat
