import Derived.Test.YtmfhhbiaghejjaaX
import Derived.Test.YtmfhhbiaghejjaaG4
import Derived.KernelRfl
namespace Go.Proofs.Ytmfhhbiaghejjaa.Own
open Go Go.Proofs.Ytmfhhbiaghejjaa.GD

def a224 : D := (D.agg ([(D.str ⟨#[99]⟩)] ++ [(D.int .u64 1)] ++ [(D.int .u8 1)] ++ List.replicate 31 (D.int .u8 0) ++ [(D.int .i64 0), (D.int .i64 0), (D.int .i64 0)]))
def a223 : D := (D.agg ([(D.str ⟨#[97]⟩)] ++ [(D.int .u64 1)] ++ [(D.int .u8 2)] ++ List.replicate 31 (D.int .u8 0) ++ [(D.int .i64 0)] ++ [(D.int .i64 1), (D.int .i64 1)]))
def a222 : D := (D.agg ([(D.str ⟨#[97, 32, 98]⟩)] ++ [(D.int .u64 1)] ++ [(D.int .u8 1)] ++ List.replicate 31 (D.int .u8 0) ++ [(D.int .i64 0), (D.int .i64 0), (D.int .i64 0)]))
def a221 : D := (D.agg ([(D.str ⟨#[]⟩)] ++ [(D.int .u64 6)] ++ [(D.int .u8 2)] ++ List.replicate 31 (D.int .u8 0) ++ [(D.int .i64 100)] ++ [(D.int .i64 200)] ++ [(D.int .i64 150)]))
def a220 : D := (D.agg ([(D.str ⟨#[99, 99]⟩)] ++ [(D.int .u64 1)] ++ [(D.int .u8 1)] ++ List.replicate 31 (D.int .u8 0) ++ [(D.int .i64 0)] ++ [(D.int .i64 10)] ++ [(D.int .i64 5)]))
def a219 : D := (D.agg ([(D.str ⟨#[99, 98]⟩)] ++ [(D.int .u64 1)] ++ [(D.int .u8 1)] ++ List.replicate 31 (D.int .u8 0) ++ [(D.int .i64 0)] ++ [(D.int .i64 10)] ++ [(D.int .i64 5)]))
def a218 : D := (D.agg ([(D.str ⟨#[99, 97]⟩)] ++ [(D.int .u64 1)] ++ [(D.int .u8 1)] ++ List.replicate 31 (D.int .u8 0) ++ [(D.int .i64 0)] ++ [(D.int .i64 10)] ++ [(D.int .i64 5)]))
def a217 : D := (D.agg ([(D.str ⟨#[98, 99]⟩)] ++ [(D.int .u64 1)] ++ [(D.int .u8 1)] ++ List.replicate 31 (D.int .u8 0) ++ [(D.int .i64 0)] ++ [(D.int .i64 10)] ++ [(D.int .i64 5)]))
def a216 : D := (D.agg ([(D.str ⟨#[98, 98]⟩)] ++ [(D.int .u64 1)] ++ [(D.int .u8 1)] ++ List.replicate 31 (D.int .u8 0) ++ [(D.int .i64 0)] ++ [(D.int .i64 10)] ++ [(D.int .i64 5)]))
def a215 : D := (D.agg ([(D.str ⟨#[98, 97]⟩)] ++ [(D.int .u64 1)] ++ [(D.int .u8 1)] ++ List.replicate 31 (D.int .u8 0) ++ [(D.int .i64 0)] ++ [(D.int .i64 10)] ++ [(D.int .i64 5)]))
def a214 : D := (D.agg ([(D.str ⟨#[97, 99]⟩)] ++ [(D.int .u64 1)] ++ [(D.int .u8 1)] ++ List.replicate 31 (D.int .u8 0) ++ [(D.int .i64 0)] ++ [(D.int .i64 10)] ++ [(D.int .i64 5)]))
def a213 : D := (D.agg ([(D.str ⟨#[97, 98]⟩)] ++ [(D.int .u64 1)] ++ [(D.int .u8 1)] ++ List.replicate 31 (D.int .u8 0) ++ [(D.int .i64 0)] ++ [(D.int .i64 10)] ++ [(D.int .i64 5)]))
def a212 : D := (D.agg ([(D.str ⟨#[97, 97]⟩)] ++ [(D.int .u64 1)] ++ [(D.int .u8 1)] ++ List.replicate 31 (D.int .u8 0) ++ [(D.int .i64 0)] ++ [(D.int .i64 10)] ++ [(D.int .i64 5)]))
def a211 : D := (D.agg ([(D.str ⟨#[98]⟩)] ++ [(D.int .u64 6)] ++ [(D.int .u8 2)] ++ List.replicate 31 (D.int .u8 0) ++ [(D.int .i64 0)] ++ [(D.int .i64 200)] ++ [(D.int .i64 (-1))]))
def a210 : D := (D.agg ([(D.str ⟨#[98]⟩)] ++ [(D.int .u64 6)] ++ [(D.int .u8 2)] ++ List.replicate 31 (D.int .u8 0) ++ [(D.int .i64 99)] ++ [(D.int .i64 200)] ++ [(D.int .i64 150)]))
def a209 : D := (D.agg ([(D.str ⟨#[98]⟩)] ++ [(D.int .u64 5)] ++ [(D.int .u8 1)] ++ List.replicate 31 (D.int .u8 0) ++ [(D.int .i64 100)] ++ [(D.int .i64 200)] ++ [(D.int .i64 151)]))
def a208 : D := (D.agg ([(D.str ⟨#[98]⟩)] ++ [(D.int .u64 5)] ++ [(D.int .u8 2)] ++ List.replicate 31 (D.int .u8 0) ++ [(D.int .i64 100)] ++ [(D.int .i64 200)] ++ [(D.int .i64 150)]))
def a207 : D := (D.agg ([(D.str ⟨#[106, 99]⟩)] ++ [(D.int .u64 1)] ++ [(D.int .u8 1)] ++ List.replicate 31 (D.int .u8 0) ++ [(D.int .i64 0)] ++ [(D.int .i64 10)] ++ [(D.int .i64 5)]))
def a206 : D := (D.agg ([(D.str ⟨#[106, 98]⟩)] ++ [(D.int .u64 1)] ++ [(D.int .u8 1)] ++ List.replicate 31 (D.int .u8 0) ++ [(D.int .i64 0)] ++ [(D.int .i64 10)] ++ [(D.int .i64 5)]))
def a205 : D := (D.agg ([(D.str ⟨#[106, 97]⟩)] ++ [(D.int .u64 1)] ++ [(D.int .u8 1)] ++ List.replicate 31 (D.int .u8 0) ++ [(D.int .i64 0)] ++ [(D.int .i64 10)] ++ [(D.int .i64 5)]))
def a204 : D := (D.agg ([(D.str ⟨#[105, 99]⟩)] ++ [(D.int .u64 1)] ++ [(D.int .u8 1)] ++ List.replicate 31 (D.int .u8 0) ++ [(D.int .i64 0)] ++ [(D.int .i64 10)] ++ [(D.int .i64 5)]))
def a203 : D := (D.agg ([(D.str ⟨#[105, 98]⟩)] ++ [(D.int .u64 1)] ++ [(D.int .u8 1)] ++ List.replicate 31 (D.int .u8 0) ++ [(D.int .i64 0)] ++ [(D.int .i64 10)] ++ [(D.int .i64 5)]))
def a202 : D := (D.agg ([(D.str ⟨#[105, 97]⟩)] ++ [(D.int .u64 1)] ++ [(D.int .u8 1)] ++ List.replicate 31 (D.int .u8 0) ++ [(D.int .i64 0)] ++ [(D.int .i64 10)] ++ [(D.int .i64 5)]))
def a201 : D := (D.agg ([(D.str ⟨#[104, 99]⟩)] ++ [(D.int .u64 1)] ++ [(D.int .u8 1)] ++ List.replicate 31 (D.int .u8 0) ++ [(D.int .i64 0)] ++ [(D.int .i64 10)] ++ [(D.int .i64 5)]))
def a200 : D := (D.agg ([(D.str ⟨#[104, 98]⟩)] ++ [(D.int .u64 1)] ++ [(D.int .u8 1)] ++ List.replicate 31 (D.int .u8 0) ++ [(D.int .i64 0)] ++ [(D.int .i64 10)] ++ [(D.int .i64 5)]))
def a199 : D := (D.agg ([(D.str ⟨#[104, 97]⟩)] ++ [(D.int .u64 1)] ++ [(D.int .u8 1)] ++ List.replicate 31 (D.int .u8 0) ++ [(D.int .i64 0)] ++ [(D.int .i64 10)] ++ [(D.int .i64 5)]))
def a198 : D := (D.agg ([(D.str ⟨#[103, 99]⟩)] ++ [(D.int .u64 1)] ++ [(D.int .u8 1)] ++ List.replicate 31 (D.int .u8 0) ++ [(D.int .i64 0)] ++ [(D.int .i64 10)] ++ [(D.int .i64 5)]))
def a197 : D := (D.agg ([(D.str ⟨#[103, 98]⟩)] ++ [(D.int .u64 1)] ++ [(D.int .u8 1)] ++ List.replicate 31 (D.int .u8 0) ++ [(D.int .i64 0)] ++ [(D.int .i64 10)] ++ [(D.int .i64 5)]))
def a196 : D := (D.agg ([(D.str ⟨#[103, 97]⟩)] ++ [(D.int .u64 1)] ++ [(D.int .u8 1)] ++ List.replicate 31 (D.int .u8 0) ++ [(D.int .i64 0)] ++ [(D.int .i64 10)] ++ [(D.int .i64 5)]))
def a195 : D := (D.agg ([(D.str ⟨#[102, 99]⟩)] ++ [(D.int .u64 1)] ++ [(D.int .u8 1)] ++ List.replicate 31 (D.int .u8 0) ++ [(D.int .i64 0)] ++ [(D.int .i64 10)] ++ [(D.int .i64 5)]))
def a194 : D := (D.agg ([(D.str ⟨#[102, 98]⟩)] ++ [(D.int .u64 1)] ++ [(D.int .u8 1)] ++ List.replicate 31 (D.int .u8 0) ++ [(D.int .i64 0)] ++ [(D.int .i64 10)] ++ [(D.int .i64 5)]))
def a193 : D := (D.agg ([(D.str ⟨#[102, 97]⟩)] ++ [(D.int .u64 1)] ++ [(D.int .u8 1)] ++ List.replicate 31 (D.int .u8 0) ++ [(D.int .i64 0)] ++ [(D.int .i64 10)] ++ [(D.int .i64 5)]))
def a192 : D := (D.agg ([(D.str ⟨#[101, 99]⟩)] ++ [(D.int .u64 1)] ++ [(D.int .u8 1)] ++ List.replicate 31 (D.int .u8 0) ++ [(D.int .i64 0)] ++ [(D.int .i64 10)] ++ [(D.int .i64 5)]))
def a191 : D := (D.agg ([(D.str ⟨#[101, 98]⟩)] ++ [(D.int .u64 1)] ++ [(D.int .u8 1)] ++ List.replicate 31 (D.int .u8 0) ++ [(D.int .i64 0)] ++ [(D.int .i64 10)] ++ [(D.int .i64 5)]))
def a190 : D := (D.agg ([(D.str ⟨#[101, 97]⟩)] ++ [(D.int .u64 1)] ++ [(D.int .u8 1)] ++ List.replicate 31 (D.int .u8 0) ++ [(D.int .i64 0)] ++ [(D.int .i64 10)] ++ [(D.int .i64 5)]))
def a189 : D := (D.agg ([(D.str ⟨#[100, 99]⟩)] ++ [(D.int .u64 1)] ++ [(D.int .u8 1)] ++ List.replicate 31 (D.int .u8 0) ++ [(D.int .i64 0)] ++ [(D.int .i64 10)] ++ [(D.int .i64 5)]))
def a188 : D := (D.agg ([(D.str ⟨#[100, 98]⟩)] ++ [(D.int .u64 1)] ++ [(D.int .u8 1)] ++ List.replicate 31 (D.int .u8 0) ++ [(D.int .i64 0)] ++ [(D.int .i64 10)] ++ [(D.int .i64 5)]))
def a187 : D := (D.agg ([(D.str ⟨#[100, 97]⟩)] ++ [(D.int .u64 1)] ++ [(D.int .u8 1)] ++ List.replicate 31 (D.int .u8 0) ++ [(D.int .i64 0)] ++ [(D.int .i64 10)] ++ [(D.int .i64 5)]))
def a186 : D := (D.agg ([(D.str ⟨#[99, 116]⟩)] ++ [(D.int .u64 1)] ++ [(D.int .u8 1)] ++ List.replicate 31 (D.int .u8 0) ++ [(D.int .i64 0)] ++ [(D.int .i64 10)] ++ [(D.int .i64 5)]))
def a185 : D := (D.agg ([(D.str ⟨#[99, 115]⟩)] ++ [(D.int .u64 1)] ++ [(D.int .u8 1)] ++ List.replicate 31 (D.int .u8 0) ++ [(D.int .i64 0)] ++ [(D.int .i64 10)] ++ [(D.int .i64 5)]))
def a184 : D := (D.agg ([(D.str ⟨#[99, 114]⟩)] ++ [(D.int .u64 1)] ++ [(D.int .u8 1)] ++ List.replicate 31 (D.int .u8 0) ++ [(D.int .i64 0)] ++ [(D.int .i64 10)] ++ [(D.int .i64 5)]))
def a183 : D := (D.agg ([(D.str ⟨#[99, 113]⟩)] ++ [(D.int .u64 1)] ++ [(D.int .u8 1)] ++ List.replicate 31 (D.int .u8 0) ++ [(D.int .i64 0)] ++ [(D.int .i64 10)] ++ [(D.int .i64 5)]))
def a182 : D := (D.agg ([(D.str ⟨#[99, 112]⟩)] ++ [(D.int .u64 1)] ++ [(D.int .u8 1)] ++ List.replicate 31 (D.int .u8 0) ++ [(D.int .i64 0)] ++ [(D.int .i64 10)] ++ [(D.int .i64 5)]))
def a181 : D := (D.agg ([(D.str ⟨#[99, 111]⟩)] ++ [(D.int .u64 1)] ++ [(D.int .u8 1)] ++ List.replicate 31 (D.int .u8 0) ++ [(D.int .i64 0)] ++ [(D.int .i64 10)] ++ [(D.int .i64 5)]))
def a180 : D := (D.agg ([(D.str ⟨#[99, 110]⟩)] ++ [(D.int .u64 1)] ++ [(D.int .u8 1)] ++ List.replicate 31 (D.int .u8 0) ++ [(D.int .i64 0)] ++ [(D.int .i64 10)] ++ [(D.int .i64 5)]))
def a179 : D := (D.agg ([(D.str ⟨#[99, 109]⟩)] ++ [(D.int .u64 1)] ++ [(D.int .u8 1)] ++ List.replicate 31 (D.int .u8 0) ++ [(D.int .i64 0)] ++ [(D.int .i64 10)] ++ [(D.int .i64 5)]))
def a178 : D := (D.agg ([(D.str ⟨#[99, 108]⟩)] ++ [(D.int .u64 1)] ++ [(D.int .u8 1)] ++ List.replicate 31 (D.int .u8 0) ++ [(D.int .i64 0)] ++ [(D.int .i64 10)] ++ [(D.int .i64 5)]))
def a177 : D := (D.agg ([(D.str ⟨#[99, 107]⟩)] ++ [(D.int .u64 1)] ++ [(D.int .u8 1)] ++ List.replicate 31 (D.int .u8 0) ++ [(D.int .i64 0)] ++ [(D.int .i64 10)] ++ [(D.int .i64 5)]))
def a176 : D := (D.agg ([(D.str ⟨#[99, 106]⟩)] ++ [(D.int .u64 1)] ++ [(D.int .u8 1)] ++ List.replicate 31 (D.int .u8 0) ++ [(D.int .i64 0)] ++ [(D.int .i64 10)] ++ [(D.int .i64 5)]))
def a175 : D := (D.agg ([(D.str ⟨#[99, 105]⟩)] ++ [(D.int .u64 1)] ++ [(D.int .u8 1)] ++ List.replicate 31 (D.int .u8 0) ++ [(D.int .i64 0)] ++ [(D.int .i64 10)] ++ [(D.int .i64 5)]))
def a174 : D := (D.agg ([(D.str ⟨#[99, 104]⟩)] ++ [(D.int .u64 1)] ++ [(D.int .u8 1)] ++ List.replicate 31 (D.int .u8 0) ++ [(D.int .i64 0)] ++ [(D.int .i64 10)] ++ [(D.int .i64 5)]))
def a173 : D := (D.agg ([(D.str ⟨#[99, 103]⟩)] ++ [(D.int .u64 1)] ++ [(D.int .u8 1)] ++ List.replicate 31 (D.int .u8 0) ++ [(D.int .i64 0)] ++ [(D.int .i64 10)] ++ [(D.int .i64 5)]))
def a172 : D := (D.agg ([(D.str ⟨#[99, 102]⟩)] ++ [(D.int .u64 1)] ++ [(D.int .u8 1)] ++ List.replicate 31 (D.int .u8 0) ++ [(D.int .i64 0)] ++ [(D.int .i64 10)] ++ [(D.int .i64 5)]))
def a171 : D := (D.agg ([(D.str ⟨#[99, 101]⟩)] ++ [(D.int .u64 1)] ++ [(D.int .u8 1)] ++ List.replicate 31 (D.int .u8 0) ++ [(D.int .i64 0)] ++ [(D.int .i64 10)] ++ [(D.int .i64 5)]))
def a170 : D := (D.agg ([(D.str ⟨#[99, 100]⟩)] ++ [(D.int .u64 1)] ++ [(D.int .u8 1)] ++ List.replicate 31 (D.int .u8 0) ++ [(D.int .i64 0)] ++ [(D.int .i64 10)] ++ [(D.int .i64 5)]))
def a169 : D := (D.agg ([(D.str ⟨#[98, 116]⟩)] ++ [(D.int .u64 1)] ++ [(D.int .u8 1)] ++ List.replicate 31 (D.int .u8 0) ++ [(D.int .i64 0)] ++ [(D.int .i64 10)] ++ [(D.int .i64 5)]))
def a168 : D := (D.agg ([(D.str ⟨#[98, 115]⟩)] ++ [(D.int .u64 1)] ++ [(D.int .u8 1)] ++ List.replicate 31 (D.int .u8 0) ++ [(D.int .i64 0)] ++ [(D.int .i64 10)] ++ [(D.int .i64 5)]))
def a167 : D := (D.agg ([(D.str ⟨#[98, 114]⟩)] ++ [(D.int .u64 1)] ++ [(D.int .u8 1)] ++ List.replicate 31 (D.int .u8 0) ++ [(D.int .i64 0)] ++ [(D.int .i64 10)] ++ [(D.int .i64 5)]))
def a166 : D := (D.agg ([(D.str ⟨#[98, 113]⟩)] ++ [(D.int .u64 1)] ++ [(D.int .u8 1)] ++ List.replicate 31 (D.int .u8 0) ++ [(D.int .i64 0)] ++ [(D.int .i64 10)] ++ [(D.int .i64 5)]))
def a165 : D := (D.agg ([(D.str ⟨#[98, 112]⟩)] ++ [(D.int .u64 1)] ++ [(D.int .u8 1)] ++ List.replicate 31 (D.int .u8 0) ++ [(D.int .i64 0)] ++ [(D.int .i64 10)] ++ [(D.int .i64 5)]))
def a164 : D := (D.agg ([(D.str ⟨#[98, 111]⟩)] ++ [(D.int .u64 1)] ++ [(D.int .u8 1)] ++ List.replicate 31 (D.int .u8 0) ++ [(D.int .i64 0)] ++ [(D.int .i64 10)] ++ [(D.int .i64 5)]))
def a163 : D := (D.agg ([(D.str ⟨#[98, 110]⟩)] ++ [(D.int .u64 1)] ++ [(D.int .u8 1)] ++ List.replicate 31 (D.int .u8 0) ++ [(D.int .i64 0)] ++ [(D.int .i64 10)] ++ [(D.int .i64 5)]))
def a162 : D := (D.agg ([(D.str ⟨#[98, 109]⟩)] ++ [(D.int .u64 1)] ++ [(D.int .u8 1)] ++ List.replicate 31 (D.int .u8 0) ++ [(D.int .i64 0)] ++ [(D.int .i64 10)] ++ [(D.int .i64 5)]))
def a161 : D := (D.agg ([(D.str ⟨#[98, 108]⟩)] ++ [(D.int .u64 1)] ++ [(D.int .u8 1)] ++ List.replicate 31 (D.int .u8 0) ++ [(D.int .i64 0)] ++ [(D.int .i64 10)] ++ [(D.int .i64 5)]))
def a160 : D := (D.agg ([(D.str ⟨#[98, 107]⟩)] ++ [(D.int .u64 1)] ++ [(D.int .u8 1)] ++ List.replicate 31 (D.int .u8 0) ++ [(D.int .i64 0)] ++ [(D.int .i64 10)] ++ [(D.int .i64 5)]))
def a159 : D := (D.agg ([(D.str ⟨#[98, 106]⟩)] ++ [(D.int .u64 1)] ++ [(D.int .u8 1)] ++ List.replicate 31 (D.int .u8 0) ++ [(D.int .i64 0)] ++ [(D.int .i64 10)] ++ [(D.int .i64 5)]))
def a158 : D := (D.agg ([(D.str ⟨#[98, 105]⟩)] ++ [(D.int .u64 1)] ++ [(D.int .u8 1)] ++ List.replicate 31 (D.int .u8 0) ++ [(D.int .i64 0)] ++ [(D.int .i64 10)] ++ [(D.int .i64 5)]))
def a157 : D := (D.agg ([(D.str ⟨#[98, 104]⟩)] ++ [(D.int .u64 1)] ++ [(D.int .u8 1)] ++ List.replicate 31 (D.int .u8 0) ++ [(D.int .i64 0)] ++ [(D.int .i64 10)] ++ [(D.int .i64 5)]))
def a156 : D := (D.agg ([(D.str ⟨#[98, 103]⟩)] ++ [(D.int .u64 1)] ++ [(D.int .u8 1)] ++ List.replicate 31 (D.int .u8 0) ++ [(D.int .i64 0)] ++ [(D.int .i64 10)] ++ [(D.int .i64 5)]))
def a155 : D := (D.agg ([(D.str ⟨#[98, 102]⟩)] ++ [(D.int .u64 1)] ++ [(D.int .u8 1)] ++ List.replicate 31 (D.int .u8 0) ++ [(D.int .i64 0)] ++ [(D.int .i64 10)] ++ [(D.int .i64 5)]))
def a154 : D := (D.agg ([(D.str ⟨#[98, 101]⟩)] ++ [(D.int .u64 1)] ++ [(D.int .u8 1)] ++ List.replicate 31 (D.int .u8 0) ++ [(D.int .i64 0)] ++ [(D.int .i64 10)] ++ [(D.int .i64 5)]))
def a153 : D := (D.agg ([(D.str ⟨#[98, 100]⟩)] ++ [(D.int .u64 1)] ++ [(D.int .u8 1)] ++ List.replicate 31 (D.int .u8 0) ++ [(D.int .i64 0)] ++ [(D.int .i64 10)] ++ [(D.int .i64 5)]))
def a152 : D := (D.agg ([(D.str ⟨#[97, 116]⟩)] ++ [(D.int .u64 1)] ++ [(D.int .u8 1)] ++ List.replicate 31 (D.int .u8 0) ++ [(D.int .i64 0)] ++ [(D.int .i64 10)] ++ [(D.int .i64 5)]))
def a151 : D := (D.agg ([(D.str ⟨#[97, 115]⟩)] ++ [(D.int .u64 1)] ++ [(D.int .u8 1)] ++ List.replicate 31 (D.int .u8 0) ++ [(D.int .i64 0)] ++ [(D.int .i64 10)] ++ [(D.int .i64 5)]))
def a150 : D := (D.agg ([(D.str ⟨#[97, 114]⟩)] ++ [(D.int .u64 1)] ++ [(D.int .u8 1)] ++ List.replicate 31 (D.int .u8 0) ++ [(D.int .i64 0)] ++ [(D.int .i64 10)] ++ [(D.int .i64 5)]))
def a149 : D := (D.agg ([(D.str ⟨#[97, 113]⟩)] ++ [(D.int .u64 1)] ++ [(D.int .u8 1)] ++ List.replicate 31 (D.int .u8 0) ++ [(D.int .i64 0)] ++ [(D.int .i64 10)] ++ [(D.int .i64 5)]))
def a148 : D := (D.agg ([(D.str ⟨#[97, 112]⟩)] ++ [(D.int .u64 1)] ++ [(D.int .u8 1)] ++ List.replicate 31 (D.int .u8 0) ++ [(D.int .i64 0)] ++ [(D.int .i64 10)] ++ [(D.int .i64 5)]))
def a147 : D := (D.agg ([(D.str ⟨#[97, 111]⟩)] ++ [(D.int .u64 1)] ++ [(D.int .u8 1)] ++ List.replicate 31 (D.int .u8 0) ++ [(D.int .i64 0)] ++ [(D.int .i64 10)] ++ [(D.int .i64 5)]))
def a146 : D := (D.agg ([(D.str ⟨#[97, 110]⟩)] ++ [(D.int .u64 1)] ++ [(D.int .u8 1)] ++ List.replicate 31 (D.int .u8 0) ++ [(D.int .i64 0)] ++ [(D.int .i64 10)] ++ [(D.int .i64 5)]))
def a145 : D := (D.agg ([(D.str ⟨#[97, 109]⟩)] ++ [(D.int .u64 1)] ++ [(D.int .u8 1)] ++ List.replicate 31 (D.int .u8 0) ++ [(D.int .i64 0)] ++ [(D.int .i64 10)] ++ [(D.int .i64 5)]))
def a144 : D := (D.agg ([(D.str ⟨#[97, 108]⟩)] ++ [(D.int .u64 1)] ++ [(D.int .u8 1)] ++ List.replicate 31 (D.int .u8 0) ++ [(D.int .i64 0)] ++ [(D.int .i64 10)] ++ [(D.int .i64 5)]))
def a143 : D := (D.agg ([(D.str ⟨#[97, 107]⟩)] ++ [(D.int .u64 1)] ++ [(D.int .u8 1)] ++ List.replicate 31 (D.int .u8 0) ++ [(D.int .i64 0)] ++ [(D.int .i64 10)] ++ [(D.int .i64 5)]))
def a142 : D := (D.agg ([(D.str ⟨#[97, 106]⟩)] ++ [(D.int .u64 1)] ++ [(D.int .u8 1)] ++ List.replicate 31 (D.int .u8 0) ++ [(D.int .i64 0)] ++ [(D.int .i64 10)] ++ [(D.int .i64 5)]))
def a141 : D := (D.agg ([(D.str ⟨#[97, 105]⟩)] ++ [(D.int .u64 1)] ++ [(D.int .u8 1)] ++ List.replicate 31 (D.int .u8 0) ++ [(D.int .i64 0)] ++ [(D.int .i64 10)] ++ [(D.int .i64 5)]))
def a140 : D := (D.agg ([(D.str ⟨#[97, 104]⟩)] ++ [(D.int .u64 1)] ++ [(D.int .u8 1)] ++ List.replicate 31 (D.int .u8 0) ++ [(D.int .i64 0)] ++ [(D.int .i64 10)] ++ [(D.int .i64 5)]))
def a139 : D := (D.agg ([(D.str ⟨#[97, 103]⟩)] ++ [(D.int .u64 1)] ++ [(D.int .u8 1)] ++ List.replicate 31 (D.int .u8 0) ++ [(D.int .i64 0)] ++ [(D.int .i64 10)] ++ [(D.int .i64 5)]))
def a138 : D := (D.agg ([(D.str ⟨#[97, 102]⟩)] ++ [(D.int .u64 1)] ++ [(D.int .u8 1)] ++ List.replicate 31 (D.int .u8 0) ++ [(D.int .i64 0)] ++ [(D.int .i64 10)] ++ [(D.int .i64 5)]))
def a137 : D := (D.agg ([(D.str ⟨#[97, 101]⟩)] ++ [(D.int .u64 1)] ++ [(D.int .u8 1)] ++ List.replicate 31 (D.int .u8 0) ++ [(D.int .i64 0)] ++ [(D.int .i64 10)] ++ [(D.int .i64 5)]))
def a136 : D := (D.agg ([(D.str ⟨#[97, 100]⟩)] ++ [(D.int .u64 1)] ++ [(D.int .u8 1)] ++ List.replicate 31 (D.int .u8 0) ++ [(D.int .i64 0)] ++ [(D.int .i64 10)] ++ [(D.int .i64 5)]))
def a135 : D := (D.agg ([(D.str ⟨#[98]⟩)] ++ [(D.int .u64 6)] ++ [(D.int .u8 2)] ++ List.replicate 31 (D.int .u8 0) ++ [(D.int .i64 201)] ++ [(D.int .i64 200)] ++ [(D.int .i64 150)]))
def a134 : D := (D.agg ([(D.str ⟨#[98]⟩)] ++ [(D.int .u64 6)] ++ [(D.int .u8 2)] ++ List.replicate 31 (D.int .u8 0) ++ [(D.int .i64 100)] ++ [(D.int .i64 200)] ++ [(D.int .i64 150)]))
def a133 : D := (D.agg ([(D.str ⟨#[98]⟩)] ++ [(D.int .u64 6)] ++ [(D.int .u8 2)] ++ List.replicate 31 (D.int .u8 0) ++ [(D.int .i64 100)] ++ [(D.int .i64 200)] ++ [(D.int .i64 149)]))
def a132 : D := (D.agg ([(D.str ⟨#[99]⟩)] ++ [(D.int .u64 6)] ++ [(D.int .u8 2)] ++ List.replicate 31 (D.int .u8 0) ++ [(D.int .i64 180)] ++ [(D.int .i64 200)] ++ [(D.int .i64 201)]))
def a131 : D := (D.agg ([(D.str ⟨#[98]⟩)] ++ [(D.int .u64 6)] ++ [(D.int .u8 2)] ++ List.replicate 31 (D.int .u8 0) ++ [(D.int .i64 180)] ++ [(D.int .i64 200)] ++ [(D.int .i64 179)]))
def a130 : D := (D.agg ([(D.str ⟨#[98]⟩)] ++ [(D.int .u64 6)] ++ [(D.int .u8 1)] ++ List.replicate 31 (D.int .u8 0) ++ [(D.int .i64 100)] ++ [(D.int .i64 200)] ++ [(D.int .i64 150)]))
def a129 : D := (D.agg ([(D.str ⟨#[98]⟩)] ++ [(D.int .u64 5)] ++ [(D.int .u8 1)] ++ List.replicate 31 (D.int .u8 0) ++ [(D.int .i64 100)] ++ [(D.int .i64 201)] ++ [(D.int .i64 150)]))
def a128 : D := (D.agg ([(D.str ⟨#[98]⟩)] ++ [(D.int .u64 5)] ++ [(D.int .u8 1)] ++ List.replicate 31 (D.int .u8 0) ++ [(D.int .i64 100)] ++ [(D.int .i64 200)] ++ [(D.int .i64 150)]))
def a127 : D := (D.agg ([(D.str ⟨#[122, 122]⟩)] ++ [(D.int .u64 1)] ++ [(D.int .u8 1)] ++ List.replicate 31 (D.int .u8 0) ++ [(D.int .i64 6)] ++ [(D.int .i64 10)] ++ [(D.int .i64 5)]))
def a126 : D := (D.agg ([(D.str ⟨#[122, 122]⟩)] ++ [(D.int .u64 1)] ++ [(D.int .u8 1)] ++ List.replicate 31 (D.int .u8 0) ++ [(D.int .i64 0)] ++ [(D.int .i64 10)] ++ [(D.int .i64 5)]))
def a125 : D := (D.agg ([(D.str ⟨#[106, 116]⟩)] ++ [(D.int .u64 1)] ++ [(D.int .u8 1)] ++ List.replicate 31 (D.int .u8 0) ++ [(D.int .i64 0)] ++ [(D.int .i64 10)] ++ [(D.int .i64 5)]))
def a124 : D := (D.agg ([(D.str ⟨#[106, 115]⟩)] ++ [(D.int .u64 1)] ++ [(D.int .u8 1)] ++ List.replicate 31 (D.int .u8 0) ++ [(D.int .i64 0)] ++ [(D.int .i64 10)] ++ [(D.int .i64 5)]))
def a123 : D := (D.agg ([(D.str ⟨#[106, 114]⟩)] ++ [(D.int .u64 1)] ++ [(D.int .u8 1)] ++ List.replicate 31 (D.int .u8 0) ++ [(D.int .i64 0)] ++ [(D.int .i64 10)] ++ [(D.int .i64 5)]))
def a122 : D := (D.agg ([(D.str ⟨#[106, 113]⟩)] ++ [(D.int .u64 1)] ++ [(D.int .u8 1)] ++ List.replicate 31 (D.int .u8 0) ++ [(D.int .i64 0)] ++ [(D.int .i64 10)] ++ [(D.int .i64 5)]))
def a121 : D := (D.agg ([(D.str ⟨#[106, 112]⟩)] ++ [(D.int .u64 1)] ++ [(D.int .u8 1)] ++ List.replicate 31 (D.int .u8 0) ++ [(D.int .i64 0)] ++ [(D.int .i64 10)] ++ [(D.int .i64 5)]))
def a120 : D := (D.agg ([(D.str ⟨#[106, 111]⟩)] ++ [(D.int .u64 1)] ++ [(D.int .u8 1)] ++ List.replicate 31 (D.int .u8 0) ++ [(D.int .i64 0)] ++ [(D.int .i64 10)] ++ [(D.int .i64 5)]))
def a119 : D := (D.agg ([(D.str ⟨#[106, 110]⟩)] ++ [(D.int .u64 1)] ++ [(D.int .u8 1)] ++ List.replicate 31 (D.int .u8 0) ++ [(D.int .i64 0)] ++ [(D.int .i64 10)] ++ [(D.int .i64 5)]))
def a118 : D := (D.agg ([(D.str ⟨#[106, 109]⟩)] ++ [(D.int .u64 1)] ++ [(D.int .u8 1)] ++ List.replicate 31 (D.int .u8 0) ++ [(D.int .i64 0)] ++ [(D.int .i64 10)] ++ [(D.int .i64 5)]))
def a117 : D := (D.agg ([(D.str ⟨#[106, 108]⟩)] ++ [(D.int .u64 1)] ++ [(D.int .u8 1)] ++ List.replicate 31 (D.int .u8 0) ++ [(D.int .i64 0)] ++ [(D.int .i64 10)] ++ [(D.int .i64 5)]))
def a116 : D := (D.agg ([(D.str ⟨#[106, 107]⟩)] ++ [(D.int .u64 1)] ++ [(D.int .u8 1)] ++ List.replicate 31 (D.int .u8 0) ++ [(D.int .i64 0)] ++ [(D.int .i64 10)] ++ [(D.int .i64 5)]))
def a115 : D := (D.agg ([(D.str ⟨#[106, 106]⟩)] ++ [(D.int .u64 1)] ++ [(D.int .u8 1)] ++ List.replicate 31 (D.int .u8 0) ++ [(D.int .i64 0)] ++ [(D.int .i64 10)] ++ [(D.int .i64 5)]))
def a114 : D := (D.agg ([(D.str ⟨#[106, 105]⟩)] ++ [(D.int .u64 1)] ++ [(D.int .u8 1)] ++ List.replicate 31 (D.int .u8 0) ++ [(D.int .i64 0)] ++ [(D.int .i64 10)] ++ [(D.int .i64 5)]))
def a113 : D := (D.agg ([(D.str ⟨#[106, 104]⟩)] ++ [(D.int .u64 1)] ++ [(D.int .u8 1)] ++ List.replicate 31 (D.int .u8 0) ++ [(D.int .i64 0)] ++ [(D.int .i64 10)] ++ [(D.int .i64 5)]))
def a112 : D := (D.agg ([(D.str ⟨#[106, 103]⟩)] ++ [(D.int .u64 1)] ++ [(D.int .u8 1)] ++ List.replicate 31 (D.int .u8 0) ++ [(D.int .i64 0)] ++ [(D.int .i64 10)] ++ [(D.int .i64 5)]))
def a111 : D := (D.agg ([(D.str ⟨#[106, 102]⟩)] ++ [(D.int .u64 1)] ++ [(D.int .u8 1)] ++ List.replicate 31 (D.int .u8 0) ++ [(D.int .i64 0)] ++ [(D.int .i64 10)] ++ [(D.int .i64 5)]))
def a110 : D := (D.agg ([(D.str ⟨#[106, 101]⟩)] ++ [(D.int .u64 1)] ++ [(D.int .u8 1)] ++ List.replicate 31 (D.int .u8 0) ++ [(D.int .i64 0)] ++ [(D.int .i64 10)] ++ [(D.int .i64 5)]))
def a109 : D := (D.agg ([(D.str ⟨#[106, 100]⟩)] ++ [(D.int .u64 1)] ++ [(D.int .u8 1)] ++ List.replicate 31 (D.int .u8 0) ++ [(D.int .i64 0)] ++ [(D.int .i64 10)] ++ [(D.int .i64 5)]))
def a108 : D := (D.agg ([(D.str ⟨#[105, 116]⟩)] ++ [(D.int .u64 1)] ++ [(D.int .u8 1)] ++ List.replicate 31 (D.int .u8 0) ++ [(D.int .i64 0)] ++ [(D.int .i64 10)] ++ [(D.int .i64 5)]))
def a107 : D := (D.agg ([(D.str ⟨#[105, 115]⟩)] ++ [(D.int .u64 1)] ++ [(D.int .u8 1)] ++ List.replicate 31 (D.int .u8 0) ++ [(D.int .i64 0)] ++ [(D.int .i64 10)] ++ [(D.int .i64 5)]))
def a106 : D := (D.agg ([(D.str ⟨#[105, 114]⟩)] ++ [(D.int .u64 1)] ++ [(D.int .u8 1)] ++ List.replicate 31 (D.int .u8 0) ++ [(D.int .i64 0)] ++ [(D.int .i64 10)] ++ [(D.int .i64 5)]))
def a105 : D := (D.agg ([(D.str ⟨#[105, 113]⟩)] ++ [(D.int .u64 1)] ++ [(D.int .u8 1)] ++ List.replicate 31 (D.int .u8 0) ++ [(D.int .i64 0)] ++ [(D.int .i64 10)] ++ [(D.int .i64 5)]))
def a104 : D := (D.agg ([(D.str ⟨#[105, 112]⟩)] ++ [(D.int .u64 1)] ++ [(D.int .u8 1)] ++ List.replicate 31 (D.int .u8 0) ++ [(D.int .i64 0)] ++ [(D.int .i64 10)] ++ [(D.int .i64 5)]))
def a103 : D := (D.agg ([(D.str ⟨#[105, 111]⟩)] ++ [(D.int .u64 1)] ++ [(D.int .u8 1)] ++ List.replicate 31 (D.int .u8 0) ++ [(D.int .i64 0)] ++ [(D.int .i64 10)] ++ [(D.int .i64 5)]))
def a102 : D := (D.agg ([(D.str ⟨#[105, 110]⟩)] ++ [(D.int .u64 1)] ++ [(D.int .u8 1)] ++ List.replicate 31 (D.int .u8 0) ++ [(D.int .i64 0)] ++ [(D.int .i64 10)] ++ [(D.int .i64 5)]))
def a101 : D := (D.agg ([(D.str ⟨#[105, 109]⟩)] ++ [(D.int .u64 1)] ++ [(D.int .u8 1)] ++ List.replicate 31 (D.int .u8 0) ++ [(D.int .i64 0)] ++ [(D.int .i64 10)] ++ [(D.int .i64 5)]))
def a100 : D := (D.agg ([(D.str ⟨#[105, 108]⟩)] ++ [(D.int .u64 1)] ++ [(D.int .u8 1)] ++ List.replicate 31 (D.int .u8 0) ++ [(D.int .i64 0)] ++ [(D.int .i64 10)] ++ [(D.int .i64 5)]))
def a99 : D := (D.agg ([(D.str ⟨#[105, 107]⟩)] ++ [(D.int .u64 1)] ++ [(D.int .u8 1)] ++ List.replicate 31 (D.int .u8 0) ++ [(D.int .i64 0)] ++ [(D.int .i64 10)] ++ [(D.int .i64 5)]))
def a98 : D := (D.agg ([(D.str ⟨#[105, 106]⟩)] ++ [(D.int .u64 1)] ++ [(D.int .u8 1)] ++ List.replicate 31 (D.int .u8 0) ++ [(D.int .i64 0)] ++ [(D.int .i64 10)] ++ [(D.int .i64 5)]))
def a97 : D := (D.agg ([(D.str ⟨#[105, 105]⟩)] ++ [(D.int .u64 1)] ++ [(D.int .u8 1)] ++ List.replicate 31 (D.int .u8 0) ++ [(D.int .i64 0)] ++ [(D.int .i64 10)] ++ [(D.int .i64 5)]))
def a96 : D := (D.agg ([(D.str ⟨#[105, 104]⟩)] ++ [(D.int .u64 1)] ++ [(D.int .u8 1)] ++ List.replicate 31 (D.int .u8 0) ++ [(D.int .i64 0)] ++ [(D.int .i64 10)] ++ [(D.int .i64 5)]))
def a95 : D := (D.agg ([(D.str ⟨#[105, 103]⟩)] ++ [(D.int .u64 1)] ++ [(D.int .u8 1)] ++ List.replicate 31 (D.int .u8 0) ++ [(D.int .i64 0)] ++ [(D.int .i64 10)] ++ [(D.int .i64 5)]))
def a94 : D := (D.agg ([(D.str ⟨#[105, 102]⟩)] ++ [(D.int .u64 1)] ++ [(D.int .u8 1)] ++ List.replicate 31 (D.int .u8 0) ++ [(D.int .i64 0)] ++ [(D.int .i64 10)] ++ [(D.int .i64 5)]))
def a93 : D := (D.agg ([(D.str ⟨#[105, 101]⟩)] ++ [(D.int .u64 1)] ++ [(D.int .u8 1)] ++ List.replicate 31 (D.int .u8 0) ++ [(D.int .i64 0)] ++ [(D.int .i64 10)] ++ [(D.int .i64 5)]))
def a92 : D := (D.agg ([(D.str ⟨#[105, 100]⟩)] ++ [(D.int .u64 1)] ++ [(D.int .u8 1)] ++ List.replicate 31 (D.int .u8 0) ++ [(D.int .i64 0)] ++ [(D.int .i64 10)] ++ [(D.int .i64 5)]))
def a91 : D := (D.agg ([(D.str ⟨#[104, 116]⟩)] ++ [(D.int .u64 1)] ++ [(D.int .u8 1)] ++ List.replicate 31 (D.int .u8 0) ++ [(D.int .i64 0)] ++ [(D.int .i64 10)] ++ [(D.int .i64 5)]))
def a90 : D := (D.agg ([(D.str ⟨#[104, 115]⟩)] ++ [(D.int .u64 1)] ++ [(D.int .u8 1)] ++ List.replicate 31 (D.int .u8 0) ++ [(D.int .i64 0)] ++ [(D.int .i64 10)] ++ [(D.int .i64 5)]))
def a89 : D := (D.agg ([(D.str ⟨#[104, 114]⟩)] ++ [(D.int .u64 1)] ++ [(D.int .u8 1)] ++ List.replicate 31 (D.int .u8 0) ++ [(D.int .i64 0)] ++ [(D.int .i64 10)] ++ [(D.int .i64 5)]))
def a88 : D := (D.agg ([(D.str ⟨#[104, 113]⟩)] ++ [(D.int .u64 1)] ++ [(D.int .u8 1)] ++ List.replicate 31 (D.int .u8 0) ++ [(D.int .i64 0)] ++ [(D.int .i64 10)] ++ [(D.int .i64 5)]))
def a87 : D := (D.agg ([(D.str ⟨#[104, 112]⟩)] ++ [(D.int .u64 1)] ++ [(D.int .u8 1)] ++ List.replicate 31 (D.int .u8 0) ++ [(D.int .i64 0)] ++ [(D.int .i64 10)] ++ [(D.int .i64 5)]))
def a86 : D := (D.agg ([(D.str ⟨#[104, 111]⟩)] ++ [(D.int .u64 1)] ++ [(D.int .u8 1)] ++ List.replicate 31 (D.int .u8 0) ++ [(D.int .i64 0)] ++ [(D.int .i64 10)] ++ [(D.int .i64 5)]))
def a85 : D := (D.agg ([(D.str ⟨#[104, 110]⟩)] ++ [(D.int .u64 1)] ++ [(D.int .u8 1)] ++ List.replicate 31 (D.int .u8 0) ++ [(D.int .i64 0)] ++ [(D.int .i64 10)] ++ [(D.int .i64 5)]))
def a84 : D := (D.agg ([(D.str ⟨#[104, 109]⟩)] ++ [(D.int .u64 1)] ++ [(D.int .u8 1)] ++ List.replicate 31 (D.int .u8 0) ++ [(D.int .i64 0)] ++ [(D.int .i64 10)] ++ [(D.int .i64 5)]))
def a83 : D := (D.agg ([(D.str ⟨#[104, 108]⟩)] ++ [(D.int .u64 1)] ++ [(D.int .u8 1)] ++ List.replicate 31 (D.int .u8 0) ++ [(D.int .i64 0)] ++ [(D.int .i64 10)] ++ [(D.int .i64 5)]))
def a82 : D := (D.agg ([(D.str ⟨#[104, 107]⟩)] ++ [(D.int .u64 1)] ++ [(D.int .u8 1)] ++ List.replicate 31 (D.int .u8 0) ++ [(D.int .i64 0)] ++ [(D.int .i64 10)] ++ [(D.int .i64 5)]))
def a81 : D := (D.agg ([(D.str ⟨#[104, 106]⟩)] ++ [(D.int .u64 1)] ++ [(D.int .u8 1)] ++ List.replicate 31 (D.int .u8 0) ++ [(D.int .i64 0)] ++ [(D.int .i64 10)] ++ [(D.int .i64 5)]))
def a80 : D := (D.agg ([(D.str ⟨#[104, 105]⟩)] ++ [(D.int .u64 1)] ++ [(D.int .u8 1)] ++ List.replicate 31 (D.int .u8 0) ++ [(D.int .i64 0)] ++ [(D.int .i64 10)] ++ [(D.int .i64 5)]))
def a79 : D := (D.agg ([(D.str ⟨#[104, 104]⟩)] ++ [(D.int .u64 1)] ++ [(D.int .u8 1)] ++ List.replicate 31 (D.int .u8 0) ++ [(D.int .i64 0)] ++ [(D.int .i64 10)] ++ [(D.int .i64 5)]))
def a78 : D := (D.agg ([(D.str ⟨#[104, 103]⟩)] ++ [(D.int .u64 1)] ++ [(D.int .u8 1)] ++ List.replicate 31 (D.int .u8 0) ++ [(D.int .i64 0)] ++ [(D.int .i64 10)] ++ [(D.int .i64 5)]))
def a77 : D := (D.agg ([(D.str ⟨#[104, 102]⟩)] ++ [(D.int .u64 1)] ++ [(D.int .u8 1)] ++ List.replicate 31 (D.int .u8 0) ++ [(D.int .i64 0)] ++ [(D.int .i64 10)] ++ [(D.int .i64 5)]))
def a76 : D := (D.agg ([(D.str ⟨#[104, 101]⟩)] ++ [(D.int .u64 1)] ++ [(D.int .u8 1)] ++ List.replicate 31 (D.int .u8 0) ++ [(D.int .i64 0)] ++ [(D.int .i64 10)] ++ [(D.int .i64 5)]))
def a75 : D := (D.agg ([(D.str ⟨#[104, 100]⟩)] ++ [(D.int .u64 1)] ++ [(D.int .u8 1)] ++ List.replicate 31 (D.int .u8 0) ++ [(D.int .i64 0)] ++ [(D.int .i64 10)] ++ [(D.int .i64 5)]))
def a74 : D := (D.agg ([(D.str ⟨#[103, 116]⟩)] ++ [(D.int .u64 1)] ++ [(D.int .u8 1)] ++ List.replicate 31 (D.int .u8 0) ++ [(D.int .i64 0)] ++ [(D.int .i64 10)] ++ [(D.int .i64 5)]))
def a73 : D := (D.agg ([(D.str ⟨#[103, 115]⟩)] ++ [(D.int .u64 1)] ++ [(D.int .u8 1)] ++ List.replicate 31 (D.int .u8 0) ++ [(D.int .i64 0)] ++ [(D.int .i64 10)] ++ [(D.int .i64 5)]))
def a72 : D := (D.agg ([(D.str ⟨#[103, 114]⟩)] ++ [(D.int .u64 1)] ++ [(D.int .u8 1)] ++ List.replicate 31 (D.int .u8 0) ++ [(D.int .i64 0)] ++ [(D.int .i64 10)] ++ [(D.int .i64 5)]))
def a71 : D := (D.agg ([(D.str ⟨#[103, 113]⟩)] ++ [(D.int .u64 1)] ++ [(D.int .u8 1)] ++ List.replicate 31 (D.int .u8 0) ++ [(D.int .i64 0)] ++ [(D.int .i64 10)] ++ [(D.int .i64 5)]))
def a70 : D := (D.agg ([(D.str ⟨#[103, 112]⟩)] ++ [(D.int .u64 1)] ++ [(D.int .u8 1)] ++ List.replicate 31 (D.int .u8 0) ++ [(D.int .i64 0)] ++ [(D.int .i64 10)] ++ [(D.int .i64 5)]))
def a69 : D := (D.agg ([(D.str ⟨#[103, 111]⟩)] ++ [(D.int .u64 1)] ++ [(D.int .u8 1)] ++ List.replicate 31 (D.int .u8 0) ++ [(D.int .i64 0)] ++ [(D.int .i64 10)] ++ [(D.int .i64 5)]))
def a68 : D := (D.agg ([(D.str ⟨#[103, 110]⟩)] ++ [(D.int .u64 1)] ++ [(D.int .u8 1)] ++ List.replicate 31 (D.int .u8 0) ++ [(D.int .i64 0)] ++ [(D.int .i64 10)] ++ [(D.int .i64 5)]))
def a67 : D := (D.agg ([(D.str ⟨#[103, 109]⟩)] ++ [(D.int .u64 1)] ++ [(D.int .u8 1)] ++ List.replicate 31 (D.int .u8 0) ++ [(D.int .i64 0)] ++ [(D.int .i64 10)] ++ [(D.int .i64 5)]))
def a66 : D := (D.agg ([(D.str ⟨#[103, 108]⟩)] ++ [(D.int .u64 1)] ++ [(D.int .u8 1)] ++ List.replicate 31 (D.int .u8 0) ++ [(D.int .i64 0)] ++ [(D.int .i64 10)] ++ [(D.int .i64 5)]))
def a65 : D := (D.agg ([(D.str ⟨#[103, 107]⟩)] ++ [(D.int .u64 1)] ++ [(D.int .u8 1)] ++ List.replicate 31 (D.int .u8 0) ++ [(D.int .i64 0)] ++ [(D.int .i64 10)] ++ [(D.int .i64 5)]))
def a64 : D := (D.agg ([(D.str ⟨#[103, 106]⟩)] ++ [(D.int .u64 1)] ++ [(D.int .u8 1)] ++ List.replicate 31 (D.int .u8 0) ++ [(D.int .i64 0)] ++ [(D.int .i64 10)] ++ [(D.int .i64 5)]))
def a63 : D := (D.agg ([(D.str ⟨#[103, 105]⟩)] ++ [(D.int .u64 1)] ++ [(D.int .u8 1)] ++ List.replicate 31 (D.int .u8 0) ++ [(D.int .i64 0)] ++ [(D.int .i64 10)] ++ [(D.int .i64 5)]))
def a62 : D := (D.agg ([(D.str ⟨#[103, 104]⟩)] ++ [(D.int .u64 1)] ++ [(D.int .u8 1)] ++ List.replicate 31 (D.int .u8 0) ++ [(D.int .i64 0)] ++ [(D.int .i64 10)] ++ [(D.int .i64 5)]))
def a61 : D := (D.agg ([(D.str ⟨#[103, 103]⟩)] ++ [(D.int .u64 1)] ++ [(D.int .u8 1)] ++ List.replicate 31 (D.int .u8 0) ++ [(D.int .i64 0)] ++ [(D.int .i64 10)] ++ [(D.int .i64 5)]))
def a60 : D := (D.agg ([(D.str ⟨#[103, 102]⟩)] ++ [(D.int .u64 1)] ++ [(D.int .u8 1)] ++ List.replicate 31 (D.int .u8 0) ++ [(D.int .i64 0)] ++ [(D.int .i64 10)] ++ [(D.int .i64 5)]))
def a59 : D := (D.agg ([(D.str ⟨#[103, 101]⟩)] ++ [(D.int .u64 1)] ++ [(D.int .u8 1)] ++ List.replicate 31 (D.int .u8 0) ++ [(D.int .i64 0)] ++ [(D.int .i64 10)] ++ [(D.int .i64 5)]))
def a58 : D := (D.agg ([(D.str ⟨#[103, 100]⟩)] ++ [(D.int .u64 1)] ++ [(D.int .u8 1)] ++ List.replicate 31 (D.int .u8 0) ++ [(D.int .i64 0)] ++ [(D.int .i64 10)] ++ [(D.int .i64 5)]))
def a57 : D := (D.agg ([(D.str ⟨#[102, 116]⟩)] ++ [(D.int .u64 1)] ++ [(D.int .u8 1)] ++ List.replicate 31 (D.int .u8 0) ++ [(D.int .i64 0)] ++ [(D.int .i64 10)] ++ [(D.int .i64 5)]))
def a56 : D := (D.agg ([(D.str ⟨#[102, 115]⟩)] ++ [(D.int .u64 1)] ++ [(D.int .u8 1)] ++ List.replicate 31 (D.int .u8 0) ++ [(D.int .i64 0)] ++ [(D.int .i64 10)] ++ [(D.int .i64 5)]))
def a55 : D := (D.agg ([(D.str ⟨#[102, 114]⟩)] ++ [(D.int .u64 1)] ++ [(D.int .u8 1)] ++ List.replicate 31 (D.int .u8 0) ++ [(D.int .i64 0)] ++ [(D.int .i64 10)] ++ [(D.int .i64 5)]))
def a54 : D := (D.agg ([(D.str ⟨#[102, 113]⟩)] ++ [(D.int .u64 1)] ++ [(D.int .u8 1)] ++ List.replicate 31 (D.int .u8 0) ++ [(D.int .i64 0)] ++ [(D.int .i64 10)] ++ [(D.int .i64 5)]))
def a53 : D := (D.agg ([(D.str ⟨#[102, 112]⟩)] ++ [(D.int .u64 1)] ++ [(D.int .u8 1)] ++ List.replicate 31 (D.int .u8 0) ++ [(D.int .i64 0)] ++ [(D.int .i64 10)] ++ [(D.int .i64 5)]))
def a52 : D := (D.agg ([(D.str ⟨#[102, 111]⟩)] ++ [(D.int .u64 1)] ++ [(D.int .u8 1)] ++ List.replicate 31 (D.int .u8 0) ++ [(D.int .i64 0)] ++ [(D.int .i64 10)] ++ [(D.int .i64 5)]))
def a51 : D := (D.agg ([(D.str ⟨#[102, 110]⟩)] ++ [(D.int .u64 1)] ++ [(D.int .u8 1)] ++ List.replicate 31 (D.int .u8 0) ++ [(D.int .i64 0)] ++ [(D.int .i64 10)] ++ [(D.int .i64 5)]))
def a50 : D := (D.agg ([(D.str ⟨#[102, 109]⟩)] ++ [(D.int .u64 1)] ++ [(D.int .u8 1)] ++ List.replicate 31 (D.int .u8 0) ++ [(D.int .i64 0)] ++ [(D.int .i64 10)] ++ [(D.int .i64 5)]))
def a49 : D := (D.agg ([(D.str ⟨#[102, 108]⟩)] ++ [(D.int .u64 1)] ++ [(D.int .u8 1)] ++ List.replicate 31 (D.int .u8 0) ++ [(D.int .i64 0)] ++ [(D.int .i64 10)] ++ [(D.int .i64 5)]))
def a48 : D := (D.agg ([(D.str ⟨#[102, 107]⟩)] ++ [(D.int .u64 1)] ++ [(D.int .u8 1)] ++ List.replicate 31 (D.int .u8 0) ++ [(D.int .i64 0)] ++ [(D.int .i64 10)] ++ [(D.int .i64 5)]))
def a47 : D := (D.agg ([(D.str ⟨#[102, 106]⟩)] ++ [(D.int .u64 1)] ++ [(D.int .u8 1)] ++ List.replicate 31 (D.int .u8 0) ++ [(D.int .i64 0)] ++ [(D.int .i64 10)] ++ [(D.int .i64 5)]))
def a46 : D := (D.agg ([(D.str ⟨#[102, 105]⟩)] ++ [(D.int .u64 1)] ++ [(D.int .u8 1)] ++ List.replicate 31 (D.int .u8 0) ++ [(D.int .i64 0)] ++ [(D.int .i64 10)] ++ [(D.int .i64 5)]))
def a45 : D := (D.agg ([(D.str ⟨#[102, 104]⟩)] ++ [(D.int .u64 1)] ++ [(D.int .u8 1)] ++ List.replicate 31 (D.int .u8 0) ++ [(D.int .i64 0)] ++ [(D.int .i64 10)] ++ [(D.int .i64 5)]))
def a44 : D := (D.agg ([(D.str ⟨#[102, 103]⟩)] ++ [(D.int .u64 1)] ++ [(D.int .u8 1)] ++ List.replicate 31 (D.int .u8 0) ++ [(D.int .i64 0)] ++ [(D.int .i64 10)] ++ [(D.int .i64 5)]))
def a43 : D := (D.agg ([(D.str ⟨#[102, 102]⟩)] ++ [(D.int .u64 1)] ++ [(D.int .u8 1)] ++ List.replicate 31 (D.int .u8 0) ++ [(D.int .i64 0)] ++ [(D.int .i64 10)] ++ [(D.int .i64 5)]))
def a42 : D := (D.agg ([(D.str ⟨#[102, 101]⟩)] ++ [(D.int .u64 1)] ++ [(D.int .u8 1)] ++ List.replicate 31 (D.int .u8 0) ++ [(D.int .i64 0)] ++ [(D.int .i64 10)] ++ [(D.int .i64 5)]))
def a41 : D := (D.agg ([(D.str ⟨#[102, 100]⟩)] ++ [(D.int .u64 1)] ++ [(D.int .u8 1)] ++ List.replicate 31 (D.int .u8 0) ++ [(D.int .i64 0)] ++ [(D.int .i64 10)] ++ [(D.int .i64 5)]))
def a40 : D := (D.agg ([(D.str ⟨#[101, 116]⟩)] ++ [(D.int .u64 1)] ++ [(D.int .u8 1)] ++ List.replicate 31 (D.int .u8 0) ++ [(D.int .i64 0)] ++ [(D.int .i64 10)] ++ [(D.int .i64 5)]))
def a39 : D := (D.agg ([(D.str ⟨#[101, 115]⟩)] ++ [(D.int .u64 1)] ++ [(D.int .u8 1)] ++ List.replicate 31 (D.int .u8 0) ++ [(D.int .i64 0)] ++ [(D.int .i64 10)] ++ [(D.int .i64 5)]))
def a38 : D := (D.agg ([(D.str ⟨#[101, 114]⟩)] ++ [(D.int .u64 1)] ++ [(D.int .u8 1)] ++ List.replicate 31 (D.int .u8 0) ++ [(D.int .i64 0)] ++ [(D.int .i64 10)] ++ [(D.int .i64 5)]))
def a37 : D := (D.agg ([(D.str ⟨#[101, 113]⟩)] ++ [(D.int .u64 1)] ++ [(D.int .u8 1)] ++ List.replicate 31 (D.int .u8 0) ++ [(D.int .i64 0)] ++ [(D.int .i64 10)] ++ [(D.int .i64 5)]))
def a36 : D := (D.agg ([(D.str ⟨#[101, 112]⟩)] ++ [(D.int .u64 1)] ++ [(D.int .u8 1)] ++ List.replicate 31 (D.int .u8 0) ++ [(D.int .i64 0)] ++ [(D.int .i64 10)] ++ [(D.int .i64 5)]))
def a35 : D := (D.agg ([(D.str ⟨#[101, 111]⟩)] ++ [(D.int .u64 1)] ++ [(D.int .u8 1)] ++ List.replicate 31 (D.int .u8 0) ++ [(D.int .i64 0)] ++ [(D.int .i64 10)] ++ [(D.int .i64 5)]))
def a34 : D := (D.agg ([(D.str ⟨#[101, 110]⟩)] ++ [(D.int .u64 1)] ++ [(D.int .u8 1)] ++ List.replicate 31 (D.int .u8 0) ++ [(D.int .i64 0)] ++ [(D.int .i64 10)] ++ [(D.int .i64 5)]))
def a33 : D := (D.agg ([(D.str ⟨#[101, 109]⟩)] ++ [(D.int .u64 1)] ++ [(D.int .u8 1)] ++ List.replicate 31 (D.int .u8 0) ++ [(D.int .i64 0)] ++ [(D.int .i64 10)] ++ [(D.int .i64 5)]))
def a32 : D := (D.agg ([(D.str ⟨#[101, 108]⟩)] ++ [(D.int .u64 1)] ++ [(D.int .u8 1)] ++ List.replicate 31 (D.int .u8 0) ++ [(D.int .i64 0)] ++ [(D.int .i64 10)] ++ [(D.int .i64 5)]))
def a31 : D := (D.agg ([(D.str ⟨#[101, 107]⟩)] ++ [(D.int .u64 1)] ++ [(D.int .u8 1)] ++ List.replicate 31 (D.int .u8 0) ++ [(D.int .i64 0)] ++ [(D.int .i64 10)] ++ [(D.int .i64 5)]))
def a30 : D := (D.agg ([(D.str ⟨#[101, 106]⟩)] ++ [(D.int .u64 1)] ++ [(D.int .u8 1)] ++ List.replicate 31 (D.int .u8 0) ++ [(D.int .i64 0)] ++ [(D.int .i64 10)] ++ [(D.int .i64 5)]))
def a29 : D := (D.agg ([(D.str ⟨#[101, 105]⟩)] ++ [(D.int .u64 1)] ++ [(D.int .u8 1)] ++ List.replicate 31 (D.int .u8 0) ++ [(D.int .i64 0)] ++ [(D.int .i64 10)] ++ [(D.int .i64 5)]))
def a28 : D := (D.agg ([(D.str ⟨#[101, 104]⟩)] ++ [(D.int .u64 1)] ++ [(D.int .u8 1)] ++ List.replicate 31 (D.int .u8 0) ++ [(D.int .i64 0)] ++ [(D.int .i64 10)] ++ [(D.int .i64 5)]))
def a27 : D := (D.agg ([(D.str ⟨#[101, 103]⟩)] ++ [(D.int .u64 1)] ++ [(D.int .u8 1)] ++ List.replicate 31 (D.int .u8 0) ++ [(D.int .i64 0)] ++ [(D.int .i64 10)] ++ [(D.int .i64 5)]))
def a26 : D := (D.agg ([(D.str ⟨#[101, 102]⟩)] ++ [(D.int .u64 1)] ++ [(D.int .u8 1)] ++ List.replicate 31 (D.int .u8 0) ++ [(D.int .i64 0)] ++ [(D.int .i64 10)] ++ [(D.int .i64 5)]))
def a25 : D := (D.agg ([(D.str ⟨#[101, 101]⟩)] ++ [(D.int .u64 1)] ++ [(D.int .u8 1)] ++ List.replicate 31 (D.int .u8 0) ++ [(D.int .i64 0)] ++ [(D.int .i64 10)] ++ [(D.int .i64 5)]))
def a24 : D := (D.agg ([(D.str ⟨#[101, 100]⟩)] ++ [(D.int .u64 1)] ++ [(D.int .u8 1)] ++ List.replicate 31 (D.int .u8 0) ++ [(D.int .i64 0)] ++ [(D.int .i64 10)] ++ [(D.int .i64 5)]))
def a23 : D := (D.agg ([(D.str ⟨#[100, 116]⟩)] ++ [(D.int .u64 1)] ++ [(D.int .u8 1)] ++ List.replicate 31 (D.int .u8 0) ++ [(D.int .i64 0)] ++ [(D.int .i64 10)] ++ [(D.int .i64 5)]))
def a22 : D := (D.agg ([(D.str ⟨#[100, 115]⟩)] ++ [(D.int .u64 1)] ++ [(D.int .u8 1)] ++ List.replicate 31 (D.int .u8 0) ++ [(D.int .i64 0)] ++ [(D.int .i64 10)] ++ [(D.int .i64 5)]))
def a21 : D := (D.agg ([(D.str ⟨#[100, 114]⟩)] ++ [(D.int .u64 1)] ++ [(D.int .u8 1)] ++ List.replicate 31 (D.int .u8 0) ++ [(D.int .i64 0)] ++ [(D.int .i64 10)] ++ [(D.int .i64 5)]))
def a20 : D := (D.agg ([(D.str ⟨#[100, 113]⟩)] ++ [(D.int .u64 1)] ++ [(D.int .u8 1)] ++ List.replicate 31 (D.int .u8 0) ++ [(D.int .i64 0)] ++ [(D.int .i64 10)] ++ [(D.int .i64 5)]))
def a19 : D := (D.agg ([(D.str ⟨#[100, 112]⟩)] ++ [(D.int .u64 1)] ++ [(D.int .u8 1)] ++ List.replicate 31 (D.int .u8 0) ++ [(D.int .i64 0)] ++ [(D.int .i64 10)] ++ [(D.int .i64 5)]))
def a18 : D := (D.agg ([(D.str ⟨#[100, 111]⟩)] ++ [(D.int .u64 1)] ++ [(D.int .u8 1)] ++ List.replicate 31 (D.int .u8 0) ++ [(D.int .i64 0)] ++ [(D.int .i64 10)] ++ [(D.int .i64 5)]))
def a17 : D := (D.agg ([(D.str ⟨#[100, 110]⟩)] ++ [(D.int .u64 1)] ++ [(D.int .u8 1)] ++ List.replicate 31 (D.int .u8 0) ++ [(D.int .i64 0)] ++ [(D.int .i64 10)] ++ [(D.int .i64 5)]))
def a16 : D := (D.agg ([(D.str ⟨#[100, 109]⟩)] ++ [(D.int .u64 1)] ++ [(D.int .u8 1)] ++ List.replicate 31 (D.int .u8 0) ++ [(D.int .i64 0)] ++ [(D.int .i64 10)] ++ [(D.int .i64 5)]))
def a15 : D := (D.agg ([(D.str ⟨#[100, 108]⟩)] ++ [(D.int .u64 1)] ++ [(D.int .u8 1)] ++ List.replicate 31 (D.int .u8 0) ++ [(D.int .i64 0)] ++ [(D.int .i64 10)] ++ [(D.int .i64 5)]))
def a14 : D := (D.agg ([(D.str ⟨#[100, 107]⟩)] ++ [(D.int .u64 1)] ++ [(D.int .u8 1)] ++ List.replicate 31 (D.int .u8 0) ++ [(D.int .i64 0)] ++ [(D.int .i64 10)] ++ [(D.int .i64 5)]))
def a13 : D := (D.agg ([(D.str ⟨#[100, 106]⟩)] ++ [(D.int .u64 1)] ++ [(D.int .u8 1)] ++ List.replicate 31 (D.int .u8 0) ++ [(D.int .i64 0)] ++ [(D.int .i64 10)] ++ [(D.int .i64 5)]))
def a12 : D := (D.agg ([(D.str ⟨#[100, 105]⟩)] ++ [(D.int .u64 1)] ++ [(D.int .u8 1)] ++ List.replicate 31 (D.int .u8 0) ++ [(D.int .i64 0)] ++ [(D.int .i64 10)] ++ [(D.int .i64 5)]))
def a11 : D := (D.agg ([(D.str ⟨#[100, 104]⟩)] ++ [(D.int .u64 1)] ++ [(D.int .u8 1)] ++ List.replicate 31 (D.int .u8 0) ++ [(D.int .i64 0)] ++ [(D.int .i64 10)] ++ [(D.int .i64 5)]))
def a10 : D := (D.agg ([(D.str ⟨#[100, 103]⟩)] ++ [(D.int .u64 1)] ++ [(D.int .u8 1)] ++ List.replicate 31 (D.int .u8 0) ++ [(D.int .i64 0)] ++ [(D.int .i64 10)] ++ [(D.int .i64 5)]))
def a9 : D := (D.agg ([(D.str ⟨#[100, 102]⟩)] ++ [(D.int .u64 1)] ++ [(D.int .u8 1)] ++ List.replicate 31 (D.int .u8 0) ++ [(D.int .i64 0)] ++ [(D.int .i64 10)] ++ [(D.int .i64 5)]))
def a8 : D := (D.agg ([(D.str ⟨#[100, 101]⟩)] ++ [(D.int .u64 1)] ++ [(D.int .u8 1)] ++ List.replicate 31 (D.int .u8 0) ++ [(D.int .i64 0)] ++ [(D.int .i64 10)] ++ [(D.int .i64 5)]))
def a7 : D := (D.agg ([(D.str ⟨#[100, 100]⟩)] ++ [(D.int .u64 1)] ++ [(D.int .u8 1)] ++ List.replicate 31 (D.int .u8 0) ++ [(D.int .i64 0)] ++ [(D.int .i64 10)] ++ [(D.int .i64 5)]))
def a6 : D := (D.agg ([(D.str ⟨#[97]⟩)] ++ [(D.int .u64 1)] ++ [(D.int .u8 1)] ++ List.replicate 31 (D.int .u8 0) ++ [(D.int .i64 0)] ++ [(D.int .i64 1099511627777)] ++ [(D.int .i64 0)]))
def a5 : D := (D.agg ([(D.str ⟨#[97]⟩)] ++ [(D.int .u64 0)] ++ [(D.int .u8 1)] ++ List.replicate 31 (D.int .u8 0) ++ [(D.int .i64 0)] ++ [(D.int .i64 1099511627776)] ++ [(D.int .i64 160)]))
def a4 : D := (D.agg ([(D.str ⟨#[114, 115, 121, 110, 99, 58, 47, 47, 97, 47]⟩)] ++ [(D.int .u64 6)] ++ [(D.int .u8 3)] ++ List.replicate 31 (D.int .u8 0) ++ [(D.int .i64 140)] ++ [(D.int .i64 240)] ++ [(D.int .i64 250)]))
def a3 : D := (D.agg ([(D.str ⟨#[114, 115, 121, 110, 99, 58, 47, 47, 97, 47]⟩)] ++ [(D.int .u64 6)] ++ [(D.int .u8 4)] ++ List.replicate 31 (D.int .u8 0) ++ [(D.int .i64 140)] ++ [(D.int .i64 240)] ++ [(D.int .i64 180)]))
def a2 : D := (D.agg ([(D.str ⟨#[114, 115, 121, 110, 99, 58, 47, 47, 97, 47]⟩)] ++ [(D.int .u64 6)] ++ [(D.int .u8 3)] ++ List.replicate 31 (D.int .u8 0) ++ [(D.int .i64 140)] ++ [(D.int .i64 240)] ++ [(D.int .i64 170)]))
def a1 : D := (D.agg ([(D.str ⟨#[114, 115, 121, 110, 99, 58, 47, 47, 97, 47]⟩)] ++ [(D.int .u64 4)] ++ [(D.int .u8 2)] ++ List.replicate 31 (D.int .u8 0) ++ [(D.int .i64 100)] ++ [(D.int .i64 200)] ++ [(D.int .i64 160)]))
def a0 : D := (D.agg ([(D.str ⟨#[114, 115, 121, 110, 99, 58, 47, 47, 97, 47]⟩)] ++ [(D.int .u64 5)] ++ [(D.int .u8 1)] ++ List.replicate 31 (D.int .u8 0) ++ [(D.int .i64 100)] ++ [(D.int .i64 200)] ++ [(D.int .i64 150)]))
def x0 : List D := [(D.str ⟨#[98]⟩), (D.int .u64 5), (D.int .u8 1), (D.int .i64 100), (D.int .i64 200), (D.int .i64 150)]
theorem v0 : Ev ty tab 28 x0 [a128] := Ev.row (f := c_gatepathlaw29_manifest) (by kernel_rfl) [] trivial 400 (by kernel_rfl)
def x1 : List D := [(D.sl 47 true [])]
def x2 : List D := [(D.int .i64 0)]
theorem v1 : Ev ty tab 19 x1 x2 := Ev.row (f := c_fresh_Check) (by kernel_rfl) [] trivial 400 (by kernel_rfl)
def x3 : List D := [(D.int .i64 150)]
def x4 : List D := [(D.bool true)]
theorem v2 : Ev ty tab 35 x3 x4 := Ev.row (f := c_fresh_moment) (by kernel_rfl) [] trivial 400 (by kernel_rfl)
def x5 : List D := [(D.int .i64 100)]
theorem v3 : Ev ty tab 35 x5 x4 := Ev.row (f := c_fresh_moment) (by kernel_rfl) [] trivial 400 (by kernel_rfl)
def x6 : List D := [(D.int .i64 200)]
theorem v4 : Ev ty tab 35 x6 x4 := Ev.row (f := c_fresh_moment) (by kernel_rfl) [] trivial 400 (by kernel_rfl)
theorem v5 : Ev ty tab 40 [a128] x4 := Ev.row (f := c_fresh_right) (by kernel_rfl) [(35, x5, x4), (35, x6, x4), (35, x3, x4)] ⟨v3, v4, v2, trivial⟩ 400 (by kernel_rfl)
def x7 : List D := [(D.sl 47 true []), (D.str ⟨#[98]⟩), (D.fn 47 [])]
def x8 : List D := [(D.int .i64 0), (D.bool false)]
theorem v6 : Ev ty tab 46 x7 x8 := Ev.row (f := c_slices_BinarySearchFunc) (by kernel_rfl) [] trivial 400 (by kernel_rfl)
def x9 : List D := [(D.sl 47 true []), (D.str ⟨#[98]⟩)]
theorem v7 : Ev ty tab 37 x9 x8 := Ev.row (f := c_fresh_find) (by kernel_rfl) [(46, x7, x8)] ⟨v6, trivial⟩ 400 (by kernel_rfl)
def x10 : List D := [(D.ov 47 true [])]
theorem v8 : Ev ty tab 39 x1 x10 := Ev.row (f := c_slices_Clone) (by kernel_rfl) [] trivial 400 (by kernel_rfl)
def x11 : List D := [(D.ov 47 true []), (D.int .i64 0), (D.ov 47 false [a128])]
def x12 : List D := [(D.ov 47 false [a128])]
theorem v9 : Ev ty tab 42 x11 x12 := Ev.told (s := ⟨[.g 47, .p, .g 47], [.o 47]⟩) (f := insSpec 47 80) (by kernel_rfl) (by kernel_rfl)
def x13 : List D := [(D.sl 47 true []), a128, (D.int .i64 150)]
def x14 : List D := [(D.ov 47 false [a128]), (D.int .u8 1), (D.int .i64 0)]
theorem v10 : Ev ty tab 22 x13 x14 := Ev.row (f := c_fresh_Look) (by kernel_rfl) [(19, x1, x2), (35, x3, x4), (40, [a128], x4), (37, x9, x8), (39, x1, x10), (42, x11, x12)] ⟨v1, v2, v5, v7, v8, v9, trivial⟩ 400 (by kernel_rfl)
def x15 : List D := [(D.sl 47 true []), a128, (D.int .u8 1)]
def x16 : List D := [(D.ov 47 false [a128]), (D.bool true)]
theorem v11 : Ev ty tab 27 x15 x16 := Ev.row (f := c_gatepathlaw29_look) (by kernel_rfl) [(22, x13, x14)] ⟨v10, trivial⟩ 400 (by kernel_rfl)
def x17 : List D := [(D.str ⟨#[97]⟩), (D.int .u64 0), (D.int .u8 1), (D.int .i64 0), (D.int .i64 1099511627776), (D.int .i64 160)]
theorem v12 : Ev ty tab 28 x17 [a5] := Ev.row (f := c_gatepathlaw29_manifest) (by kernel_rfl) [] trivial 400 (by kernel_rfl)
def x18 : List D := [(D.sl 47 false [a128])]
theorem v13 : Ev ty tab 19 x18 x2 := Ev.row (f := c_fresh_Check) (by kernel_rfl) [(40, [a128], x4)] ⟨v5, trivial⟩ 400 (by kernel_rfl)
def x19 : List D := [(D.int .i64 160)]
theorem v14 : Ev ty tab 35 x19 x4 := Ev.row (f := c_fresh_moment) (by kernel_rfl) [] trivial 400 (by kernel_rfl)
theorem v15 : Ev ty tab 35 x2 x4 := Ev.row (f := c_fresh_moment) (by kernel_rfl) [] trivial 400 (by kernel_rfl)
def x20 : List D := [(D.int .i64 1099511627776)]
theorem v16 : Ev ty tab 35 x20 x4 := Ev.row (f := c_fresh_moment) (by kernel_rfl) [] trivial 400 (by kernel_rfl)
theorem v17 : Ev ty tab 40 [a5] x4 := Ev.row (f := c_fresh_right) (by kernel_rfl) [(35, x2, x4), (35, x20, x4), (35, x19, x4)] ⟨v15, v16, v14, trivial⟩ 400 (by kernel_rfl)
def x21 : List D := [(D.str ⟨#[98]⟩)]
def x22 : List D := [(D.bool false)]
theorem v18 : Ev ty tab 45 x21 x22 := Ev.row (f := c_cmp_isNaN) (by kernel_rfl) [] trivial 400 (by kernel_rfl)
def x23 : List D := [(D.str ⟨#[97]⟩)]
theorem v19 : Ev ty tab 45 x23 x22 := Ev.row (f := c_cmp_isNaN) (by kernel_rfl) [] trivial 400 (by kernel_rfl)
def x24 : List D := [(D.str ⟨#[98]⟩), (D.str ⟨#[97]⟩)]
def x25 : List D := [(D.int .i64 1)]
theorem v20 : Ev ty tab 32 x24 x25 := Ev.row (f := c_cmp_Compare) (by kernel_rfl) [(45, x21, x22), (45, x23, x22)] ⟨v18, v19, trivial⟩ 400 (by kernel_rfl)
def x26 : List D := [a128, (D.str ⟨#[97]⟩)]
theorem v21 : Ev ty tab 47 x26 x25 := Ev.row (f := c_fresh_find_1) (by kernel_rfl) [(32, x24, x25)] ⟨v20, trivial⟩ 400 (by kernel_rfl)
def x27 : List D := [(D.sl 47 false [a128]), (D.str ⟨#[97]⟩), (D.fn 47 [])]
theorem v22 : Ev ty tab 46 x27 x8 := Ev.row (f := c_slices_BinarySearchFunc) (by kernel_rfl) [(47, x26, x25)] ⟨v21, trivial⟩ 400 (by kernel_rfl)
def x28 : List D := [(D.sl 47 false [a128]), (D.str ⟨#[97]⟩)]
theorem v23 : Ev ty tab 37 x28 x8 := Ev.row (f := c_fresh_find) (by kernel_rfl) [(46, x27, x8)] ⟨v22, trivial⟩ 400 (by kernel_rfl)
theorem v24 : Ev ty tab 39 x18 x12 := Ev.row (f := c_slices_Clone) (by kernel_rfl) [] trivial 400 (by kernel_rfl)
def x29 : List D := [(D.ov 47 false [a128]), (D.int .i64 0), (D.ov 47 false [a5])]
def x30 : List D := [(D.ov 47 false [a5, a128])]
theorem v25 : Ev ty tab 42 x29 x30 := Ev.told (s := ⟨[.g 47, .p, .g 47], [.o 47]⟩) (f := insSpec 47 80) (by kernel_rfl) (by kernel_rfl)
def x31 : List D := [(D.sl 47 false [a128]), a5, (D.int .i64 160)]
def x32 : List D := [(D.ov 47 false [a5, a128]), (D.int .u8 1), (D.int .i64 0)]
theorem v26 : Ev ty tab 22 x31 x32 := Ev.row (f := c_fresh_Look) (by kernel_rfl) [(19, x18, x2), (35, x19, x4), (40, [a5], x4), (37, x28, x8), (39, x18, x12), (42, x29, x30)] ⟨v13, v14, v17, v23, v24, v25, trivial⟩ 400 (by kernel_rfl)
def x33 : List D := [(D.sl 47 false [a128]), a5, (D.int .u8 1)]
def x34 : List D := [(D.ov 47 false [a5, a128]), (D.bool true)]
theorem v27 : Ev ty tab 27 x33 x34 := Ev.row (f := c_gatepathlaw29_look) (by kernel_rfl) [(22, x31, x32)] ⟨v26, trivial⟩ 400 (by kernel_rfl)
def x35 : List D := [(D.sl 47 false [a5, a128])]
theorem v28 : Ev ty tab 19 x35 x2 := Ev.row (f := c_fresh_Check) (by kernel_rfl) [(40, [a5], x4), (40, [a128], x4)] ⟨v17, v5, trivial⟩ 400 (by kernel_rfl)
def x36 : List D := [(D.str ⟨#[98]⟩), (D.str ⟨#[98]⟩)]
theorem v29 : Ev ty tab 32 x36 x2 := Ev.row (f := c_cmp_Compare) (by kernel_rfl) [(45, x21, x22)] ⟨v18, trivial⟩ 400 (by kernel_rfl)
def x37 : List D := [a128, (D.str ⟨#[98]⟩)]
theorem v30 : Ev ty tab 47 x37 x2 := Ev.row (f := c_fresh_find_1) (by kernel_rfl) [(32, x36, x2)] ⟨v29, trivial⟩ 400 (by kernel_rfl)
def x38 : List D := [(D.str ⟨#[97]⟩), (D.str ⟨#[98]⟩)]
def x39 : List D := [(D.int .i64 (-1))]
theorem v31 : Ev ty tab 32 x38 x39 := Ev.row (f := c_cmp_Compare) (by kernel_rfl) [(45, x23, x22), (45, x21, x22)] ⟨v19, v18, trivial⟩ 400 (by kernel_rfl)
def x40 : List D := [a5, (D.str ⟨#[98]⟩)]
theorem v32 : Ev ty tab 47 x40 x39 := Ev.row (f := c_fresh_find_1) (by kernel_rfl) [(32, x38, x39)] ⟨v31, trivial⟩ 400 (by kernel_rfl)
def x41 : List D := [(D.sl 47 false [a5, a128]), (D.str ⟨#[98]⟩), (D.fn 47 [])]
def x42 : List D := [(D.int .i64 1), (D.bool true)]
theorem v33 : Ev ty tab 46 x41 x42 := Ev.row (f := c_slices_BinarySearchFunc) (by kernel_rfl) [(47, x37, x2), (47, x40, x39)] ⟨v30, v32, trivial⟩ 400 (by kernel_rfl)
def x43 : List D := [(D.sl 47 false [a5, a128]), (D.str ⟨#[98]⟩)]
theorem v34 : Ev ty tab 37 x43 x42 := Ev.row (f := c_fresh_find) (by kernel_rfl) [(46, x41, x42)] ⟨v33, trivial⟩ 400 (by kernel_rfl)
theorem v35 : Ev ty tab 39 x35 x30 := Ev.row (f := c_slices_Clone) (by kernel_rfl) [] trivial 400 (by kernel_rfl)
def x44 : List D := [a128, a128]
def x45 : List D := [(D.int .u8 2)]
theorem v36 : Ev ty tab 43 x44 x45 := Ev.row (f := c_fresh_judge) (by kernel_rfl) [] trivial 400 (by kernel_rfl)
def x46 : List D := [(D.sl 47 false [a5, a128]), a128, (D.int .i64 150)]
def x47 : List D := [(D.ov 47 false [a5, a128]), (D.int .u8 2), (D.int .i64 0)]
theorem v37 : Ev ty tab 22 x46 x47 := Ev.row (f := c_fresh_Look) (by kernel_rfl) [(19, x35, x2), (35, x3, x4), (40, [a128], x4), (37, x43, x42), (39, x35, x30), (43, x44, x45)] ⟨v28, v2, v5, v34, v35, v36, trivial⟩ 400 (by kernel_rfl)
def x48 : List D := [(D.sl 47 false [a5, a128]), a128, (D.int .u8 2)]
theorem v38 : Ev ty tab 27 x48 x34 := Ev.row (f := c_gatepathlaw29_look) (by kernel_rfl) [(22, x46, x47)] ⟨v37, trivial⟩ 400 (by kernel_rfl)
def x49 : List D := [(D.str ⟨#[98]⟩), (D.int .u64 5), (D.int .u8 1), (D.int .i64 100), (D.int .i64 201), (D.int .i64 150)]
theorem v39 : Ev ty tab 28 x49 [a129] := Ev.row (f := c_gatepathlaw29_manifest) (by kernel_rfl) [] trivial 400 (by kernel_rfl)
def x50 : List D := [(D.int .i64 201)]
theorem v40 : Ev ty tab 35 x50 x4 := Ev.row (f := c_fresh_moment) (by kernel_rfl) [] trivial 400 (by kernel_rfl)
theorem v41 : Ev ty tab 40 [a129] x4 := Ev.row (f := c_fresh_right) (by kernel_rfl) [(35, x5, x4), (35, x50, x4), (35, x3, x4)] ⟨v3, v40, v2, trivial⟩ 400 (by kernel_rfl)
def x51 : List D := [a129, a128]
def x52 : List D := [(D.int .u8 5)]
theorem v42 : Ev ty tab 43 x51 x52 := Ev.row (f := c_fresh_judge) (by kernel_rfl) [] trivial 400 (by kernel_rfl)
def x53 : List D := [(D.sl 47 false [a5, a128]), a129, (D.int .i64 150)]
def x54 : List D := [(D.ov 47 false [a5, a128]), (D.int .u8 5), (D.int .i64 0)]
theorem v43 : Ev ty tab 22 x53 x54 := Ev.row (f := c_fresh_Look) (by kernel_rfl) [(19, x35, x2), (35, x3, x4), (40, [a129], x4), (37, x43, x42), (39, x35, x30), (43, x51, x52)] ⟨v28, v2, v41, v34, v35, v42, trivial⟩ 400 (by kernel_rfl)
def x55 : List D := [(D.sl 47 false [a5, a128]), a129, (D.int .u8 5)]
theorem v44 : Ev ty tab 27 x55 x34 := Ev.row (f := c_gatepathlaw29_look) (by kernel_rfl) [(22, x53, x54)] ⟨v43, trivial⟩ 400 (by kernel_rfl)
def x56 : List D := [(D.str ⟨#[98]⟩), (D.int .u64 6), (D.int .u8 1), (D.int .i64 100), (D.int .i64 200), (D.int .i64 150)]
theorem v45 : Ev ty tab 28 x56 [a130] := Ev.row (f := c_gatepathlaw29_manifest) (by kernel_rfl) [] trivial 400 (by kernel_rfl)
theorem v46 : Ev ty tab 40 [a130] x4 := Ev.row (f := c_fresh_right) (by kernel_rfl) [(35, x5, x4), (35, x6, x4), (35, x3, x4)] ⟨v3, v4, v2, trivial⟩ 400 (by kernel_rfl)
def x57 : List D := [a130, a128]
theorem v47 : Ev ty tab 43 x57 x52 := Ev.row (f := c_fresh_judge) (by kernel_rfl) [] trivial 400 (by kernel_rfl)
def x58 : List D := [(D.sl 47 false [a5, a128]), a130, (D.int .i64 150)]
theorem v48 : Ev ty tab 22 x58 x54 := Ev.row (f := c_fresh_Look) (by kernel_rfl) [(19, x35, x2), (35, x3, x4), (40, [a130], x4), (37, x43, x42), (39, x35, x30), (43, x57, x52)] ⟨v28, v2, v46, v34, v35, v47, trivial⟩ 400 (by kernel_rfl)
def x59 : List D := [(D.sl 47 false [a5, a128]), a130, (D.int .u8 5)]
theorem v49 : Ev ty tab 27 x59 x34 := Ev.row (f := c_gatepathlaw29_look) (by kernel_rfl) [(22, x58, x54)] ⟨v48, trivial⟩ 400 (by kernel_rfl)
def x60 : List D := [(D.str ⟨#[98]⟩), (D.int .u64 6), (D.int .u8 2), (D.int .i64 99), (D.int .i64 200), (D.int .i64 150)]
theorem v50 : Ev ty tab 28 x60 [a210] := Ev.row (f := c_gatepathlaw29_manifest) (by kernel_rfl) [] trivial 400 (by kernel_rfl)
def x61 : List D := [(D.int .i64 99)]
theorem v51 : Ev ty tab 35 x61 x4 := Ev.row (f := c_fresh_moment) (by kernel_rfl) [] trivial 400 (by kernel_rfl)
theorem v52 : Ev ty tab 40 [a210] x4 := Ev.row (f := c_fresh_right) (by kernel_rfl) [(35, x61, x4), (35, x6, x4), (35, x3, x4)] ⟨v51, v4, v2, trivial⟩ 400 (by kernel_rfl)
def x62 : List D := [a210, a128]
def x63 : List D := [(D.int .u8 8)]
theorem v53 : Ev ty tab 43 x62 x63 := Ev.row (f := c_fresh_judge) (by kernel_rfl) [] trivial 400 (by kernel_rfl)
def x64 : List D := [(D.sl 47 false [a5, a128]), a210, (D.int .i64 150)]
def x65 : List D := [(D.ov 47 false [a5, a128]), (D.int .u8 8), (D.int .i64 0)]
theorem v54 : Ev ty tab 22 x64 x65 := Ev.row (f := c_fresh_Look) (by kernel_rfl) [(19, x35, x2), (35, x3, x4), (40, [a210], x4), (37, x43, x42), (39, x35, x30), (43, x62, x63)] ⟨v28, v2, v52, v34, v35, v53, trivial⟩ 400 (by kernel_rfl)
def x66 : List D := [(D.sl 47 false [a5, a128]), a210, (D.int .u8 8)]
theorem v55 : Ev ty tab 27 x66 x34 := Ev.row (f := c_gatepathlaw29_look) (by kernel_rfl) [(22, x64, x65)] ⟨v54, trivial⟩ 400 (by kernel_rfl)
def x67 : List D := [(D.str ⟨#[98]⟩), (D.int .u64 6), (D.int .u8 2), (D.int .i64 180), (D.int .i64 200), (D.int .i64 179)]
theorem v56 : Ev ty tab 28 x67 [a131] := Ev.row (f := c_gatepathlaw29_manifest) (by kernel_rfl) [] trivial 400 (by kernel_rfl)
def x68 : List D := [(D.int .i64 179)]
theorem v57 : Ev ty tab 35 x68 x4 := Ev.row (f := c_fresh_moment) (by kernel_rfl) [] trivial 400 (by kernel_rfl)
def x69 : List D := [(D.int .i64 180)]
theorem v58 : Ev ty tab 35 x69 x4 := Ev.row (f := c_fresh_moment) (by kernel_rfl) [] trivial 400 (by kernel_rfl)
theorem v59 : Ev ty tab 40 [a131] x4 := Ev.row (f := c_fresh_right) (by kernel_rfl) [(35, x69, x4), (35, x6, x4), (35, x68, x4)] ⟨v58, v4, v57, trivial⟩ 400 (by kernel_rfl)
def x70 : List D := [(D.sl 47 false [a5, a128]), a131, (D.int .i64 179)]
def x71 : List D := [(D.ov 47 false [a5, a128]), (D.int .u8 7), (D.int .i64 0)]
theorem v60 : Ev ty tab 22 x70 x71 := Ev.row (f := c_fresh_Look) (by kernel_rfl) [(19, x35, x2), (35, x68, x4), (40, [a131], x4), (37, x43, x42), (39, x35, x30)] ⟨v28, v57, v59, v34, v35, trivial⟩ 400 (by kernel_rfl)
def x72 : List D := [(D.sl 47 false [a5, a128]), a131, (D.int .u8 7)]
theorem v61 : Ev ty tab 27 x72 x34 := Ev.row (f := c_gatepathlaw29_look) (by kernel_rfl) [(22, x70, x71)] ⟨v60, trivial⟩ 400 (by kernel_rfl)
def x73 : List D := [(D.str ⟨#[99]⟩), (D.int .u64 6), (D.int .u8 2), (D.int .i64 180), (D.int .i64 200), (D.int .i64 201)]
theorem v62 : Ev ty tab 28 x73 [a132] := Ev.row (f := c_gatepathlaw29_manifest) (by kernel_rfl) [] trivial 400 (by kernel_rfl)
theorem v63 : Ev ty tab 40 [a132] x4 := Ev.row (f := c_fresh_right) (by kernel_rfl) [(35, x69, x4), (35, x6, x4), (35, x50, x4)] ⟨v58, v4, v40, trivial⟩ 400 (by kernel_rfl)
def x74 : List D := [(D.str ⟨#[99]⟩)]
theorem v64 : Ev ty tab 45 x74 x22 := Ev.row (f := c_cmp_isNaN) (by kernel_rfl) [] trivial 400 (by kernel_rfl)
def x75 : List D := [(D.str ⟨#[98]⟩), (D.str ⟨#[99]⟩)]
theorem v65 : Ev ty tab 32 x75 x39 := Ev.row (f := c_cmp_Compare) (by kernel_rfl) [(45, x21, x22), (45, x74, x22)] ⟨v18, v64, trivial⟩ 400 (by kernel_rfl)
def x76 : List D := [a128, (D.str ⟨#[99]⟩)]
theorem v66 : Ev ty tab 47 x76 x39 := Ev.row (f := c_fresh_find_1) (by kernel_rfl) [(32, x75, x39)] ⟨v65, trivial⟩ 400 (by kernel_rfl)
def x77 : List D := [(D.sl 47 false [a5, a128]), (D.str ⟨#[99]⟩), (D.fn 47 [])]
def x78 : List D := [(D.int .i64 2), (D.bool false)]
theorem v67 : Ev ty tab 46 x77 x78 := Ev.row (f := c_slices_BinarySearchFunc) (by kernel_rfl) [(47, x76, x39)] ⟨v66, trivial⟩ 400 (by kernel_rfl)
def x79 : List D := [(D.sl 47 false [a5, a128]), (D.str ⟨#[99]⟩)]
theorem v68 : Ev ty tab 37 x79 x78 := Ev.row (f := c_fresh_find) (by kernel_rfl) [(46, x77, x78)] ⟨v67, trivial⟩ 400 (by kernel_rfl)
def x80 : List D := [(D.sl 47 false [a5, a128]), a132, (D.int .i64 201)]
def x81 : List D := [(D.ov 47 false [a5, a128]), (D.int .u8 6), (D.int .i64 0)]
theorem v69 : Ev ty tab 22 x80 x81 := Ev.row (f := c_fresh_Look) (by kernel_rfl) [(19, x35, x2), (35, x50, x4), (40, [a132], x4), (37, x79, x78), (39, x35, x30)] ⟨v28, v40, v63, v68, v35, trivial⟩ 400 (by kernel_rfl)
def x82 : List D := [(D.sl 47 false [a5, a128]), a132, (D.int .u8 6)]
theorem v70 : Ev ty tab 27 x82 x34 := Ev.row (f := c_gatepathlaw29_look) (by kernel_rfl) [(22, x80, x81)] ⟨v69, trivial⟩ 400 (by kernel_rfl)
def x83 : List D := [(D.str ⟨#[98]⟩), (D.int .u64 6), (D.int .u8 2), (D.int .i64 100), (D.int .i64 200), (D.int .i64 149)]
theorem v71 : Ev ty tab 28 x83 [a133] := Ev.row (f := c_gatepathlaw29_manifest) (by kernel_rfl) [] trivial 400 (by kernel_rfl)
def x84 : List D := [(D.int .i64 149)]
theorem v72 : Ev ty tab 35 x84 x4 := Ev.row (f := c_fresh_moment) (by kernel_rfl) [] trivial 400 (by kernel_rfl)
theorem v73 : Ev ty tab 40 [a133] x4 := Ev.row (f := c_fresh_right) (by kernel_rfl) [(35, x5, x4), (35, x6, x4), (35, x84, x4)] ⟨v3, v4, v72, trivial⟩ 400 (by kernel_rfl)
def x85 : List D := [(D.sl 47 false [a5, a128]), a133, (D.int .i64 149)]
def x86 : List D := [(D.ov 47 true []), (D.int .u8 0), (D.int .i64 30)]
theorem v74 : Ev ty tab 22 x85 x86 := Ev.row (f := c_fresh_Look) (by kernel_rfl) [(19, x35, x2), (35, x84, x4), (40, [a133], x4), (37, x43, x42)] ⟨v28, v72, v73, v34, trivial⟩ 400 (by kernel_rfl)
def x87 : List D := [(D.str ⟨#[98]⟩), (D.int .u64 6), (D.int .u8 2), (D.int .i64 100), (D.int .i64 200), (D.int .i64 150)]
theorem v75 : Ev ty tab 28 x87 [a134] := Ev.row (f := c_gatepathlaw29_manifest) (by kernel_rfl) [] trivial 400 (by kernel_rfl)
def x88 : List D := [(D.int .i64 151)]
theorem v76 : Ev ty tab 35 x88 x4 := Ev.row (f := c_fresh_moment) (by kernel_rfl) [] trivial 400 (by kernel_rfl)
theorem v77 : Ev ty tab 40 [a134] x4 := Ev.row (f := c_fresh_right) (by kernel_rfl) [(35, x5, x4), (35, x6, x4), (35, x3, x4)] ⟨v3, v4, v2, trivial⟩ 400 (by kernel_rfl)
def x89 : List D := [(D.sl 47 false [a5, a128]), a134, (D.int .i64 151)]
def x90 : List D := [(D.ov 47 true []), (D.int .u8 0), (D.int .i64 2)]
theorem v78 : Ev ty tab 22 x89 x90 := Ev.row (f := c_fresh_Look) (by kernel_rfl) [(19, x35, x2), (35, x88, x4), (40, [a134], x4)] ⟨v28, v76, v77, trivial⟩ 400 (by kernel_rfl)
def x91 : List D := [(D.str ⟨#[]⟩), (D.int .u64 6), (D.int .u8 2), (D.int .i64 100), (D.int .i64 200), (D.int .i64 150)]
theorem v79 : Ev ty tab 28 x91 [a221] := Ev.row (f := c_gatepathlaw29_manifest) (by kernel_rfl) [] trivial 400 (by kernel_rfl)
theorem v80 : Ev ty tab 40 [a221] x22 := Ev.row (f := c_fresh_right) (by kernel_rfl) [] trivial 400 (by kernel_rfl)
def x92 : List D := [(D.sl 47 false [a5, a128]), a221, (D.int .i64 150)]
theorem v81 : Ev ty tab 22 x92 x90 := Ev.row (f := c_fresh_Look) (by kernel_rfl) [(19, x35, x2), (35, x3, x4), (40, [a221], x22)] ⟨v28, v2, v80, trivial⟩ 400 (by kernel_rfl)
def x93 : List D := [(D.str ⟨#[98]⟩), (D.int .u64 6), (D.int .u8 2), (D.int .i64 201), (D.int .i64 200), (D.int .i64 150)]
theorem v82 : Ev ty tab 28 x93 [a135] := Ev.row (f := c_gatepathlaw29_manifest) (by kernel_rfl) [] trivial 400 (by kernel_rfl)
theorem v83 : Ev ty tab 40 [a135] x22 := Ev.row (f := c_fresh_right) (by kernel_rfl) [(35, x50, x4), (35, x6, x4)] ⟨v40, v4, trivial⟩ 400 (by kernel_rfl)
def x94 : List D := [(D.sl 47 false [a5, a128]), a135, (D.int .i64 150)]
theorem v84 : Ev ty tab 22 x94 x90 := Ev.row (f := c_fresh_Look) (by kernel_rfl) [(19, x35, x2), (35, x3, x4), (40, [a135], x22)] ⟨v28, v2, v83, trivial⟩ 400 (by kernel_rfl)
def x95 : List D := [(D.str ⟨#[98]⟩), (D.int .u64 6), (D.int .u8 2), (D.int .i64 0), (D.int .i64 200), (D.int .i64 (-1))]
theorem v85 : Ev ty tab 28 x95 [a211] := Ev.row (f := c_gatepathlaw29_manifest) (by kernel_rfl) [] trivial 400 (by kernel_rfl)
theorem v86 : Ev ty tab 35 x39 x22 := Ev.row (f := c_fresh_moment) (by kernel_rfl) [] trivial 400 (by kernel_rfl)
def x96 : List D := [(D.sl 47 false [a5, a128]), a211, (D.int .i64 (-1))]
theorem v87 : Ev ty tab 22 x96 x90 := Ev.row (f := c_fresh_Look) (by kernel_rfl) [(19, x35, x2), (35, x39, x22)] ⟨v28, v86, trivial⟩ 400 (by kernel_rfl)
def x97 : List D := [(D.str ⟨#[97, 97]⟩), (D.int .u64 1), (D.int .u8 1), (D.int .i64 0), (D.int .i64 10), (D.int .i64 5)]
theorem v88 : Ev ty tab 28 x97 [a212] := Ev.row (f := c_gatepathlaw29_manifest) (by kernel_rfl) [] trivial 400 (by kernel_rfl)
def x98 : List D := [(D.str ⟨#[97, 98]⟩), (D.int .u64 1), (D.int .u8 1), (D.int .i64 0), (D.int .i64 10), (D.int .i64 5)]
theorem v89 : Ev ty tab 28 x98 [a213] := Ev.row (f := c_gatepathlaw29_manifest) (by kernel_rfl) [] trivial 400 (by kernel_rfl)
def x99 : List D := [(D.str ⟨#[97, 99]⟩), (D.int .u64 1), (D.int .u8 1), (D.int .i64 0), (D.int .i64 10), (D.int .i64 5)]
theorem v90 : Ev ty tab 28 x99 [a214] := Ev.row (f := c_gatepathlaw29_manifest) (by kernel_rfl) [] trivial 400 (by kernel_rfl)
def x100 : List D := [(D.str ⟨#[97, 100]⟩), (D.int .u64 1), (D.int .u8 1), (D.int .i64 0), (D.int .i64 10), (D.int .i64 5)]
theorem v91 : Ev ty tab 28 x100 [a136] := Ev.row (f := c_gatepathlaw29_manifest) (by kernel_rfl) [] trivial 400 (by kernel_rfl)
def x101 : List D := [(D.str ⟨#[97, 101]⟩), (D.int .u64 1), (D.int .u8 1), (D.int .i64 0), (D.int .i64 10), (D.int .i64 5)]
theorem v92 : Ev ty tab 28 x101 [a137] := Ev.row (f := c_gatepathlaw29_manifest) (by kernel_rfl) [] trivial 400 (by kernel_rfl)
def x102 : List D := [(D.str ⟨#[97, 102]⟩), (D.int .u64 1), (D.int .u8 1), (D.int .i64 0), (D.int .i64 10), (D.int .i64 5)]
theorem v93 : Ev ty tab 28 x102 [a138] := Ev.row (f := c_gatepathlaw29_manifest) (by kernel_rfl) [] trivial 400 (by kernel_rfl)
def x103 : List D := [(D.str ⟨#[97, 103]⟩), (D.int .u64 1), (D.int .u8 1), (D.int .i64 0), (D.int .i64 10), (D.int .i64 5)]
theorem v94 : Ev ty tab 28 x103 [a139] := Ev.row (f := c_gatepathlaw29_manifest) (by kernel_rfl) [] trivial 400 (by kernel_rfl)
def x104 : List D := [(D.str ⟨#[97, 104]⟩), (D.int .u64 1), (D.int .u8 1), (D.int .i64 0), (D.int .i64 10), (D.int .i64 5)]
theorem v95 : Ev ty tab 28 x104 [a140] := Ev.row (f := c_gatepathlaw29_manifest) (by kernel_rfl) [] trivial 400 (by kernel_rfl)
def x105 : List D := [(D.str ⟨#[97, 105]⟩), (D.int .u64 1), (D.int .u8 1), (D.int .i64 0), (D.int .i64 10), (D.int .i64 5)]
theorem v96 : Ev ty tab 28 x105 [a141] := Ev.row (f := c_gatepathlaw29_manifest) (by kernel_rfl) [] trivial 400 (by kernel_rfl)
def x106 : List D := [(D.str ⟨#[97, 106]⟩), (D.int .u64 1), (D.int .u8 1), (D.int .i64 0), (D.int .i64 10), (D.int .i64 5)]
theorem v97 : Ev ty tab 28 x106 [a142] := Ev.row (f := c_gatepathlaw29_manifest) (by kernel_rfl) [] trivial 400 (by kernel_rfl)
def x107 : List D := [(D.str ⟨#[97, 107]⟩), (D.int .u64 1), (D.int .u8 1), (D.int .i64 0), (D.int .i64 10), (D.int .i64 5)]
theorem v98 : Ev ty tab 28 x107 [a143] := Ev.row (f := c_gatepathlaw29_manifest) (by kernel_rfl) [] trivial 400 (by kernel_rfl)
def x108 : List D := [(D.str ⟨#[97, 108]⟩), (D.int .u64 1), (D.int .u8 1), (D.int .i64 0), (D.int .i64 10), (D.int .i64 5)]
theorem v99 : Ev ty tab 28 x108 [a144] := Ev.row (f := c_gatepathlaw29_manifest) (by kernel_rfl) [] trivial 400 (by kernel_rfl)
def x109 : List D := [(D.str ⟨#[97, 109]⟩), (D.int .u64 1), (D.int .u8 1), (D.int .i64 0), (D.int .i64 10), (D.int .i64 5)]
theorem v100 : Ev ty tab 28 x109 [a145] := Ev.row (f := c_gatepathlaw29_manifest) (by kernel_rfl) [] trivial 400 (by kernel_rfl)
def x110 : List D := [(D.str ⟨#[97, 110]⟩), (D.int .u64 1), (D.int .u8 1), (D.int .i64 0), (D.int .i64 10), (D.int .i64 5)]
theorem v101 : Ev ty tab 28 x110 [a146] := Ev.row (f := c_gatepathlaw29_manifest) (by kernel_rfl) [] trivial 400 (by kernel_rfl)
def x111 : List D := [(D.str ⟨#[97, 111]⟩), (D.int .u64 1), (D.int .u8 1), (D.int .i64 0), (D.int .i64 10), (D.int .i64 5)]
theorem v102 : Ev ty tab 28 x111 [a147] := Ev.row (f := c_gatepathlaw29_manifest) (by kernel_rfl) [] trivial 400 (by kernel_rfl)
def x112 : List D := [(D.str ⟨#[97, 112]⟩), (D.int .u64 1), (D.int .u8 1), (D.int .i64 0), (D.int .i64 10), (D.int .i64 5)]
theorem v103 : Ev ty tab 28 x112 [a148] := Ev.row (f := c_gatepathlaw29_manifest) (by kernel_rfl) [] trivial 400 (by kernel_rfl)
def x113 : List D := [(D.str ⟨#[97, 113]⟩), (D.int .u64 1), (D.int .u8 1), (D.int .i64 0), (D.int .i64 10), (D.int .i64 5)]
theorem v104 : Ev ty tab 28 x113 [a149] := Ev.row (f := c_gatepathlaw29_manifest) (by kernel_rfl) [] trivial 400 (by kernel_rfl)
def x114 : List D := [(D.str ⟨#[97, 114]⟩), (D.int .u64 1), (D.int .u8 1), (D.int .i64 0), (D.int .i64 10), (D.int .i64 5)]
theorem v105 : Ev ty tab 28 x114 [a150] := Ev.row (f := c_gatepathlaw29_manifest) (by kernel_rfl) [] trivial 400 (by kernel_rfl)
def x115 : List D := [(D.str ⟨#[97, 115]⟩), (D.int .u64 1), (D.int .u8 1), (D.int .i64 0), (D.int .i64 10), (D.int .i64 5)]
theorem v106 : Ev ty tab 28 x115 [a151] := Ev.row (f := c_gatepathlaw29_manifest) (by kernel_rfl) [] trivial 400 (by kernel_rfl)
def x116 : List D := [(D.str ⟨#[97, 116]⟩), (D.int .u64 1), (D.int .u8 1), (D.int .i64 0), (D.int .i64 10), (D.int .i64 5)]
theorem v107 : Ev ty tab 28 x116 [a152] := Ev.row (f := c_gatepathlaw29_manifest) (by kernel_rfl) [] trivial 400 (by kernel_rfl)
def x117 : List D := [(D.str ⟨#[98, 97]⟩), (D.int .u64 1), (D.int .u8 1), (D.int .i64 0), (D.int .i64 10), (D.int .i64 5)]
theorem v108 : Ev ty tab 28 x117 [a215] := Ev.row (f := c_gatepathlaw29_manifest) (by kernel_rfl) [] trivial 400 (by kernel_rfl)
def x118 : List D := [(D.str ⟨#[98, 98]⟩), (D.int .u64 1), (D.int .u8 1), (D.int .i64 0), (D.int .i64 10), (D.int .i64 5)]
theorem v109 : Ev ty tab 28 x118 [a216] := Ev.row (f := c_gatepathlaw29_manifest) (by kernel_rfl) [] trivial 400 (by kernel_rfl)
def x119 : List D := [(D.str ⟨#[98, 99]⟩), (D.int .u64 1), (D.int .u8 1), (D.int .i64 0), (D.int .i64 10), (D.int .i64 5)]
theorem v110 : Ev ty tab 28 x119 [a217] := Ev.row (f := c_gatepathlaw29_manifest) (by kernel_rfl) [] trivial 400 (by kernel_rfl)
def x120 : List D := [(D.str ⟨#[98, 100]⟩), (D.int .u64 1), (D.int .u8 1), (D.int .i64 0), (D.int .i64 10), (D.int .i64 5)]
theorem v111 : Ev ty tab 28 x120 [a153] := Ev.row (f := c_gatepathlaw29_manifest) (by kernel_rfl) [] trivial 400 (by kernel_rfl)
def x121 : List D := [(D.str ⟨#[98, 101]⟩), (D.int .u64 1), (D.int .u8 1), (D.int .i64 0), (D.int .i64 10), (D.int .i64 5)]
theorem v112 : Ev ty tab 28 x121 [a154] := Ev.row (f := c_gatepathlaw29_manifest) (by kernel_rfl) [] trivial 400 (by kernel_rfl)
def x122 : List D := [(D.str ⟨#[98, 102]⟩), (D.int .u64 1), (D.int .u8 1), (D.int .i64 0), (D.int .i64 10), (D.int .i64 5)]
theorem v113 : Ev ty tab 28 x122 [a155] := Ev.row (f := c_gatepathlaw29_manifest) (by kernel_rfl) [] trivial 400 (by kernel_rfl)
def x123 : List D := [(D.str ⟨#[98, 103]⟩), (D.int .u64 1), (D.int .u8 1), (D.int .i64 0), (D.int .i64 10), (D.int .i64 5)]
theorem v114 : Ev ty tab 28 x123 [a156] := Ev.row (f := c_gatepathlaw29_manifest) (by kernel_rfl) [] trivial 400 (by kernel_rfl)
def x124 : List D := [(D.str ⟨#[98, 104]⟩), (D.int .u64 1), (D.int .u8 1), (D.int .i64 0), (D.int .i64 10), (D.int .i64 5)]
theorem v115 : Ev ty tab 28 x124 [a157] := Ev.row (f := c_gatepathlaw29_manifest) (by kernel_rfl) [] trivial 400 (by kernel_rfl)
def x125 : List D := [(D.str ⟨#[98, 105]⟩), (D.int .u64 1), (D.int .u8 1), (D.int .i64 0), (D.int .i64 10), (D.int .i64 5)]
theorem v116 : Ev ty tab 28 x125 [a158] := Ev.row (f := c_gatepathlaw29_manifest) (by kernel_rfl) [] trivial 400 (by kernel_rfl)
def x126 : List D := [(D.str ⟨#[98, 106]⟩), (D.int .u64 1), (D.int .u8 1), (D.int .i64 0), (D.int .i64 10), (D.int .i64 5)]
theorem v117 : Ev ty tab 28 x126 [a159] := Ev.row (f := c_gatepathlaw29_manifest) (by kernel_rfl) [] trivial 400 (by kernel_rfl)
def x127 : List D := [(D.str ⟨#[98, 107]⟩), (D.int .u64 1), (D.int .u8 1), (D.int .i64 0), (D.int .i64 10), (D.int .i64 5)]
theorem v118 : Ev ty tab 28 x127 [a160] := Ev.row (f := c_gatepathlaw29_manifest) (by kernel_rfl) [] trivial 400 (by kernel_rfl)
def x128 : List D := [(D.str ⟨#[98, 108]⟩), (D.int .u64 1), (D.int .u8 1), (D.int .i64 0), (D.int .i64 10), (D.int .i64 5)]
theorem v119 : Ev ty tab 28 x128 [a161] := Ev.row (f := c_gatepathlaw29_manifest) (by kernel_rfl) [] trivial 400 (by kernel_rfl)
def x129 : List D := [(D.str ⟨#[98, 109]⟩), (D.int .u64 1), (D.int .u8 1), (D.int .i64 0), (D.int .i64 10), (D.int .i64 5)]
theorem v120 : Ev ty tab 28 x129 [a162] := Ev.row (f := c_gatepathlaw29_manifest) (by kernel_rfl) [] trivial 400 (by kernel_rfl)
def x130 : List D := [(D.str ⟨#[98, 110]⟩), (D.int .u64 1), (D.int .u8 1), (D.int .i64 0), (D.int .i64 10), (D.int .i64 5)]
theorem v121 : Ev ty tab 28 x130 [a163] := Ev.row (f := c_gatepathlaw29_manifest) (by kernel_rfl) [] trivial 400 (by kernel_rfl)
def x131 : List D := [(D.str ⟨#[98, 111]⟩), (D.int .u64 1), (D.int .u8 1), (D.int .i64 0), (D.int .i64 10), (D.int .i64 5)]
theorem v122 : Ev ty tab 28 x131 [a164] := Ev.row (f := c_gatepathlaw29_manifest) (by kernel_rfl) [] trivial 400 (by kernel_rfl)
def x132 : List D := [(D.str ⟨#[98, 112]⟩), (D.int .u64 1), (D.int .u8 1), (D.int .i64 0), (D.int .i64 10), (D.int .i64 5)]
theorem v123 : Ev ty tab 28 x132 [a165] := Ev.row (f := c_gatepathlaw29_manifest) (by kernel_rfl) [] trivial 400 (by kernel_rfl)
def x133 : List D := [(D.str ⟨#[98, 113]⟩), (D.int .u64 1), (D.int .u8 1), (D.int .i64 0), (D.int .i64 10), (D.int .i64 5)]
theorem v124 : Ev ty tab 28 x133 [a166] := Ev.row (f := c_gatepathlaw29_manifest) (by kernel_rfl) [] trivial 400 (by kernel_rfl)
def x134 : List D := [(D.str ⟨#[98, 114]⟩), (D.int .u64 1), (D.int .u8 1), (D.int .i64 0), (D.int .i64 10), (D.int .i64 5)]
theorem v125 : Ev ty tab 28 x134 [a167] := Ev.row (f := c_gatepathlaw29_manifest) (by kernel_rfl) [] trivial 400 (by kernel_rfl)
def x135 : List D := [(D.str ⟨#[98, 115]⟩), (D.int .u64 1), (D.int .u8 1), (D.int .i64 0), (D.int .i64 10), (D.int .i64 5)]
theorem v126 : Ev ty tab 28 x135 [a168] := Ev.row (f := c_gatepathlaw29_manifest) (by kernel_rfl) [] trivial 400 (by kernel_rfl)
def x136 : List D := [(D.str ⟨#[98, 116]⟩), (D.int .u64 1), (D.int .u8 1), (D.int .i64 0), (D.int .i64 10), (D.int .i64 5)]
theorem v127 : Ev ty tab 28 x136 [a169] := Ev.row (f := c_gatepathlaw29_manifest) (by kernel_rfl) [] trivial 400 (by kernel_rfl)
def x137 : List D := [(D.str ⟨#[99, 97]⟩), (D.int .u64 1), (D.int .u8 1), (D.int .i64 0), (D.int .i64 10), (D.int .i64 5)]
theorem v128 : Ev ty tab 28 x137 [a218] := Ev.row (f := c_gatepathlaw29_manifest) (by kernel_rfl) [] trivial 400 (by kernel_rfl)
def x138 : List D := [(D.str ⟨#[99, 98]⟩), (D.int .u64 1), (D.int .u8 1), (D.int .i64 0), (D.int .i64 10), (D.int .i64 5)]
theorem v129 : Ev ty tab 28 x138 [a219] := Ev.row (f := c_gatepathlaw29_manifest) (by kernel_rfl) [] trivial 400 (by kernel_rfl)
def x139 : List D := [(D.str ⟨#[99, 99]⟩), (D.int .u64 1), (D.int .u8 1), (D.int .i64 0), (D.int .i64 10), (D.int .i64 5)]
theorem v130 : Ev ty tab 28 x139 [a220] := Ev.row (f := c_gatepathlaw29_manifest) (by kernel_rfl) [] trivial 400 (by kernel_rfl)
def x140 : List D := [(D.str ⟨#[99, 100]⟩), (D.int .u64 1), (D.int .u8 1), (D.int .i64 0), (D.int .i64 10), (D.int .i64 5)]
theorem v131 : Ev ty tab 28 x140 [a170] := Ev.row (f := c_gatepathlaw29_manifest) (by kernel_rfl) [] trivial 400 (by kernel_rfl)
def x141 : List D := [(D.str ⟨#[99, 101]⟩), (D.int .u64 1), (D.int .u8 1), (D.int .i64 0), (D.int .i64 10), (D.int .i64 5)]
theorem v132 : Ev ty tab 28 x141 [a171] := Ev.row (f := c_gatepathlaw29_manifest) (by kernel_rfl) [] trivial 400 (by kernel_rfl)
def x142 : List D := [(D.str ⟨#[99, 102]⟩), (D.int .u64 1), (D.int .u8 1), (D.int .i64 0), (D.int .i64 10), (D.int .i64 5)]
theorem v133 : Ev ty tab 28 x142 [a172] := Ev.row (f := c_gatepathlaw29_manifest) (by kernel_rfl) [] trivial 400 (by kernel_rfl)
def x143 : List D := [(D.str ⟨#[99, 103]⟩), (D.int .u64 1), (D.int .u8 1), (D.int .i64 0), (D.int .i64 10), (D.int .i64 5)]
theorem v134 : Ev ty tab 28 x143 [a173] := Ev.row (f := c_gatepathlaw29_manifest) (by kernel_rfl) [] trivial 400 (by kernel_rfl)
def x144 : List D := [(D.str ⟨#[99, 104]⟩), (D.int .u64 1), (D.int .u8 1), (D.int .i64 0), (D.int .i64 10), (D.int .i64 5)]
theorem v135 : Ev ty tab 28 x144 [a174] := Ev.row (f := c_gatepathlaw29_manifest) (by kernel_rfl) [] trivial 400 (by kernel_rfl)
def x145 : List D := [(D.str ⟨#[99, 105]⟩), (D.int .u64 1), (D.int .u8 1), (D.int .i64 0), (D.int .i64 10), (D.int .i64 5)]
theorem v136 : Ev ty tab 28 x145 [a175] := Ev.row (f := c_gatepathlaw29_manifest) (by kernel_rfl) [] trivial 400 (by kernel_rfl)
def x146 : List D := [(D.str ⟨#[99, 106]⟩), (D.int .u64 1), (D.int .u8 1), (D.int .i64 0), (D.int .i64 10), (D.int .i64 5)]
theorem v137 : Ev ty tab 28 x146 [a176] := Ev.row (f := c_gatepathlaw29_manifest) (by kernel_rfl) [] trivial 400 (by kernel_rfl)
def x147 : List D := [(D.str ⟨#[99, 107]⟩), (D.int .u64 1), (D.int .u8 1), (D.int .i64 0), (D.int .i64 10), (D.int .i64 5)]
theorem v138 : Ev ty tab 28 x147 [a177] := Ev.row (f := c_gatepathlaw29_manifest) (by kernel_rfl) [] trivial 400 (by kernel_rfl)
def x148 : List D := [(D.str ⟨#[99, 108]⟩), (D.int .u64 1), (D.int .u8 1), (D.int .i64 0), (D.int .i64 10), (D.int .i64 5)]
theorem v139 : Ev ty tab 28 x148 [a178] := Ev.row (f := c_gatepathlaw29_manifest) (by kernel_rfl) [] trivial 400 (by kernel_rfl)
def x149 : List D := [(D.str ⟨#[99, 109]⟩), (D.int .u64 1), (D.int .u8 1), (D.int .i64 0), (D.int .i64 10), (D.int .i64 5)]
theorem v140 : Ev ty tab 28 x149 [a179] := Ev.row (f := c_gatepathlaw29_manifest) (by kernel_rfl) [] trivial 400 (by kernel_rfl)
def x150 : List D := [(D.str ⟨#[99, 110]⟩), (D.int .u64 1), (D.int .u8 1), (D.int .i64 0), (D.int .i64 10), (D.int .i64 5)]
theorem v141 : Ev ty tab 28 x150 [a180] := Ev.row (f := c_gatepathlaw29_manifest) (by kernel_rfl) [] trivial 400 (by kernel_rfl)
def x151 : List D := [(D.str ⟨#[99, 111]⟩), (D.int .u64 1), (D.int .u8 1), (D.int .i64 0), (D.int .i64 10), (D.int .i64 5)]
theorem v142 : Ev ty tab 28 x151 [a181] := Ev.row (f := c_gatepathlaw29_manifest) (by kernel_rfl) [] trivial 400 (by kernel_rfl)
def x152 : List D := [(D.str ⟨#[99, 112]⟩), (D.int .u64 1), (D.int .u8 1), (D.int .i64 0), (D.int .i64 10), (D.int .i64 5)]
theorem v143 : Ev ty tab 28 x152 [a182] := Ev.row (f := c_gatepathlaw29_manifest) (by kernel_rfl) [] trivial 400 (by kernel_rfl)
def x153 : List D := [(D.str ⟨#[99, 113]⟩), (D.int .u64 1), (D.int .u8 1), (D.int .i64 0), (D.int .i64 10), (D.int .i64 5)]
theorem v144 : Ev ty tab 28 x153 [a183] := Ev.row (f := c_gatepathlaw29_manifest) (by kernel_rfl) [] trivial 400 (by kernel_rfl)
def x154 : List D := [(D.str ⟨#[99, 114]⟩), (D.int .u64 1), (D.int .u8 1), (D.int .i64 0), (D.int .i64 10), (D.int .i64 5)]
theorem v145 : Ev ty tab 28 x154 [a184] := Ev.row (f := c_gatepathlaw29_manifest) (by kernel_rfl) [] trivial 400 (by kernel_rfl)
def x155 : List D := [(D.str ⟨#[99, 115]⟩), (D.int .u64 1), (D.int .u8 1), (D.int .i64 0), (D.int .i64 10), (D.int .i64 5)]
theorem v146 : Ev ty tab 28 x155 [a185] := Ev.row (f := c_gatepathlaw29_manifest) (by kernel_rfl) [] trivial 400 (by kernel_rfl)
def x156 : List D := [(D.str ⟨#[99, 116]⟩), (D.int .u64 1), (D.int .u8 1), (D.int .i64 0), (D.int .i64 10), (D.int .i64 5)]
theorem v147 : Ev ty tab 28 x156 [a186] := Ev.row (f := c_gatepathlaw29_manifest) (by kernel_rfl) [] trivial 400 (by kernel_rfl)
def x157 : List D := [(D.str ⟨#[100, 97]⟩), (D.int .u64 1), (D.int .u8 1), (D.int .i64 0), (D.int .i64 10), (D.int .i64 5)]
theorem v148 : Ev ty tab 28 x157 [a187] := Ev.row (f := c_gatepathlaw29_manifest) (by kernel_rfl) [] trivial 400 (by kernel_rfl)
def x158 : List D := [(D.str ⟨#[100, 98]⟩), (D.int .u64 1), (D.int .u8 1), (D.int .i64 0), (D.int .i64 10), (D.int .i64 5)]
theorem v149 : Ev ty tab 28 x158 [a188] := Ev.row (f := c_gatepathlaw29_manifest) (by kernel_rfl) [] trivial 400 (by kernel_rfl)
def x159 : List D := [(D.str ⟨#[100, 99]⟩), (D.int .u64 1), (D.int .u8 1), (D.int .i64 0), (D.int .i64 10), (D.int .i64 5)]
theorem v150 : Ev ty tab 28 x159 [a189] := Ev.row (f := c_gatepathlaw29_manifest) (by kernel_rfl) [] trivial 400 (by kernel_rfl)
def x160 : List D := [(D.str ⟨#[100, 100]⟩), (D.int .u64 1), (D.int .u8 1), (D.int .i64 0), (D.int .i64 10), (D.int .i64 5)]
theorem v151 : Ev ty tab 28 x160 [a7] := Ev.row (f := c_gatepathlaw29_manifest) (by kernel_rfl) [] trivial 400 (by kernel_rfl)
def x161 : List D := [(D.str ⟨#[100, 101]⟩), (D.int .u64 1), (D.int .u8 1), (D.int .i64 0), (D.int .i64 10), (D.int .i64 5)]
theorem v152 : Ev ty tab 28 x161 [a8] := Ev.row (f := c_gatepathlaw29_manifest) (by kernel_rfl) [] trivial 400 (by kernel_rfl)
def x162 : List D := [(D.str ⟨#[100, 102]⟩), (D.int .u64 1), (D.int .u8 1), (D.int .i64 0), (D.int .i64 10), (D.int .i64 5)]
theorem v153 : Ev ty tab 28 x162 [a9] := Ev.row (f := c_gatepathlaw29_manifest) (by kernel_rfl) [] trivial 400 (by kernel_rfl)
def x163 : List D := [(D.str ⟨#[100, 103]⟩), (D.int .u64 1), (D.int .u8 1), (D.int .i64 0), (D.int .i64 10), (D.int .i64 5)]
theorem v154 : Ev ty tab 28 x163 [a10] := Ev.row (f := c_gatepathlaw29_manifest) (by kernel_rfl) [] trivial 400 (by kernel_rfl)
def x164 : List D := [(D.str ⟨#[100, 104]⟩), (D.int .u64 1), (D.int .u8 1), (D.int .i64 0), (D.int .i64 10), (D.int .i64 5)]
theorem v155 : Ev ty tab 28 x164 [a11] := Ev.row (f := c_gatepathlaw29_manifest) (by kernel_rfl) [] trivial 400 (by kernel_rfl)
def x165 : List D := [(D.str ⟨#[100, 105]⟩), (D.int .u64 1), (D.int .u8 1), (D.int .i64 0), (D.int .i64 10), (D.int .i64 5)]
theorem v156 : Ev ty tab 28 x165 [a12] := Ev.row (f := c_gatepathlaw29_manifest) (by kernel_rfl) [] trivial 400 (by kernel_rfl)
def x166 : List D := [(D.str ⟨#[100, 106]⟩), (D.int .u64 1), (D.int .u8 1), (D.int .i64 0), (D.int .i64 10), (D.int .i64 5)]
theorem v157 : Ev ty tab 28 x166 [a13] := Ev.row (f := c_gatepathlaw29_manifest) (by kernel_rfl) [] trivial 400 (by kernel_rfl)
def x167 : List D := [(D.str ⟨#[100, 107]⟩), (D.int .u64 1), (D.int .u8 1), (D.int .i64 0), (D.int .i64 10), (D.int .i64 5)]
theorem v158 : Ev ty tab 28 x167 [a14] := Ev.row (f := c_gatepathlaw29_manifest) (by kernel_rfl) [] trivial 400 (by kernel_rfl)
def x168 : List D := [(D.str ⟨#[100, 108]⟩), (D.int .u64 1), (D.int .u8 1), (D.int .i64 0), (D.int .i64 10), (D.int .i64 5)]
theorem v159 : Ev ty tab 28 x168 [a15] := Ev.row (f := c_gatepathlaw29_manifest) (by kernel_rfl) [] trivial 400 (by kernel_rfl)
def x169 : List D := [(D.str ⟨#[100, 109]⟩), (D.int .u64 1), (D.int .u8 1), (D.int .i64 0), (D.int .i64 10), (D.int .i64 5)]
theorem v160 : Ev ty tab 28 x169 [a16] := Ev.row (f := c_gatepathlaw29_manifest) (by kernel_rfl) [] trivial 400 (by kernel_rfl)
def x170 : List D := [(D.str ⟨#[100, 110]⟩), (D.int .u64 1), (D.int .u8 1), (D.int .i64 0), (D.int .i64 10), (D.int .i64 5)]
theorem v161 : Ev ty tab 28 x170 [a17] := Ev.row (f := c_gatepathlaw29_manifest) (by kernel_rfl) [] trivial 400 (by kernel_rfl)
def x171 : List D := [(D.str ⟨#[100, 111]⟩), (D.int .u64 1), (D.int .u8 1), (D.int .i64 0), (D.int .i64 10), (D.int .i64 5)]
theorem v162 : Ev ty tab 28 x171 [a18] := Ev.row (f := c_gatepathlaw29_manifest) (by kernel_rfl) [] trivial 400 (by kernel_rfl)
def x172 : List D := [(D.str ⟨#[100, 112]⟩), (D.int .u64 1), (D.int .u8 1), (D.int .i64 0), (D.int .i64 10), (D.int .i64 5)]
theorem v163 : Ev ty tab 28 x172 [a19] := Ev.row (f := c_gatepathlaw29_manifest) (by kernel_rfl) [] trivial 400 (by kernel_rfl)
def x173 : List D := [(D.str ⟨#[100, 113]⟩), (D.int .u64 1), (D.int .u8 1), (D.int .i64 0), (D.int .i64 10), (D.int .i64 5)]
theorem v164 : Ev ty tab 28 x173 [a20] := Ev.row (f := c_gatepathlaw29_manifest) (by kernel_rfl) [] trivial 400 (by kernel_rfl)
def x174 : List D := [(D.str ⟨#[100, 114]⟩), (D.int .u64 1), (D.int .u8 1), (D.int .i64 0), (D.int .i64 10), (D.int .i64 5)]
theorem v165 : Ev ty tab 28 x174 [a21] := Ev.row (f := c_gatepathlaw29_manifest) (by kernel_rfl) [] trivial 400 (by kernel_rfl)
def x175 : List D := [(D.str ⟨#[100, 115]⟩), (D.int .u64 1), (D.int .u8 1), (D.int .i64 0), (D.int .i64 10), (D.int .i64 5)]
theorem v166 : Ev ty tab 28 x175 [a22] := Ev.row (f := c_gatepathlaw29_manifest) (by kernel_rfl) [] trivial 400 (by kernel_rfl)
def x176 : List D := [(D.str ⟨#[100, 116]⟩), (D.int .u64 1), (D.int .u8 1), (D.int .i64 0), (D.int .i64 10), (D.int .i64 5)]
theorem v167 : Ev ty tab 28 x176 [a23] := Ev.row (f := c_gatepathlaw29_manifest) (by kernel_rfl) [] trivial 400 (by kernel_rfl)
def x177 : List D := [(D.str ⟨#[101, 97]⟩), (D.int .u64 1), (D.int .u8 1), (D.int .i64 0), (D.int .i64 10), (D.int .i64 5)]
theorem v168 : Ev ty tab 28 x177 [a190] := Ev.row (f := c_gatepathlaw29_manifest) (by kernel_rfl) [] trivial 400 (by kernel_rfl)
def x178 : List D := [(D.str ⟨#[101, 98]⟩), (D.int .u64 1), (D.int .u8 1), (D.int .i64 0), (D.int .i64 10), (D.int .i64 5)]
theorem v169 : Ev ty tab 28 x178 [a191] := Ev.row (f := c_gatepathlaw29_manifest) (by kernel_rfl) [] trivial 400 (by kernel_rfl)
def x179 : List D := [(D.str ⟨#[101, 99]⟩), (D.int .u64 1), (D.int .u8 1), (D.int .i64 0), (D.int .i64 10), (D.int .i64 5)]
theorem v170 : Ev ty tab 28 x179 [a192] := Ev.row (f := c_gatepathlaw29_manifest) (by kernel_rfl) [] trivial 400 (by kernel_rfl)
def x180 : List D := [(D.str ⟨#[101, 100]⟩), (D.int .u64 1), (D.int .u8 1), (D.int .i64 0), (D.int .i64 10), (D.int .i64 5)]
theorem v171 : Ev ty tab 28 x180 [a24] := Ev.row (f := c_gatepathlaw29_manifest) (by kernel_rfl) [] trivial 400 (by kernel_rfl)
def x181 : List D := [(D.str ⟨#[101, 101]⟩), (D.int .u64 1), (D.int .u8 1), (D.int .i64 0), (D.int .i64 10), (D.int .i64 5)]
theorem v172 : Ev ty tab 28 x181 [a25] := Ev.row (f := c_gatepathlaw29_manifest) (by kernel_rfl) [] trivial 400 (by kernel_rfl)
def x182 : List D := [(D.str ⟨#[101, 102]⟩), (D.int .u64 1), (D.int .u8 1), (D.int .i64 0), (D.int .i64 10), (D.int .i64 5)]
theorem v173 : Ev ty tab 28 x182 [a26] := Ev.row (f := c_gatepathlaw29_manifest) (by kernel_rfl) [] trivial 400 (by kernel_rfl)
def x183 : List D := [(D.str ⟨#[101, 103]⟩), (D.int .u64 1), (D.int .u8 1), (D.int .i64 0), (D.int .i64 10), (D.int .i64 5)]
theorem v174 : Ev ty tab 28 x183 [a27] := Ev.row (f := c_gatepathlaw29_manifest) (by kernel_rfl) [] trivial 400 (by kernel_rfl)
def x184 : List D := [(D.str ⟨#[101, 104]⟩), (D.int .u64 1), (D.int .u8 1), (D.int .i64 0), (D.int .i64 10), (D.int .i64 5)]
theorem v175 : Ev ty tab 28 x184 [a28] := Ev.row (f := c_gatepathlaw29_manifest) (by kernel_rfl) [] trivial 400 (by kernel_rfl)
def x185 : List D := [(D.str ⟨#[101, 105]⟩), (D.int .u64 1), (D.int .u8 1), (D.int .i64 0), (D.int .i64 10), (D.int .i64 5)]
theorem v176 : Ev ty tab 28 x185 [a29] := Ev.row (f := c_gatepathlaw29_manifest) (by kernel_rfl) [] trivial 400 (by kernel_rfl)
def x186 : List D := [(D.str ⟨#[101, 106]⟩), (D.int .u64 1), (D.int .u8 1), (D.int .i64 0), (D.int .i64 10), (D.int .i64 5)]
theorem v177 : Ev ty tab 28 x186 [a30] := Ev.row (f := c_gatepathlaw29_manifest) (by kernel_rfl) [] trivial 400 (by kernel_rfl)
def x187 : List D := [(D.str ⟨#[101, 107]⟩), (D.int .u64 1), (D.int .u8 1), (D.int .i64 0), (D.int .i64 10), (D.int .i64 5)]
theorem v178 : Ev ty tab 28 x187 [a31] := Ev.row (f := c_gatepathlaw29_manifest) (by kernel_rfl) [] trivial 400 (by kernel_rfl)
def x188 : List D := [(D.str ⟨#[101, 108]⟩), (D.int .u64 1), (D.int .u8 1), (D.int .i64 0), (D.int .i64 10), (D.int .i64 5)]
theorem v179 : Ev ty tab 28 x188 [a32] := Ev.row (f := c_gatepathlaw29_manifest) (by kernel_rfl) [] trivial 400 (by kernel_rfl)
def x189 : List D := [(D.str ⟨#[101, 109]⟩), (D.int .u64 1), (D.int .u8 1), (D.int .i64 0), (D.int .i64 10), (D.int .i64 5)]
theorem v180 : Ev ty tab 28 x189 [a33] := Ev.row (f := c_gatepathlaw29_manifest) (by kernel_rfl) [] trivial 400 (by kernel_rfl)
def x190 : List D := [(D.str ⟨#[101, 110]⟩), (D.int .u64 1), (D.int .u8 1), (D.int .i64 0), (D.int .i64 10), (D.int .i64 5)]
theorem v181 : Ev ty tab 28 x190 [a34] := Ev.row (f := c_gatepathlaw29_manifest) (by kernel_rfl) [] trivial 400 (by kernel_rfl)
def x191 : List D := [(D.str ⟨#[101, 111]⟩), (D.int .u64 1), (D.int .u8 1), (D.int .i64 0), (D.int .i64 10), (D.int .i64 5)]
theorem v182 : Ev ty tab 28 x191 [a35] := Ev.row (f := c_gatepathlaw29_manifest) (by kernel_rfl) [] trivial 400 (by kernel_rfl)
def x192 : List D := [(D.str ⟨#[101, 112]⟩), (D.int .u64 1), (D.int .u8 1), (D.int .i64 0), (D.int .i64 10), (D.int .i64 5)]
theorem v183 : Ev ty tab 28 x192 [a36] := Ev.row (f := c_gatepathlaw29_manifest) (by kernel_rfl) [] trivial 400 (by kernel_rfl)
def x193 : List D := [(D.str ⟨#[101, 113]⟩), (D.int .u64 1), (D.int .u8 1), (D.int .i64 0), (D.int .i64 10), (D.int .i64 5)]
theorem v184 : Ev ty tab 28 x193 [a37] := Ev.row (f := c_gatepathlaw29_manifest) (by kernel_rfl) [] trivial 400 (by kernel_rfl)
def x194 : List D := [(D.str ⟨#[101, 114]⟩), (D.int .u64 1), (D.int .u8 1), (D.int .i64 0), (D.int .i64 10), (D.int .i64 5)]
theorem v185 : Ev ty tab 28 x194 [a38] := Ev.row (f := c_gatepathlaw29_manifest) (by kernel_rfl) [] trivial 400 (by kernel_rfl)
def x195 : List D := [(D.str ⟨#[101, 115]⟩), (D.int .u64 1), (D.int .u8 1), (D.int .i64 0), (D.int .i64 10), (D.int .i64 5)]
theorem v186 : Ev ty tab 28 x195 [a39] := Ev.row (f := c_gatepathlaw29_manifest) (by kernel_rfl) [] trivial 400 (by kernel_rfl)
def x196 : List D := [(D.str ⟨#[101, 116]⟩), (D.int .u64 1), (D.int .u8 1), (D.int .i64 0), (D.int .i64 10), (D.int .i64 5)]
theorem v187 : Ev ty tab 28 x196 [a40] := Ev.row (f := c_gatepathlaw29_manifest) (by kernel_rfl) [] trivial 400 (by kernel_rfl)
def x197 : List D := [(D.str ⟨#[102, 97]⟩), (D.int .u64 1), (D.int .u8 1), (D.int .i64 0), (D.int .i64 10), (D.int .i64 5)]
theorem v188 : Ev ty tab 28 x197 [a193] := Ev.row (f := c_gatepathlaw29_manifest) (by kernel_rfl) [] trivial 400 (by kernel_rfl)
def x198 : List D := [(D.str ⟨#[102, 98]⟩), (D.int .u64 1), (D.int .u8 1), (D.int .i64 0), (D.int .i64 10), (D.int .i64 5)]
theorem v189 : Ev ty tab 28 x198 [a194] := Ev.row (f := c_gatepathlaw29_manifest) (by kernel_rfl) [] trivial 400 (by kernel_rfl)
def x199 : List D := [(D.str ⟨#[102, 99]⟩), (D.int .u64 1), (D.int .u8 1), (D.int .i64 0), (D.int .i64 10), (D.int .i64 5)]
theorem v190 : Ev ty tab 28 x199 [a195] := Ev.row (f := c_gatepathlaw29_manifest) (by kernel_rfl) [] trivial 400 (by kernel_rfl)
def x200 : List D := [(D.str ⟨#[102, 100]⟩), (D.int .u64 1), (D.int .u8 1), (D.int .i64 0), (D.int .i64 10), (D.int .i64 5)]
theorem v191 : Ev ty tab 28 x200 [a41] := Ev.row (f := c_gatepathlaw29_manifest) (by kernel_rfl) [] trivial 400 (by kernel_rfl)
def x201 : List D := [(D.str ⟨#[102, 101]⟩), (D.int .u64 1), (D.int .u8 1), (D.int .i64 0), (D.int .i64 10), (D.int .i64 5)]
theorem v192 : Ev ty tab 28 x201 [a42] := Ev.row (f := c_gatepathlaw29_manifest) (by kernel_rfl) [] trivial 400 (by kernel_rfl)
def x202 : List D := [(D.str ⟨#[102, 102]⟩), (D.int .u64 1), (D.int .u8 1), (D.int .i64 0), (D.int .i64 10), (D.int .i64 5)]
theorem v193 : Ev ty tab 28 x202 [a43] := Ev.row (f := c_gatepathlaw29_manifest) (by kernel_rfl) [] trivial 400 (by kernel_rfl)
def x203 : List D := [(D.str ⟨#[102, 103]⟩), (D.int .u64 1), (D.int .u8 1), (D.int .i64 0), (D.int .i64 10), (D.int .i64 5)]
theorem v194 : Ev ty tab 28 x203 [a44] := Ev.row (f := c_gatepathlaw29_manifest) (by kernel_rfl) [] trivial 400 (by kernel_rfl)
def x204 : List D := [(D.str ⟨#[102, 104]⟩), (D.int .u64 1), (D.int .u8 1), (D.int .i64 0), (D.int .i64 10), (D.int .i64 5)]
theorem v195 : Ev ty tab 28 x204 [a45] := Ev.row (f := c_gatepathlaw29_manifest) (by kernel_rfl) [] trivial 400 (by kernel_rfl)
def x205 : List D := [(D.str ⟨#[102, 105]⟩), (D.int .u64 1), (D.int .u8 1), (D.int .i64 0), (D.int .i64 10), (D.int .i64 5)]
theorem v196 : Ev ty tab 28 x205 [a46] := Ev.row (f := c_gatepathlaw29_manifest) (by kernel_rfl) [] trivial 400 (by kernel_rfl)
def x206 : List D := [(D.str ⟨#[102, 106]⟩), (D.int .u64 1), (D.int .u8 1), (D.int .i64 0), (D.int .i64 10), (D.int .i64 5)]
theorem v197 : Ev ty tab 28 x206 [a47] := Ev.row (f := c_gatepathlaw29_manifest) (by kernel_rfl) [] trivial 400 (by kernel_rfl)
def x207 : List D := [(D.str ⟨#[102, 107]⟩), (D.int .u64 1), (D.int .u8 1), (D.int .i64 0), (D.int .i64 10), (D.int .i64 5)]
theorem v198 : Ev ty tab 28 x207 [a48] := Ev.row (f := c_gatepathlaw29_manifest) (by kernel_rfl) [] trivial 400 (by kernel_rfl)
def x208 : List D := [(D.str ⟨#[102, 108]⟩), (D.int .u64 1), (D.int .u8 1), (D.int .i64 0), (D.int .i64 10), (D.int .i64 5)]
theorem v199 : Ev ty tab 28 x208 [a49] := Ev.row (f := c_gatepathlaw29_manifest) (by kernel_rfl) [] trivial 400 (by kernel_rfl)
def x209 : List D := [(D.str ⟨#[102, 109]⟩), (D.int .u64 1), (D.int .u8 1), (D.int .i64 0), (D.int .i64 10), (D.int .i64 5)]
theorem v200 : Ev ty tab 28 x209 [a50] := Ev.row (f := c_gatepathlaw29_manifest) (by kernel_rfl) [] trivial 400 (by kernel_rfl)
def x210 : List D := [(D.str ⟨#[102, 110]⟩), (D.int .u64 1), (D.int .u8 1), (D.int .i64 0), (D.int .i64 10), (D.int .i64 5)]
theorem v201 : Ev ty tab 28 x210 [a51] := Ev.row (f := c_gatepathlaw29_manifest) (by kernel_rfl) [] trivial 400 (by kernel_rfl)
def x211 : List D := [(D.str ⟨#[102, 111]⟩), (D.int .u64 1), (D.int .u8 1), (D.int .i64 0), (D.int .i64 10), (D.int .i64 5)]
theorem v202 : Ev ty tab 28 x211 [a52] := Ev.row (f := c_gatepathlaw29_manifest) (by kernel_rfl) [] trivial 400 (by kernel_rfl)
def x212 : List D := [(D.str ⟨#[102, 112]⟩), (D.int .u64 1), (D.int .u8 1), (D.int .i64 0), (D.int .i64 10), (D.int .i64 5)]
theorem v203 : Ev ty tab 28 x212 [a53] := Ev.row (f := c_gatepathlaw29_manifest) (by kernel_rfl) [] trivial 400 (by kernel_rfl)
def x213 : List D := [(D.str ⟨#[102, 113]⟩), (D.int .u64 1), (D.int .u8 1), (D.int .i64 0), (D.int .i64 10), (D.int .i64 5)]
theorem v204 : Ev ty tab 28 x213 [a54] := Ev.row (f := c_gatepathlaw29_manifest) (by kernel_rfl) [] trivial 400 (by kernel_rfl)
def x214 : List D := [(D.str ⟨#[102, 114]⟩), (D.int .u64 1), (D.int .u8 1), (D.int .i64 0), (D.int .i64 10), (D.int .i64 5)]
theorem v205 : Ev ty tab 28 x214 [a55] := Ev.row (f := c_gatepathlaw29_manifest) (by kernel_rfl) [] trivial 400 (by kernel_rfl)
def x215 : List D := [(D.str ⟨#[102, 115]⟩), (D.int .u64 1), (D.int .u8 1), (D.int .i64 0), (D.int .i64 10), (D.int .i64 5)]
theorem v206 : Ev ty tab 28 x215 [a56] := Ev.row (f := c_gatepathlaw29_manifest) (by kernel_rfl) [] trivial 400 (by kernel_rfl)
def x216 : List D := [(D.str ⟨#[102, 116]⟩), (D.int .u64 1), (D.int .u8 1), (D.int .i64 0), (D.int .i64 10), (D.int .i64 5)]
theorem v207 : Ev ty tab 28 x216 [a57] := Ev.row (f := c_gatepathlaw29_manifest) (by kernel_rfl) [] trivial 400 (by kernel_rfl)
def x217 : List D := [(D.str ⟨#[103, 97]⟩), (D.int .u64 1), (D.int .u8 1), (D.int .i64 0), (D.int .i64 10), (D.int .i64 5)]
theorem v208 : Ev ty tab 28 x217 [a196] := Ev.row (f := c_gatepathlaw29_manifest) (by kernel_rfl) [] trivial 400 (by kernel_rfl)
def x218 : List D := [(D.str ⟨#[103, 98]⟩), (D.int .u64 1), (D.int .u8 1), (D.int .i64 0), (D.int .i64 10), (D.int .i64 5)]
theorem v209 : Ev ty tab 28 x218 [a197] := Ev.row (f := c_gatepathlaw29_manifest) (by kernel_rfl) [] trivial 400 (by kernel_rfl)
def x219 : List D := [(D.str ⟨#[103, 99]⟩), (D.int .u64 1), (D.int .u8 1), (D.int .i64 0), (D.int .i64 10), (D.int .i64 5)]
theorem v210 : Ev ty tab 28 x219 [a198] := Ev.row (f := c_gatepathlaw29_manifest) (by kernel_rfl) [] trivial 400 (by kernel_rfl)
def x220 : List D := [(D.str ⟨#[103, 100]⟩), (D.int .u64 1), (D.int .u8 1), (D.int .i64 0), (D.int .i64 10), (D.int .i64 5)]
theorem v211 : Ev ty tab 28 x220 [a58] := Ev.row (f := c_gatepathlaw29_manifest) (by kernel_rfl) [] trivial 400 (by kernel_rfl)
def x221 : List D := [(D.str ⟨#[103, 101]⟩), (D.int .u64 1), (D.int .u8 1), (D.int .i64 0), (D.int .i64 10), (D.int .i64 5)]
theorem v212 : Ev ty tab 28 x221 [a59] := Ev.row (f := c_gatepathlaw29_manifest) (by kernel_rfl) [] trivial 400 (by kernel_rfl)
def x222 : List D := [(D.str ⟨#[103, 102]⟩), (D.int .u64 1), (D.int .u8 1), (D.int .i64 0), (D.int .i64 10), (D.int .i64 5)]
theorem v213 : Ev ty tab 28 x222 [a60] := Ev.row (f := c_gatepathlaw29_manifest) (by kernel_rfl) [] trivial 400 (by kernel_rfl)
def x223 : List D := [(D.str ⟨#[103, 103]⟩), (D.int .u64 1), (D.int .u8 1), (D.int .i64 0), (D.int .i64 10), (D.int .i64 5)]
theorem v214 : Ev ty tab 28 x223 [a61] := Ev.row (f := c_gatepathlaw29_manifest) (by kernel_rfl) [] trivial 400 (by kernel_rfl)
def x224 : List D := [(D.str ⟨#[103, 104]⟩), (D.int .u64 1), (D.int .u8 1), (D.int .i64 0), (D.int .i64 10), (D.int .i64 5)]
theorem v215 : Ev ty tab 28 x224 [a62] := Ev.row (f := c_gatepathlaw29_manifest) (by kernel_rfl) [] trivial 400 (by kernel_rfl)
def x225 : List D := [(D.str ⟨#[103, 105]⟩), (D.int .u64 1), (D.int .u8 1), (D.int .i64 0), (D.int .i64 10), (D.int .i64 5)]
theorem v216 : Ev ty tab 28 x225 [a63] := Ev.row (f := c_gatepathlaw29_manifest) (by kernel_rfl) [] trivial 400 (by kernel_rfl)
def x226 : List D := [(D.str ⟨#[103, 106]⟩), (D.int .u64 1), (D.int .u8 1), (D.int .i64 0), (D.int .i64 10), (D.int .i64 5)]
theorem v217 : Ev ty tab 28 x226 [a64] := Ev.row (f := c_gatepathlaw29_manifest) (by kernel_rfl) [] trivial 400 (by kernel_rfl)
def x227 : List D := [(D.str ⟨#[103, 107]⟩), (D.int .u64 1), (D.int .u8 1), (D.int .i64 0), (D.int .i64 10), (D.int .i64 5)]
theorem v218 : Ev ty tab 28 x227 [a65] := Ev.row (f := c_gatepathlaw29_manifest) (by kernel_rfl) [] trivial 400 (by kernel_rfl)
def x228 : List D := [(D.str ⟨#[103, 108]⟩), (D.int .u64 1), (D.int .u8 1), (D.int .i64 0), (D.int .i64 10), (D.int .i64 5)]
theorem v219 : Ev ty tab 28 x228 [a66] := Ev.row (f := c_gatepathlaw29_manifest) (by kernel_rfl) [] trivial 400 (by kernel_rfl)
def x229 : List D := [(D.str ⟨#[103, 109]⟩), (D.int .u64 1), (D.int .u8 1), (D.int .i64 0), (D.int .i64 10), (D.int .i64 5)]
theorem v220 : Ev ty tab 28 x229 [a67] := Ev.row (f := c_gatepathlaw29_manifest) (by kernel_rfl) [] trivial 400 (by kernel_rfl)
def x230 : List D := [(D.str ⟨#[103, 110]⟩), (D.int .u64 1), (D.int .u8 1), (D.int .i64 0), (D.int .i64 10), (D.int .i64 5)]
theorem v221 : Ev ty tab 28 x230 [a68] := Ev.row (f := c_gatepathlaw29_manifest) (by kernel_rfl) [] trivial 400 (by kernel_rfl)
def x231 : List D := [(D.str ⟨#[103, 111]⟩), (D.int .u64 1), (D.int .u8 1), (D.int .i64 0), (D.int .i64 10), (D.int .i64 5)]
theorem v222 : Ev ty tab 28 x231 [a69] := Ev.row (f := c_gatepathlaw29_manifest) (by kernel_rfl) [] trivial 400 (by kernel_rfl)
def x232 : List D := [(D.str ⟨#[103, 112]⟩), (D.int .u64 1), (D.int .u8 1), (D.int .i64 0), (D.int .i64 10), (D.int .i64 5)]
theorem v223 : Ev ty tab 28 x232 [a70] := Ev.row (f := c_gatepathlaw29_manifest) (by kernel_rfl) [] trivial 400 (by kernel_rfl)
def x233 : List D := [(D.str ⟨#[103, 113]⟩), (D.int .u64 1), (D.int .u8 1), (D.int .i64 0), (D.int .i64 10), (D.int .i64 5)]
theorem v224 : Ev ty tab 28 x233 [a71] := Ev.row (f := c_gatepathlaw29_manifest) (by kernel_rfl) [] trivial 400 (by kernel_rfl)
def x234 : List D := [(D.str ⟨#[103, 114]⟩), (D.int .u64 1), (D.int .u8 1), (D.int .i64 0), (D.int .i64 10), (D.int .i64 5)]
theorem v225 : Ev ty tab 28 x234 [a72] := Ev.row (f := c_gatepathlaw29_manifest) (by kernel_rfl) [] trivial 400 (by kernel_rfl)
def x235 : List D := [(D.str ⟨#[103, 115]⟩), (D.int .u64 1), (D.int .u8 1), (D.int .i64 0), (D.int .i64 10), (D.int .i64 5)]
theorem v226 : Ev ty tab 28 x235 [a73] := Ev.row (f := c_gatepathlaw29_manifest) (by kernel_rfl) [] trivial 400 (by kernel_rfl)
def x236 : List D := [(D.str ⟨#[103, 116]⟩), (D.int .u64 1), (D.int .u8 1), (D.int .i64 0), (D.int .i64 10), (D.int .i64 5)]
theorem v227 : Ev ty tab 28 x236 [a74] := Ev.row (f := c_gatepathlaw29_manifest) (by kernel_rfl) [] trivial 400 (by kernel_rfl)
def x237 : List D := [(D.str ⟨#[104, 97]⟩), (D.int .u64 1), (D.int .u8 1), (D.int .i64 0), (D.int .i64 10), (D.int .i64 5)]
theorem v228 : Ev ty tab 28 x237 [a199] := Ev.row (f := c_gatepathlaw29_manifest) (by kernel_rfl) [] trivial 400 (by kernel_rfl)
def x238 : List D := [(D.str ⟨#[104, 98]⟩), (D.int .u64 1), (D.int .u8 1), (D.int .i64 0), (D.int .i64 10), (D.int .i64 5)]
theorem v229 : Ev ty tab 28 x238 [a200] := Ev.row (f := c_gatepathlaw29_manifest) (by kernel_rfl) [] trivial 400 (by kernel_rfl)
def x239 : List D := [(D.str ⟨#[104, 99]⟩), (D.int .u64 1), (D.int .u8 1), (D.int .i64 0), (D.int .i64 10), (D.int .i64 5)]
theorem v230 : Ev ty tab 28 x239 [a201] := Ev.row (f := c_gatepathlaw29_manifest) (by kernel_rfl) [] trivial 400 (by kernel_rfl)
def x240 : List D := [(D.str ⟨#[104, 100]⟩), (D.int .u64 1), (D.int .u8 1), (D.int .i64 0), (D.int .i64 10), (D.int .i64 5)]
theorem v231 : Ev ty tab 28 x240 [a75] := Ev.row (f := c_gatepathlaw29_manifest) (by kernel_rfl) [] trivial 400 (by kernel_rfl)
def x241 : List D := [(D.str ⟨#[104, 101]⟩), (D.int .u64 1), (D.int .u8 1), (D.int .i64 0), (D.int .i64 10), (D.int .i64 5)]
theorem v232 : Ev ty tab 28 x241 [a76] := Ev.row (f := c_gatepathlaw29_manifest) (by kernel_rfl) [] trivial 400 (by kernel_rfl)
def x242 : List D := [(D.str ⟨#[104, 102]⟩), (D.int .u64 1), (D.int .u8 1), (D.int .i64 0), (D.int .i64 10), (D.int .i64 5)]
theorem v233 : Ev ty tab 28 x242 [a77] := Ev.row (f := c_gatepathlaw29_manifest) (by kernel_rfl) [] trivial 400 (by kernel_rfl)
def x243 : List D := [(D.str ⟨#[104, 103]⟩), (D.int .u64 1), (D.int .u8 1), (D.int .i64 0), (D.int .i64 10), (D.int .i64 5)]
theorem v234 : Ev ty tab 28 x243 [a78] := Ev.row (f := c_gatepathlaw29_manifest) (by kernel_rfl) [] trivial 400 (by kernel_rfl)
def x244 : List D := [(D.str ⟨#[104, 104]⟩), (D.int .u64 1), (D.int .u8 1), (D.int .i64 0), (D.int .i64 10), (D.int .i64 5)]
theorem v235 : Ev ty tab 28 x244 [a79] := Ev.row (f := c_gatepathlaw29_manifest) (by kernel_rfl) [] trivial 400 (by kernel_rfl)
def x245 : List D := [(D.str ⟨#[104, 105]⟩), (D.int .u64 1), (D.int .u8 1), (D.int .i64 0), (D.int .i64 10), (D.int .i64 5)]
theorem v236 : Ev ty tab 28 x245 [a80] := Ev.row (f := c_gatepathlaw29_manifest) (by kernel_rfl) [] trivial 400 (by kernel_rfl)
def x246 : List D := [(D.str ⟨#[104, 106]⟩), (D.int .u64 1), (D.int .u8 1), (D.int .i64 0), (D.int .i64 10), (D.int .i64 5)]
theorem v237 : Ev ty tab 28 x246 [a81] := Ev.row (f := c_gatepathlaw29_manifest) (by kernel_rfl) [] trivial 400 (by kernel_rfl)
def x247 : List D := [(D.str ⟨#[104, 107]⟩), (D.int .u64 1), (D.int .u8 1), (D.int .i64 0), (D.int .i64 10), (D.int .i64 5)]
theorem v238 : Ev ty tab 28 x247 [a82] := Ev.row (f := c_gatepathlaw29_manifest) (by kernel_rfl) [] trivial 400 (by kernel_rfl)
def x248 : List D := [(D.str ⟨#[104, 108]⟩), (D.int .u64 1), (D.int .u8 1), (D.int .i64 0), (D.int .i64 10), (D.int .i64 5)]
theorem v239 : Ev ty tab 28 x248 [a83] := Ev.row (f := c_gatepathlaw29_manifest) (by kernel_rfl) [] trivial 400 (by kernel_rfl)
def x249 : List D := [(D.str ⟨#[104, 109]⟩), (D.int .u64 1), (D.int .u8 1), (D.int .i64 0), (D.int .i64 10), (D.int .i64 5)]
theorem v240 : Ev ty tab 28 x249 [a84] := Ev.row (f := c_gatepathlaw29_manifest) (by kernel_rfl) [] trivial 400 (by kernel_rfl)
def x250 : List D := [(D.str ⟨#[104, 110]⟩), (D.int .u64 1), (D.int .u8 1), (D.int .i64 0), (D.int .i64 10), (D.int .i64 5)]
theorem v241 : Ev ty tab 28 x250 [a85] := Ev.row (f := c_gatepathlaw29_manifest) (by kernel_rfl) [] trivial 400 (by kernel_rfl)
def x251 : List D := [(D.str ⟨#[104, 111]⟩), (D.int .u64 1), (D.int .u8 1), (D.int .i64 0), (D.int .i64 10), (D.int .i64 5)]
theorem v242 : Ev ty tab 28 x251 [a86] := Ev.row (f := c_gatepathlaw29_manifest) (by kernel_rfl) [] trivial 400 (by kernel_rfl)
def x252 : List D := [(D.str ⟨#[104, 112]⟩), (D.int .u64 1), (D.int .u8 1), (D.int .i64 0), (D.int .i64 10), (D.int .i64 5)]
theorem v243 : Ev ty tab 28 x252 [a87] := Ev.row (f := c_gatepathlaw29_manifest) (by kernel_rfl) [] trivial 400 (by kernel_rfl)
def x253 : List D := [(D.str ⟨#[104, 113]⟩), (D.int .u64 1), (D.int .u8 1), (D.int .i64 0), (D.int .i64 10), (D.int .i64 5)]
theorem v244 : Ev ty tab 28 x253 [a88] := Ev.row (f := c_gatepathlaw29_manifest) (by kernel_rfl) [] trivial 400 (by kernel_rfl)
def x254 : List D := [(D.str ⟨#[104, 114]⟩), (D.int .u64 1), (D.int .u8 1), (D.int .i64 0), (D.int .i64 10), (D.int .i64 5)]
theorem v245 : Ev ty tab 28 x254 [a89] := Ev.row (f := c_gatepathlaw29_manifest) (by kernel_rfl) [] trivial 400 (by kernel_rfl)
def x255 : List D := [(D.str ⟨#[104, 115]⟩), (D.int .u64 1), (D.int .u8 1), (D.int .i64 0), (D.int .i64 10), (D.int .i64 5)]
theorem v246 : Ev ty tab 28 x255 [a90] := Ev.row (f := c_gatepathlaw29_manifest) (by kernel_rfl) [] trivial 400 (by kernel_rfl)
def x256 : List D := [(D.str ⟨#[104, 116]⟩), (D.int .u64 1), (D.int .u8 1), (D.int .i64 0), (D.int .i64 10), (D.int .i64 5)]
theorem v247 : Ev ty tab 28 x256 [a91] := Ev.row (f := c_gatepathlaw29_manifest) (by kernel_rfl) [] trivial 400 (by kernel_rfl)
def x257 : List D := [(D.str ⟨#[105, 97]⟩), (D.int .u64 1), (D.int .u8 1), (D.int .i64 0), (D.int .i64 10), (D.int .i64 5)]
theorem v248 : Ev ty tab 28 x257 [a202] := Ev.row (f := c_gatepathlaw29_manifest) (by kernel_rfl) [] trivial 400 (by kernel_rfl)
def x258 : List D := [(D.str ⟨#[105, 98]⟩), (D.int .u64 1), (D.int .u8 1), (D.int .i64 0), (D.int .i64 10), (D.int .i64 5)]
theorem v249 : Ev ty tab 28 x258 [a203] := Ev.row (f := c_gatepathlaw29_manifest) (by kernel_rfl) [] trivial 400 (by kernel_rfl)
def x259 : List D := [(D.str ⟨#[105, 99]⟩), (D.int .u64 1), (D.int .u8 1), (D.int .i64 0), (D.int .i64 10), (D.int .i64 5)]
theorem v250 : Ev ty tab 28 x259 [a204] := Ev.row (f := c_gatepathlaw29_manifest) (by kernel_rfl) [] trivial 400 (by kernel_rfl)
def x260 : List D := [(D.str ⟨#[105, 100]⟩), (D.int .u64 1), (D.int .u8 1), (D.int .i64 0), (D.int .i64 10), (D.int .i64 5)]
theorem v251 : Ev ty tab 28 x260 [a92] := Ev.row (f := c_gatepathlaw29_manifest) (by kernel_rfl) [] trivial 400 (by kernel_rfl)
def x261 : List D := [(D.str ⟨#[105, 101]⟩), (D.int .u64 1), (D.int .u8 1), (D.int .i64 0), (D.int .i64 10), (D.int .i64 5)]
theorem v252 : Ev ty tab 28 x261 [a93] := Ev.row (f := c_gatepathlaw29_manifest) (by kernel_rfl) [] trivial 400 (by kernel_rfl)
def x262 : List D := [(D.str ⟨#[105, 102]⟩), (D.int .u64 1), (D.int .u8 1), (D.int .i64 0), (D.int .i64 10), (D.int .i64 5)]
theorem v253 : Ev ty tab 28 x262 [a94] := Ev.row (f := c_gatepathlaw29_manifest) (by kernel_rfl) [] trivial 400 (by kernel_rfl)
def x263 : List D := [(D.str ⟨#[105, 103]⟩), (D.int .u64 1), (D.int .u8 1), (D.int .i64 0), (D.int .i64 10), (D.int .i64 5)]
theorem v254 : Ev ty tab 28 x263 [a95] := Ev.row (f := c_gatepathlaw29_manifest) (by kernel_rfl) [] trivial 400 (by kernel_rfl)
def x264 : List D := [(D.str ⟨#[105, 104]⟩), (D.int .u64 1), (D.int .u8 1), (D.int .i64 0), (D.int .i64 10), (D.int .i64 5)]
theorem v255 : Ev ty tab 28 x264 [a96] := Ev.row (f := c_gatepathlaw29_manifest) (by kernel_rfl) [] trivial 400 (by kernel_rfl)
def x265 : List D := [(D.str ⟨#[105, 105]⟩), (D.int .u64 1), (D.int .u8 1), (D.int .i64 0), (D.int .i64 10), (D.int .i64 5)]
theorem v256 : Ev ty tab 28 x265 [a97] := Ev.row (f := c_gatepathlaw29_manifest) (by kernel_rfl) [] trivial 400 (by kernel_rfl)
def x266 : List D := [(D.str ⟨#[105, 106]⟩), (D.int .u64 1), (D.int .u8 1), (D.int .i64 0), (D.int .i64 10), (D.int .i64 5)]
theorem v257 : Ev ty tab 28 x266 [a98] := Ev.row (f := c_gatepathlaw29_manifest) (by kernel_rfl) [] trivial 400 (by kernel_rfl)
def x267 : List D := [(D.str ⟨#[105, 107]⟩), (D.int .u64 1), (D.int .u8 1), (D.int .i64 0), (D.int .i64 10), (D.int .i64 5)]
theorem v258 : Ev ty tab 28 x267 [a99] := Ev.row (f := c_gatepathlaw29_manifest) (by kernel_rfl) [] trivial 400 (by kernel_rfl)
def x268 : List D := [(D.str ⟨#[105, 108]⟩), (D.int .u64 1), (D.int .u8 1), (D.int .i64 0), (D.int .i64 10), (D.int .i64 5)]
theorem v259 : Ev ty tab 28 x268 [a100] := Ev.row (f := c_gatepathlaw29_manifest) (by kernel_rfl) [] trivial 400 (by kernel_rfl)
def x269 : List D := [(D.str ⟨#[105, 109]⟩), (D.int .u64 1), (D.int .u8 1), (D.int .i64 0), (D.int .i64 10), (D.int .i64 5)]
theorem v260 : Ev ty tab 28 x269 [a101] := Ev.row (f := c_gatepathlaw29_manifest) (by kernel_rfl) [] trivial 400 (by kernel_rfl)
def x270 : List D := [(D.str ⟨#[105, 110]⟩), (D.int .u64 1), (D.int .u8 1), (D.int .i64 0), (D.int .i64 10), (D.int .i64 5)]
theorem v261 : Ev ty tab 28 x270 [a102] := Ev.row (f := c_gatepathlaw29_manifest) (by kernel_rfl) [] trivial 400 (by kernel_rfl)
def x271 : List D := [(D.str ⟨#[105, 111]⟩), (D.int .u64 1), (D.int .u8 1), (D.int .i64 0), (D.int .i64 10), (D.int .i64 5)]
theorem v262 : Ev ty tab 28 x271 [a103] := Ev.row (f := c_gatepathlaw29_manifest) (by kernel_rfl) [] trivial 400 (by kernel_rfl)
def x272 : List D := [(D.str ⟨#[105, 112]⟩), (D.int .u64 1), (D.int .u8 1), (D.int .i64 0), (D.int .i64 10), (D.int .i64 5)]
theorem v263 : Ev ty tab 28 x272 [a104] := Ev.row (f := c_gatepathlaw29_manifest) (by kernel_rfl) [] trivial 400 (by kernel_rfl)
def x273 : List D := [(D.str ⟨#[105, 113]⟩), (D.int .u64 1), (D.int .u8 1), (D.int .i64 0), (D.int .i64 10), (D.int .i64 5)]
theorem v264 : Ev ty tab 28 x273 [a105] := Ev.row (f := c_gatepathlaw29_manifest) (by kernel_rfl) [] trivial 400 (by kernel_rfl)
def x274 : List D := [(D.str ⟨#[105, 114]⟩), (D.int .u64 1), (D.int .u8 1), (D.int .i64 0), (D.int .i64 10), (D.int .i64 5)]
theorem v265 : Ev ty tab 28 x274 [a106] := Ev.row (f := c_gatepathlaw29_manifest) (by kernel_rfl) [] trivial 400 (by kernel_rfl)
def x275 : List D := [(D.str ⟨#[105, 115]⟩), (D.int .u64 1), (D.int .u8 1), (D.int .i64 0), (D.int .i64 10), (D.int .i64 5)]
theorem v266 : Ev ty tab 28 x275 [a107] := Ev.row (f := c_gatepathlaw29_manifest) (by kernel_rfl) [] trivial 400 (by kernel_rfl)
def x276 : List D := [(D.str ⟨#[105, 116]⟩), (D.int .u64 1), (D.int .u8 1), (D.int .i64 0), (D.int .i64 10), (D.int .i64 5)]
theorem v267 : Ev ty tab 28 x276 [a108] := Ev.row (f := c_gatepathlaw29_manifest) (by kernel_rfl) [] trivial 400 (by kernel_rfl)
def x277 : List D := [(D.str ⟨#[106, 97]⟩), (D.int .u64 1), (D.int .u8 1), (D.int .i64 0), (D.int .i64 10), (D.int .i64 5)]
theorem v268 : Ev ty tab 28 x277 [a205] := Ev.row (f := c_gatepathlaw29_manifest) (by kernel_rfl) [] trivial 400 (by kernel_rfl)
def x278 : List D := [(D.str ⟨#[106, 98]⟩), (D.int .u64 1), (D.int .u8 1), (D.int .i64 0), (D.int .i64 10), (D.int .i64 5)]
theorem v269 : Ev ty tab 28 x278 [a206] := Ev.row (f := c_gatepathlaw29_manifest) (by kernel_rfl) [] trivial 400 (by kernel_rfl)
def x279 : List D := [(D.str ⟨#[106, 99]⟩), (D.int .u64 1), (D.int .u8 1), (D.int .i64 0), (D.int .i64 10), (D.int .i64 5)]
theorem v270 : Ev ty tab 28 x279 [a207] := Ev.row (f := c_gatepathlaw29_manifest) (by kernel_rfl) [] trivial 400 (by kernel_rfl)
def x280 : List D := [(D.str ⟨#[106, 100]⟩), (D.int .u64 1), (D.int .u8 1), (D.int .i64 0), (D.int .i64 10), (D.int .i64 5)]
theorem v271 : Ev ty tab 28 x280 [a109] := Ev.row (f := c_gatepathlaw29_manifest) (by kernel_rfl) [] trivial 400 (by kernel_rfl)
def x281 : List D := [(D.str ⟨#[106, 101]⟩), (D.int .u64 1), (D.int .u8 1), (D.int .i64 0), (D.int .i64 10), (D.int .i64 5)]
theorem v272 : Ev ty tab 28 x281 [a110] := Ev.row (f := c_gatepathlaw29_manifest) (by kernel_rfl) [] trivial 400 (by kernel_rfl)
def x282 : List D := [(D.str ⟨#[106, 102]⟩), (D.int .u64 1), (D.int .u8 1), (D.int .i64 0), (D.int .i64 10), (D.int .i64 5)]
theorem v273 : Ev ty tab 28 x282 [a111] := Ev.row (f := c_gatepathlaw29_manifest) (by kernel_rfl) [] trivial 400 (by kernel_rfl)
def x283 : List D := [(D.str ⟨#[106, 103]⟩), (D.int .u64 1), (D.int .u8 1), (D.int .i64 0), (D.int .i64 10), (D.int .i64 5)]
theorem v274 : Ev ty tab 28 x283 [a112] := Ev.row (f := c_gatepathlaw29_manifest) (by kernel_rfl) [] trivial 400 (by kernel_rfl)
def x284 : List D := [(D.str ⟨#[106, 104]⟩), (D.int .u64 1), (D.int .u8 1), (D.int .i64 0), (D.int .i64 10), (D.int .i64 5)]
theorem v275 : Ev ty tab 28 x284 [a113] := Ev.row (f := c_gatepathlaw29_manifest) (by kernel_rfl) [] trivial 400 (by kernel_rfl)
def x285 : List D := [(D.str ⟨#[106, 105]⟩), (D.int .u64 1), (D.int .u8 1), (D.int .i64 0), (D.int .i64 10), (D.int .i64 5)]
theorem v276 : Ev ty tab 28 x285 [a114] := Ev.row (f := c_gatepathlaw29_manifest) (by kernel_rfl) [] trivial 400 (by kernel_rfl)
def x286 : List D := [(D.str ⟨#[106, 106]⟩), (D.int .u64 1), (D.int .u8 1), (D.int .i64 0), (D.int .i64 10), (D.int .i64 5)]
theorem v277 : Ev ty tab 28 x286 [a115] := Ev.row (f := c_gatepathlaw29_manifest) (by kernel_rfl) [] trivial 400 (by kernel_rfl)
def x287 : List D := [(D.str ⟨#[106, 107]⟩), (D.int .u64 1), (D.int .u8 1), (D.int .i64 0), (D.int .i64 10), (D.int .i64 5)]
theorem v278 : Ev ty tab 28 x287 [a116] := Ev.row (f := c_gatepathlaw29_manifest) (by kernel_rfl) [] trivial 400 (by kernel_rfl)
def x288 : List D := [(D.str ⟨#[106, 108]⟩), (D.int .u64 1), (D.int .u8 1), (D.int .i64 0), (D.int .i64 10), (D.int .i64 5)]
theorem v279 : Ev ty tab 28 x288 [a117] := Ev.row (f := c_gatepathlaw29_manifest) (by kernel_rfl) [] trivial 400 (by kernel_rfl)
def x289 : List D := [(D.str ⟨#[106, 109]⟩), (D.int .u64 1), (D.int .u8 1), (D.int .i64 0), (D.int .i64 10), (D.int .i64 5)]
theorem v280 : Ev ty tab 28 x289 [a118] := Ev.row (f := c_gatepathlaw29_manifest) (by kernel_rfl) [] trivial 400 (by kernel_rfl)
def x290 : List D := [(D.str ⟨#[106, 110]⟩), (D.int .u64 1), (D.int .u8 1), (D.int .i64 0), (D.int .i64 10), (D.int .i64 5)]
theorem v281 : Ev ty tab 28 x290 [a119] := Ev.row (f := c_gatepathlaw29_manifest) (by kernel_rfl) [] trivial 400 (by kernel_rfl)
def x291 : List D := [(D.str ⟨#[106, 111]⟩), (D.int .u64 1), (D.int .u8 1), (D.int .i64 0), (D.int .i64 10), (D.int .i64 5)]
theorem v282 : Ev ty tab 28 x291 [a120] := Ev.row (f := c_gatepathlaw29_manifest) (by kernel_rfl) [] trivial 400 (by kernel_rfl)
def x292 : List D := [(D.str ⟨#[106, 112]⟩), (D.int .u64 1), (D.int .u8 1), (D.int .i64 0), (D.int .i64 10), (D.int .i64 5)]
theorem v283 : Ev ty tab 28 x292 [a121] := Ev.row (f := c_gatepathlaw29_manifest) (by kernel_rfl) [] trivial 400 (by kernel_rfl)
def x293 : List D := [(D.str ⟨#[106, 113]⟩), (D.int .u64 1), (D.int .u8 1), (D.int .i64 0), (D.int .i64 10), (D.int .i64 5)]
theorem v284 : Ev ty tab 28 x293 [a122] := Ev.row (f := c_gatepathlaw29_manifest) (by kernel_rfl) [] trivial 400 (by kernel_rfl)
def x294 : List D := [(D.str ⟨#[106, 114]⟩), (D.int .u64 1), (D.int .u8 1), (D.int .i64 0), (D.int .i64 10), (D.int .i64 5)]
theorem v285 : Ev ty tab 28 x294 [a123] := Ev.row (f := c_gatepathlaw29_manifest) (by kernel_rfl) [] trivial 400 (by kernel_rfl)
def x295 : List D := [(D.str ⟨#[106, 115]⟩), (D.int .u64 1), (D.int .u8 1), (D.int .i64 0), (D.int .i64 10), (D.int .i64 5)]
theorem v286 : Ev ty tab 28 x295 [a124] := Ev.row (f := c_gatepathlaw29_manifest) (by kernel_rfl) [] trivial 400 (by kernel_rfl)
def x296 : List D := [(D.str ⟨#[106, 116]⟩), (D.int .u64 1), (D.int .u8 1), (D.int .i64 0), (D.int .i64 10), (D.int .i64 5)]
theorem v287 : Ev ty tab 28 x296 [a125] := Ev.row (f := c_gatepathlaw29_manifest) (by kernel_rfl) [] trivial 400 (by kernel_rfl)
def x297 : List D := [(D.str ⟨#[122, 122]⟩), (D.int .u64 1), (D.int .u8 1), (D.int .i64 0), (D.int .i64 10), (D.int .i64 5)]
theorem v288 : Ev ty tab 28 x297 [a126] := Ev.row (f := c_gatepathlaw29_manifest) (by kernel_rfl) [] trivial 400 (by kernel_rfl)
def x298 : List D := [(D.int .i64 10)]
theorem v289 : Ev ty tab 35 x298 x4 := Ev.row (f := c_fresh_moment) (by kernel_rfl) [] trivial 400 (by kernel_rfl)
def x299 : List D := [(D.int .i64 5)]
theorem v290 : Ev ty tab 35 x299 x4 := Ev.row (f := c_fresh_moment) (by kernel_rfl) [] trivial 400 (by kernel_rfl)
def x300 : List D := [(D.sl 47 false [a212, a213, a214, a136, a137, a138, a139, a140, a141, a142, a143, a144, a145, a146, a147, a148, a149, a150, a151, a152, a215, a216, a217, a153, a154, a155, a156, a157, a158, a159, a160, a161, a162, a163, a164, a165, a166, a167, a168, a169, a218, a219, a220, a170, a171, a172, a173, a174, a175, a176, a177, a178, a179, a180, a181, a182, a183, a184, a185, a186, a187, a188, a189, a7, a8, a9, a10, a11, a12, a13, a14, a15, a16, a17, a18, a19, a20, a21, a22, a23, a190, a191, a192, a24, a25, a26, a27, a28, a29, a30, a31, a32, a33, a34, a35, a36, a37, a38, a39, a40, a193, a194, a195, a41, a42, a43, a44, a45, a46, a47, a48, a49, a50, a51, a52, a53, a54, a55, a56, a57, a196, a197, a198, a58, a59, a60, a61, a62, a63, a64, a65, a66, a67, a68, a69, a70, a71, a72, a73, a74, a199, a200, a201, a75, a76, a77, a78, a79, a80, a81, a82, a83, a84, a85, a86, a87, a88, a89, a90, a91, a202, a203, a204, a92, a93, a94, a95, a96, a97, a98, a99, a100, a101, a102, a103, a104, a105, a106, a107, a108, a205, a206, a207, a109, a110, a111, a112, a113, a114, a115, a116, a117, a118, a119, a120, a121, a122, a123, a124, a125])]
theorem v291 : Ev ty tab 19 x300 x2 := check_ev (by kernel_rfl) (by kernel_rfl) (by kernel_rfl)
theorem v292 : Ev ty tab 40 [a126] x4 := Ev.row (f := c_fresh_right) (by kernel_rfl) [(35, x2, x4), (35, x298, x4), (35, x299, x4)] ⟨v15, v289, v290, trivial⟩ 400 (by kernel_rfl)
def x301 : List D := [(D.str ⟨#[102, 97]⟩)]
theorem v293 : Ev ty tab 45 x301 x22 := Ev.row (f := c_cmp_isNaN) (by kernel_rfl) [] trivial 400 (by kernel_rfl)
def x302 : List D := [(D.str ⟨#[122, 122]⟩)]
theorem v294 : Ev ty tab 45 x302 x22 := Ev.row (f := c_cmp_isNaN) (by kernel_rfl) [] trivial 400 (by kernel_rfl)
def x303 : List D := [(D.str ⟨#[102, 97]⟩), (D.str ⟨#[122, 122]⟩)]
theorem v295 : Ev ty tab 32 x303 x39 := Ev.row (f := c_cmp_Compare) (by kernel_rfl) [(45, x301, x22), (45, x302, x22)] ⟨v293, v294, trivial⟩ 400 (by kernel_rfl)
def x304 : List D := [a193, (D.str ⟨#[122, 122]⟩)]
theorem v296 : Ev ty tab 47 x304 x39 := Ev.row (f := c_fresh_find_1) (by kernel_rfl) [(32, x303, x39)] ⟨v295, trivial⟩ 400 (by kernel_rfl)
def x305 : List D := [(D.str ⟨#[104, 107]⟩)]
theorem v297 : Ev ty tab 45 x305 x22 := Ev.row (f := c_cmp_isNaN) (by kernel_rfl) [] trivial 400 (by kernel_rfl)
def x306 : List D := [(D.str ⟨#[104, 107]⟩), (D.str ⟨#[122, 122]⟩)]
theorem v298 : Ev ty tab 32 x306 x39 := Ev.row (f := c_cmp_Compare) (by kernel_rfl) [(45, x305, x22), (45, x302, x22)] ⟨v297, v294, trivial⟩ 400 (by kernel_rfl)
def x307 : List D := [a82, (D.str ⟨#[122, 122]⟩)]
theorem v299 : Ev ty tab 47 x307 x39 := Ev.row (f := c_fresh_find_1) (by kernel_rfl) [(32, x306, x39)] ⟨v298, trivial⟩ 400 (by kernel_rfl)
def x308 : List D := [(D.str ⟨#[105, 112]⟩)]
theorem v300 : Ev ty tab 45 x308 x22 := Ev.row (f := c_cmp_isNaN) (by kernel_rfl) [] trivial 400 (by kernel_rfl)
def x309 : List D := [(D.str ⟨#[105, 112]⟩), (D.str ⟨#[122, 122]⟩)]
theorem v301 : Ev ty tab 32 x309 x39 := Ev.row (f := c_cmp_Compare) (by kernel_rfl) [(45, x308, x22), (45, x302, x22)] ⟨v300, v294, trivial⟩ 400 (by kernel_rfl)
def x310 : List D := [a104, (D.str ⟨#[122, 122]⟩)]
theorem v302 : Ev ty tab 47 x310 x39 := Ev.row (f := c_fresh_find_1) (by kernel_rfl) [(32, x309, x39)] ⟨v301, trivial⟩ 400 (by kernel_rfl)
def x311 : List D := [(D.str ⟨#[106, 105]⟩)]
theorem v303 : Ev ty tab 45 x311 x22 := Ev.row (f := c_cmp_isNaN) (by kernel_rfl) [] trivial 400 (by kernel_rfl)
def x312 : List D := [(D.str ⟨#[106, 105]⟩), (D.str ⟨#[122, 122]⟩)]
theorem v304 : Ev ty tab 32 x312 x39 := Ev.row (f := c_cmp_Compare) (by kernel_rfl) [(45, x311, x22), (45, x302, x22)] ⟨v303, v294, trivial⟩ 400 (by kernel_rfl)
def x313 : List D := [a114, (D.str ⟨#[122, 122]⟩)]
theorem v305 : Ev ty tab 47 x313 x39 := Ev.row (f := c_fresh_find_1) (by kernel_rfl) [(32, x312, x39)] ⟨v304, trivial⟩ 400 (by kernel_rfl)
def x314 : List D := [(D.str ⟨#[106, 111]⟩)]
theorem v306 : Ev ty tab 45 x314 x22 := Ev.row (f := c_cmp_isNaN) (by kernel_rfl) [] trivial 400 (by kernel_rfl)
def x315 : List D := [(D.str ⟨#[106, 111]⟩), (D.str ⟨#[122, 122]⟩)]
theorem v307 : Ev ty tab 32 x315 x39 := Ev.row (f := c_cmp_Compare) (by kernel_rfl) [(45, x314, x22), (45, x302, x22)] ⟨v306, v294, trivial⟩ 400 (by kernel_rfl)
def x316 : List D := [a120, (D.str ⟨#[122, 122]⟩)]
theorem v308 : Ev ty tab 47 x316 x39 := Ev.row (f := c_fresh_find_1) (by kernel_rfl) [(32, x315, x39)] ⟨v307, trivial⟩ 400 (by kernel_rfl)
def x317 : List D := [(D.str ⟨#[106, 114]⟩)]
theorem v309 : Ev ty tab 45 x317 x22 := Ev.row (f := c_cmp_isNaN) (by kernel_rfl) [] trivial 400 (by kernel_rfl)
def x318 : List D := [(D.str ⟨#[106, 114]⟩), (D.str ⟨#[122, 122]⟩)]
theorem v310 : Ev ty tab 32 x318 x39 := Ev.row (f := c_cmp_Compare) (by kernel_rfl) [(45, x317, x22), (45, x302, x22)] ⟨v309, v294, trivial⟩ 400 (by kernel_rfl)
def x319 : List D := [a123, (D.str ⟨#[122, 122]⟩)]
theorem v311 : Ev ty tab 47 x319 x39 := Ev.row (f := c_fresh_find_1) (by kernel_rfl) [(32, x318, x39)] ⟨v310, trivial⟩ 400 (by kernel_rfl)
def x320 : List D := [(D.str ⟨#[106, 116]⟩)]
theorem v312 : Ev ty tab 45 x320 x22 := Ev.row (f := c_cmp_isNaN) (by kernel_rfl) [] trivial 400 (by kernel_rfl)
def x321 : List D := [(D.str ⟨#[106, 116]⟩), (D.str ⟨#[122, 122]⟩)]
theorem v313 : Ev ty tab 32 x321 x39 := Ev.row (f := c_cmp_Compare) (by kernel_rfl) [(45, x320, x22), (45, x302, x22)] ⟨v312, v294, trivial⟩ 400 (by kernel_rfl)
def x322 : List D := [a125, (D.str ⟨#[122, 122]⟩)]
theorem v314 : Ev ty tab 47 x322 x39 := Ev.row (f := c_fresh_find_1) (by kernel_rfl) [(32, x321, x39)] ⟨v313, trivial⟩ 400 (by kernel_rfl)
def x323 : List D := [(D.sl 47 false [a212, a213, a214, a136, a137, a138, a139, a140, a141, a142, a143, a144, a145, a146, a147, a148, a149, a150, a151, a152, a215, a216, a217, a153, a154, a155, a156, a157, a158, a159, a160, a161, a162, a163, a164, a165, a166, a167, a168, a169, a218, a219, a220, a170, a171, a172, a173, a174, a175, a176, a177, a178, a179, a180, a181, a182, a183, a184, a185, a186, a187, a188, a189, a7, a8, a9, a10, a11, a12, a13, a14, a15, a16, a17, a18, a19, a20, a21, a22, a23, a190, a191, a192, a24, a25, a26, a27, a28, a29, a30, a31, a32, a33, a34, a35, a36, a37, a38, a39, a40, a193, a194, a195, a41, a42, a43, a44, a45, a46, a47, a48, a49, a50, a51, a52, a53, a54, a55, a56, a57, a196, a197, a198, a58, a59, a60, a61, a62, a63, a64, a65, a66, a67, a68, a69, a70, a71, a72, a73, a74, a199, a200, a201, a75, a76, a77, a78, a79, a80, a81, a82, a83, a84, a85, a86, a87, a88, a89, a90, a91, a202, a203, a204, a92, a93, a94, a95, a96, a97, a98, a99, a100, a101, a102, a103, a104, a105, a106, a107, a108, a205, a206, a207, a109, a110, a111, a112, a113, a114, a115, a116, a117, a118, a119, a120, a121, a122, a123, a124, a125]), (D.str ⟨#[122, 122]⟩), (D.fn 47 [])]
def x324 : List D := [(D.int .i64 200), (D.bool false)]
theorem v315 : Ev ty tab 46 x323 x324 := Ev.row (f := c_slices_BinarySearchFunc) (by kernel_rfl) [(47, x304, x39), (47, x307, x39), (47, x310, x39), (47, x313, x39), (47, x316, x39), (47, x319, x39), (47, x322, x39)] ⟨v296, v299, v302, v305, v308, v311, v314, trivial⟩ 400 (by kernel_rfl)
def x325 : List D := [(D.sl 47 false [a212, a213, a214, a136, a137, a138, a139, a140, a141, a142, a143, a144, a145, a146, a147, a148, a149, a150, a151, a152, a215, a216, a217, a153, a154, a155, a156, a157, a158, a159, a160, a161, a162, a163, a164, a165, a166, a167, a168, a169, a218, a219, a220, a170, a171, a172, a173, a174, a175, a176, a177, a178, a179, a180, a181, a182, a183, a184, a185, a186, a187, a188, a189, a7, a8, a9, a10, a11, a12, a13, a14, a15, a16, a17, a18, a19, a20, a21, a22, a23, a190, a191, a192, a24, a25, a26, a27, a28, a29, a30, a31, a32, a33, a34, a35, a36, a37, a38, a39, a40, a193, a194, a195, a41, a42, a43, a44, a45, a46, a47, a48, a49, a50, a51, a52, a53, a54, a55, a56, a57, a196, a197, a198, a58, a59, a60, a61, a62, a63, a64, a65, a66, a67, a68, a69, a70, a71, a72, a73, a74, a199, a200, a201, a75, a76, a77, a78, a79, a80, a81, a82, a83, a84, a85, a86, a87, a88, a89, a90, a91, a202, a203, a204, a92, a93, a94, a95, a96, a97, a98, a99, a100, a101, a102, a103, a104, a105, a106, a107, a108, a205, a206, a207, a109, a110, a111, a112, a113, a114, a115, a116, a117, a118, a119, a120, a121, a122, a123, a124, a125]), (D.str ⟨#[122, 122]⟩)]
theorem v316 : Ev ty tab 37 x325 x324 := Ev.row (f := c_fresh_find) (by kernel_rfl) [(46, x323, x324)] ⟨v315, trivial⟩ 400 (by kernel_rfl)
def x326 : List D := [(D.ov 47 false [a212, a213, a214, a136, a137, a138, a139, a140, a141, a142, a143, a144, a145, a146, a147, a148, a149, a150, a151, a152, a215, a216, a217, a153, a154, a155, a156, a157, a158, a159, a160, a161, a162, a163, a164, a165, a166, a167, a168, a169, a218, a219, a220, a170, a171, a172, a173, a174, a175, a176, a177, a178, a179, a180, a181, a182, a183, a184, a185, a186, a187, a188, a189, a7, a8, a9, a10, a11, a12, a13, a14, a15, a16, a17, a18, a19, a20, a21, a22, a23, a190, a191, a192, a24, a25, a26, a27, a28, a29, a30, a31, a32, a33, a34, a35, a36, a37, a38, a39, a40, a193, a194, a195, a41, a42, a43, a44, a45, a46, a47, a48, a49, a50, a51, a52, a53, a54, a55, a56, a57, a196, a197, a198, a58, a59, a60, a61, a62, a63, a64, a65, a66, a67, a68, a69, a70, a71, a72, a73, a74, a199, a200, a201, a75, a76, a77, a78, a79, a80, a81, a82, a83, a84, a85, a86, a87, a88, a89, a90, a91, a202, a203, a204, a92, a93, a94, a95, a96, a97, a98, a99, a100, a101, a102, a103, a104, a105, a106, a107, a108, a205, a206, a207, a109, a110, a111, a112, a113, a114, a115, a116, a117, a118, a119, a120, a121, a122, a123, a124, a125])]
theorem v317 : Ev ty tab 39 x300 x326 := Ev.row (f := c_slices_Clone) (by kernel_rfl) [] trivial 400 (by kernel_rfl)
def x327 : List D := [(D.sl 47 false [a212, a213, a214, a136, a137, a138, a139, a140, a141, a142, a143, a144, a145, a146, a147, a148, a149, a150, a151, a152, a215, a216, a217, a153, a154, a155, a156, a157, a158, a159, a160, a161, a162, a163, a164, a165, a166, a167, a168, a169, a218, a219, a220, a170, a171, a172, a173, a174, a175, a176, a177, a178, a179, a180, a181, a182, a183, a184, a185, a186, a187, a188, a189, a7, a8, a9, a10, a11, a12, a13, a14, a15, a16, a17, a18, a19, a20, a21, a22, a23, a190, a191, a192, a24, a25, a26, a27, a28, a29, a30, a31, a32, a33, a34, a35, a36, a37, a38, a39, a40, a193, a194, a195, a41, a42, a43, a44, a45, a46, a47, a48, a49, a50, a51, a52, a53, a54, a55, a56, a57, a196, a197, a198, a58, a59, a60, a61, a62, a63, a64, a65, a66, a67, a68, a69, a70, a71, a72, a73, a74, a199, a200, a201, a75, a76, a77, a78, a79, a80, a81, a82, a83, a84, a85, a86, a87, a88, a89, a90, a91, a202, a203, a204, a92, a93, a94, a95, a96, a97, a98, a99, a100, a101, a102, a103, a104, a105, a106, a107, a108, a205, a206, a207, a109, a110, a111, a112, a113, a114, a115, a116, a117, a118, a119, a120, a121, a122, a123, a124, a125]), a126, (D.int .i64 5)]
def x328 : List D := [(D.ov 47 true []), (D.int .u8 0), (D.int .i64 16)]
theorem v318 : Ev ty tab 22 x327 x328 := Ev.row (f := c_fresh_Look) (by kernel_rfl) [(19, x300, x2), (35, x299, x4), (40, [a126], x4), (37, x325, x324), (39, x300, x326)] ⟨v291, v290, v292, v316, v317, trivial⟩ 400 (by kernel_rfl)
def x329 : List D := [(D.str ⟨#[122, 122]⟩), (D.int .u64 1), (D.int .u8 1), (D.int .i64 6), (D.int .i64 10), (D.int .i64 5)]
theorem v319 : Ev ty tab 28 x329 [a127] := Ev.row (f := c_gatepathlaw29_manifest) (by kernel_rfl) [] trivial 400 (by kernel_rfl)
def x330 : List D := [(D.int .i64 6)]
theorem v320 : Ev ty tab 35 x330 x4 := Ev.row (f := c_fresh_moment) (by kernel_rfl) [] trivial 400 (by kernel_rfl)
theorem v321 : Ev ty tab 40 [a127] x4 := Ev.row (f := c_fresh_right) (by kernel_rfl) [(35, x330, x4), (35, x298, x4), (35, x299, x4)] ⟨v320, v289, v290, trivial⟩ 400 (by kernel_rfl)
def x331 : List D := [(D.sl 47 false [a212, a213, a214, a136, a137, a138, a139, a140, a141, a142, a143, a144, a145, a146, a147, a148, a149, a150, a151, a152, a215, a216, a217, a153, a154, a155, a156, a157, a158, a159, a160, a161, a162, a163, a164, a165, a166, a167, a168, a169, a218, a219, a220, a170, a171, a172, a173, a174, a175, a176, a177, a178, a179, a180, a181, a182, a183, a184, a185, a186, a187, a188, a189, a7, a8, a9, a10, a11, a12, a13, a14, a15, a16, a17, a18, a19, a20, a21, a22, a23, a190, a191, a192, a24, a25, a26, a27, a28, a29, a30, a31, a32, a33, a34, a35, a36, a37, a38, a39, a40, a193, a194, a195, a41, a42, a43, a44, a45, a46, a47, a48, a49, a50, a51, a52, a53, a54, a55, a56, a57, a196, a197, a198, a58, a59, a60, a61, a62, a63, a64, a65, a66, a67, a68, a69, a70, a71, a72, a73, a74, a199, a200, a201, a75, a76, a77, a78, a79, a80, a81, a82, a83, a84, a85, a86, a87, a88, a89, a90, a91, a202, a203, a204, a92, a93, a94, a95, a96, a97, a98, a99, a100, a101, a102, a103, a104, a105, a106, a107, a108, a205, a206, a207, a109, a110, a111, a112, a113, a114, a115, a116, a117, a118, a119, a120, a121, a122, a123, a124, a125]), a127, (D.int .i64 5)]
def x332 : List D := [(D.ov 47 false [a212, a213, a214, a136, a137, a138, a139, a140, a141, a142, a143, a144, a145, a146, a147, a148, a149, a150, a151, a152, a215, a216, a217, a153, a154, a155, a156, a157, a158, a159, a160, a161, a162, a163, a164, a165, a166, a167, a168, a169, a218, a219, a220, a170, a171, a172, a173, a174, a175, a176, a177, a178, a179, a180, a181, a182, a183, a184, a185, a186, a187, a188, a189, a7, a8, a9, a10, a11, a12, a13, a14, a15, a16, a17, a18, a19, a20, a21, a22, a23, a190, a191, a192, a24, a25, a26, a27, a28, a29, a30, a31, a32, a33, a34, a35, a36, a37, a38, a39, a40, a193, a194, a195, a41, a42, a43, a44, a45, a46, a47, a48, a49, a50, a51, a52, a53, a54, a55, a56, a57, a196, a197, a198, a58, a59, a60, a61, a62, a63, a64, a65, a66, a67, a68, a69, a70, a71, a72, a73, a74, a199, a200, a201, a75, a76, a77, a78, a79, a80, a81, a82, a83, a84, a85, a86, a87, a88, a89, a90, a91, a202, a203, a204, a92, a93, a94, a95, a96, a97, a98, a99, a100, a101, a102, a103, a104, a105, a106, a107, a108, a205, a206, a207, a109, a110, a111, a112, a113, a114, a115, a116, a117, a118, a119, a120, a121, a122, a123, a124, a125]), (D.int .u8 7), (D.int .i64 0)]
theorem v322 : Ev ty tab 22 x331 x332 := Ev.row (f := c_fresh_Look) (by kernel_rfl) [(19, x300, x2), (35, x299, x4), (40, [a127], x4), (37, x325, x324), (39, x300, x326)] ⟨v291, v290, v321, v316, v317, trivial⟩ 400 (by kernel_rfl)
def x333 : List D := [(D.sl 47 false [a212, a213, a214, a136, a137, a138, a139, a140, a141, a142, a143, a144, a145, a146, a147, a148, a149, a150, a151, a152, a215, a216, a217, a153, a154, a155, a156, a157, a158, a159, a160, a161, a162, a163, a164, a165, a166, a167, a168, a169, a218, a219, a220, a170, a171, a172, a173, a174, a175, a176, a177, a178, a179, a180, a181, a182, a183, a184, a185, a186, a187, a188, a189, a7, a8, a9, a10, a11, a12, a13, a14, a15, a16, a17, a18, a19, a20, a21, a22, a23, a190, a191, a192, a24, a25, a26, a27, a28, a29, a30, a31, a32, a33, a34, a35, a36, a37, a38, a39, a40, a193, a194, a195, a41, a42, a43, a44, a45, a46, a47, a48, a49, a50, a51, a52, a53, a54, a55, a56, a57, a196, a197, a198, a58, a59, a60, a61, a62, a63, a64, a65, a66, a67, a68, a69, a70, a71, a72, a73, a74, a199, a200, a201, a75, a76, a77, a78, a79, a80, a81, a82, a83, a84, a85, a86, a87, a88, a89, a90, a91, a202, a203, a204, a92, a93, a94, a95, a96, a97, a98, a99, a100, a101, a102, a103, a104, a105, a106, a107, a108, a205, a206, a207, a109, a110, a111, a112, a113, a114, a115, a116, a117, a118, a119, a120, a121, a122, a123, a124, a125]), a127, (D.int .u8 7)]
def x334 : List D := [(D.ov 47 false [a212, a213, a214, a136, a137, a138, a139, a140, a141, a142, a143, a144, a145, a146, a147, a148, a149, a150, a151, a152, a215, a216, a217, a153, a154, a155, a156, a157, a158, a159, a160, a161, a162, a163, a164, a165, a166, a167, a168, a169, a218, a219, a220, a170, a171, a172, a173, a174, a175, a176, a177, a178, a179, a180, a181, a182, a183, a184, a185, a186, a187, a188, a189, a7, a8, a9, a10, a11, a12, a13, a14, a15, a16, a17, a18, a19, a20, a21, a22, a23, a190, a191, a192, a24, a25, a26, a27, a28, a29, a30, a31, a32, a33, a34, a35, a36, a37, a38, a39, a40, a193, a194, a195, a41, a42, a43, a44, a45, a46, a47, a48, a49, a50, a51, a52, a53, a54, a55, a56, a57, a196, a197, a198, a58, a59, a60, a61, a62, a63, a64, a65, a66, a67, a68, a69, a70, a71, a72, a73, a74, a199, a200, a201, a75, a76, a77, a78, a79, a80, a81, a82, a83, a84, a85, a86, a87, a88, a89, a90, a91, a202, a203, a204, a92, a93, a94, a95, a96, a97, a98, a99, a100, a101, a102, a103, a104, a105, a106, a107, a108, a205, a206, a207, a109, a110, a111, a112, a113, a114, a115, a116, a117, a118, a119, a120, a121, a122, a123, a124, a125]), (D.bool true)]
theorem v323 : Ev ty tab 27 x333 x334 := Ev.row (f := c_gatepathlaw29_look) (by kernel_rfl) [(22, x331, x332)] ⟨v322, trivial⟩ 400 (by kernel_rfl)
def x335 : List D := [(D.ov 47 true []), (D.int .i64 6)]
theorem v324 : Ev ty tab 17 x79 x335 := Ev.row (f := c_fresh_Forget) (by kernel_rfl) [(19, x35, x2), (37, x79, x78)] ⟨v28, v68, trivial⟩ 400 (by kernel_rfl)
def x336 : List D := [(D.str ⟨#[97]⟩), (D.str ⟨#[97]⟩)]
theorem v325 : Ev ty tab 32 x336 x2 := Ev.row (f := c_cmp_Compare) (by kernel_rfl) [(45, x23, x22)] ⟨v19, trivial⟩ 400 (by kernel_rfl)
def x337 : List D := [a5, (D.str ⟨#[97]⟩)]
theorem v326 : Ev ty tab 47 x337 x2 := Ev.row (f := c_fresh_find_1) (by kernel_rfl) [(32, x336, x2)] ⟨v325, trivial⟩ 400 (by kernel_rfl)
def x338 : List D := [(D.sl 47 false [a5, a128]), (D.str ⟨#[97]⟩), (D.fn 47 [])]
def x339 : List D := [(D.int .i64 0), (D.bool true)]
theorem v327 : Ev ty tab 46 x338 x339 := Ev.row (f := c_slices_BinarySearchFunc) (by kernel_rfl) [(47, x26, x25), (47, x337, x2)] ⟨v21, v326, trivial⟩ 400 (by kernel_rfl)
def x340 : List D := [(D.sl 47 false [a5, a128]), (D.str ⟨#[97]⟩)]
theorem v328 : Ev ty tab 37 x340 x339 := Ev.row (f := c_fresh_find) (by kernel_rfl) [(46, x338, x339)] ⟨v327, trivial⟩ 400 (by kernel_rfl)
def x341 : List D := [(D.ov 47 false [a5, a128]), (D.int .i64 0), (D.int .i64 1)]
theorem v329 : Ev ty tab 38 x341 x12 := Ev.row (f := c_slices_Delete) (by kernel_rfl) [] trivial 400 (by kernel_rfl)
def x342 : List D := [(D.ov 47 false [a128]), (D.int .i64 0)]
theorem v330 : Ev ty tab 17 x340 x342 := Ev.row (f := c_fresh_Forget) (by kernel_rfl) [(19, x35, x2), (37, x340, x339), (39, x35, x30), (38, x341, x12)] ⟨v28, v328, v35, v329, trivial⟩ 400 (by kernel_rfl)
def x343 : List D := [(D.sl 47 false [a5, a128]), (D.int .i64 (-1)), (D.int .i64 0)]
def x344 : List D := [(D.ov 9 true []), (D.int .i64 2)]
theorem v331 : Ev ty tab 15 x343 x344 := Ev.row (f := c_fresh_Late) (by kernel_rfl) [(19, x35, x2), (35, x39, x22)] ⟨v28, v86, trivial⟩ 400 (by kernel_rfl)
def x345 : List D := [a5, (D.rp [(D.int .i64 160)] 0), (D.rp [(D.int .i64 0)] 0)]
theorem v332 : Ev ty tab 36 x345 x22 := Ev.row (f := c_fresh_Late_1) (by kernel_rfl) [] trivial 400 (by kernel_rfl)
def x346 : List D := [a128, (D.rp [(D.int .i64 160)] 0), (D.rp [(D.int .i64 0)] 0)]
theorem v333 : Ev ty tab 36 x346 x4 := Ev.row (f := c_fresh_Late_1) (by kernel_rfl) [] trivial 400 (by kernel_rfl)
def x347 : List D := [(D.sl 47 false [a5, a128]), (D.int .i64 160), (D.int .i64 0)]
def x348 : List D := [(D.ov 9 false [(D.str ⟨#[98]⟩)]), (D.int .i64 0)]
theorem v334 : Ev ty tab 15 x347 x348 := Ev.row (f := c_fresh_Late) (by kernel_rfl) [(19, x35, x2), (35, x19, x4), (35, x2, x4), (36, x345, x22), (36, x346, x4)] ⟨v28, v14, v15, v332, v333, trivial⟩ 400 (by kernel_rfl)
def x349 : List D := [(D.str ⟨#[98]⟩), (D.int .u64 5), (D.int .u8 2), (D.int .i64 100), (D.int .i64 200), (D.int .i64 150)]
theorem v335 : Ev ty tab 28 x349 [a208] := Ev.row (f := c_gatepathlaw29_manifest) (by kernel_rfl) [] trivial 400 (by kernel_rfl)
theorem v336 : Ev ty tab 40 [a208] x4 := Ev.row (f := c_fresh_right) (by kernel_rfl) [(35, x5, x4), (35, x6, x4), (35, x3, x4)] ⟨v3, v4, v2, trivial⟩ 400 (by kernel_rfl)
def x350 : List D := [(D.sl 47 false [a208])]
theorem v337 : Ev ty tab 19 x350 x2 := Ev.row (f := c_fresh_Check) (by kernel_rfl) [(40, [a208], x4)] ⟨v336, trivial⟩ 400 (by kernel_rfl)
theorem v338 : Ev ty tab 31 [a5, a208] x39 := Ev.row (f := c_fresh_Merge_2) (by kernel_rfl) [(32, x38, x39)] ⟨v31, trivial⟩ 400 (by kernel_rfl)
def x351 : List D := [a128, a208]
theorem v339 : Ev ty tab 31 x351 x2 := Ev.row (f := c_fresh_Merge_2) (by kernel_rfl) [(32, x36, x2)] ⟨v29, trivial⟩ 400 (by kernel_rfl)
def x352 : List D := [a128, (D.bool false)]
theorem v340 : Ev ty tab 29 x351 x352 := Ev.row (f := c_fresh_Merge_1) (by kernel_rfl) [] trivial 400 (by kernel_rfl)
def x353 : List D := [(D.sl 47 false [a5, a128]), (D.sl 47 false [a208]), (D.fn 31 []), (D.fn 29 [])]
def x354 : List D := [(D.ov 47 true []), (D.bool false)]
theorem v341 : Ev ty tab 30 x353 x354 := Ev.row (f := c_fresh_zip) (by kernel_rfl) [(31, [a5, a208], x39), (31, x351, x2), (29, x351, x352)] ⟨v338, v339, v340, trivial⟩ 400 (by kernel_rfl)
def x355 : List D := [(D.sl 47 false [a5, a128]), (D.sl 47 false [a208])]
def x356 : List D := [(D.ov 47 true []), (D.int .i64 14)]
theorem v342 : Ev ty tab 12 x355 x356 := Ev.row (f := c_fresh_Merge) (by kernel_rfl) [(19, x35, x2), (19, x350, x2), (30, x353, x354)] ⟨v28, v337, v341, trivial⟩ 400 (by kernel_rfl)
def x357 : List D := [(D.str ⟨#[97]⟩), (D.int .u64 1), (D.int .u8 2), (D.int .i64 0), (D.int .i64 1), (D.int .i64 1)]
theorem v343 : Ev ty tab 28 x357 [a223] := Ev.row (f := c_gatepathlaw29_manifest) (by kernel_rfl) [] trivial 400 (by kernel_rfl)
def x358 : List D := [(D.str ⟨#[98]⟩), (D.int .u64 5), (D.int .u8 1), (D.int .i64 100), (D.int .i64 200), (D.int .i64 151)]
theorem v344 : Ev ty tab 28 x358 [a209] := Ev.row (f := c_gatepathlaw29_manifest) (by kernel_rfl) [] trivial 400 (by kernel_rfl)
def x359 : List D := [(D.str ⟨#[99]⟩), (D.int .u64 1), (D.int .u8 1), (D.int .i64 0), (D.int .i64 0), (D.int .i64 0)]
theorem v345 : Ev ty tab 28 x359 [a224] := Ev.row (f := c_gatepathlaw29_manifest) (by kernel_rfl) [] trivial 400 (by kernel_rfl)
theorem v346 : Ev ty tab 35 x25 x4 := Ev.row (f := c_fresh_moment) (by kernel_rfl) [] trivial 400 (by kernel_rfl)
theorem v347 : Ev ty tab 40 [a223] x4 := Ev.row (f := c_fresh_right) (by kernel_rfl) [(35, x2, x4), (35, x25, x4)] ⟨v15, v346, trivial⟩ 400 (by kernel_rfl)
theorem v348 : Ev ty tab 40 [a209] x4 := Ev.row (f := c_fresh_right) (by kernel_rfl) [(35, x5, x4), (35, x6, x4), (35, x88, x4)] ⟨v3, v4, v76, trivial⟩ 400 (by kernel_rfl)
theorem v349 : Ev ty tab 40 [a224] x4 := Ev.row (f := c_fresh_right) (by kernel_rfl) [(35, x2, x4)] ⟨v15, trivial⟩ 400 (by kernel_rfl)
def x360 : List D := [(D.sl 47 false [a223, a209, a224])]
theorem v350 : Ev ty tab 19 x360 x2 := Ev.row (f := c_fresh_Check) (by kernel_rfl) [(40, [a223], x4), (40, [a209], x4), (40, [a224], x4)] ⟨v347, v348, v349, trivial⟩ 400 (by kernel_rfl)
theorem v351 : Ev ty tab 31 [a5, a223] x2 := Ev.row (f := c_fresh_Merge_2) (by kernel_rfl) [(32, x336, x2)] ⟨v325, trivial⟩ 400 (by kernel_rfl)
def x361 : List D := [a223, (D.bool true)]
theorem v352 : Ev ty tab 29 [a5, a223] x361 := Ev.row (f := c_fresh_Merge_1) (by kernel_rfl) [] trivial 400 (by kernel_rfl)
def x362 : List D := [a128, a209]
theorem v353 : Ev ty tab 31 x362 x2 := Ev.row (f := c_fresh_Merge_2) (by kernel_rfl) [(32, x36, x2)] ⟨v29, trivial⟩ 400 (by kernel_rfl)
def x363 : List D := [a209, (D.bool true)]
theorem v354 : Ev ty tab 29 x362 x363 := Ev.row (f := c_fresh_Merge_1) (by kernel_rfl) [] trivial 400 (by kernel_rfl)
def x364 : List D := [(D.sl 47 false [a5, a128]), (D.sl 47 false [a223, a209, a224]), (D.fn 31 []), (D.fn 29 [])]
def x365 : List D := [(D.ov 47 false [a223, a209, a224]), (D.bool true)]
theorem v355 : Ev ty tab 30 x364 x365 := Ev.row (f := c_fresh_zip) (by kernel_rfl) [(31, [a5, a223], x2), (29, [a5, a223], x361), (31, x362, x2), (29, x362, x363)] ⟨v351, v352, v353, v354, trivial⟩ 400 (by kernel_rfl)
def x366 : List D := [(D.sl 47 false [a5, a128]), (D.sl 47 false [a223, a209, a224])]
def x367 : List D := [(D.ov 47 false [a223, a209, a224]), (D.int .i64 0)]
theorem v356 : Ev ty tab 12 x366 x367 := Ev.row (f := c_fresh_Merge) (by kernel_rfl) [(19, x35, x2), (19, x360, x2), (30, x364, x365)] ⟨v28, v350, v355, trivial⟩ 400 (by kernel_rfl)
def x368 : List D := [(D.sl 47 false [a126])]
theorem v357 : Ev ty tab 19 x368 x2 := Ev.row (f := c_fresh_Check) (by kernel_rfl) [(40, [a126], x4)] ⟨v292, trivial⟩ 400 (by kernel_rfl)
def x369 : List D := [(D.sl 47 false [a212, a213, a214, a136, a137, a138, a139, a140, a141, a142, a143, a144, a145, a146, a147, a148, a149, a150, a151, a152, a215, a216, a217, a153, a154, a155, a156, a157, a158, a159, a160, a161, a162, a163, a164, a165, a166, a167, a168, a169, a218, a219, a220, a170, a171, a172, a173, a174, a175, a176, a177, a178, a179, a180, a181, a182, a183, a184, a185, a186, a187, a188, a189, a7, a8, a9, a10, a11, a12, a13, a14, a15, a16, a17, a18, a19, a20, a21, a22, a23, a190, a191, a192, a24, a25, a26, a27, a28, a29, a30, a31, a32, a33, a34, a35, a36, a37, a38, a39, a40, a193, a194, a195, a41, a42, a43, a44, a45, a46, a47, a48, a49, a50, a51, a52, a53, a54, a55, a56, a57, a196, a197, a198, a58, a59, a60, a61, a62, a63, a64, a65, a66, a67, a68, a69, a70, a71, a72, a73, a74, a199, a200, a201, a75, a76, a77, a78, a79, a80, a81, a82, a83, a84, a85, a86, a87, a88, a89, a90, a91, a202, a203, a204, a92, a93, a94, a95, a96, a97, a98, a99, a100, a101, a102, a103, a104, a105, a106, a107, a108, a205, a206, a207, a109, a110, a111, a112, a113, a114, a115, a116, a117, a118, a119, a120, a121, a122, a123, a124, a125]), (D.sl 47 false [a126]), (D.fn 31 []), (D.fn 29 [])]
def x370 : List D := [(D.ov 47 false [a212, a213, a214, a136, a137, a138, a139, a140, a141, a142, a143, a144, a145, a146, a147, a148, a149, a150, a151, a152, a215, a216, a217, a153, a154, a155, a156, a157, a158, a159, a160, a161, a162, a163, a164, a165, a166, a167, a168, a169, a218, a219, a220, a170, a171, a172, a173, a174, a175, a176, a177, a178, a179, a180, a181, a182, a183, a184, a185, a186, a187, a188, a189, a7, a8, a9, a10, a11, a12, a13, a14, a15, a16, a17, a18, a19, a20, a21, a22, a23, a190, a191, a192, a24, a25, a26, a27, a28, a29, a30, a31, a32, a33, a34, a35, a36, a37, a38, a39, a40, a193, a194, a195, a41, a42, a43, a44, a45, a46, a47, a48, a49, a50, a51, a52, a53, a54, a55, a56, a57, a196, a197, a198, a58, a59, a60, a61, a62, a63, a64, a65, a66, a67, a68, a69, a70, a71, a72, a73, a74, a199, a200, a201, a75, a76, a77, a78, a79, a80, a81, a82, a83, a84, a85, a86, a87, a88, a89, a90, a91, a202, a203, a204, a92, a93, a94, a95, a96, a97, a98, a99, a100, a101, a102, a103, a104, a105, a106, a107, a108, a205, a206, a207, a109, a110, a111, a112, a113, a114, a115, a116, a117, a118, a119, a120, a121, a122, a123, a124, a125, a126]), (D.bool true)]
theorem v358 : Ev ty tab 30 x369 x370 := zip_ev (by kernel_rfl) (by kernel_rfl) (by kernel_rfl) (by kernel_rfl)
def x371 : List D := [(D.sl 47 false [a212, a213, a214, a136, a137, a138, a139, a140, a141, a142, a143, a144, a145, a146, a147, a148, a149, a150, a151, a152, a215, a216, a217, a153, a154, a155, a156, a157, a158, a159, a160, a161, a162, a163, a164, a165, a166, a167, a168, a169, a218, a219, a220, a170, a171, a172, a173, a174, a175, a176, a177, a178, a179, a180, a181, a182, a183, a184, a185, a186, a187, a188, a189, a7, a8, a9, a10, a11, a12, a13, a14, a15, a16, a17, a18, a19, a20, a21, a22, a23, a190, a191, a192, a24, a25, a26, a27, a28, a29, a30, a31, a32, a33, a34, a35, a36, a37, a38, a39, a40, a193, a194, a195, a41, a42, a43, a44, a45, a46, a47, a48, a49, a50, a51, a52, a53, a54, a55, a56, a57, a196, a197, a198, a58, a59, a60, a61, a62, a63, a64, a65, a66, a67, a68, a69, a70, a71, a72, a73, a74, a199, a200, a201, a75, a76, a77, a78, a79, a80, a81, a82, a83, a84, a85, a86, a87, a88, a89, a90, a91, a202, a203, a204, a92, a93, a94, a95, a96, a97, a98, a99, a100, a101, a102, a103, a104, a105, a106, a107, a108, a205, a206, a207, a109, a110, a111, a112, a113, a114, a115, a116, a117, a118, a119, a120, a121, a122, a123, a124, a125]), (D.sl 47 false [a126])]
def x372 : List D := [(D.ov 47 true []), (D.int .i64 16)]
theorem v359 : Ev ty tab 12 x371 x372 := Ev.row (f := c_fresh_Merge) (by kernel_rfl) [(19, x300, x2), (19, x368, x2), (30, x369, x370)] ⟨v291, v357, v358, trivial⟩ 400 (by kernel_rfl)
def x373 : List D := [(D.sl 47 false [a128, a5])]
def x374 : List D := [(D.int .i64 8)]
theorem v360 : Ev ty tab 19 x373 x374 := Ev.row (f := c_fresh_Check) (by kernel_rfl) [(40, [a128], x4), (40, [a5], x4)] ⟨v5, v17, trivial⟩ 400 (by kernel_rfl)
def x375 : List D := [(D.sl 47 false [a5, a5])]
theorem v361 : Ev ty tab 19 x375 x374 := Ev.row (f := c_fresh_Check) (by kernel_rfl) [(40, [a5], x4)] ⟨v17, trivial⟩ 400 (by kernel_rfl)
def x376 : List D := [(D.str ⟨#[97, 32, 98]⟩), (D.int .u64 1), (D.int .u8 1), (D.int .i64 0), (D.int .i64 0), (D.int .i64 0)]
theorem v362 : Ev ty tab 28 x376 [a222] := Ev.row (f := c_gatepathlaw29_manifest) (by kernel_rfl) [] trivial 400 (by kernel_rfl)
theorem v363 : Ev ty tab 40 [a222] x22 := Ev.row (f := c_fresh_right) (by kernel_rfl) [] trivial 400 (by kernel_rfl)
def x377 : List D := [(D.sl 47 false [a222])]
theorem v364 : Ev ty tab 19 x377 x374 := Ev.row (f := c_fresh_Check) (by kernel_rfl) [(40, [a222], x22)] ⟨v363, trivial⟩ 400 (by kernel_rfl)
def x378 : List D := [(D.sl 47 false (List.replicate 201 (D.agg ([(D.str ⟨#[]⟩)] ++ [(D.int .u64 0)] ++ List.replicate 32 (D.int .u8 0) ++ [(D.int .i64 0), (D.int .i64 0), (D.int .i64 0)]))))]
def x379 : List D := [(D.int .i64 4)]
theorem v365 : Ev ty tab 19 x378 x379 := Ev.row (f := c_fresh_Check) (by kernel_rfl) [] trivial 400 (by kernel_rfl)
def x380 : List D := [(D.str ⟨#[97]⟩), (D.int .u64 1), (D.int .u8 1), (D.int .i64 0), (D.int .i64 1099511627777), (D.int .i64 0)]
theorem v366 : Ev ty tab 28 x380 [a6] := Ev.row (f := c_gatepathlaw29_manifest) (by kernel_rfl) [] trivial 400 (by kernel_rfl)
def x381 : List D := [(D.int .i64 1099511627777)]
theorem v367 : Ev ty tab 35 x381 x22 := Ev.row (f := c_fresh_moment) (by kernel_rfl) [] trivial 400 (by kernel_rfl)
theorem v368 : Ev ty tab 40 [a6] x22 := Ev.row (f := c_fresh_right) (by kernel_rfl) [(35, x2, x4), (35, x381, x22)] ⟨v15, v367, trivial⟩ 400 (by kernel_rfl)
def x382 : List D := [(D.sl 47 false [a6])]
theorem v369 : Ev ty tab 19 x382 x374 := Ev.row (f := c_fresh_Check) (by kernel_rfl) [(40, [a6], x22)] ⟨v368, trivial⟩ 400 (by kernel_rfl)
def x383 : List D := [(D.str ⟨#[114, 115, 121, 110, 99, 58, 47, 47, 97, 47]⟩), (D.int .u64 5), (D.int .u8 1), (D.int .i64 100), (D.int .i64 200), (D.int .i64 150)]
theorem v370 : Ev ty tab 28 x383 [a0] := Ev.row (f := c_gatepathlaw29_manifest) (by kernel_rfl) [] trivial 400 (by kernel_rfl)
theorem v371 : Ev ty tab 40 [a0] x4 := Ev.row (f := c_fresh_right) (by kernel_rfl) [(35, x5, x4), (35, x6, x4), (35, x3, x4)] ⟨v3, v4, v2, trivial⟩ 400 (by kernel_rfl)
def x384 : List D := [(D.sl 47 true []), (D.str ⟨#[114, 115, 121, 110, 99, 58, 47, 47, 97, 47]⟩), (D.fn 47 [])]
theorem v372 : Ev ty tab 46 x384 x8 := Ev.row (f := c_slices_BinarySearchFunc) (by kernel_rfl) [] trivial 400 (by kernel_rfl)
def x385 : List D := [(D.sl 47 true []), (D.str ⟨#[114, 115, 121, 110, 99, 58, 47, 47, 97, 47]⟩)]
theorem v373 : Ev ty tab 37 x385 x8 := Ev.row (f := c_fresh_find) (by kernel_rfl) [(46, x384, x8)] ⟨v372, trivial⟩ 400 (by kernel_rfl)
def x386 : List D := [(D.ov 47 true []), (D.int .i64 0), (D.ov 47 false [a0])]
def x387 : List D := [(D.ov 47 false [a0])]
theorem v374 : Ev ty tab 42 x386 x387 := Ev.told (s := ⟨[.g 47, .p, .g 47], [.o 47]⟩) (f := insSpec 47 80) (by kernel_rfl) (by kernel_rfl)
def x388 : List D := [(D.sl 47 true []), a0, (D.int .i64 150)]
def x389 : List D := [(D.ov 47 false [a0]), (D.int .u8 1), (D.int .i64 0)]
theorem v375 : Ev ty tab 22 x388 x389 := Ev.row (f := c_fresh_Look) (by kernel_rfl) [(19, x1, x2), (35, x3, x4), (40, [a0], x4), (37, x385, x8), (39, x1, x10), (42, x386, x387)] ⟨v1, v2, v371, v373, v8, v374, trivial⟩ 400 (by kernel_rfl)
def x390 : List D := [(D.sl 47 true []), a0, (D.int .u8 1)]
def x391 : List D := [(D.ov 47 false [a0]), (D.bool true)]
theorem v376 : Ev ty tab 27 x390 x391 := Ev.row (f := c_gatepathlaw29_look) (by kernel_rfl) [(22, x388, x389)] ⟨v375, trivial⟩ 400 (by kernel_rfl)
def x392 : List D := [(D.str ⟨#[114, 115, 121, 110, 99, 58, 47, 47, 97, 47]⟩), (D.int .u64 4), (D.int .u8 2), (D.int .i64 100), (D.int .i64 200), (D.int .i64 160)]
theorem v377 : Ev ty tab 28 x392 [a1] := Ev.row (f := c_gatepathlaw29_manifest) (by kernel_rfl) [] trivial 400 (by kernel_rfl)
def x393 : List D := [(D.sl 47 false [a0])]
theorem v378 : Ev ty tab 19 x393 x2 := Ev.row (f := c_fresh_Check) (by kernel_rfl) [(40, [a0], x4)] ⟨v371, trivial⟩ 400 (by kernel_rfl)
theorem v379 : Ev ty tab 40 [a1] x4 := Ev.row (f := c_fresh_right) (by kernel_rfl) [(35, x5, x4), (35, x6, x4), (35, x19, x4)] ⟨v3, v4, v14, trivial⟩ 400 (by kernel_rfl)
def x394 : List D := [(D.str ⟨#[114, 115, 121, 110, 99, 58, 47, 47, 97, 47]⟩)]
theorem v380 : Ev ty tab 45 x394 x22 := Ev.row (f := c_cmp_isNaN) (by kernel_rfl) [] trivial 400 (by kernel_rfl)
def x395 : List D := [(D.str ⟨#[114, 115, 121, 110, 99, 58, 47, 47, 97, 47]⟩), (D.str ⟨#[114, 115, 121, 110, 99, 58, 47, 47, 97, 47]⟩)]
theorem v381 : Ev ty tab 32 x395 x2 := Ev.row (f := c_cmp_Compare) (by kernel_rfl) [(45, x394, x22)] ⟨v380, trivial⟩ 400 (by kernel_rfl)
def x396 : List D := [a0, (D.str ⟨#[114, 115, 121, 110, 99, 58, 47, 47, 97, 47]⟩)]
theorem v382 : Ev ty tab 47 x396 x2 := Ev.row (f := c_fresh_find_1) (by kernel_rfl) [(32, x395, x2)] ⟨v381, trivial⟩ 400 (by kernel_rfl)
def x397 : List D := [(D.sl 47 false [a0]), (D.str ⟨#[114, 115, 121, 110, 99, 58, 47, 47, 97, 47]⟩), (D.fn 47 [])]
theorem v383 : Ev ty tab 46 x397 x339 := Ev.row (f := c_slices_BinarySearchFunc) (by kernel_rfl) [(47, x396, x2)] ⟨v382, trivial⟩ 400 (by kernel_rfl)
def x398 : List D := [(D.sl 47 false [a0]), (D.str ⟨#[114, 115, 121, 110, 99, 58, 47, 47, 97, 47]⟩)]
theorem v384 : Ev ty tab 37 x398 x339 := Ev.row (f := c_fresh_find) (by kernel_rfl) [(46, x397, x339)] ⟨v383, trivial⟩ 400 (by kernel_rfl)
theorem v385 : Ev ty tab 39 x393 x387 := Ev.row (f := c_slices_Clone) (by kernel_rfl) [] trivial 400 (by kernel_rfl)
def x399 : List D := [(D.int .u8 4)]
theorem v386 : Ev ty tab 43 [a1, a0] x399 := Ev.row (f := c_fresh_judge) (by kernel_rfl) [] trivial 400 (by kernel_rfl)
def x400 : List D := [(D.sl 47 false [a0]), a1, (D.int .i64 160)]
def x401 : List D := [(D.ov 47 false [a0]), (D.int .u8 4), (D.int .i64 0)]
theorem v387 : Ev ty tab 22 x400 x401 := Ev.row (f := c_fresh_Look) (by kernel_rfl) [(19, x393, x2), (35, x19, x4), (40, [a1], x4), (37, x398, x339), (39, x393, x387), (43, [a1, a0], x399)] ⟨v378, v14, v379, v384, v385, v386, trivial⟩ 400 (by kernel_rfl)
def x402 : List D := [(D.sl 47 false [a0]), a1, (D.int .u8 4)]
theorem v388 : Ev ty tab 27 x402 x391 := Ev.row (f := c_gatepathlaw29_look) (by kernel_rfl) [(22, x400, x401)] ⟨v387, trivial⟩ 400 (by kernel_rfl)
def x403 : List D := [(D.str ⟨#[114, 115, 121, 110, 99, 58, 47, 47, 97, 47]⟩), (D.int .u64 6), (D.int .u8 3), (D.int .i64 140), (D.int .i64 240), (D.int .i64 170)]
theorem v389 : Ev ty tab 28 x403 [a2] := Ev.row (f := c_gatepathlaw29_manifest) (by kernel_rfl) [] trivial 400 (by kernel_rfl)
def x404 : List D := [(D.int .i64 170)]
theorem v390 : Ev ty tab 35 x404 x4 := Ev.row (f := c_fresh_moment) (by kernel_rfl) [] trivial 400 (by kernel_rfl)
def x405 : List D := [(D.int .i64 140)]
theorem v391 : Ev ty tab 35 x405 x4 := Ev.row (f := c_fresh_moment) (by kernel_rfl) [] trivial 400 (by kernel_rfl)
def x406 : List D := [(D.int .i64 240)]
theorem v392 : Ev ty tab 35 x406 x4 := Ev.row (f := c_fresh_moment) (by kernel_rfl) [] trivial 400 (by kernel_rfl)
theorem v393 : Ev ty tab 40 [a2] x4 := Ev.row (f := c_fresh_right) (by kernel_rfl) [(35, x405, x4), (35, x406, x4), (35, x404, x4)] ⟨v391, v392, v390, trivial⟩ 400 (by kernel_rfl)
def x407 : List D := [(D.int .u8 3)]
theorem v394 : Ev ty tab 43 [a2, a0] x407 := Ev.row (f := c_fresh_judge) (by kernel_rfl) [] trivial 400 (by kernel_rfl)
def x408 : List D := [(D.sl 47 false [a0]), a2, (D.int .i64 170)]
def x409 : List D := [(D.ov 47 false [a2]), (D.int .u8 3), (D.int .i64 0)]
theorem v395 : Ev ty tab 22 x408 x409 := Ev.row (f := c_fresh_Look) (by kernel_rfl) [(19, x393, x2), (35, x404, x4), (40, [a2], x4), (37, x398, x339), (39, x393, x387), (43, [a2, a0], x407)] ⟨v378, v390, v393, v384, v385, v394, trivial⟩ 400 (by kernel_rfl)
def x410 : List D := [(D.sl 47 false [a0]), a2, (D.int .u8 3)]
def x411 : List D := [(D.ov 47 false [a2]), (D.bool true)]
theorem v396 : Ev ty tab 27 x410 x411 := Ev.row (f := c_gatepathlaw29_look) (by kernel_rfl) [(22, x408, x409)] ⟨v395, trivial⟩ 400 (by kernel_rfl)
def x412 : List D := [(D.str ⟨#[114, 115, 121, 110, 99, 58, 47, 47, 97, 47]⟩), (D.int .u64 6), (D.int .u8 4), (D.int .i64 140), (D.int .i64 240), (D.int .i64 180)]
theorem v397 : Ev ty tab 28 x412 [a3] := Ev.row (f := c_gatepathlaw29_manifest) (by kernel_rfl) [] trivial 400 (by kernel_rfl)
def x413 : List D := [(D.sl 47 false [a2])]
theorem v398 : Ev ty tab 19 x413 x2 := Ev.row (f := c_fresh_Check) (by kernel_rfl) [(40, [a2], x4)] ⟨v393, trivial⟩ 400 (by kernel_rfl)
theorem v399 : Ev ty tab 40 [a3] x4 := Ev.row (f := c_fresh_right) (by kernel_rfl) [(35, x405, x4), (35, x406, x4), (35, x69, x4)] ⟨v391, v392, v58, trivial⟩ 400 (by kernel_rfl)
def x414 : List D := [a2, (D.str ⟨#[114, 115, 121, 110, 99, 58, 47, 47, 97, 47]⟩)]
theorem v400 : Ev ty tab 47 x414 x2 := Ev.row (f := c_fresh_find_1) (by kernel_rfl) [(32, x395, x2)] ⟨v381, trivial⟩ 400 (by kernel_rfl)
def x415 : List D := [(D.sl 47 false [a2]), (D.str ⟨#[114, 115, 121, 110, 99, 58, 47, 47, 97, 47]⟩), (D.fn 47 [])]
theorem v401 : Ev ty tab 46 x415 x339 := Ev.row (f := c_slices_BinarySearchFunc) (by kernel_rfl) [(47, x414, x2)] ⟨v400, trivial⟩ 400 (by kernel_rfl)
def x416 : List D := [(D.sl 47 false [a2]), (D.str ⟨#[114, 115, 121, 110, 99, 58, 47, 47, 97, 47]⟩)]
theorem v402 : Ev ty tab 37 x416 x339 := Ev.row (f := c_fresh_find) (by kernel_rfl) [(46, x415, x339)] ⟨v401, trivial⟩ 400 (by kernel_rfl)
def x417 : List D := [(D.ov 47 false [a2])]
theorem v403 : Ev ty tab 39 x413 x417 := Ev.row (f := c_slices_Clone) (by kernel_rfl) [] trivial 400 (by kernel_rfl)
theorem v404 : Ev ty tab 43 [a3, a2] x52 := Ev.row (f := c_fresh_judge) (by kernel_rfl) [] trivial 400 (by kernel_rfl)
def x418 : List D := [(D.sl 47 false [a2]), a3, (D.int .i64 180)]
def x419 : List D := [(D.ov 47 false [a2]), (D.int .u8 5), (D.int .i64 0)]
theorem v405 : Ev ty tab 22 x418 x419 := Ev.row (f := c_fresh_Look) (by kernel_rfl) [(19, x413, x2), (35, x69, x4), (40, [a3], x4), (37, x416, x339), (39, x413, x417), (43, [a3, a2], x52)] ⟨v398, v58, v399, v402, v403, v404, trivial⟩ 400 (by kernel_rfl)
def x420 : List D := [(D.sl 47 false [a2]), a3, (D.int .u8 5)]
theorem v406 : Ev ty tab 27 x420 x411 := Ev.row (f := c_gatepathlaw29_look) (by kernel_rfl) [(22, x418, x419)] ⟨v405, trivial⟩ 400 (by kernel_rfl)
def x421 : List D := [(D.str ⟨#[114, 115, 121, 110, 99, 58, 47, 47, 97, 47]⟩), (D.int .u64 6), (D.int .u8 3), (D.int .i64 140), (D.int .i64 240), (D.int .i64 250)]
theorem v407 : Ev ty tab 28 x421 [a4] := Ev.row (f := c_gatepathlaw29_manifest) (by kernel_rfl) [] trivial 400 (by kernel_rfl)
def x422 : List D := [(D.int .i64 250)]
theorem v408 : Ev ty tab 35 x422 x4 := Ev.row (f := c_fresh_moment) (by kernel_rfl) [] trivial 400 (by kernel_rfl)
theorem v409 : Ev ty tab 40 [a4] x4 := Ev.row (f := c_fresh_right) (by kernel_rfl) [(35, x405, x4), (35, x406, x4), (35, x422, x4)] ⟨v391, v392, v408, trivial⟩ 400 (by kernel_rfl)
def x423 : List D := [(D.sl 47 false [a2]), a4, (D.int .i64 250)]
def x424 : List D := [(D.ov 47 false [a2]), (D.int .u8 6), (D.int .i64 0)]
theorem v410 : Ev ty tab 22 x423 x424 := Ev.row (f := c_fresh_Look) (by kernel_rfl) [(19, x413, x2), (35, x422, x4), (40, [a4], x4), (37, x416, x339), (39, x413, x417)] ⟨v398, v408, v409, v402, v403, trivial⟩ 400 (by kernel_rfl)
def x425 : List D := [(D.sl 47 false [a2]), a4, (D.int .u8 6)]
theorem v411 : Ev ty tab 27 x425 x411 := Ev.row (f := c_gatepathlaw29_look) (by kernel_rfl) [(22, x423, x424)] ⟨v410, trivial⟩ 400 (by kernel_rfl)
def x426 : List D := [(D.int .i64 1000)]
theorem v412 : Ev ty tab 35 x426 x4 := Ev.row (f := c_fresh_moment) (by kernel_rfl) [] trivial 400 (by kernel_rfl)
def x427 : List D := [a2, (D.rp [(D.int .i64 250)] 0), (D.rp [(D.int .i64 1000)] 0)]
theorem v413 : Ev ty tab 36 x427 x4 := Ev.row (f := c_fresh_Late_1) (by kernel_rfl) [] trivial 400 (by kernel_rfl)
def x428 : List D := [(D.sl 47 false [a2]), (D.int .i64 250), (D.int .i64 1000)]
def x429 : List D := [(D.ov 9 false [(D.str ⟨#[114, 115, 121, 110, 99, 58, 47, 47, 97, 47]⟩)]), (D.int .i64 0)]
theorem v414 : Ev ty tab 15 x428 x429 := Ev.row (f := c_fresh_Late) (by kernel_rfl) [(19, x413, x2), (35, x422, x4), (35, x426, x4), (36, x427, x4)] ⟨v398, v408, v412, v413, trivial⟩ 400 (by kernel_rfl)
def x430 : List D := [a2, (D.rp [(D.int .i64 240)] 0), (D.rp [(D.int .i64 1000)] 0)]
theorem v415 : Ev ty tab 36 x430 x22 := Ev.row (f := c_fresh_Late_1) (by kernel_rfl) [] trivial 400 (by kernel_rfl)
def x431 : List D := [(D.sl 47 false [a2]), (D.int .i64 240), (D.int .i64 1000)]
def x432 : List D := [(D.ov 9 true []), (D.int .i64 0)]
theorem v416 : Ev ty tab 15 x431 x432 := Ev.row (f := c_fresh_Late) (by kernel_rfl) [(19, x413, x2), (35, x406, x4), (35, x426, x4), (36, x430, x22)] ⟨v398, v392, v412, v415, trivial⟩ 400 (by kernel_rfl)
def x433 : List D := [(D.sl 47 false [a0]), (D.sl 47 false [a0])]
theorem v417 : Ev ty tab 14 x433 x4 := Ev.row (f := c_gatepathref29_Same) (by kernel_rfl) [] trivial 400 (by kernel_rfl)
def x434 : List D := [(D.sl 47 false [a2]), (D.sl 47 false [a2])]
theorem v418 : Ev ty tab 14 x434 x4 := Ev.row (f := c_gatepathref29_Same) (by kernel_rfl) [] trivial 400 (by kernel_rfl)
theorem v419 : Ev ty tab 24 [] x4 := Ev.row (f := c_gatepathlaw29_alive) (by kernel_rfl) [(28, x383, [a0]), (27, x390, x391), (28, x392, [a1]), (27, x402, x391), (28, x403, [a2]), (27, x410, x411), (28, x412, [a3]), (27, x420, x411), (28, x421, [a4]), (27, x425, x411), (15, x428, x429), (15, x431, x432), (14, x433, x4), (14, x434, x4)] ⟨v370, v376, v377, v388, v389, v396, v397, v406, v407, v411, v414, v416, v417, v418, trivial⟩ 400 (by kernel_rfl)
def x435 : List D := [(D.sl 9 false [(D.str ⟨#[98]⟩)]), (D.sl 9 false [(D.str ⟨#[98]⟩)])]
theorem v420 : Ev ty tab 21 x435 x4 := Ev.row (f := c_gatepathref29_SameStrings) (by kernel_rfl) [] trivial 400 (by kernel_rfl)
end Go.Proofs.Ytmfhhbiaghejjaa.Own
